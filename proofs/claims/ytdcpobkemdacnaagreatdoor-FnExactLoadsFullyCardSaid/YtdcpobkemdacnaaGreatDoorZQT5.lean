/- Proved here: steps towards the statement of this claim. No condition. -/
import Derived.Test.YtdcpobkemdacnaaGreatDoorZQB4
set_option linter.all false
set_option maxRecDepth 8000
set_option maxHeartbeats 8000000
namespace Go.Proofs.YtdcpobkemdacnaaGreatDoor
open Go.Aw Proofs.Tryz List IntKind
def KQ (x:oZ):Bool:=decide (x.mode=2)&&x.done&&decide (x.code=1)
def nQ (l:List oZ):List gW:=(l.filter KQ).map λx=>vH x.body
def dI (p:aG):List gW:=nQ p.aB
theorem RY {l:List oZ} {k:Nat} (h:k < l.length) (ho:KQ l[k]=true):nQ (l.take (k+1))=nQ (l.take k)++[vH l[k].body]:=by unfold nQ;rw [eK h,filter_append,oS];simp [ho]
theorem Wd {l:List oZ} {k:Nat} (h:k < l.length) (ho:KQ l[k]=false):nQ (l.take (k+1))=nQ (l.take k):=by unfold nQ;rw [eK h,filter_append];simp [ho]
theorem Ey (l:List oZ):(nQ l).length<=l.length:=by unfold nQ;rw [oX];exact oA _ _
theorem OV [aC prog] [bR prog] [dK prog] [mZ prog] (p:aG) (hs:bT lD p.aB<=1073741824):Ok prog 239 [.agg (aI .view p)] (.sl .own 1 ((dI p).map (eD .own))):=by
 simp only [bT] at hs;unfold dI;simp only [aI];generalize p.aB=l at *;refine bO aD func239 ntmps239 ?_;refine gY ?_;refine aP (ι:={q:Nat×Nat×List gW // (q.1<=l.length/\1<=q.2.1)/\q.2.2=nQ (l.take q.1)}) (λt o i=>⟨bE t [(10,.int .i64 i.1.1),(3,.obj 1 i.1.2.1)],o.take 1++[⟨true,false,1,i.1.2.1,i.1.2.2.map (eD .own)⟩]⟩)
  (λi=>l.length - i.1.1) ⟨(0,1,[]),by simp,by simp [nQ]⟩ aO ?_
 rintro ⟨⟨k,v,acc⟩,⟨hk,hv⟩,wZ⟩ K1 hK1;simp only at hk hv wZ;simp only [bE,cW,cU,eL,fS,eA,eM] at hK1⊢;have hk1:=oW (k:=k);by_cases hlt:k < l.length
 .have hg:=aE hlt;have Q8:=dO lD l k hlt;simp only [lD] at Q8;have cP:=KO l[k].body (by omega);have n1:= @Wd l k hlt;have n2:= @RY l k hlt;have hal:acc.length<=k:=by rw [wZ];have:=Ey (l.take k);rw [oR] at this;omega
  have Mc:(acc.map (eD .own)).length=acc.length:=by simp
  rw [<-wZ] at n1 n2;generalize PV:nQ (l.take (k+1))=RX at *;generalize vH l[k].body=sh at *;unfold KQ at n1 n2;by_cases h1:l[k].mode=2
  .cases h2:l[k].done
   .have e2:=n1 (by simp [h2]);have W:=aA hk1 (aA hg (aA hlt (aA h1 h2)));refine wl ?_;all_goals exact hK1 _ ⟨(k+1,v,acc),⟨by simp only;omega,hv⟩,(by simp only;rw [PV];exact e2.symm)⟩ (aX 2) (by simp only;omega)
   .by_cases h3:l[k].code=1
    .have e2:=n2 (by simp [h1,h2,h3]);have hps:RX.map (eD .own)=acc.map (eD .own)++[eD .own sh]:=by rw [e2];simp
     simp only [eD] at cP;clear n1 n2;generalize acc.map (eD .own)=g at *;have W:=aA hk1 (aA hg (aA hlt (aA h1 (aA h2 (aA h3 Mc)))));refine wl ?_;all_goals exact hK1 _ ⟨(k+1,v+1,RX),⟨by simp only;omega,by simp only;omega⟩,(by simp only;exact PV.symm)⟩ (aX 2 (by simp [hps])) (by simp only;omega)
    .have e2:=n1 (by simp [h3]);have W:=aA hk1 (aA hg (aA hlt (aA h1 (aA h2 h3))));refine wl ?_;all_goals exact hK1 _ ⟨(k+1,v,acc),⟨by simp only;omega,hv⟩,(by simp only;rw [PV];exact e2.symm)⟩ (aX 2) (by simp only;omega)
  .have e2:=n1 (by simp [h1]);have W:=aA hk1 (aA hg (aA hlt h1));refine wl ?_;all_goals exact hK1 _ ⟨(k+1,v,acc),⟨by simp only;omega,hv⟩,(by simp only;rw [PV];exact e2.symm)⟩ (aX 2) (by simp only;omega)
 .have htk:l.take k=l:=cY (by omega);rw [htk] at wZ;subst wZ;have W:=hk1;refine wl ?_;exact aF results239
theorem EU [aC prog] [bR prog] [dK prog] (p:aG) (hs:bT lD p.aB<=1073741824):Ok prog 164 [.agg (aI .view p)] (.sl .own 1 ((dI p).map (eD .own))):=by
 simp only [bT] at hs;unfold dI;simp only [aI];generalize p.aB=l at *;refine bO aD func164 ntmps164 ?_;refine gY ?_;refine aP (ι:={q:Nat×Nat×List gW // (q.1<=l.length/\1<=q.2.1)/\q.2.2=nQ (l.take q.1)}) (λt o i=>⟨bE t [(4,.int .i64 i.1.1),(3,.obj 1 i.1.2.1)],o.take 1++[⟨true,false,1,i.1.2.1,i.1.2.2.map (eD .own)⟩]⟩)
  (λi=>l.length - i.1.1) ⟨(0,1,[]),by simp,by simp [nQ]⟩ aO ?_
 rintro ⟨⟨k,v,acc⟩,⟨hk,hv⟩,wZ⟩ K1 hK1;simp only at hk hv wZ;simp only [bE,cW,cU,eL,fS,eA,eM] at hK1⊢;have hk1:=oW (k:=k);by_cases hlt:k < l.length
 .have hg:=aE hlt;have Q8:=dO lD l k hlt;simp only [lD] at Q8;have cP:=KP l[k].body (by omega);have n1:= @Wd l k hlt;have n2:= @RY l k hlt;have hal:acc.length<=k:=by rw [wZ];have:=Ey (l.take k);rw [oR] at this;omega
  have Mc:(acc.map (eD .own)).length=acc.length:=by simp
  rw [<-wZ] at n1 n2;generalize PV:nQ (l.take (k+1))=RX at *;generalize vH l[k].body=sh at *;unfold KQ at n1 n2;by_cases h1:l[k].mode=2
  .cases h2:l[k].done
   .have e2:=n1 (by simp [h2]);have W:=aA hk1 (aA hg (aA hlt (aA h1 h2)));refine wl ?_;all_goals exact hK1 _ ⟨(k+1,v,acc),⟨by simp only;omega,hv⟩,(by simp only;rw [PV];exact e2.symm)⟩ (aX 2) (by simp only;omega)
   .by_cases h3:l[k].code=1
    .have e2:=n2 (by simp [h1,h2,h3]);have hps:RX.map (eD .own)=acc.map (eD .own)++[eD .own sh]:=by rw [e2];simp
     simp only [eD] at cP;clear n1 n2;generalize acc.map (eD .own)=g at *;have W:=aA hk1 (aA hg (aA hlt (aA h1 (aA h2 (aA h3 Mc)))));refine wl ?_;all_goals exact hK1 _ ⟨(k+1,v+1,RX),⟨by simp only;omega,by simp only;omega⟩,(by simp only;exact PV.symm)⟩ (aX 2 (by simp [hps])) (by simp only;omega)
    .have e2:=n1 (by simp [h3]);have W:=aA hk1 (aA hg (aA hlt (aA h1 (aA h2 h3))));refine wl ?_;all_goals exact hK1 _ ⟨(k+1,v,acc),⟨by simp only;omega,hv⟩,(by simp only;rw [PV];exact e2.symm)⟩ (aX 2) (by simp only;omega)
  .have e2:=n1 (by simp [h1]);have W:=aA hk1 (aA hg (aA hlt h1));refine wl ?_;all_goals exact hK1 _ ⟨(k+1,v,acc),⟨by simp only;omega,hv⟩,(by simp only;rw [PV];exact e2.symm)⟩ (aX 2) (by simp only;omega)
 .have htk:l.take k=l:=cY (by omega);rw [htk] at wZ;subst wZ;have W:=hk1;refine wl ?_;exact aF results164
def look {α:Type} (f:α->Option Int) (l:List α) (k:Nat):Option Int:=((l.take k).reverse).findSome? f
theorem Ha {α:Type} (f:α->Option Int) {l:List α} {k:Nat} (h:k < l.length):look f l (k+1)=match f l[k] with|some x=>some x|none=>look f l k:=by unfold look;rw [eK h,reverse_append];simp only [reverse_cons,reverse_nil,eM,singleton_append,findSome?_cons];cases f l[k]<;>rfl
theorem Hd {α:Type} (f:α->Option Int) (l:List α):look f l 0=none:=rfl
def Ip (n:bB) (r:EN):Option Int:=if r.name=n then some r.color else none
def yZ (n:bB) (s:gW):Option Int:=look (Ip n) s.rules s.rules.length
def bK (ss:List gW) (n:bB):Int:=(look (yZ n) ss ss.length).getD 0
theorem sD [aC prog] (ss:List gW) (n:bB) (hl:ss.length<=1099511627776) (hr:∀x∈ss,x.rules.length<=1099511627776):Ok prog 297 [.sl .view 1 (ss.map (eD .view)),.str n] (.int .i64 (bK ss n)):=by
 unfold bK;refine bO aD func297 ntmps297 ?_;refine gY ?_;refine aP (ι:={k:Nat // k<=ss.length/\look (yZ n) ss ss.length=look (yZ n) ss k}) (λt o i=>⟨bE t [(5,.int .i64 ((i.1:Int) - 1))],o⟩)
  (λi=>i.1) ⟨ss.length,by simp,rfl⟩ aO ?_
 rintro ⟨k,hk,hi⟩ K1 hK1;simp only [bE,cW,cU] at hK1 hi hk⊢;cases k with
 |zero=>rw [hi,Hd];refine gY ?_;exact aF results297
 |succ k=>
  have hlt:k < ss.length:=by omega
  have hk0:(((k+1:Nat):Int) - 1)=(k:Int):=by omega
  have hg:=aE hlt;have hk1:i64.wrap ((k:Int) - 1)=(k:Int) - 1:=by rw [wrap64]<;>omega
  have hrl:=hr _ (fN hlt);have JQ:=Ha (yZ n) hlt;have hsc:yZ n ss[k]=look (Ip n) ss[k].rules ss[k].rules.length:=rfl;have hw6:i64.wrap ((ss[k].rules.length:Int) - 1)=(ss[k].rules.length:Int) - 1:=by rw [wrap64]<;>omega
  rw [hk0];have W:=aA hlt (aA hg hw6);refine wl ?_;refine aP (ι:={m:Nat // m<=ss[k].rules.length/\yZ n ss[k]=look (Ip n) ss[k].rules m}) (λt o i=>⟨bE t [(6,.int .i64 ((i.1:Int) - 1))],o⟩)
   (λi=>i.1) ⟨ss[k].rules.length,by simp,rfl⟩ aO ?_
  rintro ⟨m,hm,hj⟩ K2 hK2;simp only [bE,cW,cU] at hK2 hm hj⊢;cases m with
  |zero=>rw [hj,Hd] at JQ;simp only at JQ;have W:=hk1;refine wl ?_;exact hK1 _ ⟨k,by omega,by rw [hi,JQ]⟩ aO (by simp only;omega)
  |succ m=>
   have Vb:m < ss[k].rules.length:=by omega
   have ZQ:(((m+1:Nat):Int) - 1)=(m:Int):=by omega
   have hgm:=aE Vb;have xc:i64.wrap ((m:Int) - 1)=(m:Int) - 1:=by rw [wrap64]<;>omega
   have Q9:=Ha (Ip n) Vb;have wH:Ip n ss[k].rules[m]=if ss[k].rules[m].name=n then some ss[k].rules[m].color else none:=rfl
   rw [ZQ];by_cases hn:ss[k].rules[m].name=n
   .rw [eI hn] at wH;rw [wH] at Q9;simp only at Q9;rw [hj,Q9] at JQ;simp only at JQ;rw [hi,JQ];have W:=aA hlt (aA hg (aA Vb (aA hgm hn)));refine wl ?_;exact aF results297
   .rw [cX hn] at wH;rw [wH] at Q9;simp only at Q9;have W:=aA hlt (aA hg (aA Vb (aA hgm (aA hn xc))));repeat' first|refine wg ?_|(refine sq ?_ ?_<;>intro hc<;>try exact hc.elim)|fail
    .exact absurd hc hn
    .exact hK2 _ ⟨m,by omega,by rw [hj,Q9]⟩ aO (by simp only;omega)
theorem sG [aC prog] (ss:List gW) (n:bB) (hl:ss.length<=1099511627776) (hr:∀x∈ss,x.rules.length<=1099511627776):Ok prog 263 [.sl .view 1 (ss.map (eD .view)),.str n] (.int .i64 (bK ss n)):=by
 unfold bK;refine bO aD func263 ntmps263 ?_;refine gY ?_;refine aP (ι:={k:Nat // k<=ss.length/\look (yZ n) ss ss.length=look (yZ n) ss k}) (λt o i=>⟨bE t [(5,.int .i64 ((i.1:Int) - 1))],o⟩)
  (λi=>i.1) ⟨ss.length,by simp,rfl⟩ aO ?_
 rintro ⟨k,hk,hi⟩ K1 hK1;simp only [bE,cW,cU] at hK1 hi hk⊢;cases k with
 |zero=>rw [hi,Hd];refine gY ?_;exact aF results263
 |succ k=>
  have hlt:k < ss.length:=by omega
  have hk0:(((k+1:Nat):Int) - 1)=(k:Int):=by omega
  have hg:=aE hlt;have hk1:i64.wrap ((k:Int) - 1)=(k:Int) - 1:=by rw [wrap64]<;>omega
  have hrl:=hr _ (fN hlt);have JQ:=Ha (yZ n) hlt;have hsc:yZ n ss[k]=look (Ip n) ss[k].rules ss[k].rules.length:=rfl;have hw6:i64.wrap ((ss[k].rules.length:Int) - 1)=(ss[k].rules.length:Int) - 1:=by rw [wrap64]<;>omega
  rw [hk0];have W:=aA hlt (aA hg hw6);refine wl ?_;refine aP (ι:={m:Nat // m<=ss[k].rules.length/\yZ n ss[k]=look (Ip n) ss[k].rules m}) (λt o i=>⟨bE t [(6,.int .i64 ((i.1:Int) - 1))],o⟩)
   (λi=>i.1) ⟨ss[k].rules.length,by simp,rfl⟩ aO ?_
  rintro ⟨m,hm,hj⟩ K2 hK2;simp only [bE,cW,cU] at hK2 hm hj⊢;cases m with
  |zero=>rw [hj,Hd] at JQ;simp only at JQ;have W:=hk1;refine wl ?_;exact hK1 _ ⟨k,by omega,by rw [hi,JQ]⟩ aO (by simp only;omega)
  |succ m=>
   have Vb:m < ss[k].rules.length:=by omega
   have ZQ:(((m+1:Nat):Int) - 1)=(m:Int):=by omega
   have hgm:=aE Vb;have xc:i64.wrap ((m:Int) - 1)=(m:Int) - 1:=by rw [wrap64]<;>omega
   have Q9:=Ha (Ip n) Vb;have wH:Ip n ss[k].rules[m]=if ss[k].rules[m].name=n then some ss[k].rules[m].color else none:=rfl
   rw [ZQ];by_cases hn:ss[k].rules[m].name=n
   .rw [eI hn] at wH;rw [wH] at Q9;simp only at Q9;rw [hj,Q9] at JQ;simp only at JQ;rw [hi,JQ];have W:=aA hlt (aA hg (aA Vb (aA hgm hn)));refine wl ?_;exact aF results263
   .rw [cX hn] at wH;rw [wH] at Q9;simp only at Q9;have W:=aA hlt (aA hg (aA Vb (aA hgm (aA hn xc))));repeat' first|refine wg ?_|(refine sq ?_ ?_<;>intro hc<;>try exact hc.elim)|fail
    .exact absurd hc hn
    .exact hK2 _ ⟨m,by omega,by rw [hj,Q9]⟩ aO (by simp only;omega)
theorem pG [aC prog] (b:bF) (n:bB) (hl:b.nodes.length<=1099511627776):Ok prog 296 [.agg (aU .view b),.str n] (.int .i64 (aY b n)):=by
 refine bO aD func296 ntmps296 ?_;refine aZ ?_;refine aP (ι:={k:Nat // k<=b.nodes.length}) (λt o i=>⟨bE t [(11,.int .i64 i.1),(5,.int .i64 ((((b.nodes.take i.1).filter λx=>decide (x.name=n)).length:Nat):Int)),(7,.undef)],o.take 1⟩)
  (λi=>b.nodes.length - i.1) ⟨0,by simp⟩ aO ?_
 rintro ⟨k,hk⟩ K1 hK1;simp only [bE,cW,cU,eL,fS] at hK1⊢;have hk1:=oW (k:=k);have hcl:((b.nodes.take k).filter λx=>decide (x.name=n)).length<=b.nodes.length:=by refine hM (oA _ _) ?_;simp;omega
 by_cases hlt:k < b.nodes.length
 .have hg:=aE hlt;have hst:=RI b n k hlt;generalize ((b.nodes.take k).filter λx=>decide (x.name=n)).length=c at *;have hc1:i64.wrap ((c:Int)+1)=((c+1:Nat):Int):=by rw [wrap64]<;>omega
  by_cases hn:b.nodes[k].name=n
  .have hnb:(b.nodes[k].name == n)=true:=by simpa using hn
   rw [eI hn] at hst;have W:=aA hk1 (aA hc1 (aA hg (aA hlt hnb)));refine we ?_;all_goals exact hK1 _ ⟨k+1,by omega⟩ (aX 1 (by simp) (by simp [hst]) (by simp) (by simp)) (by simp only;omega)
  .have hnb:(b.nodes[k].name == n)=false:=by simpa using hn
   rw [cX hn] at hst;have W:=aA hk1 (aA hc1 (aA hg (aA hlt hnb)));refine we ?_;all_goals exact hK1 _ ⟨k+1,by omega⟩ (aX 1 (by simp) (by simp [hst]) (by simp) (by simp)) (by simp only;omega)
 .have htk:b.nodes.take k=b.nodes:=cY (by omega);rw [htk];have W:=hk1;refine we ?_;all_goals try(refine aV ?_;simp [aH,results296,aY])
theorem pI [aC prog] (b:bF) (n:bB) (hl:b.nodes.length<=1099511627776):Ok prog 262 [.agg (aU .view b),.str n] (.int .i64 (aY b n)):=by
 refine bO aD func262 ntmps262 ?_;refine aZ ?_;refine aP (ι:={k:Nat // k<=b.nodes.length}) (λt o i=>⟨bE t [(6,.int .i64 i.1),(5,.int .i64 ((((b.nodes.take i.1).filter λx=>decide (x.name=n)).length:Nat):Int))],o⟩)
  (λi=>b.nodes.length - i.1) ⟨0,by simp⟩ aO ?_
 rintro ⟨k,hk⟩ K1 hK1;simp only [bE,cW,cU] at hK1⊢;have hk1:=oW (k:=k);by_cases hlt:k < b.nodes.length
 .have hg:=aE hlt;have hst:=RI b n k hlt;have hcl:((b.nodes.take k).filter λx=>decide (x.name=n)).length<=b.nodes.length:=by
   refine hM (oA _ _) ?_;simp;omega
  generalize ((b.nodes.take k).filter λx=>decide (x.name=n)).length=c at *;have hc1:i64.wrap ((c:Int)+1)=((c+1:Nat):Int):=by rw [wrap64]<;>omega
  by_cases hn:b.nodes[k].name=n
  .have hnb:(b.nodes[k].name == n)=true:=by simpa using hn
   rw [eI hn] at hst;have W:=aA hk1 (aA hc1 (aA hg (aA hlt hnb)));refine we ?_;all_goals exact hK1 _ ⟨k+1,by omega⟩ (aO (by simp) (by simp [hst])) (by simp only;omega)
  .have hnb:(b.nodes[k].name == n)=false:=by simpa using hn
   rw [cX hn] at hst;have W:=aA hk1 (aA hc1 (aA hg (aA hlt hnb)));refine we ?_;all_goals exact hK1 _ ⟨k+1,by omega⟩ (aO (by simp) (by simp [hst])) (by simp only;omega)
 .have htk:b.nodes.take k=b.nodes:=cY (by omega);rw [htk];have W:=hk1;refine we ?_;all_goals try(refine aV ?_;simp [aH,results262,aY])
def yC:bB:=[99,111,117,110,116,32]
def Cy:bB:=[108,111,111,107,32]
def KR:bB:=[115,97,121,32]
def bW (b:bF) (ss:List gW) (x:jW):bF×bB×bB:=
 if x.op=1 then (b,x.text.map sQ,[])
 else if x.op=2 then (if (1<=b.nodes.length/\b.nodes.length<=39)/\dB x.text=true then ({b with nodes:=b.nodes++[⟨x.text,[],0,[]⟩]},[],[]) else (b,[],[]))
 else if x.op=3 then (b,[],yC++x.text++[32]++Lib.itoa (aY b x.text))
 else if x.op=4 then (b,[],Cy++x.text++[32]++Lib.itoa (bK ss x.text))
 else if x.op=5 then (b,[],KR++x.text)
 else (b,[],[])
def nZ (s:oZ):Bool:= !(decide (s.mode=2)&& !s.done)
theorem BI [aC prog] (p:aG) (hl:p.aB.length<=1099511627776):Ok prog 103 [.agg (aI .view p)] (.bool (p.aB.all nZ)):=by
 refine bO aD func103 ntmps103 ?_;refine gY ?_;refine aP (ι:={k:Nat // k<=p.aB.length/\∀x∈p.aB.take k,nZ x=true}) (λt o i=>⟨bE t [(3,.int .i64 i.1)],o⟩)
  (λi=>p.aB.length - i.1) ⟨0,by simp⟩ aO ?_
 rintro ⟨k,hk,hpre⟩ K1 hK1;simp only [bE,cW,cU] at hK1⊢;have hk1:=oW (k:=k);by_cases hlt:k < p.aB.length
 .have hg:=aE hlt;have W:=aA hk1 (aA hg hlt);repeat' first|refine wg ?_|(refine sq ?_ ?_<;>intro hc<;>try exact hc.elim)|fail
  all_goals first
   |(refine hK1 _ ⟨k+1,by omega,bZ hlt hpre (by simp_all [nZ])⟩ aO (by simp only;omega);done)
   |skip
  all_goals try(refine aV ?_;simp [aH,results103])
  exact ⟨_,fN hlt,by simp_all [nZ]⟩
 .have W:=hk1;refine wl ?_;all_goals try(refine aV ?_;simp [aH,results103])
  exact iX (by omega) hpre
theorem BJ [aC prog] (p:aG) (hl:p.aB.length<=1099511627776):Ok prog 138 [.agg (aI .view p)] (.bool (p.aB.all nZ)):=by
 refine bO aD func138 ntmps138 ?_;refine gY ?_;refine aP (ι:={k:Nat // k<=p.aB.length/\∀x∈p.aB.take k,nZ x=true}) (λt o i=>⟨bE t [(8,.int .i64 i.1)],o⟩)
  (λi=>p.aB.length - i.1) ⟨0,by simp⟩ aO ?_
 rintro ⟨k,hk,hpre⟩ K1 hK1;simp only [bE,cW,cU] at hK1⊢;have hk1:=oW (k:=k);by_cases hlt:k < p.aB.length
 .have hg:=aE hlt;have W:=aA hk1 (aA hg hlt);repeat' first|refine wg ?_|(refine sq ?_ ?_<;>intro hc<;>try exact hc.elim)|fail
  all_goals first
   |(refine hK1 _ ⟨k+1,by omega,bZ hlt hpre (by simp_all [nZ])⟩ (aX 1 rfl (by simp) (by simp) (by simp)) (by simp only;omega);done)
   |skip
  all_goals try(refine aV ?_;simp [aH,results138])
  exact ⟨_,fN hlt,by simp_all [nZ]⟩
 .have W:=hk1;refine wl ?_;all_goals try(refine aV ?_;simp [aH,results138])
  exact iX (by omega) hpre
def EE (n:Int) (s:bB) (x:jL):bB:=if x.parent=n/\x.name=[] then s++x.text else s
def BK (b:bF) (n:Int):bB:=b.nodes.foldl (EE n) []
def Lb (b:bF) (n:Int) (k:Nat):bB:=(b.nodes.take k).foldl (EE n) []
theorem Wo (b:bF) (n:Int) (k:Nat) (h:k < b.nodes.length):Lb b n (k+1)=EE n (Lb b n k) b.nodes[k]:=by unfold Lb;rw [eK h,DS];rfl
theorem uj (n:Int) (s:bB) (x:jL):(EE n s x).length<=s.length+rU x:=by
 unfold EE rU;split
 .simp only [eR];omega
 .omega
theorem aEj (n:Int):∀(l:List jL) (s:bB),(l.foldl (EE n) s).length<=s.length+bH rU l
 |[],s=>by simp [bH]
 |x::l,s=>by have h1:=aEj n l (EE n s x);have h2:=uj n s x;simp only [foldl_cons,bH];omega
theorem zB {α:Type} (f:α->Nat):∀(l:List α) (k:Nat),bH f (l.take k)<=bH f l
 |[],k=>by simp [bH]
 |x::l,0=>by simp [bH]
 |x::l,k+1=>by have:=zB f l k;simp only [eL,bH];omega
theorem Si (b:bF) (n:Int) (k:Nat):(Lb b n k).length<=aS b:=by have h1:=aEj n (b.nodes.take k) [];have h2:=zB rU b.nodes k;unfold Lb;simp only [aS,bT,eW] at *;omega
theorem Sj (b:bF) (n:Int):(BK b n).length<=aS b:=by
 have:=Si b n b.nodes.length;unfold Lb at this
 rwa [As] at this
theorem Uz [aC prog] (b:bF) (n:Int) (hs:aS b<=1099511627776):Ok prog 140 [.agg (aU .view b),.int .i64 n] (.str (BK b n)):=by
 have hN:b.nodes.length<=1099511627776:=by simp only [aS,bT] at hs;omega
 have hend:Lb b n b.nodes.length=BK b n:=by unfold Lb BK;rw [As]
 rw [<-hend];have hz:Lb b n 0=[]:=rfl;have ug:=λk=>Si b n k
 have hsu:=Wo b n;generalize Lb b n=T at *;clear hend;refine bO aD func140 ntmps140 ?_;refine gY ?_;refine aP (ι:={k:Nat // k<=b.nodes.length}) (λt o i=>⟨bE t [(11,.int .i64 i.1),(5,.str (T i.1))],o⟩)
  (λi=>b.nodes.length - i.1) ⟨0,by simp⟩ (aO (by simp) (by simp [hz])) ?_
 rintro ⟨k,hk⟩ K1 hK1;simp only [bE,cW,cU] at hK1⊢;have hk1:=oW (k:=k);by_cases hlt:k < b.nodes.length
 .have hg:=aE hlt;have hnext:=hsu k hlt;have hl1:=ug (k+1);have hl0:=ug k;rw [hnext] at hl1;unfold EE at hnext hl1;clear hsu ug hz;generalize hT:T k=s at *;by_cases hp:b.nodes[k].parent=n
  .by_cases hn:b.nodes[k].name=[]
   .rw [eI ⟨hp,hn⟩] at hnext hl1;rw [eR] at hl1;have aLr:s.length+b.nodes[k].text.length<=1099511627776:=by omega
    have W:=aA hk1 (aA hg (aA hlt (aA hp (aA hn aLr))));refine wl ?_;all_goals refine hK1 _ ⟨k+1,by omega⟩ (aX 1 rfl (by simp [hnext]) (by simp) (by simp)) (by simp only;omega)
   .rw [cX (by simp [hn])] at hnext hl1;have hne:b.nodes[k].name.isEmpty=false:=by cases hc:b.nodes[k].name with|nil=>exact absurd hc hn|cons _ _=>rfl
    have W:=aA hk1 (aA hg (aA hlt (aA hp (aA hn hne))));refine wl ?_;all_goals refine hK1 _ ⟨k+1,by omega⟩ (aX 1 rfl (by simp [hnext]) (by simp) (by simp)) (by simp only;omega)
  .rw [cX (by simp [hp])] at hnext hl1;have W:=aA hk1 (aA hg (aA hlt hp));refine wl ?_;all_goals refine hK1 _ ⟨k+1,by omega⟩ (aX 1 rfl (by simp [hnext]) (by simp) (by simp)) (by simp only;omega)
 .have hkl:k=b.nodes.length:=by omega
  subst hkl;have W:=hk1;refine wl ?_;exact aF results140
theorem UA [aC prog] (b:bF) (n:Int) (hs:aS b<=1099511627776):Ok prog 105 [.agg (aU .view b),.int .i64 n] (.str (BK b n)):=by
 have hN:b.nodes.length<=1099511627776:=by simp only [aS,bT] at hs;omega
 have hend:Lb b n b.nodes.length=BK b n:=by unfold Lb BK;rw [As]
 rw [<-hend];have hz:Lb b n 0=[]:=rfl;have ug:=λk=>Si b n k
 have hsu:=Wo b n;generalize Lb b n=T at *;clear hend;refine bO aD func105 ntmps105 ?_;refine gY ?_;refine aP (ι:={k:Nat // k<=b.nodes.length}) (λt o i=>⟨bE t [(6,.int .i64 i.1),(5,.str (T i.1))],o⟩)
  (λi=>b.nodes.length - i.1) ⟨0,by simp⟩ (aO (by simp) (by simp [hz])) ?_
 rintro ⟨k,hk⟩ K1 hK1;simp only [bE,cW,cU] at hK1⊢;have hk1:=oW (k:=k);by_cases hlt:k < b.nodes.length
 .have hg:=aE hlt;have hnext:=hsu k hlt;have hl1:=ug (k+1);have hl0:=ug k;rw [hnext] at hl1;unfold EE at hnext hl1;clear hsu ug hz;generalize hT:T k=s at *;by_cases hp:b.nodes[k].parent=n
  .by_cases hn:b.nodes[k].name=[]
   .rw [eI ⟨hp,hn⟩] at hnext hl1;rw [eR] at hl1;have aLr:s.length+b.nodes[k].text.length<=1099511627776:=by omega
    have W:=aA hk1 (aA hg (aA hlt (aA hp (aA hn aLr))));refine wl ?_;all_goals refine hK1 _ ⟨k+1,by omega⟩ (aO (by simp) (by simp [hnext])) (by simp only;omega)
   .rw [cX (by simp [hn])] at hnext hl1;have hne:b.nodes[k].name.isEmpty=false:=by cases hc:b.nodes[k].name with|nil=>exact absurd hc hn|cons _ _=>rfl
    have W:=aA hk1 (aA hg (aA hlt (aA hp (aA hn hne))));refine wl ?_;all_goals refine hK1 _ ⟨k+1,by omega⟩ (aO (by simp) (by simp [hnext])) (by simp only;omega)
  .rw [cX (by simp [hp])] at hnext hl1;have W:=aA hk1 (aA hg (aA hlt hp));refine wl ?_;all_goals refine hK1 _ ⟨k+1,by omega⟩ (aO (by simp) (by simp [hnext])) (by simp only;omega)
 .have hkl:k=b.nodes.length:=by omega
  subst hkl;have W:=hk1;refine wl ?_;exact aF results105
theorem JL {α:Type} (f:α->Nat):∀a b:List α,bH f (a++b)=bH f a+bH f b
 |[],b=>by simp [bH]
 |x::xs,b=>by simp only [eA,bH,JL f xs b];omega
theorem C8 (t:mY):bT bX (kK t)<=1+mI t:=by
 unfold kK;split
 .simp [bT,bH]
 .simp [bT,bH,bX,mI]
theorem aIe (p:aG):aJ (kZ p)<=aJ p+1:=by
 unfold kZ;split
 .omega
 .have h:=C8 p.tok;simp only [aJ,bT,mI,eR,JL,eW] at h⊢;omega
theorem X4 (p:aG) (s:bB):aJ (dN p s)<=2 * aJ p+2 * s.length:=by
 unfold dN;split
 .omega
 .obtain ⟨h1,h2⟩:=CB (p.tok.rest++s).length (p.tok.rest++s) (eE _);simp only [eR] at h1 h2;simp only [aJ,bT,mI,eR,JL] at *;omega
end Go.Proofs.YtdcpobkemdacnaaGreatDoor
