/- Proved here: steps towards the statement of this claim. No condition. -/
import Derived.Test.YtjmpjmilndkgfaaGreatDoorZQMK1
import Derived.Test.YtjmpjmilndkgfaaGreatDoorZQ1
import Derived.Test.YtjmpjmilndkgfaaGreatDoorZF8
set_option linter.all false
set_option maxRecDepth 4000
set_option maxHeartbeats 4000000
namespace Go.Proofs.YtjmpjmilndkgfaaGreatDoor
open Go.Aw Proofs.Tryz List IntKind
theorem Vw [aC prog] [dD prog] (s:bF) (c:UInt8) (hs:s.length < 4294967281):Ok prog 148 [.str s,.str [c]] (.sl .own 1 ((dF c s).map bW)):=Qe Tryz.laysM146 (by kernel_rfl) s c hs
def eQ:bP:=⟨0,[],[],[]⟩
def rU (w:bF):bF:=w.take (iL 61 w)
def vD (w:bF):bF:=w.drop (iL 61 w+1)
def iD:List bF->List jY->Option (List jY)
 |[],acc=>some acc
 |w::ws,acc=>if (decide (iL 61 w < w.length)&&dA (rU w)&&isValue (vD w)&& !(aV acc (rU w)).2)=true then iD ws (acc++[⟨rU w,vD w⟩]) else none
def EA (w0:bF) (ws:List bF):bP×Bool:=
 if dA w0=true/\ws.length<=4 then (match iD ws [] with
  |some l=>(⟨1,w0,l,[]⟩,true)
  |none=>(eQ,false)) else (eQ,false)
def qH (s:bF):bP×Bool:=
 if 60 < s.length then (eQ,false)
 else if BL [47] s=true then (if dA (s.drop 1)=true then (⟨2,s.drop 1,[],[]⟩,true) else (eQ,false))
 else EA (s.take (iL 32 s)) (if iL 32 s < s.length then dF 32 (s.drop (iL 32 s+1)) else [])
theorem tQ (c:UInt8) (s:bF):dF c s=s.take (iL c s)::(if iL c s < s.length then dF c (s.drop (iL c s+1)) else []):=by
 rw [Ls];have h:=tL c s;split
 .rfl
 .rw [cX (by omega)]
theorem QL {w0:bF} {ws:List bF} (h:¬(dA w0=true/\ws.length<=4)):EA w0 ws=(eQ,false):=by unfold EA;rw [cY h]
theorem QM {w0:bF} {ws:List bF} (h:iD ws []=none):EA w0 ws=(eQ,false):=by unfold EA;rw [h];split<;>rfl
theorem QN {w0:bF} {ws:List bF} {l:List jY} (h1:dA w0=true) (h2:ws.length<=4) (h:iD ws []=some l):EA w0 ws=(⟨1,w0,l,[]⟩,true):=by unfold EA;rw [h,eK ⟨h1,h2⟩]
theorem Ed:∀(ws:List bF) (acc l:List jY),iD ws acc=some l->l.length=acc.length+ws.length
 |[],acc,l,h=>by simp only [iD,eC] at h;subst h;simp
 |w::ws,acc,l,h=>by
  simp only [iD] at h;split at h
  .have:=Ed ws _ l h;simp at this⊢;omega
  .cases h
theorem MZ:∀(ws:List bF) (acc l:List jY),iD ws acc=some l->bV gY l<=bV gY acc+aQ eX ws
 |[],acc,l,h=>by simp only [iD,eC] at h;subst h;simp [aQ]
 |w::ws,acc,l,h=>by
  simp only [iD] at h;split at h
  .rename_i hc;simp only [eJ,fN] at hc;have:=MZ ws _ l h;have hj:∀a b:List jY,aQ gY (a++b)=aQ gY a+aQ gY b:=by
    intro a b;induction a with
    |nil=>simp [aQ]
    |cons x xs ih=>simp only [eI,aQ,ih];omega
   simp only [bV,hj,aQ,gY,rU,vD,eR,oT,zE,eL,eW,eX] at this⊢;omega
  .cases h
theorem AX (c:UInt8):∀s:bF,aQ eX (dF c s)<=s.length
 |[]=>by simp [dF,aQ,eX]
 |x::s=>by
  have ih:=AX c s;simp only [dF];split
  .simp only [aQ,eX,eW,eL] at ih⊢;omega
  .split
   .rename_i h0;exact absurd h0 (pQ c s)
   .rename_i p q h0;rw [h0] at ih;simp only [aQ,eX,eL] at ih⊢;omega
theorem aDc (s:bF):bO (qH s).1<=s.length:=by
 have hn:bO eQ=0:=by simp [eQ,bO,bV,aQ]
 unfold qH;split
 .simp only [hn];omega
 .split
  .split
   .simp [bO,bV,aQ]
   .simp only [hn];omega
  .have hs:=AX 32 s;rw [tQ] at hs;simp only [aQ,eX] at hs;generalize (if iL 32 s < s.length then dF 32 (s.drop (iL 32 s+1)) else [])=ws at *;unfold EA;split
   .split
    .rename_i l hl;have:=MZ ws [] l hl;simp only [bO,bV,aQ,eW] at this⊢;omega
    .simp only [hn];omega
   .simp only [hn];omega
theorem WW [aC prog] [dD prog] (s:bF) (hl:s.length<=1099511627776):Ok prog 292 [.str s] (.iJ [.agg (bK .own (qH s).1),.bool (qH s).2]):=by
 by_cases h60:(60:Int) < (s.length:Int)
 .have hr:qH s=(eQ,false):=by unfold qH;rw [eK (by omega)]
  rw [hr];refine Fh aD func292 ntmps292 ?_;have W:=h60;refine we ?_;all_goals try(first|(refine ⟨.inr rfl,.inl ?_⟩;simp [aG,results292,eQ];done)|(refine ⟨.inr rfl,.inr (fC ?_)⟩;simp [AS.AU,AS.zC,AS.rv,results292,eQ];done)|(refine ⟨.inr rfl,.inl ?_⟩;simp [aG,results292,eQ]))
 have c0:=Ec s [47] hl (by simp);cases hp:BL [47] s;case true=>
  rw [hp] at c0;simp only [gE] at c0;have c1:=gZ (s.drop 1) (by simp;omega);simp only [eL,eW,hM,Nat.reduceAdd] at c0;generalize hs1:s.drop 1=s1 at *;cases hn:dA s1
  .have hr:qH s=(eQ,false):=by unfold qH;rw [cY (by omega),eK hp,hs1,hn];rfl
   rw [hr];rw [hn] at c1;refine Fh aD func292 ntmps292 ?_;have W:=h60;refine we ?_;all_goals try(first|(refine ⟨.inr rfl,.inl ?_⟩;simp [aG,results292,eQ];done)|(refine ⟨.inr rfl,.inr (fC ?_)⟩;simp [AS.AU,AS.zC,AS.rv,results292,eQ];done)|(refine ⟨.inr rfl,.inl ?_⟩;simp [aG,results292,eQ]))
  .have hr:qH s=(⟨2,s1,[],[]⟩,true):=by unfold qH;rw [cY (by omega),eK hp,hs1,hn];rfl
   rw [hr];rw [hn] at c1;refine Fh aD func292 ntmps292 ?_;have W:=h60;refine we ?_;all_goals try(first|(refine ⟨.inr rfl,.inl ?_⟩;simp [aG,results292];done)|(refine ⟨.inr rfl,.inr (fC ?_)⟩;simp [AS.AU,AS.zC,AS.rv,results292];done)|(refine ⟨.inr rfl,.inl ?_⟩;simp [aG,results292]))
 case false=>
  rw [hp] at c0;simp only [eS,gS] at c0;have hr:qH s=EA (s.take (iL 32 s)) (if iL 32 s < s.length then dF 32 (s.drop (iL 32 s+1)) else []):=by unfold qH;rw [cY (by omega),cY (by rw [hp];simp)]
  have c2:=Vw s 32 (by omega);have hsl:=iV 32 s;have hcn:s.count 32<=s.length:=pB;have hsm:=AX 32 s;rw [tQ] at c2 hsl hsm;rw [hr];have c1:=gZ (s.take (iL 32 s)) (by simp;omega);generalize (if iL 32 s < s.length then dF 32 (s.drop (iL 32 s+1)) else [])=ws at *;generalize s.take (iL 32 s)=w0 at *;simp only [aQ,eX,eL] at hsl hsm;simp only [mT] at c2;clear hr hp;have hw1:i64.wrap ((ws.length:Int)+1 - 1)=(ws.length:Int):=by rw [wrap64]<;>omega
  have htk:List.take ws.length (ws.map bW)=ws.map bW:=cX (by simp);cases hn:dA w0
  .rw [QL (by rw [hn];simp)];rw [hn] at c1;refine Fh aD func292 ntmps292 ?_;have W:=aA h60 hw1;refine we ?_;all_goals try(first|(refine ⟨.inr rfl,.inl ?_⟩;simp [aG,results292,eQ];done)|(refine ⟨.inr rfl,.inr (fC ?_)⟩;simp [AS.AU,AS.zC,AS.rv,results292,eQ];done)|(refine ⟨.inr rfl,.inl ?_⟩;simp [aG,results292,eQ]))
  rw [hn] at c1;by_cases h4:(4:Int) < (ws.length:Int)
  .rw [QL (by omega)];refine Fh aD func292 ntmps292 ?_;have W:=aA h60 (aA hw1 h4);refine we ?_;all_goals try(first|(refine ⟨.inr rfl,.inl ?_⟩;simp [aG,results292,eQ];done)|(refine ⟨.inr rfl,.inr (fC ?_)⟩;simp [AS.AU,AS.zC,AS.rv,results292,eQ];done)|(refine ⟨.inr rfl,.inl ?_⟩;simp [aG,results292,eQ]))
  have Bh:=λh=>QM (w0:=w0) (ws:=ws) h
  have JP:=λl=>QN (w0:=w0) (ws:=ws) (l:=l) hn (by omega)
  generalize EA w0 ws=res at *;refine Fh aD func292 ntmps292 ?_;have W:=aA h60 (aA hw1 (aA h4 htk));refine we ?_;refine aL (ι:={q:Nat×Nat×List jY // (q.1<=ws.length/\1<=q.2.1)/\q.2.2.length=q.1/\iD ws []=iD (ws.drop q.1) q.2.2}) (λt o i=>⟨bD t [(52,.int .i64 i.1.1),(48,.undef)],[⟨true,true,4,0,[[.int .i64 0,.str [],.sl .own 2 [],.str []]]⟩,⟨true,false,1,2,ws.map bW⟩,⟨true,true,4,0,[[.int .i64 1,.str w0,.obj 3 i.1.2.1,.str []]]⟩,⟨true,false,2,i.1.2.1,i.1.2.2.map gU⟩]⟩)
   (λi=>ws.length - i.1.1) ⟨(0,1,[]),by simp,by simp,by simp⟩ (tN 2 0 2 (ob:=⟨true,true,4,0,[[.int .i64 1,.str w0,.sl .own 2 [],.str []]]⟩) (by rfl) (by rfl) (by rfl) (by simp) (by rfl) (by rfl) (by simp) (by simp [xS,rt,iU])) ?_
  rintro ⟨⟨k,v,acc⟩,⟨hk,hv⟩,vW,sO⟩ K1 hK1;simp only at hk hv vW sO;simp only [bD,cW,cU] at hK1⊢;have hk1:=oW (k:=k);by_cases hlt:k < ws.length
  .have hg:=aE hlt;have M4:=dZ eX ws k hlt;rw [mL hlt] at sO;simp only [eX] at M4;have cC:=yT ws[k] 61 (by omega);have cN:=gZ (rU ws[k]) (by simp [rU];omega);have cV:=Bf (vD ws[k]) (by simp [vD];omega);have cF:=mI acc (rU ws[k]) (by omega);have jU:(decide (iL 61 ws[k] < ws[k].length)&&dA (rU ws[k])&&isValue (vD ws[k])&& !(aV acc (rU ws[k])).2)=false->res=(eQ,false):=λh=>Bh (by rw [sO];simp only [iD];rw [h];rfl)
   have hnext:(decide (iL 61 ws[k] < ws[k].length)&&dA (rU ws[k])&&isValue (vD ws[k])&& !(aV acc (rU ws[k])).2)=true->iD ws []=iD (ws.drop (k+1)) (acc++[⟨rU ws[k],vD ws[k]⟩]):=λh=>by rw [sO];simp only [iD];rw [eK h]
   change Ok _ _ _ (.iJ [.str (rU ws[k]),.str (vD ws[k]),.bool (decide (iL 61 ws[k] < ws[k].length))]) at cC;clear sO Bh JP;generalize decide (iL 61 ws[k] < ws[k].length)=b1 at *;generalize dA (rU ws[k])=b2 at *;generalize isValue (vD ws[k])=b3 at *;generalize aV acc (rU ws[k])=fa at *;obtain ⟨fv,b4⟩:=fa;generalize rU ws[k]=ky at *;generalize vD ws[k]=vl at *;simp only at cF jU hnext;cases b1
   .rw [jU (by simp)];clear jU hnext hK1;have W:=aA hk1 (aA hg hlt);refine we ?_;all_goals try(first|(refine ⟨.inr rfl,.inl ?_⟩;simp [aG,results292,eQ];done)|(refine ⟨.inr rfl,.inr (fC ?_)⟩;simp [AS.AU,AS.zC,AS.rv,results292,eQ];done)|(refine ⟨.inr rfl,.inl ?_⟩;simp [aG,results292,eQ]))
   cases b2
   .rw [jU (by simp)];clear jU hnext hK1;have W:=aA hk1 (aA hg hlt);refine we ?_;all_goals try(first|(refine ⟨.inr rfl,.inl ?_⟩;simp [aG,results292,eQ];done)|(refine ⟨.inr rfl,.inr (fC ?_)⟩;simp [AS.AU,AS.zC,AS.rv,results292,eQ];done)|(refine ⟨.inr rfl,.inl ?_⟩;simp [aG,results292,eQ]))
   cases b3
   .rw [jU (by simp)];clear jU hnext hK1;have W:=aA hk1 (aA hg hlt);refine we ?_;all_goals try(first|(refine ⟨.inr rfl,.inl ?_⟩;simp [aG,results292,eQ];done)|(refine ⟨.inr rfl,.inr (fC ?_)⟩;simp [AS.AU,AS.zC,AS.rv,results292,eQ];done)|(refine ⟨.inr rfl,.inl ?_⟩;simp [aG,results292,eQ]))
   cases b4
   .have hn2:=hnext (by simp);clear jU hnext;have W:=aA hk1 (aA hg hlt);refine we ?_;all_goals refine hK1 _ ⟨(k+1,v+1,acc++[⟨ky,vl⟩]),⟨by simp only;omega,by simp only;omega⟩,by simp;omega,hn2⟩ (aW 4) (by simp only;omega)
   .rw [jU (by simp)];clear jU hnext hK1;have W:=aA hk1 (aA hg hlt);refine we ?_;all_goals try(first|(refine ⟨.inr rfl,.inl ?_⟩;simp [aG,results292,eQ];done)|(refine ⟨.inr rfl,.inr (fC ?_)⟩;simp [AS.AU,AS.zC,AS.rv,results292,eQ];done)|(refine ⟨.inr rfl,.inl ?_⟩;simp [aG,results292,eQ]))
  .have EG:ws.drop k=[]:=Ax (by omega);rw [EG] at sO;rw [JP acc (by rw [sO];rfl)];clear hK1;have W:=hk1;refine we ?_;all_goals try(first|(refine ⟨.inr rfl,.inl ?_⟩;simp [aG,results292];done)|(refine ⟨.inr rfl,.inr (fC ?_)⟩;simp [AS.AU,AS.zC,AS.rv,results292];done)|(refine ⟨.inr rfl,.inl ?_⟩;simp [aG,results292]))
def LJ (p:bF):bF:=p.take (iL 58 p)
def Df (p:bF):bF:=p.drop (iL 58 p+1)
def tT (p:bF):Option Ew:=match Aa (Df p) with
 |some v=>if dA (LJ p)=true/\1<=v/\v<=999 then some ⟨LJ p,v⟩ else none
 |none=>none
def mD (l:List bF):List Ew:=(l.filterMap tT).take 8
def tV (s:bF):gP:=⟨mD (dF 59 s)⟩
theorem Gg {p:bF} (h:Aa (Df p)=none):tT p=none:=by rw [tT,h]
theorem Na {p:bF} (h:dA (LJ p)=false):tT p=none:=by
 unfold tT;split
 .rw [cY (by simp [h])]
 .rfl
theorem QO {p:bF} {v:Int} (h:Aa (Df p)=some v) (h1:¬(1<=v/\v<=999)):tT p=none:=by rw [tT,h];exact cY (λh=>h1 h.2)
theorem QP {p:bF} {v:Int} (h:Aa (Df p)=some v) (hn:dA (LJ p)=true) (h1:1<=v/\v<=999):tT p=some ⟨LJ p,v⟩:=by rw [tT,h];exact eK ⟨hn,h1⟩
theorem QQ {l:List bF} {k:Nat} (h:k < l.length) (hr:tT l[k]=none):mD (l.take (k+1))=mD (l.take k):=by unfold mD;rw [eA h,filterMap_append];simp [hr]
theorem QR {l:List bF} {k:Nat} {r:Ew} (h:k < l.length) (hr:tT l[k]=some r) (h8:(mD (l.take k)).length < 8):mD (l.take (k+1))=mD (l.take k)++[r]:=by unfold mD at *;rw [eA h,filterMap_append];simp only [oT] at h8;simp only [filterMap_cons,hr,filterMap_nil];generalize (l.take k).filterMap tT=x at *;rw [cX (l:=x++[r]) (by simp;omega),cX (l:=x) (by omega)]
theorem QS {l:List bF} {k:Nat} (h8:¬(mD (l.take k)).length < 8):mD l=mD (l.take k):=by
 unfold mD at *;conv=>lhs;rw [<-oA k l,filterMap_append]
 simp only [oT] at h8;rw [Bs (by omega)]
theorem Zj {l:List bF} {k:Nat} (h8:¬(mD (l.take k)).length < 8):mD (l.take (k+1))=mD (l.take k):=by have:= @QS (l.take (k+1)) k;rw [take_take,DA (by omega)] at this;exact this h8
theorem Zk (l:List bF):(mD l).length<=8:=by unfold mD;simp;omega
theorem ni {p:bF} {x:UInt8} (hx:x∈Df p) (h:x=58):Aa (Df p)=none:=by obtain ⟨k,hk,e⟩:=mem_iff_getElem.1 hx;refine Za hk ?_;rw [e,h];decide
theorem aK9 (p:bF):(dF 58 p=[LJ p,Df p])\/((dF 58 p).length≠2/\tT p=none):=by
 rw [tQ];by_cases h:iL 58 p < p.length
 .rw [eK h];by_cases h2:∀x∈Df p,x≠58
  .left;rw [show p.drop (iL 58 p+1)=Df p from rfl,Be _ _ h2];rfl
  .right;have ⟨x,hx⟩:=Classical.not_forall.1 h2;have ⟨hm,hne⟩:=Classical.not_imp.1 hx;have aOt:=DP.1 hne;refine ⟨?_,Gg (ni hm aOt)⟩;rw [show p.drop (iL 58 p+1)=Df p from rfl,eL,iV];have:0 < (Df p).count 58:=count_pos_iff.2 (aOt▸hm);omega
 .right;rw [cY h];refine ⟨by simp,Gg ?_⟩;have e:Df p=[]:=by unfold Df;exact drop_eq_nil_of_le (by omega)
  rw [e];exact Vr (by simp)
theorem JQ [aC prog] [dD prog] [eH prog] [qQ prog] (s:bF) (hl:s.length<=1073741824):Ok prog 267 [.str s] (.agg (eG .own (tV s))):=by
 have cS:=Vw s 59 (by omega);have hsm:=AX 59 s;have hsl:=iV 59 s;have hcn:s.count 59<=s.length:=pB;unfold tV;generalize dF 59 s=l at *;have OI:l.length<=1073741825:=by omega
 simp only [eG];refine bR aD func267 ntmps267 ?_;refine bH ?_;refine aL (ι:={q:Nat×Nat×List Ew // (q.1<=l.length/\1<=q.2.1)/\q.2.2=mD (l.take q.1)}) (λt o i=>⟨bD t [(15,.int .i64 i.1.1),(11,.undef)],o.take 1++[⟨true,true,1,0,[[.obj 3 i.1.2.1]]⟩,⟨true,false,1,1,l.map bW⟩,⟨true,false,2,i.1.2.1,i.1.2.2.map zG⟩]⟩)
  (λi=>l.length - i.1.1) ⟨(0,1,[]),by simp,by simp [mD]⟩ (tN 1 0 0 (ob:=⟨true,true,1,0,[[.sl .own 2 []]]⟩) (by rfl) (by rfl) (by rfl) (by simp) (by rfl) (by rfl) (by simp) (by simp [xS,rt,iU])) ?_
 rintro ⟨⟨k,v,acc⟩,⟨hk,hv⟩,vW⟩ K1 hK1;simp only at hk hv vW;simp only [bD,cW,cU,eM,gR,eI,eN] at hK1⊢;have hk1:=oW (k:=k);by_cases hlt:k < l.length
 .have hg:=aE hlt;have M4:=dZ eX l k hlt;simp only [eX] at M4;have cC:=yT l[k] 58 (by omega);have cN:=gZ (LJ l[k]) (by simp [LJ];omega);have cP:=NI (Df l[k]) (by simp [Df];omega);change Ok _ _ _ (.iJ [.str (LJ l[k]),.str (Df l[k]),.bool (decide (iL 58 l[k] < l[k].length))]) at cC;have n1:= @QQ l k hlt;have n2:=λr=> @QR l k r hlt
  have n3:= @Zj l k;have r1:= @Gg l[k];have r2:= @Na l[k];have r3:=λv=> @QO l[k] v
  have r4:=λv=> @QP l[k] v
  have ha8:=Zk (l.take k);rw [<-vW] at n1 n2 n3 ha8;generalize OJ:mD (l.take (k+1))=QT at *;generalize hrl:tT l[k]=ru at *;generalize decide (iL 58 l[k] < l[k].length)=b1 at *;generalize LJ l[k]=ky at *;generalize Df l[k]=vl at *;cases hp:Aa vl with
  |none=>rw [tO hp] at cP;have e2:=n1 (r1 hp);clear r1 r2 r3 r4 n1 n2 n3;have W:=aA hk1 (aA hg hlt);refine we ?_;exact hK1 _ ⟨(k+1,v,acc),⟨by simp only;omega,hv⟩,(by simp only;rw [OJ];exact e2.symm)⟩ (aW 4) (by simp only;omega)
  |some x=>
   rw [Eb hp] at cP;cases hn:dA ky with
   |false=>rw [hn] at cN;have e2:=n1 (r2 hn);clear r1 r2 r3 r4 n1 n2 n3;have W:=aA hk1 (aA hg hlt);refine we ?_;exact hK1 _ ⟨(k+1,v,acc),⟨by simp only;omega,hv⟩,(by simp only;rw [OJ];exact e2.symm)⟩ (aW 4) (by simp only;omega)
   |true=>
    rw [hn] at cN;have cR:=jT x 1 999;by_cases hx:1<=x/\x<=999
    .have hb:(decide ((1:Int)<=x)&&decide (x<=(999:Int)))=true:=by simp;omega
     rw [hb] at cR;have hr:=r4 x hp hn hx;by_cases h8:acc.length < 8
     .have h8i:((acc.length:Int) < 8):=by omega
      have e2:=n2 _ hr h8;clear r1 r2 r3 r4 n1 n2 n3;have hps:QT.map zG=acc.map zG++[zG ⟨ky,x⟩]:=by rw [e2];simp
      have OE:(acc.map zG).length=acc.length:=by simp
      have W:=aA hk1 (aA hg (aA hlt h8i));refine we ?_;exact hK1 _ ⟨(k+1,v+1,QT),⟨by simp only;omega,by simp only;omega⟩,(by simp only;exact OJ.symm)⟩ (aW 4 (by simp [hps])) (by simp only;omega)
     .have h8i:¬((acc.length:Int) < 8):=by omega
      have e2:=n3 h8;clear r1 r2 r3 r4 n1 n2 n3;have W:=aA hk1 (aA hg (aA hlt h8i));refine we ?_;exact hK1 _ ⟨(k+1,v,acc),⟨by simp only;omega,hv⟩,(by simp only;rw [OJ];exact e2.symm)⟩ (aW 4) (by simp only;omega)
    .have hb:(decide ((1:Int)<=x)&&decide (x<=(999:Int)))=false:=by simp only [AI,AD];omega
     rw [hb] at cR;have e2:=n1 (r3 x hp hx);clear r1 r2 r3 r4 n1 n2 n3;have W:=aA hk1 (aA hg hlt);refine we ?_;exact hK1 _ ⟨(k+1,v,acc),⟨by simp only;omega,hv⟩,(by simp only;rw [OJ];exact e2.symm)⟩ (aW 4) (by simp only;omega)
 .have htk:l.take k=l:=cX (by omega);rw [htk] at vW;subst vW;have W:=hk1;refine we ?_;exact aK results267
theorem O3 (s b:bF):aU (addrOf s b)<=s.length+b.length:=by have:=tL 47 s;unfold addrOf;split<;>simp [aU]<;>omega
theorem JZ (s b:bF):aU (bZ s b).1<=s.length+b.length:=by
 have:=O3 s b;unfold bZ;split
 .exact this
 .simp [aU,vS]
def aDv (b:bF) (t:bP):Option gV:=if (VB t b).2=true then some (VB t b).1 else none
def oo (l:List bP) (b:bF):List gV:=l.filterMap (aDv b)
@[simp] theorem aDw (b:bF):oo [] b=[]:=rfl
def Ej (n:bF):Bool:=decide (n=[105,109,103]) || decide (n=[108,105,110,107])
def xJ (b:bC) (m:bF) (n:Int):Bool:=decide (0<=n)&&(b.nodes[n.toNat]?).any λx=>decide (x.name=m)
def oQ (b:bC) (m:bF):Nat->List Int
 |0=>b.opens
 |i+1=>if (b.opens[i+1]?).any (xJ b m) then b.opens.take (i+1) else oQ b m i
def mR (t:bP):Bool:=decide (t.kind=1)&& !Ej t.name
def rW (b:bC) (t:bP):gF:=if t.kind=1 then ⟨t.name,[],b.opens.getLastD 0,t.attrs⟩ else ⟨[],t.text,b.opens.getLastD 0,[]⟩
def addToken (b:bC) (t:bP):bC×Int:=
 if t.kind=2 then ({b with opens:=oQ b t.name (b.opens.length - 1)}, -1)
 else if¬(t.kind=1\/(t.kind=3/\t.text≠[])) then (b, -1)
 else if 40<=b.nodes.length\/b.opens=[]\/(mR t=true/\8<=b.opens.length) then (b, -1)
 else ({nodes:=b.nodes++[rW b t],opens:=if mR t=true then b.opens++[((b.nodes.length:Nat):Int)] else b.opens},((b.nodes.length:Nat):Int))
theorem Nj (b:bC) (m:bF):∀k,(oQ b m k).length<=b.opens.length
 |0=>eE _
 |k+1=>by
  unfold oQ;split
  .simp;omega
  .exact Nj b m k
theorem TU [aC prog] (n:bF):Ok prog 232 [.str n] (.bool (Ej n)):=by
 unfold Ej;refine bR aD func232 ntmps232 ?_;have W:=trivial;repeat' first|refine wf ?_|(refine sq ?_ ?_<;>intro hc<;>try exact hc.elim)|fail
 all_goals try(refine aR ?_;simp [aG,results232])
 all_goals first|(simp [hc];done)|(rw [Bool.eq_iff_iff];simp [hc])
theorem TV [aC prog] (n:bF):Ok prog 216 [.str n] (.bool (Ej n)):=by
 unfold Ej;refine bR aD func216 ntmps216 ?_;have W:=trivial;repeat' first|refine wf ?_|(refine sq ?_ ?_<;>intro hc<;>try exact hc.elim)|fail
 all_goals try(refine aR ?_;simp [aG,results216])
 all_goals first|(simp [hc];done)|(rw [Bool.eq_iff_iff];simp [hc])
theorem ZA {b:bC} {m:bF} {n:Int} (h:¬(0<=n/\n < (b.nodes.length:Int))):xJ b m n=false:=by
 unfold xJ;by_cases h0:0<=n
 .rw [oY (by omega)];simp
 .simp [h0]
theorem OT {b:bC} {m:bF} {k:Nat} (h:k < b.nodes.length):xJ b m ((k:Nat):Int)=decide (b.nodes[k].name=m):=by unfold xJ;simp [aE h]
theorem Bw {b:bC} {t:bP} (h:t.kind=2):addToken b t=({b with opens:=oQ b t.name (b.opens.length - 1)}, -1):=by unfold addToken;rw [eK h]
theorem FD {b:bC} {t:bP} (h:¬t.kind=2) (h1:¬t.kind=1) (h3:t.kind=3->t.text=[]):addToken b t=(b, -1):=by
 unfold addToken;rw [cY h,eK];rintro (h|⟨h,h'⟩)
 .exact h1 h
 .exact h' (h3 h)
theorem Ha {b:bC} {t:bP} (h:¬t.kind=2) (hf:40<=b.nodes.length\/b.opens=[]\/(mR t=true/\8<=b.opens.length)):addToken b t=(b, -1):=by unfold addToken;rw [cY h];split<;>first|rfl|(rw [eK hf])
theorem Kh {b:bC} {t:bP} (h:¬t.kind=2) (hk:t.kind=1\/(t.kind=3/\t.text≠[])) (hf:¬(40<=b.nodes.length\/b.opens=[]\/(mR t=true/\8<=b.opens.length))):
  addToken b t=({nodes:=b.nodes++[rW b t],opens:=if mR t=true then b.opens++[((b.nodes.length:Nat):Int)] else b.opens},((b.nodes.length:Nat):Int)):=by
 unfold addToken;rw [cY h,cY (λhn=>hn hk),cY hf]
theorem Nk {b:bC} {m:bF} {k:Nat} {n:Int} (hg:b.opens[k+1]? =some n) (h:xJ b m n=true):oQ b m (k+1)=b.opens.take (k+1):=by unfold oQ;rw [hg];simp [h]
theorem Ki {b:bC} {m:bF} {k:Nat} {n:Int} (hg:b.opens[k+1]? =some n) (h:xJ b m n=false):oQ b m (k+1)=oQ b m k:=by
 conv=>lhs;unfold oQ
 rw [hg];simp [h]
theorem IG [aC prog] (b:bC) (t:bP) (hs:aP b<=274877906944) (hk:t.kind=2):Ok prog 183 [.agg (aS .view b),.agg (bK .view t)] (.iJ [.agg (aS .own (addToken b t).1),.int .i64 (addToken b t).2]):=by
 have c1:=kR b hs;have hn:b.nodes.length<=274877906944/\b.opens.length<=274877906944:=by simp only [aP,bV] at hs;omega
 have Ql:i64.wrap ((b.opens.length:Int) - 1)=(b.opens.length:Int) - 1:=by rw [wrap64]<;>omega
 rw [Bw hk];obtain ⟨tk,tn,ta,tx⟩:=t;simp only at hk;subst hk;simp only [aS] at c1;refine bR aD func183 ntmps183 ?_;have W:=Ql;refine we ?_;refine aL (ι:={q:Int // -1<=q/\q < (b.opens.length:Int)/\oQ b tn q.toNat=oQ b tn (b.opens.length - 1)}) (λt o i=>⟨bD t [(7,.int .i64 i.1),(8,.undef)],o⟩) (λi=>i.1.toNat) ⟨(b.opens.length:Int) - 1,by omega,by omega,by congr 1;omega⟩ aH ?_;rintro ⟨q,hq1,hq2,Vn⟩ K1 hK1;simp only [bD,cW,cU] at hK1⊢;by_cases h1:(1:Int)<=q
 .obtain ⟨k,rfl⟩:∃k:Nat,q=((k+1:Nat):Int):=⟨(q - 1).toNat,by omega⟩;have hlt:k+1 < b.opens.length:=by omega
  have hg:=aE hlt;have uu:i64.wrap (((k+1:Nat):Int) - 1)=((k:Nat):Int):=by rw [wrap64]<;>omega
  rw [show (((k+1:Nat):Int)).toNat=k+1 from by omega] at Vn;generalize hnn:b.opens[k+1]=n at *;cases hh:xJ b tn n
  .rw [Ki hg hh] at Vn;by_cases h0:0<=n
   .obtain ⟨m,rfl⟩:=mN h0;by_cases hm:m < b.nodes.length
    .rw [OT hm] at hh;have hgm:=aE hm;have hne:(b.nodes[m].name == tn)=false:=by simpa using hh
     have W:=aA hg (aA uu (aA hgm (aA hm (aA hne (aA h1 hn)))));have V:=hlt;refine we ?_;all_goals exact hK1 _ ⟨((k:Nat):Int),by omega,by omega,by simpa using Vn⟩ aH (by first|omega|(simp only;omega)|(simp;omega))
    .have hmi:¬((m:Nat):Int) < ((b.nodes.length:Nat):Int):=by omega
     have W:=aA hg (aA uu (aA hmi (aA h1 hn)));have V:=hlt;refine we ?_;all_goals exact hK1 _ ⟨((k:Nat):Int),by omega,by omega,by simpa using Vn⟩ aH (by first|omega|(simp only;omega)|(simp;omega))
   .have W:=aA hg (aA uu (aA h0 (aA h1 hn)));have V:=hlt;refine we ?_;all_goals exact hK1 _ ⟨((k:Nat):Int),by omega,by omega,by simpa using Vn⟩ aH (by first|omega|(simp only;omega)|(simp;omega))
  .rw [Nk hg hh] at Vn;have h01:0<=n/\n < (b.nodes.length:Int):=tM λh=>by rw [ZA h] at hh;cases hh
   obtain ⟨m,rfl⟩:=mN h01.1;have hm:m < b.nodes.length:=by omega
   rw [OT hm] at hh;have hgm:=aE hm;have hne:(b.nodes[m].name == tn)=true:=by simpa using hh
   rw [<-Vn];have W:=aA hg (aA uu (aA hgm (aA hm (aA hne (aA h1 hn)))));have V:=hlt;refine we ?_;all_goals try(refine aR ?_;simp [aG,results183,map_take])
   all_goals (rw [<-map_take];exact PY _)
 .have hq4:oQ b tn (b.opens.length - 1)=b.opens:=by rw [<-Vn,show q.toNat=0 by omega];rfl
  rw [hq4];have W:=h1;refine we ?_;all_goals try(refine aR ?_;simp [aG,results183,map_take])
end Go.Proofs.YtjmpjmilndkgfaaGreatDoor
