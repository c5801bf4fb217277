/- Steps. No condition. -/
import Derived.Test.YtanobkmhbpjnpaaGreatDoorZQRC1
set_option linter.all false
set_option maxRecDepth 4000
set_option maxHeartbeats 4000000
namespace Go.Proofs.YtanobkmhbpjnpaaGreatDoor
open Go.Aw Proofs.Tryz List IntKind
theorem Mx[aG prog][dG prog][fI prog](s:bE)(hl:s.length<=1073741824):Ok prog 166 [.str s] (.agg (gK .own (wZ s))):=by
 have cS:Ok prog 163 [.str s,.int .u8 59] (.sl .own 1 ((dQ 59 s).map eD)):=yS s 59 (by omega);have hsm:=Ct 59 s;have hsl:=kW 59 s;have hcn:s.count 59<=s.length:=qS;unfold wZ;generalize dQ 59 s=l at*;have hll:l.length<=1073741825:=by omega
 simp only[gK];refine dN aK func166 ntmps166 ?_;refine bK ?_;refine aT (ι:={q:Nat×Nat×List Gr // (q.1<=l.length/\1<=q.2.1)/\q.2.2=oI (l.take q.1)}) (λt o i=>⟨bP t [(5,.int .i64 i.1.1),(9,.aB)],o.take 1++[⟨true,true,1,0,[[.obj 3 i.1.2.1]]⟩,⟨true,false,1,1,l.map eD⟩,⟨true,false,2,i.1.2.1,i.1.2.2.map Bt⟩]⟩)
  (λi=>l.length-i.1.1) ⟨(0,1,[]),by simp,by simp[oI]⟩ (vM 1 0 0 (ob:=⟨true,true,1,0,[[.sl .own 2 []]]⟩) (by rfl) (by rfl) (by rfl) (by simp) (by rfl) (by rfl) (by simp) (by simp[tJ,rt,lV])) ?_
 rintro⟨⟨k,v,acc⟩,⟨hk,hv⟩,yT⟩ K1 hK1;simp only at hk hv yT;simp only[bP,cH,cQ,eV,gS,cW,eA]at hK1⊢;have hk1:=tQ (k:=k);have hgl:(acc.map Bt).length=acc.length:=by simp
 by_cases hlt:k<l.length
 .have hg:=aE hlt;by_cases h8:acc.length<8
  .have h8i:((acc.length:Int)<8):=by omega
   have hwz:=iU iM l k hlt;simp only[iM]at hwz;have cC:Ok prog 163 [.str l[k],.int .u8 58] (.sl .own 1 ((dQ 58 l[k]).map eD)):=yS l[k] 58 (by omega);have cN:=gY (Ox l[k]) (by simp[Ox];omega);have cP:=QH (ES l[k]) (by simp[ES];omega);have n1:= @TL l k hlt;have n2:=λr=> @TM l k r hlt
   have r1:= @Jh l[k];have r2:= @PX l[k];have r3:=λv=> @TJ l[k] v
   have r4:=λv=> @TK l[k] v
   have h2:=aQv l[k];have hsg:=kW 58 l[k];have hcg:l[k].count 58<=l[k].length:=qS;rw[<-yT]at n1 n2;generalize RJ:oI (l.take (k+1))=TP at*;generalize hrl:wY l[k]=ru at*;generalize Ox l[k]=ky at*;generalize ES l[k]=vl at*;generalize dQ 58 l[k]=ps at*;rcases h2 with h2|⟨h2,hr⟩
   .subst h2;simp only[oE,GC,eD]at cC;cases hn:dW ky with
    |false=>rw[hn]at cN;have e2:=n1 (r2 hn);clear r1 r2 r3 r4 n1 n2;have W:=aA hk1 (aA hg (aA hlt h8i));refine we ?_;exact hK1 _ ⟨(k+1,v,acc),⟨by simp only;omega,hv⟩,(by simp only;rw[RJ];exact e2.symm)⟩ (aQ 4) (by simp only;omega)
    |true=>
     rw[hn]at cN;cases hp:BJ vl with
     |none=>rw[wW hp]at cP;have e2:=n1 (r1 hp);clear r1 r2 r3 r4 n1 n2;have W:=aA hk1 (aA hg (aA hlt h8i));refine we ?_;exact hK1 _ ⟨(k+1,v,acc),⟨by simp only;omega,hv⟩,(by simp only;rw[RJ];exact e2.symm)⟩ (aQ 4) (by simp only;omega)
     |some x=>
      rw[FR hp]at cP;have cR:=jG x 1 999;by_cases hx:1<=x/\x<=999
      .have hb:(decide ((1:Int)<=x)&&decide (x<=(999:Int)))=true:=by simp;omega
       rw[hb]at cR;have e2:=n2 _ (r4 x hp hn hx) h8;clear r1 r2 r3 r4 n1 n2;have hps:TP.map Bt=acc.map Bt++[Bt ⟨ky,x⟩]:=by rw[e2];simp
       have W:=aA hk1 (aA hg (aA hlt (aA h8i hgl)));refine we ?_;all_goals exact hK1 _ ⟨(k+1,v+1,TP),⟨by simp only;omega,by simp only;omega⟩,(by simp only;exact RJ.symm)⟩ (aQ 4 (by simp[hps])) (by simp only;omega)
      .have hb:(decide ((1:Int)<=x)&&decide (x<=(999:Int)))=false:=by simp only[At,sL];omega
       rw[hb]at cR;have e2:=n1 (r3 x hp hx);clear r1 r2 r3 r4 n1 n2;have W:=aA hk1 (aA hg (aA hlt h8i));refine we ?_;exact hK1 _ ⟨(k+1,v,acc),⟨by simp only;omega,hv⟩,(by simp only;rw[RJ];exact e2.symm)⟩ (aQ 4) (by simp only;omega)
   .have e2:=n1 hr;have h2i:¬((ps.length:Int)=2):=by omega
    clear r1 r2 r3 r4 n1 n2 cN cP;have W:=aA hk1 (aA hg (aA hlt (aA h8i h2i)));refine we ?_;exact hK1 _ ⟨(k+1,v,acc),⟨by simp only;omega,hv⟩,(by simp only;rw[RJ];exact e2.symm)⟩ (aQ 4) (by simp only;omega)
  .have h8i:¬((acc.length:Int)<8):=by omega
   have hf:=TN (l:=l) (k:=k) (by rw[<-yT];exact h8);rw[<-yT]at hf;rw[hf];have W:=aA hk1 (aA hg (aA hlt (aA h8i hgl)));refine we ?_;exact aO results166
 .have htk:l.take k=l:=eN (by omega);rw[htk]at yT;subst yT;have W:=hk1;refine we ?_;exact aO results166
def MB(x:qF):Bool:=decide (x.nI=2)&&x.done&&decide (x.code=1)
def qG(l:List qF):List iX:=(l.filter MB).map λx=>wZ x.body
def eX(p:aF):List iX:=qG p.aD
theorem TQ{l:List qF}{k:Nat}(h:k<l.length)(ho:MB l[k]=true):qG (l.take (k+1))=qG (l.take k)++[wZ l[k].body]:=by unfold qG;rw[fN h,filter_append,pP];simp[ho]
theorem Xw{l:List qF}{k:Nat}(h:k<l.length)(ho:MB l[k]=false):qG (l.take (k+1))=qG (l.take k):=by unfold qG;rw[fN h,filter_append];simp[ho]
theorem FV(l:List qF):(qG l).length<=l.length:=by unfold qG;rw[tE];exact pD _ _
theorem QK[aG prog][dG prog][fI prog][qR prog](p:aF)(hs:dS nO p.aD<=1073741824):Ok prog 127 [.agg (aH .view p)] (.sl .own 1 ((eX p).map (gK .own))):=by
 simp only[dS]at hs;unfold eX;simp only[aH];generalize p.aD=l at*;refine dN aK func127 ntmps127 ?_;refine bZ ?_;refine aT (ι:={q:Nat×Nat×List iX // (q.1<=l.length/\1<=q.2.1)/\q.2.2=qG (l.take q.1)}) (λt o i=>⟨bP t [(10,.int .i64 i.1.1),(3,.obj 1 i.1.2.1)],o.take 1++[⟨true,false,1,i.1.2.1,i.1.2.2.map (gK .own)⟩]⟩)
  (λi=>l.length-i.1.1) ⟨(0,1,[]),by simp,by simp[qG]⟩ aP ?_
 rintro⟨⟨k,v,acc⟩,⟨hk,hv⟩,yT⟩ K1 hK1;simp only at hk hv yT;simp only[bP,cH,cQ,eV,gS,cW,eA]at hK1⊢;have hk1:=tQ (k:=k);by_cases hlt:k<l.length
 .have hg:=aE hlt;have hwz:=iU nO l k hlt;simp only[nO]at hwz;have cP:=Mw l[k].body (by omega);have n1:= @Xw l k hlt;have n2:= @TQ l k hlt;have hal:acc.length<=k:=by rw[yT];have:=FV (l.take k);rw[pL]at this;omega
  have hgl:(acc.map (gK .own)).length=acc.length:=by simp
  rw[<-yT]at n1 n2;generalize RJ:qG (l.take (k+1))=TP at*;generalize wZ l[k].body=sh at*;unfold MB at n1 n2;by_cases h1:l[k].nI=2
  .cases h2:l[k].done
   .have e2:=n1 (by simp[h2]);have W:=aA hk1 (aA hg (aA hlt (aA h1 h2)));refine wl ?_;all_goals exact hK1 _ ⟨(k+1,v,acc),⟨by simp only;omega,hv⟩,(by simp only;rw[RJ];exact e2.symm)⟩ (aQ 2) (by simp only;omega)
   .by_cases h3:l[k].code=1
    .have e2:=n2 (by simp[h1,h2,h3]);have hps:TP.map (gK .own)=acc.map (gK .own)++[gK .own sh]:=by rw[e2];simp
     simp only[gK]at cP;clear n1 n2;generalize acc.map (gK .own)=g at*;have W:=aA hk1 (aA hg (aA hlt (aA h1 (aA h2 (aA h3 hgl)))));refine wl ?_;all_goals exact hK1 _ ⟨(k+1,v+1,TP),⟨by simp only;omega,by simp only;omega⟩,(by simp only;exact RJ.symm)⟩ (aQ 2 (by simp[hps])) (by simp only;omega)
    .have e2:=n1 (by simp[h3]);have W:=aA hk1 (aA hg (aA hlt (aA h1 (aA h2 h3))));refine wl ?_;all_goals exact hK1 _ ⟨(k+1,v,acc),⟨by simp only;omega,hv⟩,(by simp only;rw[RJ];exact e2.symm)⟩ (aQ 2) (by simp only;omega)
  .have e2:=n1 (by simp[h1]);have W:=aA hk1 (aA hg (aA hlt h1));refine wl ?_;all_goals exact hK1 _ ⟨(k+1,v,acc),⟨by simp only;omega,hv⟩,(by simp only;rw[RJ];exact e2.symm)⟩ (aQ 2) (by simp only;omega)
 .have htk:l.take k=l:=eN (by omega);rw[htk]at yT;subst yT;have W:=hk1;refine wl ?_;exact aO results127
theorem Gw[aG prog][dG prog][fI prog](p:aF)(hs:dS nO p.aD<=1073741824):Ok prog 114 [.agg (aH .view p)] (.sl .own 1 ((eX p).map (gK .own))):=by
 simp only[dS]at hs;unfold eX;simp only[aH];generalize p.aD=l at*;refine dN aK func114 ntmps114 ?_;refine bZ ?_;refine aT (ι:={q:Nat×Nat×List iX // (q.1<=l.length/\1<=q.2.1)/\q.2.2=qG (l.take q.1)}) (λt o i=>⟨bP t [(4,.int .i64 i.1.1),(3,.obj 1 i.1.2.1)],o.take 1++[⟨true,false,1,i.1.2.1,i.1.2.2.map (gK .own)⟩]⟩)
  (λi=>l.length-i.1.1) ⟨(0,1,[]),by simp,by simp[qG]⟩ aP ?_
 rintro⟨⟨k,v,acc⟩,⟨hk,hv⟩,yT⟩ K1 hK1;simp only at hk hv yT;simp only[bP,cH,cQ,eV,gS,cW,eA]at hK1⊢;have hk1:=tQ (k:=k);by_cases hlt:k<l.length
 .have hg:=aE hlt;have hwz:=iU nO l k hlt;simp only[nO]at hwz;have cP:=Mx l[k].body (by omega);have n1:= @Xw l k hlt;have n2:= @TQ l k hlt;have hal:acc.length<=k:=by rw[yT];have:=FV (l.take k);rw[pL]at this;omega
  have hgl:(acc.map (gK .own)).length=acc.length:=by simp
  rw[<-yT]at n1 n2;generalize RJ:qG (l.take (k+1))=TP at*;generalize wZ l[k].body=sh at*;unfold MB at n1 n2;by_cases h1:l[k].nI=2
  .cases h2:l[k].done
   .have e2:=n1 (by simp[h2]);have W:=aA hk1 (aA hg (aA hlt (aA h1 h2)));refine wl ?_;all_goals exact hK1 _ ⟨(k+1,v,acc),⟨by simp only;omega,hv⟩,(by simp only;rw[RJ];exact e2.symm)⟩ (aQ 2) (by simp only;omega)
   .by_cases h3:l[k].code=1
    .have e2:=n2 (by simp[h1,h2,h3]);have hps:TP.map (gK .own)=acc.map (gK .own)++[gK .own sh]:=by rw[e2];simp
     simp only[gK]at cP;clear n1 n2;generalize acc.map (gK .own)=g at*;have W:=aA hk1 (aA hg (aA hlt (aA h1 (aA h2 (aA h3 hgl)))));refine wl ?_;all_goals exact hK1 _ ⟨(k+1,v+1,TP),⟨by simp only;omega,by simp only;omega⟩,(by simp only;exact RJ.symm)⟩ (aQ 2 (by simp[hps])) (by simp only;omega)
    .have e2:=n1 (by simp[h3]);have W:=aA hk1 (aA hg (aA hlt (aA h1 (aA h2 h3))));refine wl ?_;all_goals exact hK1 _ ⟨(k+1,v,acc),⟨by simp only;omega,hv⟩,(by simp only;rw[RJ];exact e2.symm)⟩ (aQ 2) (by simp only;omega)
  .have e2:=n1 (by simp[h1]);have W:=aA hk1 (aA hg (aA hlt h1));refine wl ?_;all_goals exact hK1 _ ⟨(k+1,v,acc),⟨by simp only;omega,hv⟩,(by simp only;rw[RJ];exact e2.symm)⟩ (aQ 2) (by simp only;omega)
 .have htk:l.take k=l:=eN (by omega);rw[htk]at yT;subst yT;have W:=hk1;refine wl ?_;exact aO results114
def look{α:Type}(f:α->Option Int)(l:List α)(k:Nat):Option Int:=((l.take k).reverse).findSome? f
theorem Ji{α:Type}(f:α->Option Int){l:List α}{k:Nat}(h:k<l.length):look f l (k+1)=match f l[k]with|some x=>some x|none=>look f l k:=by unfold look;rw[fN h,reverse_append];simp only[reverse_cons,reverse_nil,eA,singleton_append,findSome?_cons];cases f l[k]<;>rfl
theorem Jj{α:Type}(f:α->Option Int)(l:List α):look f l 0=none:=rfl
def JU(n:bE)(r:Gr):Option Int:=if r.name=n then some r.color else none
def AP(n:bE)(s:iX):Option Int:=look (JU n) s.mF s.mF.length
def bS(ss:List iX)(n:bE):Int:=(look (AP n) ss ss.length).getD 0
theorem uR[aG prog](ss:List iX)(n:bE)(hl:ss.length<=1099511627776)(hr:∀x∈ss,x.mF.length<=1099511627776):Ok prog 231 [.sl .view 1 (ss.map (gK .view)),.str n] (.int .i64 (bS ss n)):=by
 unfold bS;refine dN aK func231 ntmps231 ?_;refine bZ ?_;refine aT (ι:={k:Nat // k<=ss.length/\look (AP n) ss ss.length=look (AP n) ss k}) (λt o i=>⟨bP t [(5,.int .i64 ((i.1:Int)-1))],o⟩)
  (λi=>i.1) ⟨ss.length,by simp,rfl⟩ aP ?_
 rintro⟨k,hk,hi⟩ K1 hK1;simp only[bP,cH,cQ]at hK1 hi hk⊢;cases k with
 |zero=>rw[hi,Jj];refine bZ ?_;exact aO results231
 |succ k=>
  have hlt:k<ss.length:=by omega
  have hk0:(((k+1:Nat):Int)-1)=(k:Int):=by omega
  have hg:=aE hlt;have hk1:i64.wrap ((k:Int)-1)=(k:Int)-1:=by rw[wrap64]<;>omega
  have hrl:=hr _ (gR hlt);have RA:=Ji (AP n) hlt;have hsc:AP n ss[k]=look (JU n) ss[k].mF ss[k].mF.length:=rfl;have hw6:i64.wrap ((ss[k].mF.length:Int)-1)=(ss[k].mF.length:Int)-1:=by rw[wrap64]<;>omega
  rw[hk0];have W:=aA hlt (aA hg hw6);refine wl ?_;refine aT (ι:={m:Nat // m<=ss[k].mF.length/\AP n ss[k]=look (JU n) ss[k].mF m}) (λt o i=>⟨bP t [(6,.int .i64 ((i.1:Int)-1))],o⟩)
   (λi=>i.1) ⟨ss[k].mF.length,by simp,rfl⟩ aP ?_
  rintro⟨m,hm,hj⟩ K2 hK2;simp only[bP,cH,cQ]at hK2 hm hj⊢;cases m with
  |zero=>rw[hj,Jj]at RA;simp only at RA;have W:=hk1;refine wl ?_;exact hK1 _ ⟨k,by omega,by rw[hi,RA]⟩ aP (by simp only;omega)
  |succ m=>
   have WC:m<ss[k].mF.length:=by omega
   have Xx:(((m+1:Nat):Int)-1)=(m:Int):=by omega
   have hgm:=aE WC;have ZJ:i64.wrap ((m:Int)-1)=(m:Int)-1:=by rw[wrap64]<;>omega
   have hlr:=Ji (JU n) WC;have wK:JU n ss[k].mF[m]=if ss[k].mF[m].name=n then some ss[k].mF[m].color else none:=rfl
   rw[Xx];by_cases hn:ss[k].mF[m].name=n
   .rw [eM hn]at wK;rw[wK]at hlr;simp only at hlr;rw[hj,hlr]at RA;simp only at RA;rw[hi,RA];have W:=aA hlt (aA hg (aA WC (aA hgm hn)));refine wl ?_;exact aO results231
   .rw [eC hn]at wK;rw[wK]at hlr;simp only at hlr;have W:=aA hlt (aA hg (aA WC (aA hgm (aA hn ZJ))));repeat' first|refine wg ?_|(refine sq ?_ ?_<;>intro hc<;>try exact hc.elim)|fail
    .exact absurd hc hn
    .exact hK2 _ ⟨m,by omega,by rw[hj,hlr]⟩ aP (by simp only;omega)
theorem uS[aG prog](ss:List iX)(n:bE)(hl:ss.length<=1099511627776)(hr:∀x∈ss,x.mF.length<=1099511627776):Ok prog 222 [.sl .view 1 (ss.map (gK .view)),.str n] (.int .i64 (bS ss n)):=by
 unfold bS;refine dN aK func222 ntmps222 ?_;refine bZ ?_;refine aT (ι:={k:Nat // k<=ss.length/\look (AP n) ss ss.length=look (AP n) ss k}) (λt o i=>⟨bP t [(5,.int .i64 ((i.1:Int)-1))],o⟩)
  (λi=>i.1) ⟨ss.length,by simp,rfl⟩ aP ?_
 rintro⟨k,hk,hi⟩ K1 hK1;simp only[bP,cH,cQ]at hK1 hi hk⊢;cases k with
 |zero=>rw[hi,Jj];refine bZ ?_;exact aO results222
 |succ k=>
  have hlt:k<ss.length:=by omega
  have hk0:(((k+1:Nat):Int)-1)=(k:Int):=by omega
  have hg:=aE hlt;have hk1:i64.wrap ((k:Int)-1)=(k:Int)-1:=by rw[wrap64]<;>omega
  have hrl:=hr _ (gR hlt);have RA:=Ji (AP n) hlt;have hsc:AP n ss[k]=look (JU n) ss[k].mF ss[k].mF.length:=rfl;have hw6:i64.wrap ((ss[k].mF.length:Int)-1)=(ss[k].mF.length:Int)-1:=by rw[wrap64]<;>omega
  rw[hk0];have W:=aA hlt (aA hg hw6);refine wl ?_;refine aT (ι:={m:Nat // m<=ss[k].mF.length/\AP n ss[k]=look (JU n) ss[k].mF m}) (λt o i=>⟨bP t [(6,.int .i64 ((i.1:Int)-1))],o⟩)
   (λi=>i.1) ⟨ss[k].mF.length,by simp,rfl⟩ aP ?_
  rintro⟨m,hm,hj⟩ K2 hK2;simp only[bP,cH,cQ]at hK2 hm hj⊢;cases m with
  |zero=>rw[hj,Jj]at RA;simp only at RA;have W:=hk1;refine wl ?_;exact hK1 _ ⟨k,by omega,by rw[hi,RA]⟩ aP (by simp only;omega)
  |succ m=>
   have WC:m<ss[k].mF.length:=by omega
   have Xx:(((m+1:Nat):Int)-1)=(m:Int):=by omega
   have hgm:=aE WC;have ZJ:i64.wrap ((m:Int)-1)=(m:Int)-1:=by rw[wrap64]<;>omega
   have hlr:=Ji (JU n) WC;have wK:JU n ss[k].mF[m]=if ss[k].mF[m].name=n then some ss[k].mF[m].color else none:=rfl
   rw[Xx];by_cases hn:ss[k].mF[m].name=n
   .rw [eM hn]at wK;rw[wK]at hlr;simp only at hlr;rw[hj,hlr]at RA;simp only at RA;rw[hi,RA];have W:=aA hlt (aA hg (aA WC (aA hgm hn)));refine wl ?_;exact aO results222
   .rw [eC hn]at wK;rw[wK]at hlr;simp only at hlr;have W:=aA hlt (aA hg (aA WC (aA hgm (aA hn ZJ))));repeat' first|refine wg ?_|(refine sq ?_ ?_<;>intro hc<;>try exact hc.elim)|fail
    .exact absurd hc hn
    .exact hK2 _ ⟨m,by omega,by rw[hj,hlr]⟩ aP (by simp only;omega)
theorem rH[aG prog](b:bC)(n:bE)(hl:b.aJ.length<=1099511627776):Ok prog 230 [.agg (aZ .view b),.str n] (.int .i64 (bF b n)):=by
 refine dN aK func230 ntmps230 ?_;refine bK ?_;refine aT (ι:={k:Nat // k<=b.aJ.length}) (λt o i=>⟨bP t [(11,.int .i64 i.1),(5,.int .i64 ((((b.aJ.take i.1).filter λx=>decide (x.name=n)).length:Nat):Int)),(7,.aB)],o.take 1⟩)
  (λi=>b.aJ.length-i.1) ⟨0,by simp⟩ aP ?_
 rintro⟨k,hk⟩ K1 hK1;simp only[bP,cH,cQ,eV,gS]at hK1⊢;have hk1:=tQ (k:=k);have IU:((b.aJ.take k).filter λx=>decide (x.name=n)).length<=b.aJ.length:=by refine iS (pD _ _) ?_;simp;omega
 by_cases hlt:k<b.aJ.length
 .have hg:=aE hlt;have hst:=TB b n k hlt;generalize ((b.aJ.take k).filter λx=>decide (x.name=n)).length=c at*;have hc1:i64.wrap ((c:Int)+1)=((c+1:Nat):Int):=by rw[wrap64]<;>omega
  by_cases hn:b.aJ[k].name=n
  .have hnb:(b.aJ[k].name == n)=true:=by simpa using hn
   rw[eM hn]at hst;have W:=aA hk1 (aA hc1 (aA hg (aA hlt hnb)));refine we ?_;all_goals exact hK1 _ ⟨k+1,by omega⟩ (aQ 1 (by simp) (by simp[hst]) (by simp) (by simp)) (by simp only;omega)
  .have hnb:(b.aJ[k].name == n)=false:=by simpa using hn
   rw[eC hn]at hst;have W:=aA hk1 (aA hc1 (aA hg (aA hlt hnb)));refine we ?_;all_goals exact hK1 _ ⟨k+1,by omega⟩ (aQ 1 (by simp) (by simp[hst]) (by simp) (by simp)) (by simp only;omega)
 .have htk:b.aJ.take k=b.aJ:=eN (by omega);rw[htk];have W:=hk1;refine we ?_;all_goals try(refine bA ?_;simp[bB,results230,bF])
theorem rJ[aG prog](b:bC)(n:bE)(hl:b.aJ.length<=1099511627776):Ok prog 221 [.agg (aZ .view b),.str n] (.int .i64 (bF b n)):=by
 refine dN aK func221 ntmps221 ?_;refine bK ?_;refine aT (ι:={k:Nat // k<=b.aJ.length}) (λt o i=>⟨bP t [(6,.int .i64 i.1),(5,.int .i64 ((((b.aJ.take i.1).filter λx=>decide (x.name=n)).length:Nat):Int))],o⟩)
  (λi=>b.aJ.length-i.1) ⟨0,by simp⟩ aP ?_
 rintro⟨k,hk⟩ K1 hK1;simp only[bP,cH,cQ]at hK1⊢;have hk1:=tQ (k:=k);by_cases hlt:k<b.aJ.length
 .have hg:=aE hlt;have hst:=TB b n k hlt;have IU:((b.aJ.take k).filter λx=>decide (x.name=n)).length<=b.aJ.length:=by
   refine iS (pD _ _) ?_;simp;omega
  generalize ((b.aJ.take k).filter λx=>decide (x.name=n)).length=c at*;have hc1:i64.wrap ((c:Int)+1)=((c+1:Nat):Int):=by rw[wrap64]<;>omega
  by_cases hn:b.aJ[k].name=n
  .have hnb:(b.aJ[k].name == n)=true:=by simpa using hn
   rw[eM hn]at hst;have W:=aA hk1 (aA hc1 (aA hg (aA hlt hnb)));refine we ?_;all_goals exact hK1 _ ⟨k+1,by omega⟩ (aP (by simp) (by simp[hst])) (by simp only;omega)
  .have hnb:(b.aJ[k].name == n)=false:=by simpa using hn
   rw[eC hn]at hst;have W:=aA hk1 (aA hc1 (aA hg (aA hlt hnb)));refine we ?_;all_goals exact hK1 _ ⟨k+1,by omega⟩ (aP (by simp) (by simp[hst])) (by simp only;omega)
 .have htk:b.aJ.take k=b.aJ:=eN (by omega);rw[htk];have W:=hk1;refine we ?_;all_goals try(refine bA ?_;simp[bB,results221,bF])
def zY:bE:=[99,111,117,110,116,32]
def DT:bE:=[108,111,111,107,32]
def MC:bE:=[115,97,121,32]
def dE(b:bC)(ss:List iX)(x:jV):bC×bE×bE:=
 if x.op=1 then(b,x.text.map uO,[])
 else if x.op=2 then(if (1<=b.aJ.length/\b.aJ.length<=39)/\dW x.text=true then({b with aJ:=b.aJ++[⟨x.text,[],0,[]⟩]},[],[])else(b,[],[]))
 else if x.op=3 then(b,[],zY++x.text++[32]++Lib.itoa (bF b x.text))
 else if x.op=4 then(b,[],DT++x.text++[32]++Lib.itoa (bS ss x.text))
 else if x.op=5 then(b,[],MC++x.text)
 else(b,[],[])
theorem aHq[aG prog][fI prog](b:bC)(ss:List iX)(x:jV)(hs:aV b<=274877906944)(hx:x.text.length<=268435456)(hl:ss.length<=1099511627776)(hr:∀x∈ss,x.mF.length<=1099511627776)(yO:∀n,0<=bS ss n/\bS ss n<=999)(hop:x.op=1):
  Ok prog 184 [.agg (aZ .view b),.sl .view 1 (ss.map (gK .view)),.agg (nR x)] (.iL [.agg (aZ .own (dE b ss x).1),.str (dE b ss x).2.1,.str (dE b ss x).2.2]):=by
 have c1:=nE b hs;have hn:b.aJ.length<=274877906944:=by simp only[aV,dS]at hs;omega
 obtain⟨op,tx⟩:=x;simp only at hx hop;have c2:=sM tx (by omega);have c3:=rH b tx (by omega);have c4:=uR ss tx hl hr;have c5:=jS tx (by omega);have c6:=mM (b.aJ.length:Int) 1 39;have hcn:0<=bF b tx/\bF b tx<=(b.aJ.length:Int):=by unfold bF;have:=pD (λx:kG=>decide (x.name=tx)) b.aJ;omega
 have Vy:=yO tx;have c7:=iP (bF b tx) (by omega);have c8:=iP (bS ss tx) (by omega);have z7:=kK (bF b tx) (by omega) (by omega);have z8:=kK (bS ss tx) (by omega) (by omega);simp only[aZ]at c1 c3;clear hr yO;simp only[dE,zY,DT,MC];generalize Lib.itoa (bF b tx)=i7 at*;generalize Lib.itoa (bS ss tx)=i8 at*;generalize bF b tx=cn at*;generalize bS ss tx=cc at*;subst hop;rw[eM rfl];refine dN aK func184 ntmps184 ?_;refine bK ?_;exact aO results184
theorem aHr[aG prog][fI prog](b:bC)(ss:List iX)(x:jV)(hs:aV b<=274877906944)(hx:x.text.length<=268435456)(hl:ss.length<=1099511627776)(hr:∀x∈ss,x.mF.length<=1099511627776)(yO:∀n,0<=bS ss n/\bS ss n<=999)(hop:x.op=2):
  Ok prog 184 [.agg (aZ .view b),.sl .view 1 (ss.map (gK .view)),.agg (nR x)] (.iL [.agg (aZ .own (dE b ss x).1),.str (dE b ss x).2.1,.str (dE b ss x).2.2]):=by
 have c1:=nE b hs;have hn:b.aJ.length<=274877906944:=by simp only[aV,dS]at hs;omega
 obtain⟨op,tx⟩:=x;simp only at hx hop;have c2:=sM tx (by omega);have c3:=rH b tx (by omega);have c4:=uR ss tx hl hr;have c5:=jS tx (by omega);have c6:=mM (b.aJ.length:Int) 1 39;have hcn:0<=bF b tx/\bF b tx<=(b.aJ.length:Int):=by unfold bF;have:=pD (λx:kG=>decide (x.name=tx)) b.aJ;omega
 have Vy:=yO tx;have c7:=iP (bF b tx) (by omega);have c8:=iP (bS ss tx) (by omega);have z7:=kK (bF b tx) (by omega) (by omega);have z8:=kK (bS ss tx) (by omega) (by omega);simp only[aZ]at c1 c3;clear hr yO;simp only[dE,zY,DT,MC];generalize Lib.itoa (bF b tx)=i7 at*;generalize Lib.itoa (bS ss tx)=i8 at*;generalize bF b tx=cn at*;generalize bS ss tx=cc at*;subst hop;rw[eC (by decide),eM rfl];by_cases hc:(1<=b.aJ.length/\b.aJ.length<=39)/\dW tx=true
 .rw [eM hc];rw[show(decide ((1:Int)<=(b.aJ.length:Int))&&decide ((b.aJ.length:Int)<=39))=true from by simp;omega]at c6;rw[hc.2]at c5;obtain⟨l0,hl0⟩:∃l,l=b.aJ++[(⟨tx,[],0,[]⟩:kG)]:=⟨_,rfl⟩;have hap:b.aJ.map (gU .own)++[[.str tx,.str [],.int .i64 0,.sl .own 2 []]]=l0.map (gU .own):=by rw[hl0];simp
  rw[<-hl0];clear hl0 hc;refine dN aK func184 ntmps184 ?_;have W:=aA hap hn;refine we ?_;exact aO results184
 .rw [eC hc];by_cases hc1:1<=b.aJ.length/\b.aJ.length<=39
  .have LH:dW tx=false:=by
    cases h:dW tx with
    |false=>rfl
    |true=>exact absurd ⟨hc1,h⟩ hc
   rw[show(decide ((1:Int)<=(b.aJ.length:Int))&&decide ((b.aJ.length:Int)<=39))=true from by simp;omega]at c6;rw[LH]at c5;clear hc;refine dN aK func184 ntmps184 ?_;refine bK ?_;exact aO results184
  .rw [show(decide ((1:Int)<=(b.aJ.length:Int))&&decide ((b.aJ.length:Int)<=39))=false from by simp;omega]at c6;clear hc;refine dN aK func184 ntmps184 ?_;refine bK ?_;exact aO results184
theorem aHs[aG prog][fI prog](b:bC)(ss:List iX)(x:jV)(hs:aV b<=274877906944)(hx:x.text.length<=268435456)(hl:ss.length<=1099511627776)(hr:∀x∈ss,x.mF.length<=1099511627776)(yO:∀n,0<=bS ss n/\bS ss n<=999)(hop:¬x.op=1/\¬x.op=2/\¬x.op=3/\¬x.op=4/\¬x.op=5):
  Ok prog 184 [.agg (aZ .view b),.sl .view 1 (ss.map (gK .view)),.agg (nR x)] (.iL [.agg (aZ .own (dE b ss x).1),.str (dE b ss x).2.1,.str (dE b ss x).2.2]):=by
 have c1:=nE b hs;have hn:b.aJ.length<=274877906944:=by simp only[aV,dS]at hs;omega
 obtain⟨op,tx⟩:=x;simp only at hx hop;have c2:=sM tx (by omega);have c3:=rH b tx (by omega);have c4:=uR ss tx hl hr;have c5:=jS tx (by omega);have c6:=mM (b.aJ.length:Int) 1 39;have hcn:0<=bF b tx/\bF b tx<=(b.aJ.length:Int):=by unfold bF;have:=pD (λx:kG=>decide (x.name=tx)) b.aJ;omega
 have Vy:=yO tx;have c7:=iP (bF b tx) (by omega);have c8:=iP (bS ss tx) (by omega);have z7:=kK (bF b tx) (by omega) (by omega);have z8:=kK (bS ss tx) (by omega) (by omega);simp only[aZ]at c1 c3;clear hr yO;simp only[dE,zY,DT,MC];generalize Lib.itoa (bF b tx)=i7 at*;generalize Lib.itoa (bS ss tx)=i8 at*;generalize bF b tx=cn at*;generalize bS ss tx=cc at*;obtain⟨h1,h2,h3,h4,h5⟩:=hop;rw[eC h1,eC h2,eC h3,eC h4,eC h5];refine dN aK func184 ntmps184 ?_;have W:=aA h1 (aA h2 (aA h3 (aA h4 h5)));refine we ?_;exact aO results184
theorem aHt[aG prog][fI prog](b:bC)(ss:List iX)(x:jV)(hs:aV b<=274877906944)(hx:x.text.length<=268435456)(hl:ss.length<=1099511627776)(hr:∀x∈ss,x.mF.length<=1099511627776)(yO:∀n,0<=bS ss n/\bS ss n<=999)(hop:x.op=3):
  Ok prog 184 [.agg (aZ .view b),.sl .view 1 (ss.map (gK .view)),.agg (nR x)] (.iL [.agg (aZ .own (dE b ss x).1),.str (dE b ss x).2.1,.str (dE b ss x).2.2]):=by
 have c1:=nE b hs;have hn:b.aJ.length<=274877906944:=by simp only[aV,dS]at hs;omega
 obtain⟨op,tx⟩:=x;simp only at hx hop;have c2:=sM tx (by omega);have c3:=rH b tx (by omega);have c4:=uR ss tx hl hr;have c5:=jS tx (by omega);have c6:=mM (b.aJ.length:Int) 1 39;have hcn:0<=bF b tx/\bF b tx<=(b.aJ.length:Int):=by unfold bF;have:=pD (λx:kG=>decide (x.name=tx)) b.aJ;omega
 have Vy:=yO tx;have c7:=iP (bF b tx) (by omega);have c8:=iP (bS ss tx) (by omega);have z7:=kK (bF b tx) (by omega) (by omega);have z8:=kK (bS ss tx) (by omega) (by omega);simp only[aZ]at c1 c3;clear hr yO;simp only[dE,zY,DT,MC];generalize Lib.itoa (bF b tx)=i7 at*;generalize Lib.itoa (bS ss tx)=i8 at*;generalize bF b tx=cn at*;generalize bS ss tx=cc at*;subst hop;rw[eC (by decide),eC (by decide),eM rfl];clear c2 c4 c5 c6 c8 z8 Vy hl;have OB:i7.length<=40:=by omega
 refine xA aK [10] func184 ntmps184 ?_;refine bK ?_;rw[vO];refine Mi (λJ=>⟨[.aB,.sl .view 1 (ss.map (gK .view)),.aB,.ptr 0 0 0 0,.aB,.ptr 1 0 0 0,.ptr 2 0 0 0,dv J 12 (.str []),dv J 13 (.str ([99,111,117,110,116,32]++tx++[32]++i7)),.ptr 5 0 0 0,.aB,.aB,.aB,.aB,.aB,.aB,.aB,.aB,.aB,.aB,.aB,.aB,.aB,.aB,.aB,.aB,.aB,.aB,.aB,.aB,.aB,.aB,.aB,.aB,.aB,.aB,.aB,.aB,.aB,.aB,.aB,.aB,dv J 0 (.agg [.obj 3 1,.obj 4 1]),dv J 1 (.ptr 1 0 0 1),dv J 2 (.str tx),dv J 3 (.str ([99,111,117,110,116,32]++tx)),dv J 4 (.str ([99,111,117,110,116,32]++tx++[32])),dv J 5 (.agg [.sl .view 4 (b.aJ.map (gU .view)),.sl .view 1 (b.bD.map nM)]),dv J 6 (.ptr 1 0 0 1),dv J 7 (.str tx),dv J 8 (.int .i64 cn),dv J 9 (.str i7),dv J 10 (.str ([99,111,117,110,116,32]++tx++[32]++i7)),.aB,.aB,.aB,.aB,.aB,.aB,.aB,.aB,.aB,.aB,.aB,.aB,.aB,.aB,.aB,.aB,.aB,.aB,.aB,.aB],[⟨true,true,2,0,[[.sl .view 4 (b.aJ.map (gU .view)),.sl .view 1 (b.bD.map nM)]]⟩,⟨true,true,2,0,[[.int .i64 3,.str tx]]⟩,⟨true,true,2,0,[if J 11=true then [.obj 3 1,.obj 4 1]else [.sl .own 4 [],.sl .own 1 []]]⟩,⟨true,false,4,1,b.aJ.map (gU .own)⟩,⟨true,false,1,1,b.bD.map nM⟩,⟨true,true,2,0,[[.obj 3 1,.obj 4 1]]⟩]⟩) (aP (by simp[dv,hx,OB]) (by simp[dv,hx,OB])) (by decide) ?_ ?_
 .simp only[zC,pS];refine⟨⟨trivial,λJ h1 h2=>jZ λK hK=> ?_⟩,⟨trivial,λJ h1 h2=>jZ λK hK=> ?_⟩,⟨trivial,λJ h1 h2=>jZ λK hK=> ?_⟩,⟨trivial,λJ h1 h2=>jZ λK hK=> ?_⟩,⟨trivial,λJ h1 h2=>jZ λK hK=> ?_⟩,⟨trivial,λJ h1 h2=>jZ λK hK=> ?_⟩,⟨trivial,λJ h1 h2=>jZ λK hK=> ?_⟩,⟨trivial,λJ h1 h2=>jZ λK hK=> ?_⟩,⟨trivial,λJ h1 h2=>jZ λK hK=> ?_⟩,⟨trivial,λJ h1 h2=>jZ λK hK=> ?_⟩,⟨trivial,λJ h1 h2=>jZ λK hK=> ?_⟩,⟨trivial,λJ h1 h2=>jZ λK hK=> ?_⟩,⟨trivial,λJ h1 h2=>jZ λK hK=> ?_⟩,⟨trivial,λJ h1 h2=>jZ λK hK=> ?_⟩⟩;all_goals simp[Region.binds]at h2
  all_goals first
   |(simp[-Bool.exists_bool,uA,dv,h1,h2,hx,OB];refine⟨_,(c3),hK _ (aP ?_ ?_)⟩<;>simp[dv,qX,h1,h2])
   |(simp[-Bool.exists_bool,uA,dv,h1,h2,hx,OB];refine⟨_,(c7),hK _ (aP ?_ ?_)⟩<;>simp[dv,qX,h1,h2])
   |(simp[-Bool.exists_bool,uA,dv,h1,h2,hx,OB];refine⟨?_,hK _ (aP ?_ ?_)⟩;(focus omega);all_goals simp[dv,qX,h1,h2])
   |(simp[-Bool.exists_bool,uA,dv,h1,h2,hx,OB];refine hK _ (aP ?_ ?_)<;>simp[dv,qX,h1,h2])
 .intro J hJ;have hJs:J 0=true/\J 1=true/\J 2=true/\J 3=true/\J 4=true/\J 5=true/\J 6=true/\J 7=true/\J 8=true/\J 9=true/\J 10=true/\J 11=true/\J 12=true/\J 13=true:=⟨hJ 0 (by decide),hJ 1 (by decide),hJ 2 (by decide),hJ 3 (by decide),hJ 4 (by decide),hJ 5 (by decide),hJ 6 (by decide),hJ 7 (by decide),hJ 8 (by decide),hJ 9 (by decide),hJ 10 (by decide),hJ 11 (by decide),hJ 12 (by decide),hJ 13 (by decide)⟩;simp only[dv,hJs,eS];clear hJs hJ J;refine bK ?_;exact aO results184
theorem aHu[aG prog][fI prog](b:bC)(ss:List iX)(x:jV)(hs:aV b<=274877906944)(hx:x.text.length<=268435456)(hl:ss.length<=1099511627776)(hr:∀x∈ss,x.mF.length<=1099511627776)(yO:∀n,0<=bS ss n/\bS ss n<=999)(hop:x.op=4):
  Ok prog 184 [.agg (aZ .view b),.sl .view 1 (ss.map (gK .view)),.agg (nR x)] (.iL [.agg (aZ .own (dE b ss x).1),.str (dE b ss x).2.1,.str (dE b ss x).2.2]):=by
 have c1:=nE b hs;have hn:b.aJ.length<=274877906944:=by simp only[aV,dS]at hs;omega
 obtain⟨op,tx⟩:=x;simp only at hx hop;have c2:=sM tx (by omega);have c3:=rH b tx (by omega);have c4:=uR ss tx hl hr;have c5:=jS tx (by omega);have c6:=mM (b.aJ.length:Int) 1 39;have hcn:0<=bF b tx/\bF b tx<=(b.aJ.length:Int):=by unfold bF;have:=pD (λx:kG=>decide (x.name=tx)) b.aJ;omega
 have Vy:=yO tx;have c7:=iP (bF b tx) (by omega);have c8:=iP (bS ss tx) (by omega);have z7:=kK (bF b tx) (by omega) (by omega);have z8:=kK (bS ss tx) (by omega) (by omega);simp only[aZ]at c1 c3;clear hr yO;simp only[dE,zY,DT,MC];generalize Lib.itoa (bF b tx)=i7 at*;generalize Lib.itoa (bS ss tx)=i8 at*;generalize bF b tx=cn at*;generalize bS ss tx=cc at*;subst hop;rw[eC (by decide),eC (by decide),eC (by decide),eM rfl];clear c2 c3 c5 c6 c7 z7 hcn;have OB:i8.length<=40:=by omega
 refine xA aK [12] func184 ntmps184 ?_;refine bK ?_;rw[vO];refine Mi (λJ=>⟨[.aB,.sl .view 1 (ss.map (gK .view)),.aB,.ptr 0 0 0 0,.aB,.ptr 1 0 0 0,.ptr 2 0 0 0,dv J 12 (.str []),dv J 13 (.str ([108,111,111,107,32]++tx++[32]++i8)),.ptr 5 0 0 0,.aB,.aB,.aB,.aB,.aB,.aB,.aB,.aB,.aB,.aB,.aB,.aB,.aB,.aB,.aB,.aB,.aB,.aB,.aB,.aB,.aB,.aB,.aB,.aB,.aB,.aB,.aB,.aB,.aB,.aB,.aB,.aB,.aB,.aB,.aB,.aB,.aB,.aB,.aB,.aB,.aB,.aB,.aB,.aB,.aB,dv J 0 (.agg [.obj 3 1,.obj 4 1]),dv J 1 (.ptr 1 0 0 1),dv J 2 (.str tx),dv J 3 (.str ([108,111,111,107,32]++tx)),dv J 4 (.str ([108,111,111,107,32]++tx++[32])),dv J 5 (.sl .view 1 (ss.map (gK .view))),dv J 6 (.ptr 1 0 0 1),dv J 7 (.str tx),dv J 8 (.int .i64 cc),dv J 9 (.str i8),dv J 10 (.str ([108,111,111,107,32]++tx++[32]++i8)),.aB,.aB,.aB,.aB,.aB,.aB,.aB],[⟨true,true,2,0,[[.sl .view 4 (b.aJ.map (gU .view)),.sl .view 1 (b.bD.map nM)]]⟩,⟨true,true,2,0,[[.int .i64 4,.str tx]]⟩,⟨true,true,2,0,[if J 11=true then [.obj 3 1,.obj 4 1]else [.sl .own 4 [],.sl .own 1 []]]⟩,⟨true,false,4,1,b.aJ.map (gU .own)⟩,⟨true,false,1,1,b.bD.map nM⟩,⟨true,true,2,0,[[.obj 3 1,.obj 4 1]]⟩]⟩) (aP (by simp[dv,hx,OB]) (by simp[dv,hx,OB])) (by decide) ?_ ?_
 .simp only[zC,pS];refine⟨⟨trivial,λJ h1 h2=>jZ λK hK=> ?_⟩,⟨trivial,λJ h1 h2=>jZ λK hK=> ?_⟩,⟨trivial,λJ h1 h2=>jZ λK hK=> ?_⟩,⟨trivial,λJ h1 h2=>jZ λK hK=> ?_⟩,⟨trivial,λJ h1 h2=>jZ λK hK=> ?_⟩,⟨trivial,λJ h1 h2=>jZ λK hK=> ?_⟩,⟨trivial,λJ h1 h2=>jZ λK hK=> ?_⟩,⟨trivial,λJ h1 h2=>jZ λK hK=> ?_⟩,⟨trivial,λJ h1 h2=>jZ λK hK=> ?_⟩,⟨trivial,λJ h1 h2=>jZ λK hK=> ?_⟩,⟨trivial,λJ h1 h2=>jZ λK hK=> ?_⟩,⟨trivial,λJ h1 h2=>jZ λK hK=> ?_⟩,⟨trivial,λJ h1 h2=>jZ λK hK=> ?_⟩,⟨trivial,λJ h1 h2=>jZ λK hK=> ?_⟩⟩;all_goals simp[Region.binds]at h2
  all_goals first
   |(simp[-Bool.exists_bool,uA,dv,h1,h2,hx,OB];refine⟨_,(c4),hK _ (aP ?_ ?_)⟩<;>simp[dv,qX,h1,h2])
   |(simp[-Bool.exists_bool,uA,dv,h1,h2,hx,OB];refine⟨_,(c8),hK _ (aP ?_ ?_)⟩<;>simp[dv,qX,h1,h2])
   |(simp[-Bool.exists_bool,uA,dv,h1,h2,hx,OB];refine⟨?_,hK _ (aP ?_ ?_)⟩;(focus omega);all_goals simp[dv,qX,h1,h2])
   |(simp[-Bool.exists_bool,uA,dv,h1,h2,hx,OB];refine hK _ (aP ?_ ?_)<;>simp[dv,qX,h1,h2])
 .intro J hJ;have hJs:J 0=true/\J 1=true/\J 2=true/\J 3=true/\J 4=true/\J 5=true/\J 6=true/\J 7=true/\J 8=true/\J 9=true/\J 10=true/\J 11=true/\J 12=true/\J 13=true:=⟨hJ 0 (by decide),hJ 1 (by decide),hJ 2 (by decide),hJ 3 (by decide),hJ 4 (by decide),hJ 5 (by decide),hJ 6 (by decide),hJ 7 (by decide),hJ 8 (by decide),hJ 9 (by decide),hJ 10 (by decide),hJ 11 (by decide),hJ 12 (by decide),hJ 13 (by decide)⟩;simp only[dv,hJs,eS];clear hJs hJ J;refine bK ?_;exact aO results184
theorem aHv[aG prog][fI prog](b:bC)(ss:List iX)(x:jV)(hs:aV b<=274877906944)(hx:x.text.length<=268435456)(hl:ss.length<=1099511627776)(hr:∀x∈ss,x.mF.length<=1099511627776)(yO:∀n,0<=bS ss n/\bS ss n<=999)(hop:x.op=5):
  Ok prog 184 [.agg (aZ .view b),.sl .view 1 (ss.map (gK .view)),.agg (nR x)] (.iL [.agg (aZ .own (dE b ss x).1),.str (dE b ss x).2.1,.str (dE b ss x).2.2]):=by
 have c1:=nE b hs;have hn:b.aJ.length<=274877906944:=by simp only[aV,dS]at hs;omega
 obtain⟨op,tx⟩:=x;simp only at hx hop;have c2:=sM tx (by omega);have c3:=rH b tx (by omega);have c4:=uR ss tx hl hr;have c5:=jS tx (by omega);have c6:=mM (b.aJ.length:Int) 1 39;have hcn:0<=bF b tx/\bF b tx<=(b.aJ.length:Int):=by unfold bF;have:=pD (λx:kG=>decide (x.name=tx)) b.aJ;omega
 have Vy:=yO tx;have c7:=iP (bF b tx) (by omega);have c8:=iP (bS ss tx) (by omega);have z7:=kK (bF b tx) (by omega) (by omega);have z8:=kK (bS ss tx) (by omega) (by omega);simp only[aZ]at c1 c3;clear hr yO;simp only[dE,zY,DT,MC];generalize Lib.itoa (bF b tx)=i7 at*;generalize Lib.itoa (bS ss tx)=i8 at*;generalize bF b tx=cn at*;generalize bS ss tx=cc at*;subst hop;rw[eC (by decide),eC (by decide),eC (by decide),eC (by decide),eM rfl];refine dN aK func184 ntmps184 ?_;refine bK ?_;exact aO results184
theorem aHw[aG prog][fI prog](b:bC)(ss:List iX)(x:jV)(hs:aV b<=274877906944)(hx:x.text.length<=268435456)(hl:ss.length<=1099511627776)(hr:∀x∈ss,x.mF.length<=1099511627776)(yO:∀n,0<=bS ss n/\bS ss n<=999)(hop:x.op=1):
  Ok prog 165 [.agg (aZ .view b),.sl .view 1 (ss.map (gK .view)),.agg (nR x)] (.iL [.agg (aZ .own (dE b ss x).1),.str (dE b ss x).2.1,.str (dE b ss x).2.2]):=by
 have c1:=nG b hs;have hn:b.aJ.length<=274877906944:=by simp only[aV,dS]at hs;omega
 obtain⟨op,tx⟩:=x;simp only at hx hop;have c2:=sN tx (by omega);have c3:=rJ b tx (by omega);have c4:=uS ss tx hl hr;have c5:=gY tx (by omega);have c6:=jG (b.aJ.length:Int) 1 39;have hcn:0<=bF b tx/\bF b tx<=(b.aJ.length:Int):=by unfold bF;have:=pD (λx:kG=>decide (x.name=tx)) b.aJ;omega
 have Vy:=yO tx;have c7:=iQ (bF b tx) (by omega);have c8:=iQ (bS ss tx) (by omega);have z7:=kK (bF b tx) (by omega) (by omega);have z8:=kK (bS ss tx) (by omega) (by omega);simp only[aZ]at c1 c3;clear hr yO;simp only[dE,zY,DT,MC];generalize Lib.itoa (bF b tx)=i7 at*;generalize Lib.itoa (bS ss tx)=i8 at*;generalize bF b tx=cn at*;generalize bS ss tx=cc at*;subst hop;rw[eM rfl];refine dN aK func165 ntmps165 ?_;refine bK ?_;exact aO results165
theorem aHx[aG prog][fI prog](b:bC)(ss:List iX)(x:jV)(hs:aV b<=274877906944)(hx:x.text.length<=268435456)(hl:ss.length<=1099511627776)(hr:∀x∈ss,x.mF.length<=1099511627776)(yO:∀n,0<=bS ss n/\bS ss n<=999)(hop:x.op=2):
  Ok prog 165 [.agg (aZ .view b),.sl .view 1 (ss.map (gK .view)),.agg (nR x)] (.iL [.agg (aZ .own (dE b ss x).1),.str (dE b ss x).2.1,.str (dE b ss x).2.2]):=by
 have c1:=nG b hs;have hn:b.aJ.length<=274877906944:=by simp only[aV,dS]at hs;omega
 obtain⟨op,tx⟩:=x;simp only at hx hop;have c2:=sN tx (by omega);have c3:=rJ b tx (by omega);have c4:=uS ss tx hl hr;have c5:=gY tx (by omega);have c6:=jG (b.aJ.length:Int) 1 39;have hcn:0<=bF b tx/\bF b tx<=(b.aJ.length:Int):=by unfold bF;have:=pD (λx:kG=>decide (x.name=tx)) b.aJ;omega
 have Vy:=yO tx;have c7:=iQ (bF b tx) (by omega);have c8:=iQ (bS ss tx) (by omega);have z7:=kK (bF b tx) (by omega) (by omega);have z8:=kK (bS ss tx) (by omega) (by omega);simp only[aZ]at c1 c3;clear hr yO;simp only[dE,zY,DT,MC];generalize Lib.itoa (bF b tx)=i7 at*;generalize Lib.itoa (bS ss tx)=i8 at*;generalize bF b tx=cn at*;generalize bS ss tx=cc at*;subst hop;rw[eC (by decide),eM rfl];by_cases hc:(1<=b.aJ.length/\b.aJ.length<=39)/\dW tx=true
 .rw [eM hc];rw[show(decide ((1:Int)<=(b.aJ.length:Int))&&decide ((b.aJ.length:Int)<=39))=true from by simp;omega]at c6;rw[hc.2]at c5;obtain⟨l0,hl0⟩:∃l,l=b.aJ++[(⟨tx,[],0,[]⟩:kG)]:=⟨_,rfl⟩;have hap:b.aJ.map (gU .own)++[[.str tx,.str [],.int .i64 0,.sl .own 2 []]]=l0.map (gU .own):=by rw[hl0];simp
  rw[<-hl0];clear hl0 hc;refine dN aK func165 ntmps165 ?_;have W:=aA hap hn;refine we ?_;exact aO results165
 .rw [eC hc];by_cases hc1:1<=b.aJ.length/\b.aJ.length<=39
  .have LH:dW tx=false:=by
    cases h:dW tx with
    |false=>rfl
    |true=>exact absurd ⟨hc1,h⟩ hc
   rw[show(decide ((1:Int)<=(b.aJ.length:Int))&&decide ((b.aJ.length:Int)<=39))=true from by simp;omega]at c6;rw[LH]at c5;clear hc;refine dN aK func165 ntmps165 ?_;refine bK ?_;exact aO results165
  .rw [show(decide ((1:Int)<=(b.aJ.length:Int))&&decide ((b.aJ.length:Int)<=39))=false from by simp;omega]at c6;clear hc;refine dN aK func165 ntmps165 ?_;refine bK ?_;exact aO results165
theorem aHy[aG prog][fI prog](b:bC)(ss:List iX)(x:jV)(hs:aV b<=274877906944)(hx:x.text.length<=268435456)(hl:ss.length<=1099511627776)(hr:∀x∈ss,x.mF.length<=1099511627776)(yO:∀n,0<=bS ss n/\bS ss n<=999)(hop:¬x.op=1/\¬x.op=2/\¬x.op=3/\¬x.op=4/\¬x.op=5):
  Ok prog 165 [.agg (aZ .view b),.sl .view 1 (ss.map (gK .view)),.agg (nR x)] (.iL [.agg (aZ .own (dE b ss x).1),.str (dE b ss x).2.1,.str (dE b ss x).2.2]):=by
 have c1:=nG b hs;have hn:b.aJ.length<=274877906944:=by simp only[aV,dS]at hs;omega
 obtain⟨op,tx⟩:=x;simp only at hx hop;have c2:=sN tx (by omega);have c3:=rJ b tx (by omega);have c4:=uS ss tx hl hr;have c5:=gY tx (by omega);have c6:=jG (b.aJ.length:Int) 1 39;have hcn:0<=bF b tx/\bF b tx<=(b.aJ.length:Int):=by unfold bF;have:=pD (λx:kG=>decide (x.name=tx)) b.aJ;omega
 have Vy:=yO tx;have c7:=iQ (bF b tx) (by omega);have c8:=iQ (bS ss tx) (by omega);have z7:=kK (bF b tx) (by omega) (by omega);have z8:=kK (bS ss tx) (by omega) (by omega);simp only[aZ]at c1 c3;clear hr yO;simp only[dE,zY,DT,MC];generalize Lib.itoa (bF b tx)=i7 at*;generalize Lib.itoa (bS ss tx)=i8 at*;generalize bF b tx=cn at*;generalize bS ss tx=cc at*;obtain⟨h1,h2,h3,h4,h5⟩:=hop;rw[eC h1,eC h2,eC h3,eC h4,eC h5];refine dN aK func165 ntmps165 ?_;have W:=aA h1 (aA h2 (aA h3 (aA h4 h5)));refine we ?_;exact aO results165
theorem aHz[aG prog][fI prog](b:bC)(ss:List iX)(x:jV)(hs:aV b<=274877906944)(hx:x.text.length<=268435456)(hl:ss.length<=1099511627776)(hr:∀x∈ss,x.mF.length<=1099511627776)(yO:∀n,0<=bS ss n/\bS ss n<=999)(hop:x.op=3):
  Ok prog 165 [.agg (aZ .view b),.sl .view 1 (ss.map (gK .view)),.agg (nR x)] (.iL [.agg (aZ .own (dE b ss x).1),.str (dE b ss x).2.1,.str (dE b ss x).2.2]):=by
 have c1:=nG b hs;have hn:b.aJ.length<=274877906944:=by simp only[aV,dS]at hs;omega
 obtain⟨op,tx⟩:=x;simp only at hx hop;have c2:=sN tx (by omega);have c3:=rJ b tx (by omega);have c4:=uS ss tx hl hr;have c5:=gY tx (by omega);have c6:=jG (b.aJ.length:Int) 1 39;have hcn:0<=bF b tx/\bF b tx<=(b.aJ.length:Int):=by unfold bF;have:=pD (λx:kG=>decide (x.name=tx)) b.aJ;omega
 have Vy:=yO tx;have c7:=iQ (bF b tx) (by omega);have c8:=iQ (bS ss tx) (by omega);have z7:=kK (bF b tx) (by omega) (by omega);have z8:=kK (bS ss tx) (by omega) (by omega);simp only[aZ]at c1 c3;clear hr yO;simp only[dE,zY,DT,MC];generalize Lib.itoa (bF b tx)=i7 at*;generalize Lib.itoa (bS ss tx)=i8 at*;generalize bF b tx=cn at*;generalize bS ss tx=cc at*;subst hop;rw[eC (by decide),eC (by decide),eM rfl];clear c2 c4 c5 c6 c8 z8 Vy hl;have OB:i7.length<=40:=by omega
 refine xA aK [10] func165 ntmps165 ?_;refine bK ?_;rw[vO];refine Mi (λJ=>⟨[.aB,.sl .view 1 (ss.map (gK .view)),.aB,.ptr 0 0 0 0,.aB,.ptr 1 0 0 0,.ptr 2 0 0 0,dv J 12 (.str []),dv J 13 (.str ([99,111,117,110,116,32]++tx++[32]++i7)),.ptr 5 0 0 0,.aB,.aB,.aB,.aB,.aB,.aB,.aB,.aB,.aB,.aB,.aB,.aB,.aB,.aB,.aB,.aB,.aB,.aB,.aB,.aB,.aB,.aB,.aB,.aB,.aB,.aB,.aB,.aB,.aB,.aB,.aB,.aB,dv J 0 (.agg [.obj 3 1,.obj 4 1]),dv J 1 (.ptr 1 0 0 1),dv J 2 (.str tx),dv J 3 (.str ([99,111,117,110,116,32]++tx)),dv J 4 (.str ([99,111,117,110,116,32]++tx++[32])),dv J 5 (.agg [.sl .view 4 (b.aJ.map (gU .view)),.sl .view 1 (b.bD.map nM)]),dv J 6 (.ptr 1 0 0 1),dv J 7 (.str tx),dv J 8 (.int .i64 cn),dv J 9 (.str i7),dv J 10 (.str ([99,111,117,110,116,32]++tx++[32]++i7)),.aB,.aB,.aB,.aB,.aB,.aB,.aB,.aB,.aB,.aB,.aB,.aB,.aB,.aB,.aB,.aB,.aB,.aB,.aB,.aB],[⟨true,true,2,0,[[.sl .view 4 (b.aJ.map (gU .view)),.sl .view 1 (b.bD.map nM)]]⟩,⟨true,true,2,0,[[.int .i64 3,.str tx]]⟩,⟨true,true,2,0,[if J 11=true then [.obj 3 1,.obj 4 1]else [.sl .own 4 [],.sl .own 1 []]]⟩,⟨true,false,4,1,b.aJ.map (gU .own)⟩,⟨true,false,1,1,b.bD.map nM⟩,⟨true,true,2,0,[[.obj 3 1,.obj 4 1]]⟩]⟩) (aP (by simp[dv,hx,OB]) (by simp[dv,hx,OB])) (by decide) ?_ ?_
 .simp only[zC,pS];refine⟨⟨trivial,λJ h1 h2=>jZ λK hK=> ?_⟩,⟨trivial,λJ h1 h2=>jZ λK hK=> ?_⟩,⟨trivial,λJ h1 h2=>jZ λK hK=> ?_⟩,⟨trivial,λJ h1 h2=>jZ λK hK=> ?_⟩,⟨trivial,λJ h1 h2=>jZ λK hK=> ?_⟩,⟨trivial,λJ h1 h2=>jZ λK hK=> ?_⟩,⟨trivial,λJ h1 h2=>jZ λK hK=> ?_⟩,⟨trivial,λJ h1 h2=>jZ λK hK=> ?_⟩,⟨trivial,λJ h1 h2=>jZ λK hK=> ?_⟩,⟨trivial,λJ h1 h2=>jZ λK hK=> ?_⟩,⟨trivial,λJ h1 h2=>jZ λK hK=> ?_⟩,⟨trivial,λJ h1 h2=>jZ λK hK=> ?_⟩,⟨trivial,λJ h1 h2=>jZ λK hK=> ?_⟩,⟨trivial,λJ h1 h2=>jZ λK hK=> ?_⟩⟩;all_goals simp[Region.binds]at h2
  all_goals first
   |(simp[-Bool.exists_bool,uA,dv,h1,h2,hx,OB];refine⟨_,(c3),hK _ (aP ?_ ?_)⟩<;>simp[dv,qX,h1,h2])
   |(simp[-Bool.exists_bool,uA,dv,h1,h2,hx,OB];refine⟨_,(c7),hK _ (aP ?_ ?_)⟩<;>simp[dv,qX,h1,h2])
   |(simp[-Bool.exists_bool,uA,dv,h1,h2,hx,OB];refine⟨?_,hK _ (aP ?_ ?_)⟩;(focus omega);all_goals simp[dv,qX,h1,h2])
   |(simp[-Bool.exists_bool,uA,dv,h1,h2,hx,OB];refine hK _ (aP ?_ ?_)<;>simp[dv,qX,h1,h2])
 .intro J hJ;have hJs:J 0=true/\J 1=true/\J 2=true/\J 3=true/\J 4=true/\J 5=true/\J 6=true/\J 7=true/\J 8=true/\J 9=true/\J 10=true/\J 11=true/\J 12=true/\J 13=true:=⟨hJ 0 (by decide),hJ 1 (by decide),hJ 2 (by decide),hJ 3 (by decide),hJ 4 (by decide),hJ 5 (by decide),hJ 6 (by decide),hJ 7 (by decide),hJ 8 (by decide),hJ 9 (by decide),hJ 10 (by decide),hJ 11 (by decide),hJ 12 (by decide),hJ 13 (by decide)⟩;simp only[dv,hJs,eS];clear hJs hJ J;refine bK ?_;exact aO results165
theorem aH0[aG prog][fI prog](b:bC)(ss:List iX)(x:jV)(hs:aV b<=274877906944)(hx:x.text.length<=268435456)(hl:ss.length<=1099511627776)(hr:∀x∈ss,x.mF.length<=1099511627776)(yO:∀n,0<=bS ss n/\bS ss n<=999)(hop:x.op=4):
  Ok prog 165 [.agg (aZ .view b),.sl .view 1 (ss.map (gK .view)),.agg (nR x)] (.iL [.agg (aZ .own (dE b ss x).1),.str (dE b ss x).2.1,.str (dE b ss x).2.2]):=by
 have c1:=nG b hs;have hn:b.aJ.length<=274877906944:=by simp only[aV,dS]at hs;omega
 obtain⟨op,tx⟩:=x;simp only at hx hop;have c2:=sN tx (by omega);have c3:=rJ b tx (by omega);have c4:=uS ss tx hl hr;have c5:=gY tx (by omega);have c6:=jG (b.aJ.length:Int) 1 39;have hcn:0<=bF b tx/\bF b tx<=(b.aJ.length:Int):=by unfold bF;have:=pD (λx:kG=>decide (x.name=tx)) b.aJ;omega
 have Vy:=yO tx;have c7:=iQ (bF b tx) (by omega);have c8:=iQ (bS ss tx) (by omega);have z7:=kK (bF b tx) (by omega) (by omega);have z8:=kK (bS ss tx) (by omega) (by omega);simp only[aZ]at c1 c3;clear hr yO;simp only[dE,zY,DT,MC];generalize Lib.itoa (bF b tx)=i7 at*;generalize Lib.itoa (bS ss tx)=i8 at*;generalize bF b tx=cn at*;generalize bS ss tx=cc at*;subst hop;rw[eC (by decide),eC (by decide),eC (by decide),eM rfl];clear c2 c3 c5 c6 c7 z7 hcn;have OB:i8.length<=40:=by omega
 refine xA aK [12] func165 ntmps165 ?_;refine bK ?_;rw[vO];refine Mi (λJ=>⟨[.aB,.sl .view 1 (ss.map (gK .view)),.aB,.ptr 0 0 0 0,.aB,.ptr 1 0 0 0,.ptr 2 0 0 0,dv J 12 (.str []),dv J 13 (.str ([108,111,111,107,32]++tx++[32]++i8)),.ptr 5 0 0 0,.aB,.aB,.aB,.aB,.aB,.aB,.aB,.aB,.aB,.aB,.aB,.aB,.aB,.aB,.aB,.aB,.aB,.aB,.aB,.aB,.aB,.aB,.aB,.aB,.aB,.aB,.aB,.aB,.aB,.aB,.aB,.aB,.aB,.aB,.aB,.aB,.aB,.aB,.aB,.aB,.aB,.aB,.aB,.aB,.aB,dv J 0 (.agg [.obj 3 1,.obj 4 1]),dv J 1 (.ptr 1 0 0 1),dv J 2 (.str tx),dv J 3 (.str ([108,111,111,107,32]++tx)),dv J 4 (.str ([108,111,111,107,32]++tx++[32])),dv J 5 (.sl .view 1 (ss.map (gK .view))),dv J 6 (.ptr 1 0 0 1),dv J 7 (.str tx),dv J 8 (.int .i64 cc),dv J 9 (.str i8),dv J 10 (.str ([108,111,111,107,32]++tx++[32]++i8)),.aB,.aB,.aB,.aB,.aB,.aB,.aB],[⟨true,true,2,0,[[.sl .view 4 (b.aJ.map (gU .view)),.sl .view 1 (b.bD.map nM)]]⟩,⟨true,true,2,0,[[.int .i64 4,.str tx]]⟩,⟨true,true,2,0,[if J 11=true then [.obj 3 1,.obj 4 1]else [.sl .own 4 [],.sl .own 1 []]]⟩,⟨true,false,4,1,b.aJ.map (gU .own)⟩,⟨true,false,1,1,b.bD.map nM⟩,⟨true,true,2,0,[[.obj 3 1,.obj 4 1]]⟩]⟩) (aP (by simp[dv,hx,OB]) (by simp[dv,hx,OB])) (by decide) ?_ ?_
 .simp only[zC,pS];refine⟨⟨trivial,λJ h1 h2=>jZ λK hK=> ?_⟩,⟨trivial,λJ h1 h2=>jZ λK hK=> ?_⟩,⟨trivial,λJ h1 h2=>jZ λK hK=> ?_⟩,⟨trivial,λJ h1 h2=>jZ λK hK=> ?_⟩,⟨trivial,λJ h1 h2=>jZ λK hK=> ?_⟩,⟨trivial,λJ h1 h2=>jZ λK hK=> ?_⟩,⟨trivial,λJ h1 h2=>jZ λK hK=> ?_⟩,⟨trivial,λJ h1 h2=>jZ λK hK=> ?_⟩,⟨trivial,λJ h1 h2=>jZ λK hK=> ?_⟩,⟨trivial,λJ h1 h2=>jZ λK hK=> ?_⟩,⟨trivial,λJ h1 h2=>jZ λK hK=> ?_⟩,⟨trivial,λJ h1 h2=>jZ λK hK=> ?_⟩,⟨trivial,λJ h1 h2=>jZ λK hK=> ?_⟩,⟨trivial,λJ h1 h2=>jZ λK hK=> ?_⟩⟩;all_goals simp[Region.binds]at h2
  all_goals first
   |(simp[-Bool.exists_bool,uA,dv,h1,h2,hx,OB];refine⟨_,(c4),hK _ (aP ?_ ?_)⟩<;>simp[dv,qX,h1,h2])
   |(simp[-Bool.exists_bool,uA,dv,h1,h2,hx,OB];refine⟨_,(c8),hK _ (aP ?_ ?_)⟩<;>simp[dv,qX,h1,h2])
   |(simp[-Bool.exists_bool,uA,dv,h1,h2,hx,OB];refine⟨?_,hK _ (aP ?_ ?_)⟩;(focus omega);all_goals simp[dv,qX,h1,h2])
   |(simp[-Bool.exists_bool,uA,dv,h1,h2,hx,OB];refine hK _ (aP ?_ ?_)<;>simp[dv,qX,h1,h2])
 .intro J hJ;have hJs:J 0=true/\J 1=true/\J 2=true/\J 3=true/\J 4=true/\J 5=true/\J 6=true/\J 7=true/\J 8=true/\J 9=true/\J 10=true/\J 11=true/\J 12=true/\J 13=true:=⟨hJ 0 (by decide),hJ 1 (by decide),hJ 2 (by decide),hJ 3 (by decide),hJ 4 (by decide),hJ 5 (by decide),hJ 6 (by decide),hJ 7 (by decide),hJ 8 (by decide),hJ 9 (by decide),hJ 10 (by decide),hJ 11 (by decide),hJ 12 (by decide),hJ 13 (by decide)⟩;simp only[dv,hJs,eS];clear hJs hJ J;refine bK ?_;exact aO results165
theorem aH1[aG prog][fI prog](b:bC)(ss:List iX)(x:jV)(hs:aV b<=274877906944)(hx:x.text.length<=268435456)(hl:ss.length<=1099511627776)(hr:∀x∈ss,x.mF.length<=1099511627776)(yO:∀n,0<=bS ss n/\bS ss n<=999)(hop:x.op=5):
  Ok prog 165 [.agg (aZ .view b),.sl .view 1 (ss.map (gK .view)),.agg (nR x)] (.iL [.agg (aZ .own (dE b ss x).1),.str (dE b ss x).2.1,.str (dE b ss x).2.2]):=by
 have c1:=nG b hs;have hn:b.aJ.length<=274877906944:=by simp only[aV,dS]at hs;omega
 obtain⟨op,tx⟩:=x;simp only at hx hop;have c2:=sN tx (by omega);have c3:=rJ b tx (by omega);have c4:=uS ss tx hl hr;have c5:=gY tx (by omega);have c6:=jG (b.aJ.length:Int) 1 39;have hcn:0<=bF b tx/\bF b tx<=(b.aJ.length:Int):=by unfold bF;have:=pD (λx:kG=>decide (x.name=tx)) b.aJ;omega
 have Vy:=yO tx;have c7:=iQ (bF b tx) (by omega);have c8:=iQ (bS ss tx) (by omega);have z7:=kK (bF b tx) (by omega) (by omega);have z8:=kK (bS ss tx) (by omega) (by omega);simp only[aZ]at c1 c3;clear hr yO;simp only[dE,zY,DT,MC];generalize Lib.itoa (bF b tx)=i7 at*;generalize Lib.itoa (bS ss tx)=i8 at*;generalize bF b tx=cn at*;generalize bS ss tx=cc at*;subst hop;rw[eC (by decide),eC (by decide),eC (by decide),eC (by decide),eM rfl];refine dN aK func165 ntmps165 ?_;refine bK ?_;exact aO results165
theorem Q8(p:aF)(a:aR)(k:Nat):dS cB (xQ p a k)=dS cB p.aL+1+aW a:=by
 have h1:bU cB (p.aL.take k)+bU cB (p.aL.drop k)=bU cB p.aL:=by rw[<-lL,pC]
 have h2:(p.aL.take k).length+(p.aL.drop k).length=p.aL.length:=by rw[<-eR,pC]
 have h3:cB (CZ p a)=aW a:=by unfold CZ;split<;>simp[cB]
 simp only[xQ,dS,eR,eL,lL,bU,h3];omega
theorem aRd(p:aF)(a:aR):aM (fF p a)<=aM p+aW a+1:=by
 have h:=Q8 p a (yJ p.aL a);unfold fF;split
 .split
  .omega
  .simp only[aM,h];omega
 .simp only[aM,h];omega
end Go.Proofs.YtanobkmhbpjnpaaGreatDoor
