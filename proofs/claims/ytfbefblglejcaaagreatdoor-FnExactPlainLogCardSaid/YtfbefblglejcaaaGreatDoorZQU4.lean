/- Proved here: steps towards the statement of this claim. No condition. -/
import Derived.Test.YtfbefblglejcaaaGreatDoorZQ1
import Derived.Test.YtfbefblglejcaaaGreatDoorZQR4
import Derived.Test.YtfbefblglejcaaaGreatDoorZQMK1
set_option linter.all false
set_option maxRecDepth 4000
set_option maxHeartbeats 4000000
namespace Go.Proofs.YtfbefblglejcaaaGreatDoor
open Go.Aw Proofs.Tryz List IntKind
end Go.Proofs.YtfbefblglejcaaaGreatDoor
set_option maxRecDepth 4000
set_option maxHeartbeats 4000000
namespace Go.Proofs.YtfbefblglejcaaaGreatDoor
open Go.Aw Proofs.Tryz List IntKind
end Go.Proofs.YtfbefblglejcaaaGreatDoor
set_option maxRecDepth 4000
set_option maxHeartbeats 4000000
namespace Go.Proofs.YtfbefblglejcaaaGreatDoor
open Go.Aw Proofs.Tryz List IntKind
theorem aAq{a b:aK}:aL a=aL b↔a=b:=by obtain⟨a1,a2⟩:=a;obtain⟨b1,b2⟩:=b;simp
theorem oC(a b:aK):EqA prog 43 (aL a) (aL b) (decide (a=b)):=
 aNd (f:=6) (ss:=[.str,.str]) (by decide) (by kernel_rfl) (by kernel_rfl) (by kernel_rfl) (by kernel_rfl) (by simp[yI,Sk]) (by simp[yI,Sk]) (by rw[aAq,decide_eq_true_iff])
def kM(a:aK)(m:dX):Bool:=decide (m.to=a)
theorem Ai[aC prog](p:aG)(a:aK)(hl:p.aN.length<=1099511627776):Ok prog 123 [.agg (aH .view p),.agg (aL a)] (.int .i64 (qF (kM a) p.aN)):=by
 refine bM aF func123 ntmps123 ?_;refine aY ?_;refine aO (ι:={k:Nat // k<=p.aN.length/\∀x∈p.aN.take k,kM a x=false}) (λt o i=>⟨bC t [(5,.int .i64 i.1)],o⟩)
  (λi=>p.aN.length-i.1) ⟨0,by simp⟩ aJ ?_
 rintro⟨k,hk,hpre⟩ K1 hK1;simp only[bC,cW,cU]at hK1⊢;have hk1:=oQ (k:=k);by_cases hlt:k<p.aN.length
 .have hg:=aE hlt;have W:=aA hk1 (aA hg hlt);have c0:=oC p.aN[k].to a;repeat' first|refine wf ?_|(refine sq ?_ ?_<;>intro hc<;>try exact hc.elim)|fail
  .all_goals try(refine aQ ?_;simp[aP,results123])
   rw[uS hlt (by simpa [kM]using hc) hpre]
  .exact hK1 _ ⟨k+1,by omega,cB hlt hpre (by simpa [kM]using hc)⟩ aJ (by simp only;omega)
 .have W:=hk1;refine we ?_;all_goals try(refine aQ ?_;simp[aP,results123])
  rw[nJ (iR (by omega) hpre)]
theorem aAr[aC prog](m:dX)(a:aK):Ok prog 255 [.agg (eX m),.eQ .view (aL a) 0] (.bool (kM a m)):=by
 refine bM aF func255 ntmps255 ?_;have c0:=oC m.to a;refine aY ?_;all_goals try(refine aQ ?_;simp[aP,results255])
 rfl
theorem ay[aC prog](l:List dX)(a:aK)(hl:l.length<=1099511627776):Ok prog 254 [.sl .view 5 (l.map eX),.fn 255 [.eQ .view (aL a) 0]] (.int .i64 (qF (kM a) l)):=by
 refine bM aF func254 ntmps254 ?_;refine aY ?_;refine aO (ι:={k:Nat // k<=l.length/\∀x∈l.take k,kM a x=false}) (λt o i=>⟨bC t [(8,.int .i64 i.1),(5,.undef)],o⟩)
  (λi=>l.length-i.1) ⟨0,by simp⟩ aJ ?_
 rintro⟨k,hk,hpre⟩ K1 hK1;simp only[bC,cW,cU]at hK1⊢;have hk1:=oQ (k:=k);by_cases hlt:k<l.length
 .have hg:=aE hlt;have W:=aA hk1 (aA hg hlt);have c0:=aAr l[k] a;repeat' first|refine wf ?_|(refine sq ?_ ?_<;>intro hc<;>try exact hc.elim)|fail
  .all_goals try(refine aQ ?_;simp[aP,results254])
   rw[uS hlt (by simpa using hc) hpre]
  .exact hK1 _ ⟨k+1,by omega,cB hlt hpre (by simpa using hc)⟩ aJ (by simp only;omega)
 .have W:=hk1;refine we ?_;all_goals try(refine aQ ?_;simp[aP,results254])
  rw[nJ (iR (by omega) hpre)]
def iO(a x:aK):Bool:=decide (x=a)
theorem BK[aC prog](l:List aK)(a:aK)(hl:l.length<=1099511627776):Ok prog 180 [.sl .view 2 (l.map aL),.agg (aL a)] (.bool (l.any (iO a))):=by
 refine bM aF func180 ntmps180 ?_;refine aY ?_;refine aO (ι:={k:Nat // k<=l.length/\∀x∈l.take k,iO a x=false}) (λt o i=>⟨bC t [(5,.int .i64 i.1)],o⟩)
  (λi=>l.length-i.1) ⟨0,by simp,by simp⟩ aJ ?_
 rintro⟨k,hk,hi⟩ K1 hK1;simp only[bC,cW,cU]at hK1⊢;have hk1:=oQ (k:=k);by_cases hlt:k<l.length
 .have hg:=aE hlt;have W:=aA hk1 (aA hg hlt);have c0:=oC l[k] a;repeat' first|refine wf ?_|(refine sq ?_ ?_<;>intro hc<;>try exact hc.elim)|fail
  .all_goals try(refine aQ ?_;simp[aP,results180])
   refine⟨_,fS hlt,by simpa [iO]using hc⟩
  .exact hK1 _ ⟨k+1,by omega,cB hlt hi (by simpa [iO]using hc)⟩ (aV 1) (by simp only;omega)
 .have W:=hk1;refine we ?_;all_goals try(refine aQ ?_;simp[aP,results180])
  have:=iR (by omega) hi;simpa using this
theorem XJ[aC prog](l:List aK)(a:aK)(hl:l.length<=1099511627776):Ok prog 287 [.sl .view 2 (l.map aL),.agg (aL a)] (.int .i64 (qF (iO a) l)):=by
 refine bM aF func287 ntmps287 ?_;refine aY ?_;refine aO (ι:={k:Nat // k<=l.length/\∀x∈l.take k,iO a x=false}) (λt o i=>⟨bC t [(8,.int .i64 i.1),(5,.undef)],o⟩)
  (λi=>l.length-i.1) ⟨0,by simp,by simp⟩ aJ ?_
 rintro⟨k,hk,hi⟩ K1 hK1;simp only[bC,cW,cU]at hK1⊢;have hk1:=oQ (k:=k);by_cases hlt:k<l.length
 .have hg:=aE hlt;have hq:EqA prog 43 (aL a) (aL l[k]) (decide (a=l[k])):=oC a l[k];have W:=aA hk1 (aA hg hlt);have c0:=hq;repeat' first|refine wf ?_|(refine sq ?_ ?_<;>intro hc<;>try exact hc.elim)|fail
  .all_goals try(refine aQ ?_;simp[aP,results287])
   rw[uS hlt (by simp[iO];exact hc.symm) hi]
  .exact hK1 _ ⟨k+1,by omega,cB hlt hi (by simp[iO];intro h;exact hc h.symm)⟩ (aV 1) (by simp only;omega)
 .have W:=hk1;refine we ?_;all_goals try(refine aQ ?_;simp[aP,results287])
  rw[nJ (iR (by omega) hi)]
theorem AP[aC prog](l:List aK)(a:aK)(hl:l.length<=1099511627776):Ok prog 256 [.sl .view 2 (l.map aL),.agg (aL a)] (.bool (l.any (iO a))):=by
 have c1:=XJ l a hl;simp only[aL]at c1;refine bM aF func256 ntmps256 ?_;refine aY ?_;all_goals try(refine aQ ?_;simp[aP,results256])
 exact Gj _ _
theorem Sl[aC prog](l:List aK)(a:aK)(hl:l.length<=1099511627776):Ok prog 208 [.sl .view 2 (l.map aL),.agg (aL a)] (.bool (l.any (iO a))):=by have c1:=AP l a hl;simp only[aL]at c1;refine bM aF func208 ntmps208 ?_;refine aY ?_;exact aD results208
end Go.Proofs.YtfbefblglejcaaaGreatDoor
set_option maxRecDepth 4000
set_option maxHeartbeats 4000000
namespace Go.Proofs.YtfbefblglejcaaaGreatDoor
open Go.Aw Proofs.Tryz List IntKind
theorem DV{α β:Type}(f:α->β)(l:List α)(k:Nat)(h:k<l.length):(l.take (k+1)).map f=(l.take k).map f++[f l[k]]:=by rw[eI h,oT];rfl
theorem JR[aC prog](l:List oN)(hl:l.length<=1099511627776):Ok prog 169 [.sl .view 2 (l.map uR)] (.sl .own 2 (l.map uR)):=by refine bM aF func169 ntmps169 ?_;refine aY ?_;exact aD results169
theorem XN[aC prog](t:bT)(hl:t.attrs.length<=1099511627776):Ok prog 198 [.agg (cZ .view t)] (.agg (cZ .own t)):=by refine bM aF func198 ntmps198 ?_;refine aY ?_;exact aD results198
theorem UW[aC prog](l:List bT)(hs:bQ bX l<=274877906944):Ok prog 144 [.sl .view 4 (l.map (cZ .view))] (.sl .own 4 (l.map (cZ .own))):=by
 simp only[bQ]at hs;refine bM aF func144 ntmps144 ?_;refine aY ?_;refine aO (ι:={q:Nat×Nat // q.1<=l.length/\1<=q.2}) (λt o i=>⟨bC t [(3,.obj 0 i.1.2),(9,.int .i64 i.1.1),(5,.undef)],o.take 0++[⟨true,false,4,i.1.2,(l.take i.1.1).map (cZ .own)⟩]⟩)
  (λi=>l.length-i.1.1) ⟨(0,1),by simp,by first|(simp;done)|(simp only;omega)⟩ aJ ?_
 rintro⟨⟨k,v⟩,hk,hv⟩ K1 hK1;simp only at hk hv;simp only[bC,cW,cU,eL,fX,eA,eM]at hK1⊢;have hk1:=oQ (k:=k);by_cases hlt:k<l.length
 .have hg:=aE hlt;have hps:=DV (cZ .own) l k hlt;have hz:=dK bX l k hlt;simp only[bX,bQ]at hz;have c1:=XN l[k] (by omega);simp only[cZ]at c1;have KF:((l.take k).map (cZ .own)).length=k:=by simp;omega
  generalize (l.take k).map (cZ .own)=g at*;have W:=aA hk1 (aA hg (aA hlt KF));refine we ?_;all_goals refine hK1 _ ⟨(k+1,v+1),by simp only;omega,by simp only;omega⟩ (aV 1 (by simp[hps])) (by simp only;omega)
 .have htk:l.take k=l:=cY (by omega);rw[htk];have W:=hk1;refine we ?_;exact aD results144
theorem UX[aC prog](l:List bT)(hs:bQ bX l<=274877906944):Ok prog 109 [.sl .view 4 (l.map (cZ .view))] (.sl .own 4 (l.map (cZ .own))):=by
 simp only[bQ]at hs;refine bM aF func109 ntmps109 ?_;refine aY ?_;refine aO (ι:={q:Nat×Nat // q.1<=l.length/\1<=q.2}) (λt o i=>⟨bC t [(3,.obj 0 i.1.2),(4,.int .i64 i.1.1),(5,.undef)],o.take 0++[⟨true,false,4,i.1.2,(l.take i.1.1).map (cZ .own)⟩]⟩)
  (λi=>l.length-i.1.1) ⟨(0,1),by simp,by first|(simp;done)|(simp only;omega)⟩ aJ ?_
 rintro⟨⟨k,v⟩,hk,hv⟩ K1 hK1;simp only at hk hv;simp only[bC,cW,cU,eL,fX,eA,eM]at hK1⊢;have hk1:=oQ (k:=k);by_cases hlt:k<l.length
 .have hg:=aE hlt;have hps:=DV (cZ .own) l k hlt;have hz:=dK bX l k hlt;simp only[bX,bQ]at hz;have c1:=JR l[k].attrs (by omega);have KF:((l.take k).map (cZ .own)).length=k:=by simp;omega
  generalize (l.take k).map (cZ .own)=g at*;have W:=aA hk1 (aA hg (aA hlt KF));refine we ?_;all_goals refine hK1 _ ⟨(k+1,v+1),by simp only;omega,by simp only;omega⟩ (aV 1 (by simp[hps])) (by simp only;omega)
 .have htk:l.take k=l:=cY (by omega);rw[htk];have W:=hk1;refine we ?_;exact aD results109
theorem Jb[aC prog](a:eU)(hs:eD a<=274877906944):Ok prog 143 [.agg (bN .view a)] (.agg (bN .own a)):=by simp only[eD,bQ]at hs;refine bM aF func143 ntmps143 ?_;refine aY ?_;exact aD results143
theorem UY[aC prog](a:eU)(hs:eD a<=274877906944):Ok prog 108 [.agg (bN .view a)] (.agg (bN .own a)):=by simp only[eD,bQ]at hs;refine bM aF func108 ntmps108 ?_;refine aY ?_;exact aD results108
def kG(t:nI):List bT:=if t.rest=[]\/t.rest.head? =some 60 then []else [⟨3,[],[],t.rest⟩]
end Go.Proofs.YtfbefblglejcaaaGreatDoor
set_option maxRecDepth 4000
set_option maxHeartbeats 4000000
namespace Go.Proofs.YtfbefblglejcaaaGreatDoor
open Go.Aw Proofs.Tryz List IntKind
def lK(l:List bB):Bool:=l.all dA&&decide (l.length<=4)
def nV(p:eU):Bool:=
 if p.isSet=true then lK p.fC&&lK p.gX&&lK p.gY&&(p.tK == [] || isValue p.tK)
 else p.fC == []&&p.gX == []&&p.gY == []&&p.tK == []
def vY:bB:=[115,99,114,105,112,116]
def zI:bB:=[115,116,121,108,101]
def Ll:bB:=[105,109,103]
def pE:bB:=[110,111,110,99,101,32]
def words(w:bB)(l:List bB):bB:=Lib.join (w::l) [32]
def XO(n:bB):bB:=if n=[]then []else 59::(pE++n)
def iT(p:eU):bB:=
 if nV p=true/\p.isSet=true then words vY p.fC++59::(words zI p.gX++59::(words Ll p.gY++XO p.tK))else []
def oO:eU:=⟨false,[],[],[],[]⟩
def rW(f:bB->bB)(s:bB):eU:=
 ⟨true,(dE 32 ((dE 59 s).getD 0 [])).tail,(dE 32 ((dE 59 s).getD 1 [])).tail,(dE 32 ((dE 59 s).getD 2 [])).tail,match (dE 59 s)[3]? with|some x=>f x|none=>[]⟩
def vE(f:bB->bB)(s:bB):eU×Bool:=
 if s=[]then(oO,true)else if (dE 59 s).length<3 then(oO,false)else if iT (rW f s)=s then(rW f s,true)else(oO,false)
def rR(x:bB):bB:=if pE.isPrefixOf x then x.drop 6 else x
def qG(x:bB):bB:=if 6<x.length then x.drop 6 else []
theorem XP(c:UInt8)(hc:c.toNat<97):∀(s:bB),dA s=true->∀x∈s,x≠c:=by intro s h x hx e;subst e;simp only[dA,eJ,fN]at h;have:=h.1 x hx;simp[lowerB]at this;omega
theorem xw:∀(s:bB),isValue s=true->∀x∈s,x≠59:=by intro s h x hx e;subst e;simp only[isValue,eJ,fN]at h;have:=h.1 _ hx;simp[wY]at this
theorem Lm(w:bB)(hw:∀x∈w,x≠59):∀(l:List bB),l.all dA=true->∀x∈words w l,x≠59:=by
 intro l hl x hx;have key:∀(l:List bB),(∀s∈l,∀x∈s,x≠(59:UInt8))->∀x∈Lib.join l [32],x≠(59:UInt8):=by
  intro l;unfold Lib.join;induction l with
  |nil=>intro _ x hx;simp at hx
  |cons a l ih=>
   intro h x hx;cases l with
   |nil=>simp at hx;exact h a (by simp) x hx
   |cons b l=>
    rw[intercalate_cons_cons]at hx;simp only[fL]at hx;rcases hx with(hx|hx)|hx
    .exact h a (by simp) x hx
    .simp at hx;subst hx;decide
    .exact ih (λs hs=>h s (by simp[hs])) x hx
 refine key (w::l) (λs hs=> ?_) x hx;rcases lB.1 hs with rfl|hs
 .exact hw
 .exact XP 59 (by decide) s (fN.1 hl s hs)
theorem aE2(p:eU)(h:nV p=true)(hs:p.isSet=true):
  dE 59 (iT p)=words vY p.fC::words zI p.gX::words Ll p.gY::(if p.tK=[]then []else [pE++p.tK]):=by
 simp only[nV,hs,gC,lK,eJ]at h;obtain⟨⟨⟨h1,h2⟩,h3⟩,h4⟩:=h;have hp:nV p=true:=by simp only[nV,hs,gC,lK,eJ];exact⟨⟨⟨h1,h2⟩,h3⟩,h4⟩
 unfold iT;rw[eK ⟨hp,hs⟩,DN _ _ _ (Lm vY (by decide) _ h1.1),DN _ _ _ (Lm zI (by decide) _ h2.1)];unfold XO;by_cases hn:p.tK=[]
 .rw [eK hn,eK hn,fW,BH _ _ (Lm Ll (by decide) _ h3.1)]
 .rw [cX hn,cX hn,DN _ _ _ (Lm Ll (by decide) _ h3.1),BH];intro x hx;rcases fL.1 hx with hx|hx
  .exact (by decide:∀x∈pE,x≠59) x hx
  .have hv:isValue p.tK=true:=by simp only[tI,Bs]at h4;exact h4.resolve_left hn
   exact xw _ hv x hx
theorem aNe{p:eU}{s:bB}(hs:s≠[])(h:iT p=s):nV p=true/\p.isSet=true:=by
 unfold iT at h;by_cases hc:nV p=true/\p.isSet=true
 .exact hc
 .rw [cX hc]at h;exact absurd h.symm hs
theorem Sv{f g:bB->bB}(hf:∀n,n≠[]->f (pE++n)=n)(hg:∀n,n≠[]->g (pE++n)=n){s:bB}(hs:s≠[])(h:iT (rW f s)=s):rW f s=rW g s:=by
 obtain⟨h1,h2⟩:=aNe hs h;have h3:=aE2 _ h1 h2;rw[h]at h3;unfold rW;congr 1;cases hx:(dE 59 s)[3]? with
 |none=>rfl
 |some x=>
  dsimp only;rw[h3]at hx;by_cases hn:(rW f s).tK=[]
  .rw [eK hn]at hx;simp at hx
  .rw [cX hn]at hx;simp only[wA,sR,eC]at hx;rw[<-hx,hf _ hn,hg _ hn]
theorem Wo(n:bB)(h:n≠[]):rR (pE++n)=n:=by unfold rR;rw[eK (by simp[isPrefixOf_iff_prefix])];simp[pE]
theorem Wp(n:bB)(h:n≠[]):qG (pE++n)=n:=by unfold qG;have:0<n.length:=CH.2 h;rw[eK (by simp[pE];omega)];simp[pE]
theorem xx(s:bB):vE rR s=vE qG s:=by
 unfold vE;by_cases hs:s=[]
 .rw [eK hs,eK hs]
 rw[cX hs,cX hs];by_cases hl:(dE 59 s).length<3
 .rw [eK hl,eK hl]
 rw[cX hl,cX hl];by_cases h1:iT (rW rR s)=s
 .have e:=Sv Wo Wp hs h1;rw[eK h1,eK (by rw[<-e];exact h1),e]
 .by_cases h2:iT (rW qG s)=s
  .have e:=Sv Wp Wo hs h2;exact absurd (by rw[<-e];exact h2) h1
  .rw [cX h1,cX h2]
def fT(s:bB):eU×Bool:=vE qG s
end Go.Proofs.YtfbefblglejcaaaGreatDoor
set_option maxRecDepth 4000
set_option maxHeartbeats 4000000
namespace Go.Proofs.YtfbefblglejcaaaGreatDoor
open Go.Aw Proofs.Tryz List IntKind
theorem aFc{l:List bB}{k:Nat}(h:k<l.length)(hc:dA l[k]=false):lK l=false:=by
 have:l.all dA=false:=by rw[all_eq_false];exact⟨l[k],fS h,by simp[hc]⟩
 simp[lK,this]
theorem aAz{l:List bB}(h:∀x∈l,dA x=true):lK l=decide ((l.length:Int)<=4):=by
 have:l.all dA=true:=fN.2 h;have h1:decide ((l.length:Int)<=4)=decide (l.length<=4):=by simp only[rS];omega
 rw[lK,this,h1,Cp]
theorem EK[aC prog](l:List bB)(hs:bQ gG l<=1099511627776):Ok prog 220 [.sl .view 1 (l.map bW)] (.bool (lK l)):=by
 simp only[bQ]at hs;refine bM aF func220 ntmps220 ?_;refine aY ?_;refine aO (ι:={k:Nat // k<=l.length/\∀x∈l.take k,dA x=true}) (λt o i=>⟨bC t [(3,.int .i64 i.1)],o⟩)
  (λi=>l.length-i.1) ⟨0,by simp,by simp⟩ aJ ?_
 rintro⟨k,hk,hi⟩ K1 hK1;simp only[bC,cW,cU]at hK1⊢;have hk1:=oQ (k:=k);by_cases hlt:k<l.length
 .have hg:=aE hlt;have hel:=dK gG l k hlt;simp only[gG]at hel;have c1:=fD l[k] (by omega);generalize hb:dA l[k]=b at*;cases b
  .have W:=aA hk1 (aA hg hlt);refine we ?_;rw[aFc hlt hb];all_goals (try exact aD results220)
  .have W:=aA hk1 (aA hg hlt);refine we ?_;exact hK1 _ ⟨k+1,by omega,cB hlt hi hb⟩ aJ (by simp only;omega)
 .have W:=hk1;refine we ?_;rw[aAz (iR (by omega) hi)];all_goals (try exact aD results220)
theorem PQ[aC prog](p:eU)(hs:eD p<=1099511627776):Ok prog 167 [.agg (bN .view p)] (.bool (nV p)):=by
 simp only[eD]at hs;have c1:=EK p.fC (by omega);have c2:=EK p.gX (by omega);have c3:=EK p.gY (by omega);have c4:=yH p.tK (by omega);have l1:(p.fC == [])=decide ((p.fC.length:Int)=0):=by cases p.fC<;>simp<;>omega
 have l2:(p.gX == [])=decide ((p.gX.length:Int)=0):=by cases p.gX<;>simp<;>omega
 have l3:(p.gY == [])=decide ((p.gY.length:Int)=0):=by cases p.gY<;>simp<;>omega
 unfold nV;rw[l1,l2,l3];generalize lK p.fC=b1 at*;generalize lK p.gX=b2 at*;generalize lK p.gY=b3 at*;generalize isValue p.tK=b4 at*;generalize hb:p.isSet=b at*;cases b
 .refine bM aF func167 ntmps167 ?_;have W:=hb;repeat' first|refine wf ?_|(refine sq ?_ ?_<;>intro hc<;>try exact hc.elim)|fail
  all_goals try(refine aQ ?_;simp[aP,results167,hb])
  all_goals simp_all
 .refine bM aF func167 ntmps167 ?_;have W:=hb;repeat' first|refine wf ?_|(refine sq ?_ ?_<;>intro hc<;>try exact hc.elim)|fail
  all_goals try(refine aQ ?_;simp[aP,results167,hb])
  all_goals simp_all
theorem yh(w:bB)(l:List bB)(x:bB):words w (l++[x])=words w l++32::x:=by unfold words;rw[Lib.join_cons,Lib.join_cons];simp[Lib.joinTail]
theorem aA0(w:bB):words w []=w:=by simp[words,Lib.join_one]
theorem Ia(w:bB)(l:List bB):(words w l).length=w.length+l.length+bA gG l:=by
 unfold words;rw[Lib.join_cons];unfold Lib.joinTail;have:∀l:List bB,((l.map (([32]:bB)++ ·)).flatten).length=l.length+bA gG l:=by
  intro l;induction l with
  |nil=>simp[bA]
  |cons x l ih=>simp only[mC,pP,eR,ih,bA,gG,eN,eV];omega
 rw[eR,this];omega
theorem JU[aC prog](w:bB)(l:List bB)(hs:w.length+bQ gG l<=1099511627776):Ok prog 168 [.str w,.sl .view 1 (l.map bW)] (.str (words w l)):=by
 simp only[bQ]at hs;refine bM aF func168 ntmps168 ?_;refine aY ?_;refine aO (ι:={k:Nat // k<=l.length}) (λt o i=>⟨bC t [(5,.int .i64 i.1),(0,.str (words w (l.take i.1)))],o⟩)
  (λi=>l.length-i.1) ⟨0,by simp⟩ (aJ (by simp) (by simp[aA0])) ?_
 rintro⟨k,hk⟩ K1 hK1;simp only[bC,cW,cU]at hK1⊢;have hk1:=oQ (k:=k);by_cases hlt:k<l.length
 .have hg:=aE hlt;have hel:=dK gG l k hlt;simp only[gG]at hel;have hw:=Ia w (l.take k);have hts:=jV gG l k;have htl:(l.take k).length<=l.length:=by simp;omega
  have e:l.take (k+1)=l.take k++[l[k]]:=by rw[take_add_one,hg];rfl
  have e2:=yh w (l.take k) l[k];rw[<-e]at e2;generalize words w (l.take k)=q at*;have W:=aA hk1 (aA hg hlt);refine we ?_;exact hK1 _ ⟨k+1,by omega⟩ (aJ (by simp) (by simp[e2])) (by simp only;omega)
 .have htk:l.take k=l:=cY (by omega);rw[htk];have W:=hk1;refine we ?_;exact aD results168
theorem Bw{l:List bB}(h:lK l=true):l.length<=4/\bA gG l<=32:=by
 simp only[lK,eJ,fR,fN]at h;have key:∀l:List bB,(∀x∈l,dA x=true)->bA gG l<=8*l.length:=by
  intro l;induction l with
  |nil=>intro _;simp[bA]
  |cons x l ih=>
   intro hl;have h1:=hl x (by simp);simp only[dA,eJ,fR]at h1;have:=ih λy hy=>hl y (by simp[hy])
   simp only[bA,gG,eN];omega
 have:=key l h.1;exact⟨h.2,by omega⟩
theorem aA1{s:bB}(h:(s == [])=true\/isValue s=true):s.length<=20:=by
 rcases h with h|h
 .simp only[Bs]at h;simp[h]
 .simp only[isValue,eJ,fR]at h;exact h.2.2
theorem Sz{p:eU}(h:nV p=true)(hs:p.isSet=true):(words vY p.fC).length<=42/\(words zI p.gX).length<=41/\(words Ll p.gY).length<=39/\p.tK.length<=20:=by simp only[nV,hs,gC,eJ,tI]at h;obtain⟨⟨⟨h1,h2⟩,h3⟩,h4⟩:=h;have k1:=Bw h1;have k2:=Bw h2;have k3:=Bw h3;refine⟨by rw[Ia];simp[vY];omega,by rw[Ia];simp[zI];omega,by rw[Ia];simp[Ll];omega,aA1 h4⟩
theorem Iq[aC prog](p:eU)(hs:eD p<=274877906944):Ok prog 106 [.agg (bN .view p)] (.str (iT p)):=by
 have c0:=PQ p (by omega);simp only[bN]at c0;have hq:= @Sz p;simp only[eD]at hs;have c1:Ok prog 168 [.str [115,99,114,105,112,116],.sl .view 1 (p.fC.map bW)] (.str (words vY p.fC)):=JU vY p.fC (by simp[vY];omega);have c2:Ok prog 168 [.str [115,116,121,108,101],.sl .view 1 (p.gX.map bW)] (.str (words zI p.gX)):=JU zI p.gX (by simp[zI];omega);have c3:Ok prog 168 [.str [105,109,103],.sl .view 1 (p.gY.map bW)] (.str (words Ll p.gY)):=JU Ll p.gY (by simp[Ll];omega);unfold iT;by_cases h1:nV p=true
 .by_cases h2:p.isSet=true
  .obtain ⟨k1,k2,k3,k4⟩:=hq h1 h2;rw[eK ⟨h1,h2⟩];unfold XO;rw[h1,h2]at c0;generalize words vY p.fC=q1 at*;generalize words zI p.gX=q2 at*;generalize words Ll p.gY=q3 at*;by_cases hn:p.tK=[]
   .rw [eK hn];rw[hn]at c0;refine bM aF func106 ntmps106 ?_;have W:=aA h2 hn;have V:=aA h2 hn;refine we ?_;all_goals try(refine aQ ?_;simp[aP,results106,h2,hn])
   .rw [cX hn];refine bM aF func106 ntmps106 ?_;have W:=aA h2 hn;have V:=aA h2 hn;repeat' first|refine wf ?_|(refine sq ?_ ?_<;>intro hc<;>try exact hc.elim)|fail
    all_goals try(refine aQ ?_;simp[aP,results106,h2,hn,pE])
    all_goals (exact absurd (by assumption) hn)
  .rw [cX (λh=>h2 h.2)]
   simp only[yW]at h2;rw[h1,h2]at c0;refine bM aF func106 ntmps106 ?_;have W:=h2;have V:=h2;refine we ?_;exact aD results106
 .rw [cX (λh=>h1 h.1)]
  simp only[yW]at h1;rw[h1]at c0;refine bM aF func106 ntmps106 ?_;refine aY ?_;exact aD results106
end Go.Proofs.YtfbefblglejcaaaGreatDoor
set_option maxRecDepth 100000
set_option maxHeartbeats 4000000
namespace Go.Proofs.YtfbefblglejcaaaGreatDoor
open Go.Aw Go.RowKit Go.Lib Proofs.Tryz List IntKind
theorem aNo(w:World)(vb vc:Nat)(hc:bL w vb 0 mkPairs):
  Calls prog 314 #[.slice (some ⟨vb,0,none⟩) 4 vc] w λe w'=>∃rb sb sc r0,e= .returned (.pointer (some ⟨rb,0,none⟩))/\w.heap.size<=rb/\rb<w'.heap.size/\w'.cell? ⟨rb,0,none⟩=some (.int .u32 0)/\w'.cell? ⟨rb,1,none⟩=some (.int .i32 0)/\w'.cell? ⟨rb,3,none⟩=some r0/\(∀j,w'.frozen? ⟨rb,j,none⟩=false)/\
   w'.cell? ⟨rb,4,none⟩=some (.slice (some ⟨sb,0,none⟩) 4 sc)/\bL w' sb 0 mkPairs/\sb≠rb/\Ext w w':=by
 obtain⟨inf,Ka,hq⟩:=tD.1 (show(prog.info? 9).map (λi=>(i.size,i.bytes))=some (1,16)by kernel_rfl);obtain⟨hsz,hby⟩:=Prod.mk.inj hq;obtain⟨z,hz0⟩:∃z,inf.zero=some z:=by
  have h:=Tryz.zsz9;simp only[iW,Ka]at h;cases hz:inf.zero with
  |none=>simp[hz]at h
  |some z=>exact⟨z,rfl⟩
 obtain⟨G,hG⟩:∃G,G=grownCap w 4 0 9:=⟨_,rfl⟩;obtain⟨ROW,hROW⟩:∃ROW:Array Value,ROW=mkPairs.toArray++Builtin.zeroCells z.cells (G-4):=⟨_,rfl⟩;have hap:∀ty,(Builtin.append_ #[33,33] ty #[.slice none 0 0,.slice (some ⟨vb,0,none⟩) 4 vc]).run prog w= .ok (.slice (some ⟨w.heap.size,0,none⟩) 4 G) (w.drew.alloc (.cells ROW 9)):=λty=>by have h:=(Go.Aw.Jz (P:=prog) (w:=w) (tS:=33) (xT:=33) (ty:=ty) Tryz.underlying33 ⟨_,Tryz.underlying33,λk h=>by cases h⟩ Ka hz0 (base:=none) (sLen:=0) (sCap:=0) (n:=4) (x:= .slice (some ⟨vb,0,none⟩) 4 vc) (by simp[Builtin.lenOf]) (news:=mkPairs) (olds:=[]) (λw' hw=>by rw[hsz];exact kK rfl (show bL w' vb 0 mkPairs from λj v hv=>by simpa [World.cell?,hw]using hc j v hv)) (λw' hw=>by rw[hsz];rfl) (by rw[hby];decide) (by decide)).2 (by decide);rw[hROW,hG];simpa using h
 have hself:=fO w.drew (.cells ROW 9);have hold:=heap_alloc w.drew (.cells ROW 9);have hx1:Ext w (w.drew.alloc (.cells ROW 9)):=⟨by simp,hold,⟨rfl,rfl,rfl⟩⟩;have hs1:(w.drew.alloc (.cells ROW 9)).heap.size=w.heap.size+1:=by simp
 generalize w.drew.alloc (.cells ROW 9)=W1 at*;have hc1:bL W1 w.heap.size 0 mkPairs:=λj v hv=>by
  have EP:W1.heap[w.heap.size]? =some (.cells ROW 9 (0,0)):=hself;have hj:=(cH.1 hv).1;have:ROW[j]? =some v:=by rw[hROW,tB (by simpa using hj)];simpa using hv
  simp[World.cell?,EP,this]
 clear hself hold hROW;subst hG
 go_enter func314,ntmps314
 go_wp2_with (at_builtin;refine Lib.wpList_append_run _ rfl _ _ _ _ rfl _ _ rfl rfl _ _ (hap _) ?_)
 go_ret
 have hself:=fO W1 (.cells #[Value.int IntKind.u32 0,Value.int IntKind.i32 0,Value.int IntKind.u32 0,Value.nilIface,Value.slice (some ⟨w.heap.size,0,none⟩) 4 (grownCap w 4 0 9)] 329);have hold:=heap_alloc W1 (.cells #[Value.int IntKind.u32 0,Value.int IntKind.i32 0,Value.int IntKind.u32 0,Value.nilIface,Value.slice (some ⟨w.heap.size,0,none⟩) 4 (grownCap w 4 0 9)] 329);have hsz2:(W1.alloc (.cells #[Value.int IntKind.u32 0,Value.int IntKind.i32 0,Value.int IntKind.u32 0,Value.nilIface,Value.slice (some ⟨w.heap.size,0,none⟩) 4 (grownCap w 4 0 9)] 329)).heap.size=W1.heap.size+1:=by simp
 have hsm:nS W1 (W1.alloc (.cells #[Value.int IntKind.u32 0,Value.int IntKind.i32 0,Value.int IntKind.u32 0,Value.nilIface,Value.slice (some ⟨w.heap.size,0,none⟩) 4 (grownCap w 4 0 9)] 329)):=⟨rfl,rfl,rfl⟩;generalize W1.alloc (.cells #[Value.int IntKind.u32 0,Value.int IntKind.i32 0,Value.int IntKind.u32 0,Value.nilIface,Value.slice (some ⟨w.heap.size,0,none⟩) 4 (grownCap w 4 0 9)] 329)=W2 at*;have EP:W2.heap[w.heap.size+1]? =some (.cells #[Value.int IntKind.u32 0,Value.int IntKind.i32 0,Value.int IntKind.u32 0,Value.nilIface,Value.slice (some ⟨w.heap.size,0,none⟩) 4 (grownCap w 4 0 9)] 329 (0,0)):=by rw[<-hs1];exact hself
 refine⟨w.heap.size+1,w.heap.size,grownCap w 4 0 9,.nilIface,rfl,by omega,by omega,by simp[World.cell?,EP],by simp[World.cell?,EP],by simp[World.cell?,EP],λj=>by simp[World.frozen?,EP],by simp[World.cell?,EP],λj v hv=> ?_,by omega,hx1.trans ⟨by omega,λb hb=>hold b hb,hsm⟩⟩;have h2:=hold w.heap.size (by omega);have:=hc1 j v hv;simpa [World.cell?,h2]using this
theorem aA8(w:World)(s:ByteArray)(hs:s.size<=1099511627776):
  Calls prog 303 #[.string s] w λe w'=>e= .returned (.string ⟨(s.data.toList.map tL).toArray⟩)/\Ext w w':=by
 have hbs:∀w:World,(Instr.buildSlice 33 4 #[(0,.string ⟨#[91]⟩),(1,.string ⟨#[60]⟩),(2,.string ⟨#[93]⟩),(3,.string ⟨#[62]⟩)]).run prog w= .ok (.slice (some ⟨w.heap.size,0,none⟩) 4 4) (w.alloc (.cells mkPairs.toArray 9)):=λw=>by
  letI:aC prog:={holds:=λ_=>True,low:=0,QR:=λ_ _=>Nat.zero_le _,Xe:=λ_ _ _ _=>trivial}
  have h:=Go.Aw.uZ (P:=prog) (t:=33) (e:=9) (n:=1) (by':=16) (len:=4) (vs:=mkPairs) (w:=w) (by kernel_rfl) (by kernel_rfl) rfl (by decide) (by intro v hv;simp only[mkPairs,lB,CM,FG]at hv;rcases hv with rfl|rfl|rfl|rfl<;>rfl);exact h
 go_enter func303,ntmps303
 go_wp2_with (simp only[hbs])
 have hself:=fO w (.cells #[Value.string ⟨#[91]⟩,Value.string ⟨#[60]⟩,Value.string ⟨#[93]⟩,Value.string ⟨#[62]⟩] 9);have hx:Ext w (w.alloc (.cells #[Value.string ⟨#[91]⟩,Value.string ⟨#[60]⟩,Value.string ⟨#[93]⟩,Value.string ⟨#[62]⟩] 9)):=⟨by simp,λb hb=>heap_alloc w _ b hb,⟨rfl,rfl,rfl⟩⟩;generalize w.alloc (.cells #[Value.string ⟨#[91]⟩,Value.string ⟨#[60]⟩,Value.string ⟨#[93]⟩,Value.string ⟨#[62]⟩] 9)=W1 at*;have hc:bL W1 w.heap.size 0 mkPairs:=λj v hv=>by have EP:W1.heap[w.heap.size]? =some (.cells mkPairs.toArray 9 (0,0)):=hself;simp[World.cell?,EP,hv]
 clear hself hbs;refine(aNo W1 w.heap.size 4 hc).mono ?_;rintro e W2 ⟨rb,sb,sc,r0,rfl,a1,a2,a3,a4,a5,a6,a7,a8,a9,a10⟩
 go_wp2_with (go_at_call 315;refine(yz _ rb sb sc r0 s hs a2 a3 a4 a5 a6 a7 a8 a9).mono ?_;rintro e W3 ⟨rfl,b1,b2,b3⟩)
 go_ret
 exact⟨rfl,⟨kO hx.size (kO a10.size b1),λb hb=>by
  have h1:=hx.size;have h2:=a10.size;rw[b2 b (by omega) (by omega),a10.old b (by omega),hx.old b hb],(hx.same.trans a10.same).trans b3⟩⟩
theorem qM[aC prog](s:bB)(hs:s.length<=1099511627776):Ok prog 303 [.str s] (.str (s.map tL)):=by
 intro w vs hg hargs;obtain⟨c,rest,rfl⟩:∃c rest,vs=c::rest:=by
  cases vs with
  |nil=>simp[Rc]at hargs
  |cons c rest=>exact⟨c,rest,rfl⟩
 simp only[Rc,R]at hargs;obtain⟨f1,f2,⟨rfl,_⟩,h2,_⟩:=hargs;obtain rfl:rest=[]:=by
  cases rest with
  |nil=>rfl
  |cons=>simp[Rc]at h2
 refine(aA8 w ⟨s.toArray⟩ (by simpa [ByteArray.size]using hs)).mono ?_;rintro e w' ⟨rfl,hx⟩;exact⟨.string ⟨(s.map tL).toArray⟩,[],by simp,by simp[R],by simp,by simp,hx.size,hx.old,hx.same⟩
end Go.Proofs.YtfbefblglejcaaaGreatDoor
set_option maxRecDepth 4000
set_option maxHeartbeats 4000000
namespace Go.Proofs.YtfbefblglejcaaaGreatDoor
open Go.Aw Proofs.Tryz List IntKind
theorem WB(u:List Nat)(b:Bool)(l:List jK):mX (iP u) b (l.map (fA .view))=l.map (fA .view):=by
 induction l with
 |nil=>rfl
 |cons x l ih=>rw[mC,mX,ih];simp[xR,rt,fA,iP]
theorem kP[aC prog](b:bE)(hs:aT b<=274877906944):Ok prog 145 [.agg (aU .view b)] (.agg (aU .own b)):=by
 simp only[aT,bQ]at hs;obtain⟨l,opens⟩:=b;simp only at hs;refine bM aF func145 ntmps145 ?_;refine aY ?_;refine aO (ι:={q:Nat×Nat // q.1<=l.length/\1<=q.2}) (λt o i=>⟨bC t [(14,.int .i64 i.1.1),(5,.undef),(10,.undef)],o.take 3++[⟨true,true,2,0,[[.obj 4 i.1.2,.obj 2 2]]⟩,⟨true,false,4,i.1.2,(l.take i.1.1).map (fA .own)⟩]⟩)
  (λi=>l.length-i.1.1) ⟨(0,1),by simp,by simp⟩ (vI 3 0 0 (ob:=⟨true,true,2,0,[[.sl .own 4 [],.obj 2 2]]⟩) (by rfl) (by rfl) (by rfl) (by simp) (by rfl) (by rfl) (by simp) (by simp[xR,rt,iP,WB])) ?_
 rintro⟨⟨k,v⟩,hk,hv⟩ K1 hK1;simp only at hk hv;simp only[bC,cW,cU,eL,fX,eA,eM]at hK1⊢;have hk1:=oQ (k:=k);by_cases hlt:k<l.length
 .have hg:=aE hlt;have hps:=DV (fA .own) l k hlt;have hz:=dK sM l k hlt;simp only[sM,bQ]at hz;have KF:((l.take k).map (fA .own)).length=k:=by simp;omega
  generalize (l.take k).map (fA .own)=g at*;have W:=aA hk1 (aA hg (aA hlt KF));refine we ?_;all_goals refine hK1 _ ⟨(k+1,v+1),by simp only;omega,by simp only;omega⟩ (aV 5 (by simp[hps])) (by simp only;omega)
 .have htk:l.take k=l:=cY (by omega);rw[htk];have W:=hk1;refine we ?_;exact aD results145
theorem kQ[aC prog](b:bE)(hs:aT b<=274877906944):Ok prog 110 [.agg (aU .view b)] (.agg (aU .own b)):=by
 simp only[aT,bQ]at hs;obtain⟨l,opens⟩:=b;simp only at hs;refine bM aF func110 ntmps110 ?_;refine aY ?_;refine aO (ι:={q:Nat×Nat // q.1<=l.length/\1<=q.2}) (λt o i=>⟨bC t [(4,.int .i64 i.1.1),(5,.undef),(10,.undef)],o.take 3++[⟨true,true,2,0,[[.obj 4 i.1.2,.obj 2 2]]⟩,⟨true,false,4,i.1.2,(l.take i.1.1).map (fA .own)⟩]⟩)
  (λi=>l.length-i.1.1) ⟨(0,1),by simp,by simp⟩ (vI 3 0 0 (ob:=⟨true,true,2,0,[[.sl .own 4 [],.obj 2 2]]⟩) (by rfl) (by rfl) (by rfl) (by simp) (by rfl) (by rfl) (by simp) (by simp[xR,rt,iP,WB])) ?_
 rintro⟨⟨k,v⟩,hk,hv⟩ K1 hK1;simp only at hk hv;simp only[bC,cW,cU,eL,fX,eA,eM]at hK1⊢;have hk1:=oQ (k:=k);by_cases hlt:k<l.length
 .have hg:=aE hlt;have hps:=DV (fA .own) l k hlt;have hz:=dK sM l k hlt;simp only[sM,bQ]at hz;have c1:=JR l[k].attrs (by omega);have KF:((l.take k).map (fA .own)).length=k:=by simp;omega
  generalize (l.take k).map (fA .own)=g at*;have W:=aA hk1 (aA hg (aA hlt KF));refine we ?_;all_goals refine hK1 _ ⟨(k+1,v+1),by simp only;omega,by simp only;omega⟩ (aV 5 (by simp[hps])) (by simp only;omega)
 .have htk:l.take k=l:=cY (by omega);rw[htk];have W:=hk1;refine we ?_;exact aD results110
end Go.Proofs.YtfbefblglejcaaaGreatDoor
set_option maxRecDepth 4000
set_option maxHeartbeats 4000000
namespace Go.Proofs.YtfbefblglejcaaaGreatDoor
open Go.Aw Proofs.Tryz List IntKind
theorem aBa(s:bB)(k:Nat)(h:k<s.length):(dM s)[k]? =some [.int .u8 s[k].toNat]:=by simp[dM,h]
theorem LC:∀s:bB,bytesOf (dM s)=some s
 |[]=>rfl
 |c::s=>by have ih:=LC s;simp only[dM,mC]at ih⊢;simp only[bytesOf,ih,mS,mA];simp
@[simp] theorem aO4(f:Tg->Option Tg)(b:Bool)(l:bB):mX f b (dM l)=dM l:=by
 induction l with
 |nil=>rfl
 |cons x l ih=>simp only[dM,mC,mX,xR,rt]at ih⊢;rw[ih]
def DY(s:bB)(k:Nat):bB:=(s.take k).map tL++s.drop k
theorem fu(s:bB)(k:Nat):(DY s k).length=s.length:=by unfold DY;rw[eR,oY,oS,An];omega
theorem fw(s:bB)(k:Nat)(h:k<s.length):(DY s k)[k]? =some s[k]:=by unfold DY;rw[hY (by rw[oY,oS];omega)];simp[show min k s.length=k by omega,aE h]
theorem gm(s:bB)(k:Nat)(h:k<s.length):(DY s k).set k (tL s[k])=DY s (k+1):=by
 unfold DY;have hl:((s.take k).map tL).length=k:=by simp;omega
 rw[sY _ _ (by omega),hl,zE,mL h,cU,eI h,oT];simp
theorem aBb(s:bB)(k:Nat)(h:k<s.length)(hm:tL s[k]=s[k]):DY s (k+1)=DY s k:=by
 rw[<-gm s k h,hm];have e:=fw s k h;refine BY λi=> ?_
 rw[getElem?_set];split
 .rename_i hi;subst hi;rw[eK (by rw[fu];exact h)];exact e.symm
 .rfl
theorem gu(l:bB)(k:Nat)(c:UInt8):(dM l).set k [.int .u8 c.toNat]=dM (l.set k c):=by simp[dM,map_set]
theorem qN[aC prog](s:bB)(hl:s.length<=1099511627776):Ok prog 269 [.str s] (.str (s.map tL)):=by
 refine bM aF func269 ntmps269 ?_;have W:=trivial;repeat' first|refine wf ?_|(refine nx ?_;refine sb ?_)|(refine sq ?_ ?_<;>intro hc<;>try exact hc.elim)|fail
 refine aO (ι:={k:Nat // k<=s.length}) (λt o i=>⟨bC t [(4,.int .i64 i.1)],[⟨true,false,1,1,dM (DY s i.1)⟩]⟩)
  (λi=>s.length-i.1) ⟨0,by simp⟩ (aJ (by simp[DY]) (by simp)) ?_
 rintro⟨k,hk⟩ K1 hK1;simp only[bC,cW,cU]at hK1⊢;have hk1:=oQ (k:=k);by_cases hlt:k<s.length
 .have Iw:=fu s k;have hug:=fw s k hlt;have hbl:=nH (DY s k);have hg:(dM (DY s k))[k]? =some [.int .u8 s[k].toNat]:=by rw[aBa _ _ (by omega)];rw[aE (by omega)]at hug;rw[cQ hug]
  have hlb:k<(dM (DY s k)).length:=by omega
  have hs1:=gm s k hlt;have nZ:=aBb s k hlt;by_cases h1:s[k]=91
  .have h1i:((s[k].toNat:Nat):Int)=91:=by rw[h1];rfl
   have hset:(dM (DY s k)).set k [.int .u8 60]=dM (DY s (k+1)):=by rw[<-hs1,<-gu];simp[tL,h1]
   have W:=aA hk1 (aA hg (aA hbl (aA Iw (aA h1i hset))));have V:=aA hlb hlt;repeat' first|refine wf ?_|(refine nx ?_;refine sb ?_)|(refine sq ?_ ?_<;>intro hc<;>try exact hc.elim)|fail
   all_goals exact hK1 _ ⟨k+1,by omega⟩ aJ (by simp only;omega)
  .have h1i:¬((s[k].toNat:Nat):Int)=91:=λh=>h1 (DH (by exact_mod_cast h))
   by_cases h2:s[k]=93
   .have h2i:((s[k].toNat:Nat):Int)=93:=by rw[h2];rfl
    have hset:(dM (DY s k)).set k [.int .u8 62]=dM (DY s (k+1)):=by rw[<-hs1,<-gu];simp[tL,h2]
    have W:=aA hk1 (aA hg (aA hbl (aA Iw (aA h1i (aA h2i hset)))));have V:=aA hlb hlt;repeat' first|refine wf ?_|(refine nx ?_;refine sb ?_)|(refine sq ?_ ?_<;>intro hc<;>try exact hc.elim)|fail
    all_goals exact hK1 _ ⟨k+1,by omega⟩ aJ (by simp only;omega)
   .have h2i:¬((s[k].toNat:Nat):Int)=93:=λh=>h2 (DH (by exact_mod_cast h))
    have hsm:=nZ (by simp[tL,h1,h2]);have W:=aA hk1 (aA hg (aA hbl (aA Iw (aA h1i h2i))));have V:=aA hlb hlt;repeat' first|refine wf ?_|(refine nx ?_;refine sb ?_)|(refine sq ?_ ?_<;>intro hc<;>try exact hc.elim)|fail
    all_goals exact hK1 _ ⟨k+1,by omega⟩ (aJ (by simp[hsm]) (by simp)) (by simp only;omega)
 .have hk2:k=s.length:=by omega
  have hup:DY s k=s.map tL:=by simp[DY,hk2]
  have Iw:(s.map tL).length=s.length:=by simp
  have hbl:=nH (s.map tL);have hbo:=LC (s.map tL);rw[hup];have hnk:¬k<s.length:=hlt;have W:=aA hk1 (aA hbl (aA Iw hbo));repeat' first|refine wf ?_|(refine nx ?_;refine sb ?_)|(refine sq ?_ ?_<;>intro hc<;>try exact hc.elim)|fail
  exact aD results269
def aX(b:bE)(n:bB):Int:=(((b.nodes.filter λx=>decide (x.name=n)).length:Nat):Int)
theorem Tc(b:bE)(n:bB)(k:Nat)(h:k<b.nodes.length):((b.nodes.take (k+1)).filter λx=>decide (x.name=n)).length=((b.nodes.take k).filter λx=>decide (x.name=n)).length+(if b.nodes[k].name=n then 1 else 0):=by rw[eI h,filter_append,eR];congr 1;by_cases hn:b.nodes[k].name=n<;>simp[hn]
end Go.Proofs.YtfbefblglejcaaaGreatDoor
set_option maxRecDepth 100000
set_option maxHeartbeats 4000000
namespace Go.Proofs.YtfbefblglejcaaaGreatDoor
open Go.Aw Go.Shelf Go.RowKit Proofs.Tryz List IntKind
theorem aFr{w:World}{E:Env}{a:bB}{vs:List Value}{fp:List Nat}(h:Rc w E [.str a] vs fp):vs=[.string ⟨a.toArray⟩]:=by
 match vs,h with
 |[],h=>simp[Rc]at h
 |[x],h=>simp only[Rc,R]at h;obtain⟨_,_,h1,_,_⟩:=h;rw[h1.1]
 |_::_::_,h=>simp[Rc]at h
theorem WE[aC prog][dL prog](v:Int)(h1: -9223372036854775808<=v/\v<=9223372036854775807)(w:World)(hg:aC.holds prog w):
  Calls prog 290 #[.int .i64 v] w λe w'=>e= .returned (.string ⟨(Lib.itoa v).toArray⟩)/\Below w.heap.size w w':=by
 refine(fI v h1 w [.int .i64 v] hg (by simp[Rc,R])).mono λe w' h=> ?_
 obtain⟨x,fp,he,hr,_,_,h3,h4,h5⟩:=h;simp only[R]at hr;rw[hr.1]at he;exact⟨he,⟨h5.os,h5.tape,h5.output,h3,h4⟩⟩
theorem PU[aC prog][dL prog][oK prog](s:bB)(hl:s.length<=1099511627776):Ok prog 306 [.str s] (OU s):=by
 intro w vs hg h;obtain rfl:=aFr h;have fin:∀{e:Ending} {w':World} {n:Int} {b:Bool},OU s= .gT [.int .i64 n,.bool b]->e= .returned (.tuple #[.int .i64 n,.bool b])->Below w.heap.size w w'->∃v fp,e= .returned v/\R w' (BC w.heap.size w' fp) (OU s) v fp/\fp.Nodup/\
   (∀b∈fp,w.heap.size<=b/\b<w'.heap.size)/\w.heap.size<=w'.heap.size/\(∀b,b<w.heap.size->w'.heap[b]? =w.heap[b]?)/\nS w w':=
  λhp he hb=>⟨_,[],he,by rw[hp];simp[R,Rc],nodup_nil,by simp,hb.size,hb.block,EF hb⟩
 have A:=vo Tryz.LaysCx172 s (by omega) w hg
 go_enter func306,ntmps306
 go_wp2_with (go_at_call 316;refine A.mono ?_)
 rintro e w1 ⟨hA,hb⟩;clear A;have hg1:=aC.Xe w w1 hg λb h=>hb.block b (oX h (aC.QR w hg))
 rcases hA with⟨v,hv,rfl⟩|⟨hn,v,t,p,rfl⟩
 .rcases VR s with⟨v',hv',h0,h1,hi,hp⟩|⟨hp,hall⟩
  .obtain rfl:v=v':=by rw[hv]at hv';exact Lib.NumEnd.ok.inj hv'
   have d0:decide (v<0)=false:=by simpa using h0
   have d1:decide (1000000000000<v)=false:=by simpa using h1
   have C:=WE v (by omega) w1 hg1;rw[hi]at C;have F:= @fin;clear hv hv' h0 h1 hi fin
   go_wp2_with (go_at_call 290;refine C.mono ?_)
   rintro e w2 ⟨rfl,hb2⟩;clear C
   go_wp2
   go_ret2
   exact F (ER hp) rfl (hb.trans (hb2.mono hb.size))
  .have hr:=vJ hp;have bd:=Lib.atoiAll_bounds hv;by_cases h0:v<0
   .have d0:decide (v<0)=true:=by simpa using h0
    clear hv h0 hall bd
    go_wp2
    go_ret2
    exact fin hr rfl hb
   by_cases h1:1000000000000<v
   .have d0:decide (v<0)=false:=by simpa using h0
    have d1:decide (1000000000000<v)=true:=by simpa using h1
    clear hv h0 h1 hall bd
    go_wp2
    go_ret2
    exact fin hr rfl hb
   .have hi:Lib.itoa v≠s:=by
     rcases hall v hv with h|h|h
     .exact absurd h h0
     .exact absurd h h1
     .exact h
    have d0:decide (v<0)=false:=by simpa using h0
    have d1:decide (1000000000000<v)=false:=by simpa using h1
    have C:=WE v (by omega) w1 hg1;generalize Lib.itoa v=x at C hi;have d2:(x == s)=false:=by simpa using hi
    have d3:(x != s)=true:=by simpa using hi
    clear hv h0 h1 hall bd
    go_wp2_with (go_at_call 290;refine C.mono ?_)
    rintro e w2 ⟨rfl,hb2⟩;clear C
    go_wp2
    go_ret2
    exact fin hr rfl (hb.trans (hb2.mono hb.size))
 .have hp:AJ s=none:=by
   rcases VR s with⟨v',hv',_⟩|⟨hp,_⟩
   .exact absurd hv' (hn _)
   .exact hp
  have hr:=vJ hp;clear hn
  go_wp2
  go_ret2
  exact fin hr rfl hb
end Go.Proofs.YtfbefblglejcaaaGreatDoor
set_option maxRecDepth 4000
set_option maxHeartbeats 4000000
namespace Go.Proofs.YtfbefblglejcaaaGreatDoor
open Go.Aw Proofs.Tryz List IntKind
theorem Gx[aC prog](t:nI)(hs:t.rest.length<=274877906):Ok prog 90 [.agg (dO t)] (.sl .own 4 ((kG t).map (cZ .own))):=by
 obtain⟨s⟩:=t;simp only at hs;cases s with
 |nil=>simp only[kG,true_or,gC,DE];refine bM aF func90 ntmps90 ?_;refine aY ?_;exact aD results90
 |cons c r=>
  by_cases hc:c=60
  .subst hc;have he:kG ⟨60::r⟩=[]:=by simp[kG]
   rw[he];refine bM aF func90 ntmps90 ?_;refine aY ?_;exact aD results90
  .have he:kG ⟨c::r⟩=[⟨3,[],[],c::r⟩]:=by simp[kG,hc]
   rw[he];have hn:¬((c.toNat:Int)=60):=λh=>hc (Cl.1 (by simp;omega))
   refine bM aF func90 ntmps90 ?_;have W:=hn;refine we ?_;exact aD results90
theorem Gy[aC prog](t:nI)(hs:t.rest.length<=274877906):Ok prog 68 [.agg (dO t)] (.sl .own 4 ((kG t).map (cZ .own))):=by
 obtain⟨s⟩:=t;simp only at hs;cases s with
 |nil=>simp only[kG,true_or,gC,DE];refine bM aF func68 ntmps68 ?_;refine aY ?_;exact aD results68
 |cons c r=>
  by_cases hc:c=60
  .subst hc;have he:kG ⟨60::r⟩=[]:=by simp[kG]
   rw[he];refine bM aF func68 ntmps68 ?_;refine aY ?_;exact aD results68
  .have he:kG ⟨c::r⟩=[⟨3,[],[],c::r⟩]:=by simp[kG,hc]
   rw[he];have hn:¬((c.toNat:Int)=60):=λh=>hc (Cl.1 (by simp;omega))
   refine bM aF func68 ntmps68 ?_;have W:=hn;refine we ?_;exact aD results68
end Go.Proofs.YtfbefblglejcaaaGreatDoor
set_option maxRecDepth 4000
set_option maxHeartbeats 400000
namespace Go.Proofs.YtfbefblglejcaaaGreatDoor
open Go.Aw Proofs.Tryz List IntKind
def iN:bB:=[115,99,114,105,112,116]
def Jh:bB:=[108,105,110,107]
def NN:bB:=[105,109,103]
def LP:bB:=[107,105,110,100]
def Db:bB:=[109,111,100,117,108,101]
def oP:bB:=[115,114,99]
def Bd:bB:=[104,114,101,102]
def dR:bB:=[100,105,103,101,115,116]
def NP:fV:=⟨0,wZ,[],[]⟩
def Yh(k:Int)(v d b:bB):fV×Bool:=if (bZ v b).2=true then(⟨k,(bZ v b).1,b,d⟩,true)else(NP,false)
def WJ(t:bT)(b:bB):fV×Bool:=
 if t.kind=1 then
  if t.name=iN then
   if (aW t.attrs LP).1=Db then Yh 5 (aW t.attrs oP).1 [] b else Yh 2 (aW t.attrs oP).1 (aW t.attrs dR).1 b
  else if t.name=Jh then Yh 3 (aW t.attrs Bd).1 (aW t.attrs dR).1 b
  else if t.name=NN then Yh 4 (aW t.attrs oP).1 (aW t.attrs dR).1 b
  else(NP,false)
 else(NP,false)
theorem mW(l:List oN)(n:bB):(aW l n).1.length<=bA oU l:=by
 unfold aW;split
 .rename_i a h;have:=pA h;have:=bS oU this;simp only[oU]at this⊢;omega
 .simp
end Go.Proofs.YtfbefblglejcaaaGreatDoor
set_option maxRecDepth 4000
set_option maxHeartbeats 400000
namespace Go.Proofs.YtfbefblglejcaaaGreatDoor
open Go.Aw Proofs.Tryz List IntKind
theorem aBf(s b:bB):aR (addrOf s b)<=s.length+b.length:=by have:=vD 47 s;unfold addrOf;split<;>simp[aR]<;>omega
theorem LQ(s b:bB):aR (bZ s b).1<=s.length+b.length:=by
 have:=aBf s b;unfold bZ;split
 .exact this
 .simp [aR,wZ]
end Go.Proofs.YtfbefblglejcaaaGreatDoor
set_option maxRecDepth 4000
set_option maxHeartbeats 400000
namespace Go.Proofs.YtfbefblglejcaaaGreatDoor
open Go.Aw Proofs.Tryz List IntKind
def aF9(b:bB)(t:bT):Option fV:=if (WJ t b).2=true then some (WJ t b).1 else none
def zh(l:List bT)(b:bB):List fV:=l.filterMap (aF9 b)
@[simp] theorem aGa(b:bB):zh [] b=[]:=rfl
end Go.Proofs.YtfbefblglejcaaaGreatDoor
set_option maxRecDepth 4000
set_option maxHeartbeats 400000
namespace Go.Proofs.YtfbefblglejcaaaGreatDoor
open Go.Aw Proofs.Tryz List IntKind
end Go.Proofs.YtfbefblglejcaaaGreatDoor
set_option maxRecDepth 4000
set_option maxHeartbeats 4000000
namespace Go.Proofs.YtfbefblglejcaaaGreatDoor
open Go.Aw Proofs.Tryz List IntKind
theorem jA{α:Type}(f:α->Nat):∀a b:List α,bA f (a++b)=bA f a+bA f b
 |[],b=>by simp[bA]
 |x::xs,b=>by simp only[eA,bA,jA f xs b];omega
end Go.Proofs.YtfbefblglejcaaaGreatDoor
set_option maxRecDepth 4000
set_option maxHeartbeats 4000000
namespace Go.Proofs.YtfbefblglejcaaaGreatDoor
open Go.Aw Proofs.Tryz List IntKind
theorem xQ[aC prog](k:Int)(hk:k<=4611686018427387904):Ok prog 29 [.int .i64 k] (.str (Be k)):=by
 refine bM aF func29 ntmps29 ?_;have W:=trivial;repeat' first|refine wg ?_|(refine sq ?_ ?_<;>intro hc<;>try exact hc.elim)|fail
 .all_goals try(refine aQ ?_;simp[aP,results29])
  all_goals (simp[Be];omega)
 .refine aO (ι:={p:Nat×Int×bB // 0<=p.2.1/\p.2.1<10 ^ p.1/\p.2.1<=4611686018427387904/\digits p.1 p.2.1 p.2.2=digits 20 k []/\p.2.2.length<=40-p.1/\p.1<=20}) (λt o i=>⟨bC t [(0,.int .i64 i.1.2.1),(3,.str i.1.2.2)],[]⟩)
   (λi=>i.1.1) ⟨(20,k,[]),by simp only;omega,by simp only;omega,hk,rfl,by simp,by simp⟩ aJ ?_
  rintro⟨⟨f,n,out⟩,h0,hf,hn,hd,hl,hf2⟩ K1 hK1;simp only at h0 hf hn hd hl hf2;simp only[bC,cW,cU]at hK1⊢;have ht:n.tdiv 10=n/10:=Int.tdiv_eq_ediv_of_nonneg h0;have hw:i64.wrap (n.tdiv 10)=n.tdiv 10:=by rw[wrap64]<;>omega
  have h63:1+out.length<=9223372036854775807:=by omega
  by_cases aVj:0<n
  .cases f with
   |zero=>exfalso;simp at hf;omega
   |succ f=>
    have W:=aA hw (aA h63 aVj);refine wl ?_;refine hK1 _ ⟨(f,n.tdiv 10,digit n::out),by simp only;omega,?_,by simp only;omega,?_,by simp only[eN];omega,by simp only;omega⟩ (aV 0 rfl (by simp[digit]) (by simp) (by simp)) (by simp)
    .simp only[Int.pow_succ]at hf⊢;omega
    .rw [<-hd];simp only[digits];rw[cX (by omega)]
  .have:n=0:=by omega
   subst this;rw[zu _ _ _ (by omega)]at hd;have h64:1+out.length<=9223372036854775807:=by omega
   have W:=h64;refine wl ?_;all_goals try(refine aQ ?_;simp[aP,results29])
   all_goals (rw[hd];simp[Be];omega)
end Go.Proofs.YtfbefblglejcaaaGreatDoor
set_option maxRecDepth 4000
set_option maxHeartbeats 4000000
namespace Go.Proofs.YtfbefblglejcaaaGreatDoor
open Go.Aw Proofs.Tryz List IntKind
theorem Yx[aC prog](l:List yD)(k:Int)(h0:0<=k)(hl:k+(bA (λ_=>4) l:Nat)<=4611686018427387000)(hll:l.length<=4611686018427387904):OkM prog 28 (.sl .own 4 (l.map mJ)) (.sl .own 4 ((Pb Ty (λ_=>4) k l).map mJ)) [.int .i64 k] (.int .i64 (k+(bA (λ_=>4) l:Nat))):=by
 generalize hu:(Pb Ty (λ_=>4) k l).map mJ=l';have Iw:l'.length=(l.map mJ).length:=by rw[<-hu];simp[uA]
 refine wo aF func28 ntmps28 ?_;have W:=trivial;repeat' first|refine st ?_|(refine nx ?_;refine so ?_)|(refine cx ?_;refine sc (λhc=>?_) (λhc=>?_)<;>try exact hc.elim)|(refine lx ?_;refine sp (λhc=>?_) (λhc=>?_)<;>try exact hc.elim)|refine sx ?_ ?_|refine sy ?_ ?_|fail
 refine aO (ι:={j:Nat // j<=l.length}) (λt o i=>⟨bC t [(1,.int .i64 (k+(bA (λ_=>4) (l.take i.1):Nat))),(5,.int .i64 i.1)],[⟨true,false,4,0,yO (l.map mJ) l' i.1⟩]⟩)
  (λi=>l.length-i.1) ⟨0,by simp⟩ (aJ (by simp[Eg]) (by simp[bA])) ?_
 rintro⟨j,hj⟩ K1 hK1;simp only[bC,cW,cU]at hK1⊢;have hj1:i64.wrap ((j:Int)+1)=((j+1:Nat):Int):=by rw[wrap64]<;>omega
 have MQ:(yO (l.map mJ) l' j).length=l.length:=by rw[Ap _ _ _ Iw];simp
 have hle:=jV (λ_=>4) l (j+1);by_cases hlt:j<l.length
 .have hts:=iX (λ_=>4) l j hlt
  have hmg:=GK (l.map mJ) l' j (by simpa using hlt) (by rw[Iw];simpa using hlt);have Gw:=GJ (l.map mJ) l' j (by simpa using hlt) (by rw[Iw];simpa using hlt);have he:l'[j]'(by rw[Iw];simpa using hlt)=mJ (Ty (k+(bA (λ_=>4) (l.take j):Nat)) l[j]):=by subst hu;rw[AH,EY]
  rw[he]at Gw;generalize hq:k+(bA (λ_=>4) (l.take j):Nat)=q at*;have e2:q+1+1=q+2:=by omega
  have e3:q+2+1=q+3:=by omega
  have e4:q+3+1=q+4:=by omega
  simp only[mJ,Ty,Pd]at Gw;have W:=aA MQ (aA hmg (aA hj1 (aA Gw (aA e2 (aA e3 e4)))));have V:=aA MQ (aA hj1 (aA Gw (aA hlt (aA e2 (aA e3 e4)))));repeat' first|refine st ?_|(refine nx ?_;first|refine so ?_|refine sk (hc:=xQ _ (by omega)) (h:=?_))|(refine cx ?_;refine sc (λhc=>?_) (λhc=>?_)<;>try exact hc.elim)|(refine lx ?_;refine sp (λhc=>?_) (λhc=>?_)<;>try exact hc.elim)|refine sx ?_ ?_|refine sy ?_ ?_|fail
  refine hK1 _ ⟨j+1,by omega⟩ (aJ (by simp) ?_) (by simp only;omega);simp;omega
 .have hma:=Ef (l.map mJ) l' j Iw (by simp;omega);have hjl:j=l.length:=by omega
  have hcl:iV l'=true:=by rw[<-hu];simp
  have htk:l.take j=l:=cY (by omega);rw[htk]at*;have W:=aA MQ hj1;repeat' first|refine st ?_|(refine nx ?_;refine so ?_)|(refine cx ?_;refine sc (λhc=>?_) (λhc=>?_)<;>try exact hc.elim)|(refine lx ?_;refine sp (λhc=>?_) (λhc=>?_)<;>try exact hc.elim)|refine sx ?_ ?_|refine sy ?_ ?_|fail
  all_goals try(refine aQ ?_;simp[EI,results28,hma,hcl])
end Go.Proofs.YtfbefblglejcaaaGreatDoor
set_option maxRecDepth 100000
set_option maxHeartbeats 8000000
namespace Go.Proofs.YtfbefblglejcaaaGreatDoor
open Go.Aw Proofs.Tryz List IntKind
end Go.Proofs.YtfbefblglejcaaaGreatDoor
