/- Proved here: steps towards the statement of this claim. No condition. -/
import Derived.Test.YtjmpjmilndkgfaaGreatDoorZQRCC
set_option linter.all false
set_option maxRecDepth 8000
set_option maxHeartbeats 8000000
namespace Go.Proofs.YtjmpjmilndkgfaaGreatDoor
open Go.Aw Proofs.Tryz List IntKind
theorem Ky [aC prog] [dD prog] (p:aI) (a:aT) (hs:bV bE p.aN+aU a<=16777216):Ok prog 187 [.agg (aJ .view p),.agg (aO a)] (.bool (rZ p a)):=by
 obtain ⟨hB,_⟩:=FL p a hs;obtain ⟨z1,_,hU⟩:=Ku p a hs;have c0:=BG p _ hB a (by simp);have cm:=λb=>xL p b (by simp only [aF,bV] at hs;omega)
 unfold rZ;generalize eF p a=L at *;simp only [aO,aJ] at c0 cm;have hlen:(L.map aO).length=L.length:=by simp
 refine bR aD func187 ntmps187 ?_;refine bH ?_;refine aL (ι:={k:Nat // k<=L.length/\∀x∈L.take k,lD p x=true}) (λt o i=>⟨bD t [(15,.int .i64 i.1),(16,.undef),(17,.undef),(18,.undef),(6,.undef),(7,.undef),(8,.undef),(9,.undef)],o.take 3⟩)
  (λi=>L.length - i.1) ⟨0,by simp,by simp⟩ aH ?_
 rintro ⟨k,hk,hpre⟩ K1 hK1;simp only [bD,cW,cU] at hK1⊢;have hk1:=oW (k:=k);by_cases hlt:k < L.length
 .have hg:=aE hlt;have c1:=cm L[k];have hnext:lD p L[k]=true->∀x∈L.take (k+1),lD p x=true:=λh=>dV hlt hpre h
  have jU:lD p L[k]=false->L.all (lD p)=false:=λh=>Xm k hlt h
  rcases uA (kX L[k]) p.aN with ⟨hi,hf⟩|⟨j,hj,hi,hf⟩
  .have hd:lD p L[k]=false:=by unfold lD;rw [hf]
   rw [hi] at c1;have jK:=jU hd;have W:=aA hk1 (aA hg hlt);refine we ?_;all_goals try(refine aR ?_;simp [aG,results187,jK])
  .have hd:lD p L[k]=if p.aN[j].done=true/\p.aN[j].code=1 then (bI p.aN[j].body L[k].host).2.2 else false:=by unfold lD;rw [hf]
   rw [hi] at c1;have hgm:=aE hj;have hj0:¬(j:Int) < 0:=by omega
   have hmz:=cB bE (fR hj);have hha:=hB.host _ (hU _ (fR hlt));simp only [aF,bV] at hs;simp only [bE,aU] at hmz;have cp:=rY p.aN[j].body L[k].host (by omega) hha;cases pM:p.aN[j].done
   .have jK:=jU (by rw [hd,pM];simp);have W:=aA hk1 (aA hg (aA hlt (aA hgm (aA hj (aA hj0 pM)))));refine we ?_;all_goals try(refine aR ?_;simp [aG,results187,jK])
   .by_cases ZT:p.aN[j].code=1
    .rw [eK ⟨pM,ZT⟩] at hd;generalize bI p.aN[j].body L[k].host=u at *;obtain ⟨g,d,c⟩:=u;simp only at hd cp;cases c
     .have jK:=jU hd;have W:=aA hk1 (aA hg (aA hlt (aA hgm (aA hj (aA hj0 (aA pM ZT))))));refine we ?_;all_goals try(refine aR ?_;simp [aG,results187,jK])
     .have hnx:=hnext hd;have W:=aA hk1 (aA hg (aA hlt (aA hgm (aA hj (aA hj0 (aA pM ZT))))));refine we ?_;exact hK1 _ ⟨k+1,by omega,hnx⟩ (aW 3) (by simp only;omega)
    .have jK:=jU (by rw [hd,cY (λh=>ZT h.2)])
     have W:=aA hk1 (aA hg (aA hlt (aA hgm (aA hj (aA hj0 (aA pM ZT))))));refine we ?_;all_goals try(refine aR ?_;simp [aG,results187,jK])
 .have jK:L.all (lD p)=true:=OV (by have:=hpre;rwa [cX (by omega)] at this);have W:=aA hk1 hlt;refine we ?_;all_goals try(refine aR ?_;simp [aG,results187,jK])
theorem Kz [aC prog] [dD prog] (p:aI) (a:aT) (hs:bV bE p.aN+aU a<=16777216):Ok prog 168 [.agg (aJ .view p),.agg (aO a)] (.bool (rZ p a)):=by
 obtain ⟨hB,_⟩:=FL p a hs;obtain ⟨z1,_,hU⟩:=Ku p a hs;have c0:=BH p _ hB a (by simp);have cm:=λb hb=>FK p _ hB b hb
 unfold rZ;generalize eF p a=L at *;simp only [aO,aJ] at c0 cm;have hlen:(L.map aO).length=L.length:=by simp
 refine bR aD func168 ntmps168 ?_;refine bH ?_;refine aL (ι:={k:Nat // k<=L.length/\∀x∈L.take k,lD p x=true}) (λt o i=>⟨bD t [(6,.int .i64 i.1),(7,.undef),(8,.undef)],o.take 3⟩)
  (λi=>L.length - i.1) ⟨0,by simp,by simp⟩ aH ?_
 rintro ⟨k,hk,hpre⟩ K1 hK1;simp only [bD,cW,cU] at hK1⊢;have hk1:=oW (k:=k);by_cases hlt:k < L.length
 .have hg:=aE hlt;have c1:=cm L[k] (hU _ (fR hlt));have hnext:lD p L[k]=true->∀x∈L.take (k+1),lD p x=true:=λh=>dV hlt hpre h
  have jU:lD p L[k]=false->L.all (lD p)=false:=λh=>Xm k hlt h
  generalize iN p L[k]=g at *;cases hd:lD p L[k]
  .have jK:=jU hd;rw [hd] at c1;have W:=aA hk1 (aA hg hlt);refine we ?_;all_goals try(refine aR ?_;simp [aG,results168,jK])
  .have hnx:=hnext hd;rw [hd] at c1;have W:=aA hk1 (aA hg hlt);refine we ?_;exact hK1 _ ⟨k+1,by omega,hnx⟩ (aW 3) (by simp only;omega)
 .have jK:L.all (lD p)=true:=OV (by have:=hpre;rwa [cX (by omega)] at this);have W:=aA hk1 hlt;refine we ?_;all_goals try(refine aR ?_;simp [aG,results168,jK])
def xN (p:aI):Bool:=p.ended&&decide (p.queue.length=0)&&decide (p.block=0)&&decide (p.inline=0)
theorem NV [aC prog] (p:aI):Ok prog 112 [.agg (aJ .view p)] (.bool (xN p)):=by
 refine bR aD func112 ntmps112 ?_;have W:=trivial;repeat' first|refine wf ?_|(refine sq ?_ ?_<;>intro hc<;>try exact hc.elim)|fail
 all_goals try(refine aR ?_;simp [aG,results112])
 all_goals (simp_all [xN]<;>rfl)
theorem NW [aC prog] (p:aI):Ok prog 135 [.agg (aJ .view p)] (.bool (xN p)):=by
 refine bR aD func135 ntmps135 ?_;have W:=trivial;repeat' first|refine wf ?_|(refine sq ?_ ?_<;>intro hc<;>try exact hc.elim)|fail
 all_goals try(refine aR ?_;simp [aG,results135])
 all_goals (simp_all [xN]<;>rfl)
def yM (p:aI) (b:aT):bF:=match p.aN.find? (kX b) with
 |some m=>m.body
 |none=>[]
def uB (q:aI) (b:aT):aI:=if q.oD.any (iT b)=true then q else lL {q with oD:=q.oD++[b]} (bI (yM q b) b.host).2.1 false
def jH (p:aI) (L:List aT) (k:Nat):aI:=(L.take k).foldl uB p
theorem AL (p:aI) (L:List aT) (k:Nat) (h:k < L.length):jH p L (k+1)=uB (jH p L k) L[k]:=by unfold jH;rw [eA h,DQ];rfl
def Ru:bF:=[102,97,105,108,32]
def pI (p:aI) (a:aT):aI:=if rZ p a=true then {p with log:=jV p.log (Ru++lX a)} else jH p (eF p a) (eF p a).length
theorem Cq (body base:bF):(bI body base).2.1.length<=6/\∀x∈(bI body base).2.1,x.text.length<=60:=by
 unfold bI;split
 .simp
 .rename_i l r _;obtain ⟨b1,b2⟩:=yU (Lib.join r [59]);split
  .exact ⟨b1,b2⟩
  .simp
def IL (q:aI):Nat:=aF q+91 * (40 - q.log.length)+62 * (40 - q.builder.nodes.length)
theorem Rw (l ss:List bF) (h:∀s∈ss,s.length<=90):bV eX (mZ l ss)+91 * (40 - (mZ l ss).length)<=bV eX l+91 * (40 - l.length):=by
 induction ss generalizing l with
 |nil=>exact eE _
 |cons s ss ih=>
  have e:mZ l (s::ss)=mZ (jV l s) ss:=rfl;rw [e];refine lO (ih (jV l s) (λx hx=>h x (by simp [hx]))) ?_;have hs:=h s (by simp);unfold jV;split
  .simp only [bV,eR,eL,eW,jA,aQ,eX];omega
  .exact eE _
theorem ZU (b:bC) (ss:List gP) (x:jP) (hx:x.text.length<=60):aP (bX b ss x).1+62 * (40 - (bX b ss x).1.nodes.length)<=aP b+62 * (40 - b.nodes.length):=by
 unfold bX;split
 .exact eE _
 .split
  .split
   .simp only [aP,bV,eR,jA,aQ,iF,eL,eW];omega
   .exact eE _
  .split
   .exact eE _
   .split
    .exact eE _
    .split<;>exact eE _
theorem Uc (b:bC) (ss:List gP) (l:List jP) (hx:∀x∈l,x.text.length<=60) (vM:∀n,0<=bJ ss n/\bJ ss n<=999) (hb:aP b+62 * 40<=68719476736):
  aP (eU b ss l).1+62 * (40 - (eU b ss l).1.nodes.length)<=aP b+62 * (40 - b.nodes.length)/\∀s∈(eU b ss l).2.2,s.length<=90:=by
 have key:∀(l:List jP) (st0:bC×bF×List bF),(∀x∈l,x.text.length<=60)->aP st0.1+62 * (40 - st0.1.nodes.length)<=aP b+62 * (40 - b.nodes.length)->(∀s∈st0.2.2,s.length<=90)->
   aP (l.foldl (rV ss) st0).1+62 * (40 - (l.foldl (rV ss) st0).1.nodes.length)<=aP b+62 * (40 - b.nodes.length)/\∀s∈(l.foldl (rV ss) st0).2.2,s.length<=90:=by
  intro l;induction l with
  |nil=>intro st0 _ h1 h2;exact ⟨h1,h2⟩
  |cons x l ih=>
   intro st0 hx h1 h2;have hxl:=hx x (by simp);have hn:st0.1.nodes.length<=274877906944:=by simp only [aP,bV] at h1 hb;omega
   obtain ⟨z1,z2,z3⟩:=QZ st0.1 ss x (by omega) vM hn;refine ih (rV ss st0 x) (λy hy=>hx y (by simp [hy])) ?_ ?_
   .exact lO (ZU st0.1 ss x hxl) h1
   .intro s hs;simp only [rV] at hs;split at hs
    .exact h2 s hs
    .rcases fL.1 hs with hs|hs
     .exact h2 s hs
     .simp only [sA] at hs;subst hs;omega
 exact key l (b,[],[]) hx (eE _) (by simp)
theorem KA (q:aI) (l:List jP) (hs:aF q<=536870912) (hx:∀x∈l,x.text.length<=60):IL (lL q l false)<=IL q:=by
 have hsb:aP q.builder<=536870912:=by simp only [aF] at hs;omega
 obtain ⟨z1,z2⟩:=Uc q.builder (dI q) l hx (wK q) (by omega);have z3:=Rw q.log (eU q.builder (dI q) l).2.2 z2;unfold lL;generalize eU q.builder (dI q) l=g at *;obtain ⟨b,w,lg⟩:=g;simp only [eS,gS] at *;generalize mZ q.log lg=lg2 at *;simp only [IL,aF] at *;omega
theorem ZV (q:aI) (b:aT):(uB q b).aN=q.aN/\(uB q b).aB=q.aB:=by unfold uB lL;split<;>exact ⟨rfl,rfl⟩
theorem qz (q:aI) (b:aT) (hs:aF q+1+aU b<=536870912):IL (uB q b)<=IL q+1+aU b:=by
 unfold uB;split
 .omega
 .have h1:aF {q with oD:=q.oD++[b]}=aF q+1+aU b:=by simp only [aF,bV,eR,eL,eW,jA,aQ];omega
  have h2:=KA {q with oD:=q.oD++[b]} (bI (yM q b) b.host).2.1 (by omega) (Cq _ _).2;refine lO h2 ?_;simp only [IL] at *;omega
theorem BI (q:aI):aF q<=IL q/\IL q<=aF q+6120:=by unfold IL;omega
theorem vI (p:aI) (L:List aT) (hL:aF p+6120+bV aU L<=536870912):∀k,k<=L.length->IL (jH p L k)<=IL p+bV aU (L.take k)/\(jH p L k).aN=p.aN/\(jH p L k).aB=p.aB
 |0,_=>⟨by simp [jH,bV,aQ],rfl,rfl⟩
 |k+1,h=>by
  obtain ⟨h1,h2,h3⟩:=vI p L hL k (by omega);have hp:=(BI p).2;have hq:=(BI (jH p L k)).1;have e1:bV aU (L.take (k+1))=bV aU (L.take k)+1+aU L[k]:=by rw [eA (show k < L.length by omega)];simp only [bV,eR,eL,eW,jA,aQ];omega
  have e2:bV aU (L.take (k+1))<=bV aU L:=by have:=yK aU L (k+1);simp only [bV,oT];omega
  rw [AL p L k (by omega)];have h4:=qz (jH p L k) L[k] (by omega);obtain ⟨h5,h6⟩:=ZV (jH p L k) L[k];exact ⟨by omega,h5.trans h2,h6.trans h3⟩
theorem Rx {p:aI} {x:aT} (h:lD p x=true):x∈p.aN.map (·.to):=by
 unfold lD at h;split at h
 .rename_i m hm;have h1:=qS hm;have h2:=DG hm;simp only [kX,fN] at h2;exact Bx.2 ⟨m,h1,h2⟩
 .cases h
theorem aLr (l:List dB):bV aU (l.map (·.to))<=bV bE l:=by
 induction l with
 |nil=>exact eE _
 |cons m l ih=>simp only [bV,mT,eL,aQ,bE] at *;omega
theorem FM (p:aI) (a:aT) (h:bV bE p.aN+aU a<=16777216) (hf:rZ p a=false):(eF p a).length<=16777216/\bV aU (eF p a)<=bV bE p.aN/\∀x∈eF p a,lD p x=true:=by
 have hall:∀x∈eF p a,lD p x=true:=by
  unfold rZ at hf;have:(eF p a).all (lD p)=true:=by simpa using hf
  exact fS.1 this
 obtain ⟨hb,h1,h2⟩:=FL p a h;have hs:=(En hb.im (qD p []+1) a ([],[]) (by simp) ⟨by simp,by simp,by simp,by simp⟩).1;obtain ⟨h3,h4⟩:=Dq aU (eF p a) (p.aN.map (·.to)) hs.ond (λx hx=>Rx (hall x hx));have h5:=aLr p.aN;rw [lR] at h4;refine ⟨?_,?_,hall⟩
 .simp only [bV] at h;omega
 .simp only [bV,lR] at h5⊢;omega
def Ry:bF:=[108,111,97,100]
def OW (p:aI) (s:kJ):aI×Bool:=if s.done=true/\p.aB.all nO=true then ({(if s.code=1 then mM p s.body false else p) with deferred:=p.deferred+1},true) else (p,false)
def OX (p:aI) (a:aT):aI×Bool:=if vY p a=true/\p.aB.all nO=true then ({pI p a with gW:=p.gW+1},true) else (p,false)
def OY (p:aI):aI×Bool:=if (places vG 0 p.aB).length=0/\(places vH 0 p.aN).length=0 then ({p with log:=jV p.log Ry,nS:=true},true) else (p,false)
def oM (p:aI):aI×Bool:=
 if xN p=true/\p.nS=false/\0<=p.deferred/\0<=p.gW then
  match (places jO 0 p.aB)[p.deferred.toNat]? with
  |some d=>match p.aB[d.toNat]? with
   |some s=>OW p s
   |none=>(p,false)
  |none=>match p.entries[p.gW.toNat]? with
   |some a=>OX p a
   |none=>OY p
 else (p,false)
theorem Mj {α:Type} (f:α->Bool):∀(l:List α) (i:Nat) (d:Int),d∈places f i l->∃k:Nat,d=(k:Int)/\i<=k/\k < i+l.length
 |[],i,d,h=>by simp [places] at h
 |x::l,i,d,h=>by
  simp only [places] at h;have hr:d∈places f (i+1) l->∃k:Nat,d=(k:Int)/\i<=k/\k < i+(x::l).length:=λh=>by obtain ⟨k,h1,h2,h3⟩:=Mj f l (i+1) d h;exact ⟨k,h1,by omega,by simp only [eL];omega⟩
  split at h
  .rcases lB.1 h with h|h
   .exact ⟨i,h,eE _,by simp only [eL];omega⟩
   .exact hr h
  .exact hr h
theorem He (p:aI) (c:bF) (w:Bool):(mM p c w).deferred=p.deferred/\(mM p c w).gW=p.gW/\(mM p c w).aB=p.aB/\(mM p c w).aN=p.aN:=by unfold mM lL;split<;>exact ⟨rfl,rfl,rfl,rfl⟩
theorem rf (q:aI) (b:aT):(uB q b).gW=q.gW:=by unfold uB lL;split<;>rfl
theorem VK (p:aI) (a:aT):(pI p a).gW=p.gW:=by
 unfold pI;split
 .rfl
 .unfold jH;have:∀(l:List aT) (q:aI),(l.foldl uB q).gW=q.gW:=by
   intro l;induction l with
   |nil=>intro q;rfl
   |cons b l ih=>intro q;rw [foldl_cons,ih,rf]
  exact this _ _
end Go.Proofs.YtjmpjmilndkgfaaGreatDoor
