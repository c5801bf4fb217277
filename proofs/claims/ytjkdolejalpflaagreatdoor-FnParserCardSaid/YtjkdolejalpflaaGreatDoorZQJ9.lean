/- Proved here: steps towards the statement of this claim. No condition. -/
import Derived.Test.YtjkdolejalpflaaGreatDoorZQJ7
import Derived.Test.YtjkdolejalpflaaGreatDoorZQRCA
set_option linter.all false
set_option maxRecDepth 8000
set_option maxHeartbeats 8000000
namespace Go.Proofs.YtjkdolejalpflaaGreatDoor
open Go.Aw Proofs.Tryz List IntKind
theorem YH(p:aW)(k:Int)(x:dB):(gJ p k x).aG.length=p.aG.length/\(gJ p k x).bC=p.bC/\(gJ p k x).addr=p.addr:=by
 unfold gJ;split
 .split
  .split
   .exact ⟨rfl,rfl,rfl⟩
   .simp
  .exact ⟨rfl,rfl,rfl⟩
 .exact ⟨rfl,rfl,rfl⟩
theorem YI(p:dS)(r:fK)(x:dB):(sH p r x).length<=400:=by
 unfold sH;split
 .rename_i h;unfold kK at h;split at h
  .omega
  .split at h
   .omega
   .rename_i h2;have h3:kH x=true:=by
     cases h4:kH x with
     |true=>rfl
     |false=>exact absurd (.inl h4) h2
    simp only[kH,eC,gS]at h3;exact h3.1.1.2
 .simp
theorem qp(p:aW)(k:Int)(x:dB):aK (gJ p k x)<=aK p+400:=by
 unfold gJ;split
 .split
  .rename_i s hg;split
   .omega
   .have hb:=YI p.bC (gU p s) x;have h1:bM lN (p.aG.set k.toNat (filled p s x))<=bM lN p.aG+400:=by
     have:∀(l:List mG) (i:Nat) (s s':mG),l[i]? =some s->lN s'<=lN s+400->bM lN (l.set i s')<=bM lN l+400:=by
      intro l;induction l with
      |nil=>intro i s s' h;simp at h
      |cons y l ih=>
       intro i s s' h hs;cases i with
       |zero=>simp at h;subst h;simp only[cG,bM];omega
       |succ i=>have:=ih i s s' (by simpa using h) hs;simp only[cH,bM];omega
     refine this _ _ s _ hg ?_;simp only[lN,filled];omega
    simp only[aK,dL,length_set]at*;omega
  .omega
 .omega
theorem uA{α:Type}{f:α->List AV}{i j:Nat}(h:∀x,xX i j (f x)=f x):∀l:List α,rT i j (l.map f)=l.map f
 |[]=>rfl
 |x::l=>by simp only[mS,rT,h,uA h l]
@[simp] theorem aCz(i j:Nat)(l:List aX):rT i j (l.map dR)=l.map dR:=uA (λ_=>rfl) l
@[simp] theorem aC0(i j:Nat)(l:List Int):rT i j (l.map nP)=l.map nP:=uA (λ_=>rfl) l
@[simp] theorem aBq(i j:Nat)(l:List gH):rT i j (l.map dI)=l.map dI:=uA (λ_=>rfl) l
@[simp] theorem aBr(i j:Nat)(l:List lD):rT i j (l.map oG)=l.map oG:=uA (λ_=>rfl) l
@[simp] theorem aBs(i j:Nat)(l:List mG):rT i j (l.map pG)=l.map pG:=uA (λ_=>rfl) l
@[simp] theorem K6(i j:Nat)(l:List gW):rT i j (l.map dN)=l.map dN:=uA (λ_=>rfl) l
@[simp] theorem K7(i j:Nat)(l:List bD):rT i j (l.map (bE .view))=l.map (bE .view):=uA (λ_=>by simp) l
@[simp] theorem X5(i j:Nat)(l:List gQ):rT i j (l.map (dK .view))=l.map (dK .view):=uA (λ_=>by simp) l
theorem Uf{p:aW}(h:(dJ p).2=false):(dJ p).1=p:=by
 unfold dJ at*;split at h
 .rfl
 .split at h
  .cases h
  .rename_i hc;rw[cU hc]
theorem qw{p:aW}(h:(eO p).2=false):(eO p).1=p:=by
 unfold eO at*;split at h
 .rename_i hi;rw[eA hi];split at h
  .cases h
  .rename_i hs;rw[cU hs]
 .rename_i hi;rw[cU hi];split at h
  .rename_i hb;rw[eA hb];unfold uR at*;split at h
   .rename_i h0;rw[eA h0];split at h
    .split at h
     .cases h
     .rename_i hc;rw[cU hc]
    .cases h
   .cases h
  .rename_i hb;rw[cU hb];exact Uf h
theorem vE(p:aW)(m:Int)(a b:aX)(n:Int):(eQ p m a b n).1.queue=p.queue:=by
 unfold eQ;split
 .rfl
 .split<;>rfl
theorem QH(p:aW)(t:bD)(n:Int):(vY p t n).queue=p.queue:=by
 unfold vY;split
 .exact vE ..
 .split
  .exact vE ..
  .rfl
theorem JO(p:aW)(k:Nat)(l:List lD):(nX p k l).queue=p.queue:=by
 unfold nX;split
 .split<;>rfl
 .split
  .exact vE ..
  .split
   .exact (Ct _ _).2.2.2.2
   .exact vE ..
theorem NM(p:aW)(t:bD)(q:List bD):(gT p t q).queue=q:=by
 unfold gT;split
 .exact JO ..
 .split
  .exact QH ..
  .rfl
theorem YJ{p:aW}(h:(dJ p).2=true):p.queue≠[]/\p.block=0/\p.inline=0/\(dJ p).1.queue.length+1=p.queue.length:=by
 unfold dJ at*;split at h
 .cases h
 .rename_i t q hq;rw[hq];split at h
  .rename_i hc;rw[eA hc];refine⟨by simp,hc.1,hc.2,?_⟩;simp only[NM,eE]
  .cases h
theorem Ug{p:aW}(h:(eO p).2=true)(h1:0<p.block)(h2:p.block<=p.aG.length)(h3:p.inline=0)(hl:p.aG.length<=1048576):(∃s,p.aG[(p.block-1).toNat]? =some s/\s.done=true)/\p.aG.all oW=true:=by
 have hw:i64.wrap (p.block-1)=p.block-1:=by rw[wrap64]<;>omega
 unfold eO at h;rw[cU (by omega),eA (by omega),hw]at h;unfold uR at h;rw[eA (by omega)]at h;split at h
 .rename_i s hs;split at h
  .rename_i hc;exact⟨⟨s,hs,hc.1⟩,hc.2⟩
  .cases h
 .rename_i hs;rw[pL]at hs;omega
theorem Ps(l:List aX)(s:aX):l.length<=(iE l s).length:=by unfold iE;split<;>simp
theorem YK(ss:List aX):∀l:List aX,l.length<=(iR l ss).length:=by
 induction ss with
 |nil=>intro l;exact cX _
 |cons s ss ih=>intro l;exact fW (Ps l s) (ih _)
theorem Uh(p:aW)(c:aX)(w:Bool):p.log.length<=(jU p c w).log.length/\(w=false->(jU p c w).queue=p.queue):=by
 unfold jU;split
 .exact ⟨YK _ _,λh=>by subst h;simp[lM]⟩
 .exact ⟨Ps _ _,λ_=>rfl⟩
theorem Pt{k:Nat}{q:aW}(h:yR k q)(hk:k<=2000):yR (k+1) (eO q).1:=by obtain⟨h1,h2⟩:=h.sz hk;obtain⟨g1,g2,g3,g4⟩:=Ib q (by omega) h.at_;have h4:=h.ga;have h5:=h.en;have h6:=h.sl;exact⟨g1,by omega,by omega,by omega⟩
theorem YL{k:Nat}{q:aW}(h:yR k q)(j:Int)(x:dB):yR (k+1) (gJ q j x):=by
 have hz:=qp q j x;have hs:=(YH q j x).1;have hr:(gJ q j x).builder=q.builder/\(gJ q j x).queue=q.queue/\(gJ q j x).log=q.log/\(gJ q j x).bT=q.bT/\(gJ q j x).Dl=q.Dl/\(gJ q j x).entries=q.entries:=by
  unfold gJ;split
  .split
   .split<;>exact⟨rfl,rfl,rfl,rfl,rfl,rfl⟩
   .exact ⟨rfl,rfl,rfl,rfl,rfl,rfl⟩
  .exact ⟨rfl,rfl,rfl,rfl,rfl,rfl⟩
 obtain⟨r1,r2,r3,r4,r5,r6⟩:=hr;refine⟨uT h.at_ r1 r2,?_,?_,?_⟩
 .have:=h.ga;simp only[nO,UE,xO,r1,r3,r4,r5,r6,hs]at this⊢;omega
 .have:=h.en;simp only[xP,r4,r6]at this⊢;exact this
 .rw [hs];exact h.sl
end Go.Proofs.YtjkdolejalpflaaGreatDoor
