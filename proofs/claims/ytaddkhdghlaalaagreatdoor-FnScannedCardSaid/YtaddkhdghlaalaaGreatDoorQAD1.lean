/-
  Proved here: steps towards the statement of this claim, text QAD1.
  No condition beyond what each statement spells out.
-/
import Derived.Test.YtaddkhdghlaalaaGreatDoorAD0
import Derived.Test.YtaddkhdghlaalaaGreatDoorQJ9
import Derived.Test.YtaddkhdghlaalaaGreatDoorQP3
set_option linter.all false
set_option maxRecDepth 8000
set_option maxHeartbeats 8000000
namespace Go.Proofs.YtaddkhdghlaalaaGreatDoor
open Go.Aw
structure OnP (n e : Nat) (q : aC) : Prop where
  at_ : gM q
  ga : gX q ≤ n
  en : ents q ≤ e
  sl : q.slots.length ≤ 20
theorem OnP.up {n e n2 e2:Nat} {q:aC} (h:OnP n e q) (h1:n≤n2) (h2:e≤e2):OnP n2 e2 q:=⟨h.at_,Nat.le_trans h.ga h1,Nat.le_trans h.en h2,h.sl⟩
theorem OnP.sz {n e:Nat} {q:aC} (h:OnP n e q):aJ q≤n∧szL bI q.mods+szL aI q.entries≤e:=by
 have h1:=h.ga
 have h2:=h.en
 have h3:=(wW q).1
 simp only [gX,ents] at h1 h2
 omega
theorem aWo {n e:Nat} {q:aC} (h:OnP n e q) (hn:n≤33000000) (he:e≤16777216):OnP (n+721) e (rR q).1:=by
 obtain ⟨h1,h2⟩:=h.sz
 have h3:grows q (rR q).1:=by
  unfold rR
  split
  ·exact aJp q (by omega) h.at_
  ·exact aM4 q (by omega) (by omega) h.at_
 obtain ⟨g1,g2,g3,g4⟩:=h3
 have h4:=h.ga
 have h5:=h.en
 have h6:=h.sl
 exact ⟨g1,by omega,by omega,by omega⟩
theorem aWg {e:Nat} (he:e≤16777216):∀(m n:Nat) (q:aC),OnP n e q→n+721 * m≤33000000→OnP (n+721 * m) e (oL m q)
 |0,n,q,h,_=>h.up (by omega) (Nat.le_refl _)
 |m+1,n,q,h,hk=>by
  unfold oL
  split
  ·exact (aWg he m (n+721) _ (aWo h (by omega) he) (by omega)).up (by omega) (Nat.le_refl _)
  ·exact h.up (by omega) (Nat.le_refl _)
theorem aMb {n e:Nat} {q:aC} (h:OnP n e q) (hn:n+1442000≤33000000) (he:e≤16777216):OnP (n+1442000) e (advance q):=by
 have:=aWg he 2000 n q h (by omega)
 exact this
theorem aQi (p:aC) (k:Int) (x:aV):(gD p k x).builder=p.builder∧(gD p k x).queue=p.queue∧(gD p k x).log=p.log∧(gD p k x).mods=p.mods∧(gD p k x).ran=p.ran∧(gD p k x).entries=p.entries:=by
 unfold gD
 split
 ·split
  ·split<;>exact ⟨rfl,rfl,rfl,rfl,rfl,rfl⟩
  ·exact ⟨rfl,rfl,rfl,rfl,rfl,rfl⟩
 ·exact ⟨rfl,rfl,rfl,rfl,rfl,rfl⟩
theorem aI2 (p:aC) (a:aD) (x:aV):∀k,(fQ p a x k).builder=p.builder∧(fQ p a x k).queue=p.queue∧(fQ p a x k).log=p.log∧(fQ p a x k).mods=p.mods∧(fQ p a x k).ran=p.ran∧(fQ p a x k).entries=p.entries
 |0=>⟨rfl,rfl,rfl,rfl,rfl,rfl⟩
 |k+1=>by
  obtain ⟨i1,i2,i3,i4,i5,i6⟩:=aI2 p a x k
  simp only [fQ]
  split
  ·split
   ·obtain ⟨r1,r2,r3,r4,r5,r6⟩:=aQi (fQ p a x k) k x
    exact ⟨r1.trans i1,r2.trans i2,r3.trans i3,r4.trans i4,r5.trans i5,r6.trans i6⟩
   ·exact ⟨i1,i2,i3,i4,i5,i6⟩
  ·exact ⟨i1,i2,i3,i4,i5,i6⟩
theorem aLv {n e:Nat} {p:aC} (a:aD) (x:aV) (h:OnP n e p):OnP (n+8000) e (mD p a x):=by
 obtain ⟨r1,r2,r3,r4,r5,r6⟩:=aI2 p a x p.slots.length
 have h1:=aXm p a x
 have h2:=aUy p a x
 have h3:=h.sl
 have h4:p.slots.length * 400≤8000:=by have:=Nat.mul_le_mul_right 400 h3;omega
 change (mD p a x).builder=p.builder at r1
 change (mD p a x).queue=p.queue at r2
 change (mD p a x).log=p.log at r3
 change (mD p a x).mods=p.mods at r4
 change (mD p a x).ran=p.ran at r5
 change (mD p a x).entries=p.entries at r6
 refine ⟨uU h.at_ r1 r2,?_,?_,by omega⟩
 ·have:=h.ga
  simp only [gX,pot,mK,r1,r3,r4,r5,r6,h2] at this⊢
  omega
 ·have:=h.en
  simp only [ents,r4,r6] at this⊢
  exact this
theorem aO5 {f:dR→Nat}:∀(l:List dR) (k:Nat) (hk:k < l.length) (m:dR),f m=f l[k]→aK f (l.set k m)=aK f l
 |x::l,0,hk,m,h=>by simp only [List.set_cons_zero,aK];simp only [List.getElem_cons_zero] at h;omega
 |x::l,k+1,hk,m,h=>by
  simp only [List.set_cons_succ,aK]
  rw [aO5 l k (by simpa using hk) m (by simpa using h)]
theorem aI0:∀(l:List aD) (p:aC),(∀b∈l,aI b≤16)→∃X,lK p l={p with mods:=X}∧szL bI X≤szL bI p.mods+l.length * 17∧aK (kR p.ran) X≤aK (kR p.ran) p.mods+l.length * 17
 |[],p,_=>⟨p.mods,rfl,by simp,by simp⟩
 |b::l,p,h=>by
  obtain ⟨X,e1,h1,h2⟩:=aRl p b
  have hb:=h b (by simp)
  obtain ⟨Y,e2,h3,h4⟩:=aI0 l (eU p b) (fun c hc=>h c (by simp [hc]))
  refine ⟨Y,?_,?_,?_⟩
  ·show lK (eU p b) l=_
   rw [e2,e1]
  ·rw [e1] at h3
   simp only [List.length_cons] at h3⊢
   omega
  ·rw [e1] at h4
   simp only [List.length_cons] at h4⊢
   omega
theorem aSi {n e:Nat} {p:aC} (a:aD) (x:aV) (h:OnP n e p):OnP (n+2800) (e+1400) (kU p a x):=by
 rcases oP (gJ a) p.mods with ⟨hi,hf⟩|⟨k,hk,hi,hf⟩
 ·rw [aEc hi];exact h.up (by omega) (by omega)
 ·have hg:=List.getElem?_eq_getElem hk
  cases hd:p.mods[k].done
  ·rw [aHg hi hg hd]
   have hfi:=aIp (x:=x) hi hk hf
   have hqs:=aWl p k hk x
   have hub:=aCg p.policy (iE p p.mods[k]) x
   have b1:(gI {p with mods:=p.mods.set k (iR p p.mods[k] x)} a).length≤57:=by
    rw [aKg hfi]
    split
    ·obtain ⟨h1,_,h3⟩:=uJ (iR p p.mods[k] x).body a.host
     have h4:(iR p p.mods[k] x).body.length≤400:=hub
     omega
    ·simp
   obtain ⟨X,e1,h1,h2⟩:=aI0 (gI {p with mods:=p.mods.set k (iR p p.mods[k] x)} a) {p with mods:=p.mods.set k (iR p p.mods[k] x)} (bAf _ _)
   have hu:aK (kR p.ran) (p.mods.set k (iR p p.mods[k] x))=aK (kR p.ran) p.mods:=aO5 _ _ hk _ rfl
   unfold aHm
   generalize (gI {p with mods:=p.mods.set k (iR p p.mods[k] x)} a).length=c at *
   rw [e1]
   simp only at h1 h2
   rw [hu] at h2
   have hc:c * 17≤969:=by have:=Nat.mul_le_mul_right 17 b1;omega
   have hm:szL bI (p.mods.set k (iR p p.mods[k] x))≤szL bI p.mods+400:=by
    simp only [aJ] at hqs
    omega
   have h3:=h.ga
   have h4:=h.en
   refine ⟨h.at_,?_,?_,h.sl⟩
   ·simp only [gX,pot,mK,aJ] at h3⊢
    omega
   ·simp only [ents] at h4⊢
    omega
  ·rw [aE5 hi hg hd];exact h.up (by omega) (by omega)
def qN (p:aC) (a:aD) (x:aV):aC:=advance (kU (mD p a x) a x)
theorem aZd {n e:Nat} {p:aC} (a:aD) (x:aV) (h:OnP n e p) (hn:n+1453000≤33000000) (he:e+1400≤16777216):OnP (n+1453000) (e+1400) (qN p a x):=by
 have h1:=aLv a x h
 have h2:=aSi a x h1
 have h3:=aMb h2 (by omega) he
 unfold qN
 exact h3.up (by omega) (by omega)
theorem bCu {p:aC} (hs:aJ p≤10000) (h1:p.mods=[]) (h2:p.slots=[]) (h3:p.entries=[]):OnP 21000000 680 p:=by
 have hat:gM p:=by
  constructor
  ·intro nd hn
   have h1:=dL nU hn
   simp only [aJ,aU,szL,nU] at hs h1
   omega
  ·intro t ht
   have h1:=dL bN ht
   simp only [aJ,szL,bN] at hs h1
   omega
 have hp:=(wW p).2
 refine ⟨hat,?_,?_,by rw [h2];simp⟩
 ·simp only [gX,mK,h1,h2,h3,aK,List.length_nil];omega
 ·simp only [ents,h1,h3,szL,aK,List.length_nil];omega
def sU:List (Nat×Nat):=[(2,14),(3,15),(4,16),(5,17),(6,18),(7,19),(8,20),(9,21),(10,22),(11,23),(12,24)]
theorem aZs {t t':List AV} {o o':List aA} {l1 l2 l3 l4 l5 l6 l7 l8 l9 l10 l11:Bool} {u n1 v1 n2 v2 n3 v3 n4 v4 n5 v5 n6 v6 n7 v7 n8 v8 n9 v9 n10 v10 n11 v11:Nat} {e1 e2 e3 e4 e5 e6 e7 e8 e9 e10 e11:List (List AV)} {o0 o1 z0:aA} {q:aC} (ho:o=[o0,o1,⟨l1,false,n1,v1,e1⟩,⟨l2,false,n2,v2,e2⟩,⟨l3,false,n3,v3,e3⟩,⟨l4,false,n4,v4,e4⟩,⟨l5,false,n5,v5,e5⟩,⟨l6,false,n6,v6,e6⟩,⟨l7,false,n7,v7,e7⟩,⟨l8,false,n8,v8,e8⟩,⟨l9,false,n9,v9,e9⟩,⟨l10,false,n10,v10,e10⟩,⟨l11,false,n11,v11,e11⟩,⟨true,true,22,u,[pCs 14 q]⟩]++pOs q++[z0])
  (ho':o'=[o0,o1]++pOs q++[⟨true,true,22,u,[pCs 2 q]⟩]) (ht:∀z∈sU,wk (lD z.1 z.2 t') t') (hf:∀z∈sU,o0.rsw z.1 z.2=o0∧o1.rsw z.1 z.2=o1) (hw:wk t t') (hc:fV 14 t'=true) (hc0:eO 14 [o0,o1]=true):fG ⟨t,o⟩ ⟨t',o'⟩:=by
 subst ho;subst ho'
 have e:=fun i j (h:(i,j)∈sU)=>hf (i,j) h
 have h:=fun i j (h:(i,j)∈sU)=>ht (i,j) h
 simp only [pOs,pCs,List.cons_append,List.nil_append,List.append_nil]
 refine (vG hw).trans ?_
 refine (bH 2 14 rfl rfl ⟨rfl,rfl⟩ (by simp [(e 2 14 (by decide))];rfl) (h 2 14 (by decide))).trans ?_
 refine (bH 3 15 rfl rfl ⟨rfl,rfl⟩ (by simp [(e 3 15 (by decide))];rfl) (h 3 15 (by decide))).trans ?_
 refine (bH 4 16 rfl rfl ⟨rfl,rfl⟩ (by simp [(e 4 16 (by decide))];rfl) (h 4 16 (by decide))).trans ?_
 refine (bH 5 17 rfl rfl ⟨rfl,rfl⟩ (by simp [(e 5 17 (by decide))];rfl) (h 5 17 (by decide))).trans ?_
 refine (bH 6 18 rfl rfl ⟨rfl,rfl⟩ (by simp [(e 6 18 (by decide))];rfl) (h 6 18 (by decide))).trans ?_
 refine (bH 7 19 rfl rfl ⟨rfl,rfl⟩ (by simp [(e 7 19 (by decide))];rfl) (h 7 19 (by decide))).trans ?_
 refine (bH 8 20 rfl rfl ⟨rfl,rfl⟩ (by simp [(e 8 20 (by decide))];rfl) (h 8 20 (by decide))).trans ?_
 refine (bH 9 21 rfl rfl ⟨rfl,rfl⟩ (by simp [(e 9 21 (by decide))];rfl) (h 9 21 (by decide))).trans ?_
 refine (bH 10 22 rfl rfl ⟨rfl,rfl⟩ (by simp [(e 10 22 (by decide))];rfl) (h 10 22 (by decide))).trans ?_
 refine (bH 11 23 rfl rfl ⟨rfl,rfl⟩ (by simp [(e 11 23 (by decide))];rfl) (h 11 23 (by decide))).trans ?_
 refine (bH 12 24 rfl rfl ⟨rfl,rfl⟩ (by simp [(e 12 24 (by decide))];rfl) (h 12 24 (by decide))).trans ?_
 refine aN 14 (by simp) (kQ _) hc ?_
 simpa [eO,fV,closed,and_assoc] using hc0
def sV:List (Nat×Nat):=[(2,26),(3,27),(4,28),(5,29),(6,30),(7,31),(8,32),(9,33),(10,34),(11,35),(12,36)]
theorem aZa {t t':List AV} {o o':List aA} {l1 l2 l3 l4 l5 l6 l7 l8 l9 l10 l11:Bool} {u n1 v1 n2 v2 n3 v3 n4 v4 n5 v5 n6 v6 n7 v7 n8 v8 n9 v9 n10 v10 n11 v11:Nat} {e1 e2 e3 e4 e5 e6 e7 e8 e9 e10 e11:List (List AV)} {o0 o1 m0 m1 m2 m3 m4 m5 m6 m7 m8 m9 m10 m11:aA} {q:aC} (ho:o=[o0,o1,⟨l1,false,n1,v1,e1⟩,⟨l2,false,n2,v2,e2⟩,⟨l3,false,n3,v3,e3⟩,⟨l4,false,n4,v4,e4⟩,⟨l5,false,n5,v5,e5⟩,⟨l6,false,n6,v6,e6⟩,⟨l7,false,n7,v7,e7⟩,⟨l8,false,n8,v8,e8⟩,⟨l9,false,n9,v9,e9⟩,⟨l10,false,n10,v10,e10⟩,⟨l11,false,n11,v11,e11⟩,⟨true,true,22,u,[pCs 26 q]⟩,m0,m1,m2,m3,m4,m5,m6,m7,m8,m9,m10,m11]++pOs q++[])
  (ho':o'=[o0,o1]++pOs q++[⟨true,true,22,u,[pCs 2 q]⟩]) (ht:∀z∈sV,wk (lD z.1 z.2 t') t') (hf:∀z∈sV,o0.rsw z.1 z.2=o0∧o1.rsw z.1 z.2=o1) (hw:wk t t') (hc:fV 14 t'=true) (hc0:eO 14 [o0,o1]=true):fG ⟨t,o⟩ ⟨t',o'⟩:=by
 subst ho;subst ho'
 have e:=fun i j (h:(i,j)∈sV)=>hf (i,j) h
 have h:=fun i j (h:(i,j)∈sV)=>ht (i,j) h
 simp only [pOs,pCs,List.cons_append,List.nil_append,List.append_nil]
 refine (vG hw).trans ?_
 refine (bH 2 26 rfl rfl ⟨rfl,rfl⟩ (by simp [(e 2 26 (by decide))];rfl) (h 2 26 (by decide))).trans ?_
 refine (bH 3 27 rfl rfl ⟨rfl,rfl⟩ (by simp [(e 3 27 (by decide))];rfl) (h 3 27 (by decide))).trans ?_
 refine (bH 4 28 rfl rfl ⟨rfl,rfl⟩ (by simp [(e 4 28 (by decide))];rfl) (h 4 28 (by decide))).trans ?_
 refine (bH 5 29 rfl rfl ⟨rfl,rfl⟩ (by simp [(e 5 29 (by decide))];rfl) (h 5 29 (by decide))).trans ?_
 refine (bH 6 30 rfl rfl ⟨rfl,rfl⟩ (by simp [(e 6 30 (by decide))];rfl) (h 6 30 (by decide))).trans ?_
 refine (bH 7 31 rfl rfl ⟨rfl,rfl⟩ (by simp [(e 7 31 (by decide))];rfl) (h 7 31 (by decide))).trans ?_
 refine (bH 8 32 rfl rfl ⟨rfl,rfl⟩ (by simp [(e 8 32 (by decide))];rfl) (h 8 32 (by decide))).trans ?_
 refine (bH 9 33 rfl rfl ⟨rfl,rfl⟩ (by simp [(e 9 33 (by decide))];rfl) (h 9 33 (by decide))).trans ?_
 refine (bH 10 34 rfl rfl ⟨rfl,rfl⟩ (by simp [(e 10 34 (by decide))];rfl) (h 10 34 (by decide))).trans ?_
 refine (bH 11 35 rfl rfl ⟨rfl,rfl⟩ (by simp [(e 11 35 (by decide))];rfl) (h 11 35 (by decide))).trans ?_
 refine (bH 12 36 rfl rfl ⟨rfl,rfl⟩ (by simp [(e 12 36 (by decide))];rfl) (h 12 36 (by decide))).trans ?_
 refine aN 14 (by simp) (kQ _) hc ?_
 simpa [eO,fV,closed,and_assoc] using hc0
end Go.Proofs.YtaddkhdghlaalaaGreatDoor
