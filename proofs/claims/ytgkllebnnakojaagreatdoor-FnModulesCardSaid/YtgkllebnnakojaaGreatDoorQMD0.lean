/-
  Proved here: steps towards the statement of this claim, text QMD0.
  No condition beyond what each statement spells out.
-/
import Derived.Test.YtgkllebnnakojaaGreatDoorZ6
import Derived.Test.YtgkllebnnakojaaGreatDoorQAS0
import Derived.Test.YtgkllebnnakojaaGreatDoorQPL
set_option linter.all false
set_option maxRecDepth 4000
set_option maxHeartbeats 4000000
namespace Go.Proofs.YtgkllebnnakojaaGreatDoor
open Go.Aw
inductive Rch (p : aJ) : aC → aC → Prop
  | refl (a : aC) : Rch p a a
  | step {a b c : aC} : Rch p a b → c ∈ bR p b → Rch p a c
structure aK9 (p : aJ) (s : List aC × List aC) : Prop where
  cl : ∀ x ∈ s.2, ∀ b ∈ bR p x, b ∈ s.1
  ord : ∀ pre x post, s.2 = pre ++ x :: post → ∀ b ∈ bR p x, b ∈ pre ∨ Rch p b x
  sub : ∀ x ∈ s.2, x ∈ s.1
structure wS (s r : List aC × List aC) : Prop where
  m1 : ∀ x ∈ s.1, x ∈ r.1
  m2 : ∀ x ∈ s.2, x ∈ r.2
  new : ∀ x ∈ r.1, x ∈ s.1 ∨ x ∈ r.2
theorem wS.refl (s:List aC×List aC):wS s s:=⟨fun _ h=>h,fun _ h=>h,fun _ h=> .inl h⟩
theorem wS.trans {s r q:List aC×List aC} (h1:wS s r) (h2:wS r q):wS s q:=
 ⟨fun x h=>h2.m1 x (h1.m1 x h),fun x h=>h2.m2 x (h1.m2 x h),fun x h=>(h2.new x h).elim (fun h=>(h1.new x h).imp id (h2.m2 x)) .inr⟩
theorem aEa {p:aJ}:∀(n:Nat) (a:aC) (s:List aC×List aC),unseen p s.1 < n→aK9 p s→(∀g∈s.1,g∉s.2→Rch p g a)→
  aK9 p (bI p n a s.1 s.2)∧wS s (bI p n a s.1 s.2)∧a∈(bI p n a s.1 s.2).1
 |0,a,s,hf,_,_=>by omega
 |n+1,a,s,hf,hs,hg=>by
  simp only [bI]
  split
  ·rename_i h
   exact ⟨hs,wS.refl _,iX.1 h⟩
  ·rename_i hn
   have key:∀(l:List aC) (q:List aC×List aC),(∀b∈l,b∈bR p a)→(l≠[]→unseen p q.1 < n)→aK9 p q→(∀g∈q.1,g∉q.2→Rch p g a)→
     aK9 p (l.foldl (fun s b=>bI p n b s.1 s.2) q)∧wS q (l.foldl (fun s b=>bI p n b s.1 s.2) q)∧∀b∈l,b∈(l.foldl (fun s b=>bI p n b s.1 s.2) q).1:=by
    intro l
    induction l with
    |nil=>intro q _ _ hq _;exact ⟨hq,wS.refl _,by simp⟩
    |cons b l ih=>
     intro q hl hu hq hgq
     have hb:=hl b (by simp)
     obtain ⟨h1,h2,h3⟩:=aEa n b q (hu (by simp)) hq (fun g h4 h5=> .step (hgq g h4 h5) hb)
     obtain ⟨h4,h5,h6⟩:=ih (bI p n b q.1 q.2) (fun x hx=>hl x (by simp [hx])) (fun _=>Nat.lt_of_le_of_lt (xD h2.m1) (hu (by simp))) h1
      (fun g h4 h5=>hgq g ((h2.new g h4).resolve_right h5) (fun h6=>h5 (h2.m2 g h6)))
     refine ⟨h4,h2.trans h5,fun x hx=> ?_⟩
     rcases List.mem_cons.1 hx with rfl|hx
     ·exact h5.m1 x h3
     ·exact h6 x hx
   have hq:aK9 p (s.1++[a],s.2):=⟨fun x hx b hb=>List.mem_append_left _ (hs.cl x hx b hb),hs.ord,fun x hx=>List.mem_append_left _ (hs.sub x hx)⟩
   have hgq:∀g∈(s.1++[a],s.2).1,g∉(s.1++[a],s.2).2→Rch p g a:=fun g h1 h2=>by
    rcases List.mem_append.1 h1 with h|h
    ·exact hg g h h2
    ·simp only [List.mem_singleton] at h;subst h;exact .refl _
   obtain ⟨h1,h2,h3⟩:=key (bR p a) (s.1++[a],s.2) (fun _ h=>h) (fun hne=>by have:=aAz hn (aFc hne);simp only;omega) hq hgq
   generalize (bR p a).foldl (fun s b=>bI p n b s.1 s.2) (s.1++[a],s.2)=r at *
   have ha:a∈r.1:=h2.m1 a (by simp)
   refine ⟨⟨?_,?_,?_⟩,⟨fun x hx=>h2.m1 x (List.mem_append_left _ hx),fun x hx=>List.mem_append_left _ (h2.m2 x hx),fun x hx=> ?_⟩,ha⟩
   ·intro x hx b hb
    rcases List.mem_append.1 hx with h|h
    ·exact h1.cl x h b hb
    ·simp only [List.mem_singleton] at h;subst h;exact h3 b hb
   ·intro pre x post e b hb
    rcases List.eq_nil_or_concat post with rfl|⟨post',z,rfl⟩
    ·obtain ⟨rfl,e2⟩:=List.append_inj' e rfl
     simp only [List.cons.injEq,and_true] at e2
     subst e2
     by_cases hbo:b∈r.2
     ·exact .inl hbo
     ·rcases (h2.new b (h3 b hb)) with h|h
      ·exact .inr (hgq b h (fun h5=>hbo (h2.m2 b h5)))
      ·exact absurd h hbo
    ·rw [List.concat_eq_append,←List.cons_append,←List.append_assoc] at e
     obtain ⟨e1,_⟩:=List.append_inj' e rfl
     exact h1.ord pre x post' e1 b hb
   ·intro x hx
    rcases List.mem_append.1 hx with h|h
    ·exact h1.sub x h
    ·simp only [List.mem_singleton] at h;subst h;exact ha
   ·rcases h2.new x hx with h|h
    ·rcases List.mem_append.1 h with h|h
     ·exact .inl h
     ·exact .inr (List.mem_append_right _ h)
    ·exact .inr (List.mem_append_left _ h)
theorem vR (p:aJ) (a:aC):(∀x∈bC p a,∀b∈bR p x,b∈bC p a)∧(∀pre x post,bC p a=pre++x::post→∀b∈bR p x,b∈pre∨Rch p b x)∧a∈bC p a:=by
 obtain ⟨h1,h2,h3⟩:=aEa (unseen p []+1) a ([],[]) (Nat.lt_succ_self _) ⟨by simp,by simp,by simp⟩ (by simp)
 have hm:∀x∈(bI p (unseen p []+1) a [] []).1,x∈(bI p (unseen p []+1) a [] []).2:=fun x hx=>(h2.new x hx).resolve_left (by simp)
 exact ⟨fun x hx b hb=>hm b (h1.cl x hx b hb),h1.ord,hm a h3⟩
theorem aQt {p:aJ} {a b:aC} (h:Rch p a b):b∈bC p a:=by
 induction h with
 |refl=>exact (vR p a).2.2
 |step _ hc ih=>exact (vR p a).1 _ ih _ hc
theorem aNq (p:aJ) (a:aC):∃l,bC p a=l++[a]:=by
 unfold bC
 simp only [bI]
 split
 ·rename_i h;simp at h
 ·exact ⟨_,rfl⟩
theorem aCj (p:aJ) (a:aC):(bC p a).Nodup:=
 (uK (U:=a::gP p) (fun x hx=>by simp [hx]) (unseen p []+1) a ([],[]) (by simp) ⟨by simp,by simp,by simp,by simp⟩).1.ond
theorem aSy {l:List aC} {b x:aC} {pre post:List aC} (e:l=pre++x::post) (hx:x∉pre) (hb:b∈pre):dZ (bG b) l≤dZ (bG x) l:=by
 subst e
 obtain ⟨k,hk,hkb⟩:=List.getElem_of_mem hb
 have h1:dZ (bG x) (pre++x::post)=(pre.length:Nat):=by
  refine qA (by simp) (by simp [bG]) fun y hy=> ?_
  rw [List.take_left' rfl] at hy
  simp only [bG,decide_eq_false_iff_not]
  exact fun e=>hx (e▸hy)
 rw [h1]
 have h2:(pre++x::post).findIdx (bG b)≤k:=by
  refine Nat.le_of_not_lt fun h=> ?_
  have:=List.not_of_lt_findIdx h
  rw [List.getElem_append_left hk] at this
  simp [bG,hkb] at this
 unfold dZ
 split<;>omega
theorem aLs {p:aJ} {a x b:aC} (hx:x∈bC p a) (hb:b∈bR p x) (hn:(bC p b).any (bG x)=false):dZ (bG b) (bC p a)≤dZ (bG x) (bC p a):=by
 obtain ⟨pre,post,e⟩:=List.append_of_mem hx
 have hnd:=aCj p a
 rcases (vR p a).2.1 pre x post e b hb with h|h
 ·refine aSy e ?_ h
  rw [e,List.nodup_append] at hnd
  exact fun h=>hnd.2.2 x h x (by simp) rfl
 ·have:=iX.2 (aQt h)
  rw [this] at hn;cases hn
theorem aU8 {p:aJ} (h:eQ p.mods) {k:Nat} (hk:k < p.mods.length) (hd:p.mods[k].done=true) (hc:p.mods[k].code=1):bR p p.mods[k].to=(aN p.mods[k].body p.mods[k].to.host).1:=by
 unfold bR
 rcases gZ (dJ p.mods[k].to) p.mods with ⟨_,hn⟩|⟨j,hj,hi,hf⟩
 ·have:=List.find?_eq_none.1 hn _ (List.getElem_mem hk)
  simp [dJ] at this
 ·have:=aGu hi hj
  have:=aPo h hj hk this
  subst this
  rw [hf]
  simp only
  rw [if_pos ⟨hd,hc⟩]
def eO (p:aJ) (a:aC):Bool:=
 match p.mods.find? (dJ a) with
 |some m=>m.done
 |none=>false
def mI (p:aJ) (a:aC):Bool:=(bC p a).all (eO p)
def mM (p:aJ) (a:aC):Bool:= !(bC p a).all (fA p)
theorem aEd {α:Type} {f:α→Bool} {l:List α} (k:Nat) (hk:k < l.length) (h:f l[k]=false):l.all f=false:=by
 cases hb:l.all f with
 |false=>rfl
 |true=>
  rw [List.all_eq_true] at hb
  have:=hb l[k] (List.getElem_mem hk)
  rw [h] at this;cases this
theorem aBr {α:Type} {f:α→Bool} {l:List α} (h:∀x∈l,f x=true):l.all f=true:=List.all_eq_true.2 h
theorem aB8 [aB Tryz.prog] [cO Tryz.prog] (p:aJ) (a:aC) (hs:szL bJ p.mods+aK a≤16777216):Ok Tryz.prog 13 [.agg (aL .view p),.agg (aD a)] (.bool (mI p a)):=by
 obtain ⟨hB,_⟩:=uT p a hs
 obtain ⟨z1,_,_⟩:=rC p a hs
 have c0:=rA p _ hB a (by simp)
 have cm:=fun b=>uX p b (by simp only [bL,szL] at hs;omega)
 unfold mI
 generalize bC p a=L at *
 simp only [aD,aL] at c0 cm
 have hlen:(L.map aD).length=L.length:=by simp
 refine ent Tryz.mix Tryz.func13 Tryz.ntmps13 ?_
 have W:=trivial
 repeat' first|refine st ?_|(refine nx ?_;first|refine se ?_|refine so ?_)|(refine cx ?_;refine sc (fun hc=>?_) (fun hc=>?_)<;>try exact hc.elim)|(refine lx ?_;refine sp (fun hc=>?_) (fun hc=>?_)<;>try exact hc.elim)|refine sx ?_ ?_|refine sy ?_ ?_|fail
 refine aT (ι:={k:Nat // k≤L.length∧∀x∈L.take k,eO p x=true}) (fun t o i=>⟨bB t [(12,.int .i64 i.1),(13,.undef),(14,.undef),(15,.undef),(6,.undef),(7,.undef)],o.take 3⟩)
  (fun i=>L.length - i.1) ⟨0,by simp,by simp⟩ (aI (by simp) (by simp)) ?_
 rintro ⟨k,hk,hpre⟩ K1 hK1
 simp only [bB,List.set_cons_succ,List.set_cons_zero] at hK1⊢
 have hk1:IntKind.i64.wrap ((k:Int)+1)=((k+1:Nat):Int):=by rw [wrap64]<;>omega
 by_cases hlt:k < L.length
 ·have hg:=List.getElem?_eq_getElem hlt
  have c1:=cm L[k]
  have hnext:eO p L[k]=true→∀x∈L.take (k+1),eO p x=true:=fun h=>dD hlt hpre h
  have hbad:eO p L[k]=false→L.all (eO p)=false:=fun h=>aEd k hlt h
  rcases gZ (dJ L[k]) p.mods with ⟨hi,hf⟩|⟨j,hj,hi,hf⟩
  ·have hd:eO p L[k]=false:=by unfold eO;rw [hf]
   rw [hi] at c1
   have hres:=hbad hd
   have W:=And.intro hk1 (And.intro hg hlt)
   repeat' first|refine st ?_|(refine nx ?_;first|refine se ?_|refine so ?_)|(refine cx ?_;refine sc (fun hc=>?_) (fun hc=>?_)<;>try exact hc.elim)|(refine lx ?_;refine sp (fun hc=>?_) (fun hc=>?_)<;>try exact hc.elim)|refine sx ?_ ?_|refine sy ?_ ?_|fail
   all_goals (try (refine ⟨.inr rfl,?_⟩;simp [Hands,Tryz.results13,hres]))
  ·have hd:eO p L[k]=p.mods[j].done:=by unfold eO;rw [hf]
   rw [hi] at c1
   have hgm:=List.getElem?_eq_getElem hj
   have hj0:¬(j:Int) < 0:=by omega
   cases hdone:p.mods[j].done
   ·have hres:=hbad (hd.trans hdone)
    have W:=And.intro hk1 (And.intro hg (And.intro hlt (And.intro hgm (And.intro hj (And.intro hj0 hdone)))))
    repeat' first|refine st ?_|(refine nx ?_;first|refine se ?_|refine so ?_)|(refine cx ?_;refine sc (fun hc=>?_) (fun hc=>?_)<;>try exact hc.elim)|(refine lx ?_;refine sp (fun hc=>?_) (fun hc=>?_)<;>try exact hc.elim)|refine sx ?_ ?_|refine sy ?_ ?_|fail
    all_goals (try (refine ⟨.inr rfl,?_⟩;simp [Hands,Tryz.results13,hres]))
   ·have hnx:=hnext (hd.trans hdone)
    have W:=And.intro hk1 (And.intro hg (And.intro hlt (And.intro hgm (And.intro hj (And.intro hj0 hdone)))))
    repeat' first|refine st ?_|(refine nx ?_;first|refine se ?_|refine so ?_)|(refine cx ?_;refine sc (fun hc=>?_) (fun hc=>?_)<;>try exact hc.elim)|(refine lx ?_;refine sp (fun hc=>?_) (fun hc=>?_)<;>try exact hc.elim)|refine sx ?_ ?_|refine sy ?_ ?_|fail
    exact hK1 _ ⟨k+1,by omega,hnx⟩ (aO 3 (by simp) (by simp) (by simp) (by simp)) (by simp only;omega)
 ·have hres:L.all (eO p)=true:=aBr (by have:=hpre;rwa [List.take_of_length_le (by omega)] at this)
  have W:=And.intro hk1 hlt
  repeat' first|refine st ?_|(refine nx ?_;first|refine se ?_|refine so ?_)|(refine cx ?_;refine sc (fun hc=>?_) (fun hc=>?_)<;>try exact hc.elim)|(refine lx ?_;refine sp (fun hc=>?_) (fun hc=>?_)<;>try exact hc.elim)|refine sx ?_ ?_|refine sy ?_ ?_|fail
  all_goals (try (refine ⟨.inr rfl,?_⟩;simp [Hands,Tryz.results13,hres]))
theorem aB6 [aB Tryz.prog] [cO Tryz.prog] (p:aJ) (a:aC) (hs:szL bJ p.mods+aK a≤16777216):Ok Tryz.prog 14 [.agg (aL .view p),.agg (aD a)] (.bool (mI p a)):=by
 obtain ⟨hB,_⟩:=uT p a hs
 obtain ⟨z1,_,_⟩:=rC p a hs
 have c0:=nX p _ hB a (by simp)
 have cm:=fun b=>sD p b (by simp only [bL,szL] at hs;omega)
 unfold mI
 generalize bC p a=L at *
 simp only [aD,aL] at c0 cm
 have hlen:(L.map aD).length=L.length:=by simp
 refine ent Tryz.mix Tryz.func14 Tryz.ntmps14 ?_
 have W:=trivial
 repeat' first|refine st ?_|(refine nx ?_;first|refine se ?_|refine so ?_)|(refine cx ?_;refine sc (fun hc=>?_) (fun hc=>?_)<;>try exact hc.elim)|(refine lx ?_;refine sp (fun hc=>?_) (fun hc=>?_)<;>try exact hc.elim)|refine sx ?_ ?_|refine sy ?_ ?_|fail
 refine aT (ι:={k:Nat // k≤L.length∧∀x∈L.take k,eO p x=true}) (fun t o i=>⟨bB t [(6,.int .i64 i.1),(7,.undef)],o⟩)
  (fun i=>L.length - i.1) ⟨0,by simp,by simp⟩ (aI (by simp) (by simp)) ?_
 rintro ⟨k,hk,hpre⟩ K1 hK1
 simp only [bB,List.set_cons_succ,List.set_cons_zero] at hK1⊢
 have hk1:IntKind.i64.wrap ((k:Int)+1)=((k+1:Nat):Int):=by rw [wrap64]<;>omega
 by_cases hlt:k < L.length
 ·have hg:=List.getElem?_eq_getElem hlt
  have c1:=cm L[k]
  have hnext:eO p L[k]=true→∀x∈L.take (k+1),eO p x=true:=fun h=>dD hlt hpre h
  have hbad:eO p L[k]=false→L.all (eO p)=false:=fun h=>aEd k hlt h
  rcases gZ (dJ L[k]) p.mods with ⟨hi,hf⟩|⟨j,hj,hi,hf⟩
  ·have hd:eO p L[k]=false:=by unfold eO;rw [hf]
   rw [hi] at c1
   have hres:=hbad hd
   have W:=And.intro hk1 (And.intro hg hlt)
   repeat' first|refine st ?_|(refine nx ?_;first|refine se ?_|refine so ?_)|(refine cx ?_;refine sc (fun hc=>?_) (fun hc=>?_)<;>try exact hc.elim)|(refine lx ?_;refine sp (fun hc=>?_) (fun hc=>?_)<;>try exact hc.elim)|refine sx ?_ ?_|refine sy ?_ ?_|fail
   all_goals (try (refine ⟨.inr rfl,?_⟩;simp [Hands,Tryz.results14,hres]))
  ·have hd:eO p L[k]=p.mods[j].done:=by unfold eO;rw [hf]
   rw [hi] at c1
   have hgm:=List.getElem?_eq_getElem hj
   have hj0:¬(j:Int) < 0:=by omega
   cases hdone:p.mods[j].done
   ·have hres:=hbad (hd.trans hdone)
    have W:=And.intro hk1 (And.intro hg (And.intro hlt (And.intro hgm (And.intro hj (And.intro hj0 hdone)))))
    repeat' first|refine st ?_|(refine nx ?_;first|refine se ?_|refine so ?_)|(refine cx ?_;refine sc (fun hc=>?_) (fun hc=>?_)<;>try exact hc.elim)|(refine lx ?_;refine sp (fun hc=>?_) (fun hc=>?_)<;>try exact hc.elim)|refine sx ?_ ?_|refine sy ?_ ?_|fail
    all_goals (try (refine ⟨.inr rfl,?_⟩;simp [Hands,Tryz.results14,hres]))
   ·have hnx:=hnext (hd.trans hdone)
    have W:=And.intro hk1 (And.intro hg (And.intro hlt (And.intro hgm (And.intro hj (And.intro hj0 hdone)))))
    repeat' first|refine st ?_|(refine nx ?_;first|refine se ?_|refine so ?_)|(refine cx ?_;refine sc (fun hc=>?_) (fun hc=>?_)<;>try exact hc.elim)|(refine lx ?_;refine sp (fun hc=>?_) (fun hc=>?_)<;>try exact hc.elim)|refine sx ?_ ?_|refine sy ?_ ?_|fail
    exact hK1 _ ⟨k+1,by omega,hnx⟩ (aO 3 (by simp) (by simp) (by simp) (by simp)) (by simp only;omega)
 ·have hres:L.all (eO p)=true:=aBr (by have:=hpre;rwa [List.take_of_length_le (by omega)] at this)
  have W:=And.intro hk1 hlt
  repeat' first|refine st ?_|(refine nx ?_;first|refine se ?_|refine so ?_)|(refine cx ?_;refine sc (fun hc=>?_) (fun hc=>?_)<;>try exact hc.elim)|(refine lx ?_;refine sp (fun hc=>?_) (fun hc=>?_)<;>try exact hc.elim)|refine sx ?_ ?_|refine sy ?_ ?_|fail
  all_goals (try (refine ⟨.inr rfl,?_⟩;simp [Hands,Tryz.results14,hres]))
end Go.Proofs.YtgkllebnnakojaaGreatDoor
