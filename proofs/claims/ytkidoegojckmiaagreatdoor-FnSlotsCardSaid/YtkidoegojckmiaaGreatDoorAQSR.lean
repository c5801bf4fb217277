/-
  Proved here: steps towards the statement of this claim, text QSR.
  No condition beyond what each statement spells out.
-/
import Derived.Test.YtkidoegojckmiaaGreatDoorAQU1
import Derived.Test.YtkidoegojckmiaaGreatDoorAQY2
import Derived.Test.YtkidoegojckmiaaGreatDoorAJ9
import Derived.Test.YtkidoegojckmiaaGreatDoorAQN1
set_option linter.all false
set_option maxRecDepth 4000
set_option maxHeartbeats 4000000
namespace Go.Proofs.YtkidoegojckmiaaGreatDoor
open Go.Aw
def nK (s:dR):Bool:= !(decide (s.mode=2)&& !s.done)
theorem aA7 [aB Tryz.prog] (p:aZ) (hl:p.slots.length≤1099511627776):Ok Tryz.prog 17 [.agg (aU .view p)] (.bool (p.slots.all nK)):=by
 refine ent Tryz.mix Tryz.func17 Tryz.ntmps17 ?_
 have W:=trivial
 repeat' first|refine st ?_|(refine nx ?_;refine so ?_)|(refine cx ?_;refine sc (fun hc=>?_) (fun hc=>?_)<;>try exact hc.elim)|(refine lx ?_;refine sp (fun hc=>?_) (fun hc=>?_)<;>try exact hc.elim)|refine sx ?_ ?_|refine sy ?_ ?_|fail
 refine aJ (ι:={k:Nat // k≤p.slots.length∧∀x∈p.slots.take k,nK x=true}) (fun t o i=>⟨aL t [(3,.int .i64 i.1)],o⟩)
  (fun i=>p.slots.length - i.1) ⟨0,by simp⟩ (aH (by simp) (by simp)) ?_
 rintro ⟨k,hk,hpre⟩ K1 hK1
 simp only [aL,List.set_cons_succ,List.set_cons_zero] at hK1⊢
 have hk1:IntKind.i64.wrap ((k:Int)+1)=((k+1:Nat):Int):=by rw [wrap64]<;>omega
 by_cases hlt:k < p.slots.length
 ·have hg:=List.getElem?_eq_getElem hlt
  have W:=And.intro hk1 (And.intro hg hlt)
  repeat' first|refine st ?_|(refine nx ?_;refine so ?_)|(refine cx ?_;refine sc (fun hc=>?_) (fun hc=>?_)<;>try exact hc.elim)|(refine lx ?_;refine sp (fun hc=>?_) (fun hc=>?_)<;>try exact hc.elim)|refine sx ?_ ?_|refine sy ?_ ?_|fail
  all_goals first
   |(refine hK1 _ ⟨k+1,by omega,dP hlt hpre (by simp_all [nK])⟩ (aH (by simp) (by simp)) (by simp only;omega);done)
   |skip
  all_goals (try (refine ⟨.inr rfl,?_⟩;simp [Hands,Tryz.results17]))
  exact ⟨_,List.getElem_mem hlt,by simp_all [nK]⟩
 ·have W:=hk1
  repeat' first|refine st ?_|(refine nx ?_;refine so ?_)|(refine cx ?_;refine sc (fun hc=>?_) (fun hc=>?_)<;>try exact hc.elim)|(refine lx ?_;refine sp (fun hc=>?_) (fun hc=>?_)<;>try exact hc.elim)|refine sx ?_ ?_|refine sy ?_ ?_|fail
  all_goals (try (refine ⟨.inr rfl,?_⟩;simp [Hands,Tryz.results17]))
  exact iP (by omega) hpre
theorem aA6 [aB Tryz.prog] (p:aZ) (hl:p.slots.length≤1099511627776):Ok Tryz.prog 16 [.agg (aU .view p)] (.bool (p.slots.all nK)):=by
 refine ent Tryz.mix Tryz.func16 Tryz.ntmps16 ?_
 have W:=trivial
 repeat' first|refine st ?_|(refine nx ?_;refine so ?_)|(refine cx ?_;refine sc (fun hc=>?_) (fun hc=>?_)<;>try exact hc.elim)|(refine lx ?_;refine sp (fun hc=>?_) (fun hc=>?_)<;>try exact hc.elim)|refine sx ?_ ?_|refine sy ?_ ?_|fail
 refine aJ (ι:={k:Nat // k≤p.slots.length∧∀x∈p.slots.take k,nK x=true}) (fun t o i=>⟨aL t [(8,.int .i64 i.1)],o⟩)
  (fun i=>p.slots.length - i.1) ⟨0,by simp⟩ (aH (by simp) (by simp)) ?_
 rintro ⟨k,hk,hpre⟩ K1 hK1
 simp only [aL,List.set_cons_succ,List.set_cons_zero] at hK1⊢
 have hk1:IntKind.i64.wrap ((k:Int)+1)=((k+1:Nat):Int):=by rw [wrap64]<;>omega
 by_cases hlt:k < p.slots.length
 ·have hg:=List.getElem?_eq_getElem hlt
  have W:=And.intro hk1 (And.intro hg hlt)
  repeat' first|refine st ?_|(refine nx ?_;refine so ?_)|(refine cx ?_;refine sc (fun hc=>?_) (fun hc=>?_)<;>try exact hc.elim)|(refine lx ?_;refine sp (fun hc=>?_) (fun hc=>?_)<;>try exact hc.elim)|refine sx ?_ ?_|refine sy ?_ ?_|fail
  all_goals first
   |(refine hK1 _ ⟨k+1,by omega,dP hlt hpre (by simp_all [nK])⟩ (aG 1 rfl (by simp) (by simp) (by simp)) (by simp only;omega);done)
   |skip
  all_goals (try (refine ⟨.inr rfl,?_⟩;simp [Hands,Tryz.results16]))
  exact ⟨_,List.getElem_mem hlt,by simp_all [nK]⟩
 ·have W:=hk1
  repeat' first|refine st ?_|(refine nx ?_;refine so ?_)|(refine cx ?_;refine sc (fun hc=>?_) (fun hc=>?_)<;>try exact hc.elim)|(refine lx ?_;refine sp (fun hc=>?_) (fun hc=>?_)<;>try exact hc.elim)|refine sx ?_ ?_|refine sy ?_ ?_|fail
  all_goals (try (refine ⟨.inr rfl,?_⟩;simp [Hands,Tryz.results16]))
  exact iP (by omega) hpre
theorem aQs (p:aZ) (k:Int) (x y:aR):bR (bR p k x) k y=bR p k x:=by
 by_cases h:0≤k∧k < p.slots.length
 ·obtain ⟨h0,h1⟩:=h
  have hlt:k.toNat < p.slots.length:=by omega
  have hg:p.slots[k.toNat]? =some p.slots[k.toNat]:=List.getElem?_eq_getElem hlt
  cases hd:p.slots[k.toNat].done with
  |true=>rw [pE hg hd,pE hg hd]
  |false=>
   rw [yC h0 hg hd]
   exact pE (s:=filled p p.slots[k.toNat] x) (by simp [hlt]) rfl
 ·rw [tZ h,tZ h]
theorem aL5 {p:aZ} {k:Nat} {x:aR} {s:dR} (hg:p.slots[k]? =some s) (hd:s.done=false):(bR p k x).slots[k]? =some (filled p s x):=by
 rw [yC (s:=s) (by omega) (by simpa using hg) hd]
 have hlt:=(List.getElem?_eq_some_iff.1 hg).1
 simp [hlt]
theorem aPc {p:aZ} {k:Nat} {x:aR} {s:dR} (hg:p.slots[k]? =some s):∃u,(bR p k x).slots[k]? =some u∧u.to=s.to∧u.done=true:=by
 cases hd:s.done with
 |true=>exact ⟨s,by rw [pE (s:=s) (by simpa using hg) hd];exact hg,rfl,hd⟩
 |false=>exact ⟨_,aL5 hg hd,rfl,rfl⟩
theorem aGl (p:aZ) (a:bC) (x:aR):∀(k i:Nat) (s:dR),i < k→(fB p a x k).slots[i]? =some s→(s.to=a→s.done=true)∧(s.to≠a→p.slots[i]? =some s)
 |0,i,s,h,_=>by omega
 |k+1,i,s,h,hg=>by
  have hk:=(qC p a x k).2.1
  have ih:=fun h=>aGl p a x k i s h
  simp only [fB] at hg
  by_cases hik:i=k
  ·subst hik
   split at hg
   ·rename_i s0 hs0
    split at hg
    ·rename_i hto
     obtain ⟨u,h1,h2,h3⟩:=aPc (p:=fB p a x i) (x:=x) (by rw [hk i (Nat.le_refl _)];exact hs0)
     rw [h1] at hg
     obtain rfl:=Option.some.inj hg
     exact ⟨fun _=>h3,fun hne=>absurd (h2.trans hto) hne⟩
    ·rename_i hto
     rw [hk i (Nat.le_refl _)] at hg
     rw [hs0] at hg
     obtain rfl:=Option.some.inj hg
     exact ⟨fun e=>absurd e hto,fun _=>hs0⟩
   ·rename_i hs0
    rw [hk i (Nat.le_refl _),hs0] at hg
    cases hg
  ·split at hg
   ·split at hg
    ·rw [aL7 _ _ _ _ (by omega)] at hg
     exact ih (by omega) hg
    ·exact ih (by omega) hg
   ·exact ih (by omega) hg
theorem wK (p:aZ) (a:bC) (x:aR):(pK p a x).slots.length=p.slots.length:=(qC p a x _).1
theorem aEt {p:aZ} {a:bC} {x:aR} {i:Nat} {s:dR} (hg:(pK p a x).slots[i]? =some s):(s.to=a→s.done=true)∧(s.to≠a→p.slots[i]? =some s):=by
 have hlt:=(List.getElem?_eq_some_iff.1 hg).1
 rw [wK] at hlt
 exact aGl p a x _ i s hlt hg
theorem yU {α:Type} (f:α→Bool):∀(l:List α) (n:Nat),(places f n l).length=l.countP f
 |[],n=>rfl
 |x::l,n=>by
  have:=yU f l (n+1)
  cases h:f x<;>simp [places,h,this]
theorem aGe {f:dR→Bool}:∀(v u:List dR),v.length=u.length→(∀(i:Nat) (s:dR),v[i]? =some s→f s=true→u[i]? =some s)→v.countP f≤u.countP f
 |[],_,_,_=>by simp
 |x::v,[],h,_=>by simp at h
 |x::v,y::u,h,hf=>by
  have ih:=aGe v u (by simpa using h) (fun i s h1 h2=>by simpa using hf (i+1) s (by simpa using h1) h2)
  have h0:=hf 0 x rfl
  cases hx:f x with
  |true=>
   have:=h0 hx
   simp only [List.getElem?_cons_zero,Option.some.injEq] at this
   subst this
   simp only [List.countP_cons,hx,if_true];omega
  |false=>simp only [List.countP_cons,hx,Bool.false_eq_true,if_false];omega
theorem aUf (p:aZ) (a:bC) (x:aR):(places lF 0 (pK p a x).slots).length≤(places lF 0 p.slots).length:=by
 rw [yU,yU]
 refine aGe _ _ (wK p a x) fun i s h1 h2=> ?_
 obtain ⟨h3,h4⟩:=aEt h1
 by_cases e:s.to=a
 ·have:=h3 e
  simp [lF,this] at h2
 ·exact h4 e
end Go.Proofs.YtkidoegojckmiaaGreatDoor
