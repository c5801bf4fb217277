/-
  Proved here: steps towards the statement of this claim, text E1.
  No condition beyond what each statement spells out.
-/
import Derived.Test.YtlnblmmohpcceaaGreatDoorDQS2
import Derived.Test.YtlnblmmohpcceaaGreatDoorDF6
set_option linter.all false
set_option maxRecDepth 4000
set_option maxHeartbeats 400000
namespace Go.Proofs.YtlnblmmohpcceaaGreatDoor
open Go.Aw
theorem gX {α:Type} {a b:List α} {k:Nat} (h1:a.take k=b.take k) (ha:k < a.length) (hb:k < b.length) (h:a[k]=b[k]):a.take (k+1)=b.take (k+1):=by
 rw [List.take_succ_eq_append_getElem ha,List.take_succ_eq_append_getElem hb,h1,h]
theorem take_eq_all {α:Type} {a b:List α} {k:Nat} (hl:a.length=b.length) (hk:¬k < a.length) (h:a.take k=b.take k):a=b:=by
 rw [List.take_of_length_le (by omega),List.take_of_length_le (by omega)] at h
 exact h
theorem rC {α:Type} {a b:List α} {k:Nat} (ha:k < a.length) (hb:k < b.length) (h:¬a[k]=b[k]):¬a=b:=by
 rintro rfl;exact h rfl
theorem oC {α:Type} {a b:List α} (h:¬a.length=b.length):¬a=b:=by
 rintro rfl;exact h rfl
theorem aMk (a b:fZ):EqA Tryz.prog 161 (kR a) (kR b) (decide (a=b)):=
 vV (f:=6) (ss:=[.str,.str]) (by decide) (by kernel_rfl) (by kernel_rfl) (by kernel_rfl) (by kernel_rfl) (by simp [eQ,jO]) (by simp [eQ,jO]) (by cases a;cases b;simp)
theorem nP [aB Tryz.prog] (a b:List Str) (hl:a.length≤1099511627776):Ok Tryz.prog 52 [.sl .view 1 (a.map aI),.sl .view 1 (b.map aI)] (.bool (decide (a=b))):=by
 refine ent Tryz.mix Tryz.func52 Tryz.ntmps52 ?_
 have W:=trivial
 repeat' first|refine wl ?_|(refine sq (fun hc=>?_) (fun hc=>?_)<;>try exact hc.elim)|fail
 ·all_goals (try (refine ⟨.inr rfl,?_⟩;simp [Hands,Tryz.results52]))
  exact oC (by omega)
 ·have hlen:=hc
  refine aS (ι:={k:Nat // k≤a.length∧a.take k=b.take k}) (fun t o i=>⟨aP t [(13,.int .i64 i.1),(5,.undef)],o⟩)
   (fun i=>a.length - i.1) ⟨0,by simp,by simp⟩ (aL (by simp) (by simp)) ?_
  rintro ⟨k,hk,hi⟩ K1 hK1
  simp only [aP,List.set_cons_succ,List.set_cons_zero] at hK1⊢
  have hk1:IntKind.i64.wrap ((k:Int)+1)=((k+1:Nat):Int):=by rw [wrap64]<;>omega
  by_cases hlt:k < a.length
  ·have hg:=List.getElem?_eq_getElem hlt
   have hg2:=List.getElem?_eq_getElem (show k < b.length by omega)
   have hltb:k < b.length:=by omega
   have W:=And.intro hk1 (And.intro hg (And.intro hg2 (And.intro hlt hltb)))
   repeat' first|refine wl ?_|(refine sq (fun hc=>?_) (fun hc=>?_)<;>try exact hc.elim)|fail
   ·all_goals (try (refine ⟨.inr rfl,?_⟩;simp [Hands,Tryz.results52]))
    exact rC hlt hltb hc
   ·exact hK1 _ ⟨k+1,by omega,gX hi hlt hltb hc⟩ (aL (by simp) (by simp)) (by simp only;omega)
  ·have W:=hk1
   repeat' first|refine wl ?_|(refine sq (fun hc=>?_) (fun hc=>?_)<;>try exact hc.elim)|fail
   all_goals (try (refine ⟨.inr rfl,?_⟩;simp [Hands,Tryz.results52]))
   exact take_eq_all (by omega) hlt hi
theorem aF8 [aB Tryz.prog] (a b:List Int) (hl:a.length≤1099511627776):Ok Tryz.prog 141 [.sl .view 1 (a.map kW),.sl .view 1 (b.map kW)] (.bool (decide (a=b))):=by
 refine ent Tryz.mix Tryz.func141 Tryz.ntmps141 ?_
 have W:=trivial
 repeat' first|refine wl ?_|(refine sq (fun hc=>?_) (fun hc=>?_)<;>try exact hc.elim)|fail
 ·all_goals (try (refine ⟨.inr rfl,?_⟩;simp [Hands,Tryz.results141]))
  exact oC (by omega)
 ·have hlen:=hc
  refine aS (ι:={k:Nat // k≤a.length∧a.take k=b.take k}) (fun t o i=>⟨aP t [(13,.int .i64 i.1),(5,.undef)],o⟩)
   (fun i=>a.length - i.1) ⟨0,by simp,by simp⟩ (aL (by simp) (by simp)) ?_
  rintro ⟨k,hk,hi⟩ K1 hK1
  simp only [aP,List.set_cons_succ,List.set_cons_zero] at hK1⊢
  have hk1:IntKind.i64.wrap ((k:Int)+1)=((k+1:Nat):Int):=by rw [wrap64]<;>omega
  by_cases hlt:k < a.length
  ·have hg:=List.getElem?_eq_getElem hlt
   have hg2:=List.getElem?_eq_getElem (show k < b.length by omega)
   have hltb:k < b.length:=by omega
   have W:=And.intro hk1 (And.intro hg (And.intro hg2 (And.intro hlt hltb)))
   repeat' first|refine wl ?_|(refine sq (fun hc=>?_) (fun hc=>?_)<;>try exact hc.elim)|fail
   ·all_goals (try (refine ⟨.inr rfl,?_⟩;simp [Hands,Tryz.results141]))
    exact rC hlt hltb hc
   ·exact hK1 _ ⟨k+1,by omega,gX hi hlt hltb hc⟩ (aL (by simp) (by simp)) (by simp only;omega)
  ·have W:=hk1
   repeat' first|refine wl ?_|(refine sq (fun hc=>?_) (fun hc=>?_)<;>try exact hc.elim)|fail
   all_goals (try (refine ⟨.inr rfl,?_⟩;simp [Hands,Tryz.results141]))
   exact take_eq_all (by omega) hlt hi
theorem uX [aB Tryz.prog] (a b:List fZ) (hl:a.length≤1099511627776):Ok Tryz.prog 138 [.sl .view 2 (a.map kR),.sl .view 2 (b.map kR)] (.bool (decide (a=b))):=by
 refine ent Tryz.mix Tryz.func138 Tryz.ntmps138 ?_
 have W:=trivial
 repeat' first|refine wl ?_|(refine sq (fun hc=>?_) (fun hc=>?_)<;>try exact hc.elim)|fail
 ·all_goals (try (refine ⟨.inr rfl,?_⟩;simp [Hands,Tryz.results138]))
  exact oC (by omega)
 ·have hlen:=hc
  refine aS (ι:={k:Nat // k≤a.length∧a.take k=b.take k}) (fun t o i=>⟨aP t [(13,.int .i64 i.1),(5,.undef)],o⟩)
   (fun i=>a.length - i.1) ⟨0,by simp,by simp⟩ (aL (by simp) (by simp)) ?_
  rintro ⟨k,hk,hi⟩ K1 hK1
  simp only [aP,List.set_cons_succ,List.set_cons_zero] at hK1⊢
  have hk1:IntKind.i64.wrap ((k:Int)+1)=((k+1:Nat):Int):=by rw [wrap64]<;>omega
  by_cases hlt:k < a.length
  ·have hg:=List.getElem?_eq_getElem hlt
   have hg2:=List.getElem?_eq_getElem (show k < b.length by omega)
   have hltb:k < b.length:=by omega
   have W:=And.intro hk1 (And.intro hg (And.intro hg2 (And.intro hlt hltb)))
   repeat' first|refine wl ?_|(refine nx ?_;refine sk (hc:=aMk a[k] (b[k]'(by omega))) (h:=?_))|(refine sq (fun hc=>?_) (fun hc=>?_)<;>try exact hc.elim)|fail
   ·all_goals (try (refine ⟨.inr rfl,?_⟩;simp [Hands,Tryz.results138]))
    exact rC hlt hltb hc
   ·exact hK1 _ ⟨k+1,by omega,gX hi hlt hltb hc⟩ (aL (by simp) (by simp)) (by simp only;omega)
  ·have W:=hk1
   repeat' first|refine wl ?_|(refine sq (fun hc=>?_) (fun hc=>?_)<;>try exact hc.elim)|fail
   all_goals (try (refine ⟨.inr rfl,?_⟩;simp [Hands,Tryz.results138]))
   exact take_eq_all (by omega) hlt hi
end Go.Proofs.YtlnblmmohpcceaaGreatDoor
