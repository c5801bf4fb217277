/-
  Proved here: steps towards the statement of this claim, text R3.
  No condition beyond what each statement spells out.
-/
import Derived.Test.YtonajehhfkkglabGreatA0
import Derived.Test.YtonajehhfkkglabGreatU3
import Derived.Test.YtonajehhfkkglabGreatF4
set_option linter.all false
set_option maxRecDepth 4000
set_option maxHeartbeats 400000
namespace Go.Proofs.YtonajehhfkkglabGreat
open Go.Aw
theorem specIn_ok [Tabs Tryz.prog] (a b c : Int) : Ok Tryz.prog 23 [.int .i64 a, .int .i64 b, .int .i64 c] (.bool (decide (b ≤ a) && decide (a ≤ c))) := by
  refine ent Tryz.mix Tryz.func23 Tryz.ntmps23 ?_
  have W := trivial
  repeat' first|refine st ?_|(refine nx ?_;refine so ?_)|(refine cx ?_;refine sc (fun hc=>?_) (fun hc=>?_)<;>try exact hc.elim)|(refine lx ?_;refine sp (fun hc=>?_) (fun hc=>?_)<;>try exact hc.elim)|refine sx ?_ ?_|refine sy ?_ ?_|fail
  all_goals (try (refine ⟨.inr rfl, ?_⟩; simp [Hands, Tryz.results23]))
  all_goals (first|(simp_all; done)|(simp_all; omega))
theorem implIn_ok [Tabs Tryz.prog] (a b c : Int) : Ok Tryz.prog 139 [.int .i64 a, .int .i64 b, .int .i64 c] (.bool (decide (b ≤ a) && decide (a ≤ c))) := by
  refine ent Tryz.mix Tryz.func139 Tryz.ntmps139 ?_
  have W := trivial
  repeat' first|refine st ?_|(refine nx ?_;refine so ?_)|(refine cx ?_;refine sc (fun hc=>?_) (fun hc=>?_)<;>try exact hc.elim)|(refine lx ?_;refine sp (fun hc=>?_) (fun hc=>?_)<;>try exact hc.elim)|refine sx ?_ ?_|refine sy ?_ ?_|fail
  all_goals (try (refine ⟨.inr rfl, ?_⟩; simp [Hands, Tryz.results139]))
  all_goals (first|(simp_all; done)|(simp_all; omega))
theorem name_no {s : Str} {k : Nat} (h : k < s.length) (hc : lowerB s[k] = false) : isName s = false := by
  have : s.all lowerB = false := by
    rw [List.all_eq_false]
    exact ⟨s[k], List.getElem_mem h, by simp [hc]⟩
  simp [isName, this]
theorem name_lo {s : Str} {k : Nat} (h : k < s.length) (hc : (s[k].toNat : Int) < 97) : isName s = false := name_no h (by simp [lowerB]; omega)
theorem name_hi {s : Str} {k : Nat} (h : k < s.length) (hc : 122 < (s[k].toNat : Int)) : isName s = false := name_no h (by simp [lowerB]; omega)
theorem lower_mid {c : UInt8} (h : 97 ≤ (c.toNat : Int)) (hc : (c.toNat : Int) ≤ 122) : lowerB c = true := by simp [lowerB]; omega
theorem name_end {s : Str} (h : ∀ x ∈ s, lowerB x = true) : isName s = (decide ((1 : Int) ≤ s.length) && decide ((s.length : Int) ≤ 8)) := by
  have : s.all lowerB = true := List.all_eq_true.2 h
  have h1 : decide ((1 : Int) ≤ s.length) = decide (1 ≤ s.length) := by simp only [decide_eq_decide]; omega
  have h2 : decide ((s.length : Int) ≤ 8) = decide (s.length ≤ 8) := by simp only [decide_eq_decide]; omega
  rw [isName, this, h1, h2, Bool.true_and]
theorem specIsName_ok [Tabs Tryz.prog] (s : Str) (hl : s.length ≤ 1099511627776) : Ok Tryz.prog 134 [.str s] (.bool (isName s)) := by
  have h1 := specIn_ok s.length 1 8
  refine ent Tryz.mix Tryz.func134 Tryz.ntmps134 ?_
  have W := trivial
  repeat' first|refine st ?_|(refine nx ?_;refine so ?_)|(refine cx ?_;refine sc (fun hc=>?_) (fun hc=>?_)<;>try exact hc.elim)|(refine lx ?_;refine sp (fun hc=>?_) (fun hc=>?_)<;>try exact hc.elim)|refine sx ?_ ?_|refine sy ?_ ?_|fail
  refine awp_loop' (ι := { k : Nat // k ≤ s.length ∧ ∀ x ∈ s.take k, lowerB x = true }) (fun t o i => ⟨upds t [(3, .int .i64 i.1)], o⟩)
    (fun i => s.length - i.1) ⟨0, by simp, by simp⟩ (weak_o (by simp) (by simp)) ?_
  rintro ⟨k, hk, hi⟩ K1 hK1
  simp only [upds, List.set_cons_succ, List.set_cons_zero] at hK1 ⊢
  have hk1 : IntKind.i64.wrap ((k : Int) + 1) = ((k + 1 : Nat) : Int) := by rw [wrap64] <;> omega
  by_cases hlt : k < s.length
  · have hg := List.getElem?_eq_getElem hlt
    have W := And.intro hk1 (And.intro hg hlt)
    repeat' first|refine st ?_|(refine nx ?_;refine so ?_)|(refine cx ?_;refine sc (fun hc=>?_) (fun hc=>?_)<;>try exact hc.elim)|(refine lx ?_;refine sp (fun hc=>?_) (fun hc=>?_)<;>try exact hc.elim)|refine sx ?_ ?_|refine sy ?_ ?_|fail
    · rename_i hc1
      all_goals (try (refine ⟨.inr rfl, ?_⟩; simp [Hands, Tryz.results134]))
      rw [name_lo hlt hc1]
    · rename_i hc1
      all_goals (try (refine ⟨.inr rfl, ?_⟩; simp [Hands, Tryz.results134]))
      rw [name_hi hlt hc]
    · rename_i hc1
      exact hK1 _ ⟨k + 1, by omega, take_succ_all hlt hi (lower_mid hc1 hc)⟩ (weak_o (by simp) (by simp)) (by simp only; omega)
  · have W := hk1
    repeat' first|refine st ?_|(refine nx ?_;refine so ?_)|(refine cx ?_;refine sc (fun hc=>?_) (fun hc=>?_)<;>try exact hc.elim)|(refine lx ?_;refine sp (fun hc=>?_) (fun hc=>?_)<;>try exact hc.elim)|refine sx ?_ ?_|refine sy ?_ ?_|fail
    all_goals (try (refine ⟨.inr rfl, ?_⟩; simp [Hands, Tryz.results134]))
    rw [name_end (take_all (by omega) hi)]
theorem implIsName_ok [Tabs Tryz.prog] (s : Str) (hl : s.length ≤ 1099511627776) : Ok Tryz.prog 138 [.str s] (.bool (isName s)) := by
  have h1 := implIn_ok s.length 1 8
  refine ent Tryz.mix Tryz.func138 Tryz.ntmps138 ?_
  have W := trivial
  repeat' first|refine st ?_|(refine nx ?_;refine so ?_)|(refine cx ?_;refine sc (fun hc=>?_) (fun hc=>?_)<;>try exact hc.elim)|(refine lx ?_;refine sp (fun hc=>?_) (fun hc=>?_)<;>try exact hc.elim)|refine sx ?_ ?_|refine sy ?_ ?_|fail
  refine awp_loop' (ι := { k : Nat // k ≤ s.length ∧ ∀ x ∈ s.take k, lowerB x = true }) (fun t o i => ⟨upds t [(3, .int .i64 i.1)], o⟩)
    (fun i => s.length - i.1) ⟨0, by simp, by simp⟩ (weak_o (by simp) (by simp)) ?_
  rintro ⟨k, hk, hi⟩ K1 hK1
  simp only [upds, List.set_cons_succ, List.set_cons_zero] at hK1 ⊢
  have hk1 : IntKind.i64.wrap ((k : Int) + 1) = ((k + 1 : Nat) : Int) := by rw [wrap64] <;> omega
  by_cases hlt : k < s.length
  · have hg := List.getElem?_eq_getElem hlt
    have W := And.intro hk1 (And.intro hg hlt)
    repeat' first|refine st ?_|(refine nx ?_;refine so ?_)|(refine cx ?_;refine sc (fun hc=>?_) (fun hc=>?_)<;>try exact hc.elim)|(refine lx ?_;refine sp (fun hc=>?_) (fun hc=>?_)<;>try exact hc.elim)|refine sx ?_ ?_|refine sy ?_ ?_|fail
    · rename_i hc1
      all_goals (try (refine ⟨.inr rfl, ?_⟩; simp [Hands, Tryz.results138]))
      rw [name_lo hlt hc1]
    · rename_i hc1
      all_goals (try (refine ⟨.inr rfl, ?_⟩; simp [Hands, Tryz.results138]))
      rw [name_hi hlt hc]
    · rename_i hc1
      exact hK1 _ ⟨k + 1, by omega, take_succ_all hlt hi (lower_mid hc1 hc)⟩ (weak_o (by simp) (by simp)) (by simp only; omega)
  · have W := hk1
    repeat' first|refine st ?_|(refine nx ?_;refine so ?_)|(refine cx ?_;refine sc (fun hc=>?_) (fun hc=>?_)<;>try exact hc.elim)|(refine lx ?_;refine sp (fun hc=>?_) (fun hc=>?_)<;>try exact hc.elim)|refine sx ?_ ?_|refine sy ?_ ?_|fail
    all_goals (try (refine ⟨.inr rfl, ?_⟩; simp [Hands, Tryz.results138]))
    rw [name_end (take_all (by omega) hi)]
theorem specIsAddr_ok [Tabs Tryz.prog] (a : DAddr) (hl : szAddr a ≤ 1099511627776) : Ok Tryz.prog 121 [.agg (eAddr a)] (.bool (isAddr a)) := by
  simp only [szAddr] at hl
  have h1 := specIsName_ok a.host (by omega)
  have h2 := specIsName_ok a.path (by omega)
  refine ent Tryz.mix Tryz.func121 Tryz.ntmps121 ?_
  have W := trivial
  repeat' first|refine st ?_|(refine nx ?_;refine so ?_)|(refine cx ?_;refine sc (fun hc=>?_) (fun hc=>?_)<;>try exact hc.elim)|(refine lx ?_;refine sp (fun hc=>?_) (fun hc=>?_)<;>try exact hc.elim)|refine sx ?_ ?_|refine sy ?_ ?_|fail
  all_goals (try (refine ⟨.inr rfl, ?_⟩; simp [Hands, Tryz.results121]))
  all_goals simp_all [isAddr]
theorem implIsAddr_ok [Tabs Tryz.prog] (a : DAddr) (hl : szAddr a ≤ 1099511627776) : Ok Tryz.prog 127 [.agg (eAddr a)] (.bool (isAddr a)) := by
  simp only [szAddr] at hl
  have h1 := implIsName_ok a.host (by omega)
  have h2 := implIsName_ok a.path (by omega)
  refine ent Tryz.mix Tryz.func127 Tryz.ntmps127 ?_
  have W := trivial
  repeat' first|refine st ?_|(refine nx ?_;refine so ?_)|(refine cx ?_;refine sc (fun hc=>?_) (fun hc=>?_)<;>try exact hc.elim)|(refine lx ?_;refine sp (fun hc=>?_) (fun hc=>?_)<;>try exact hc.elim)|refine sx ?_ ?_|refine sy ?_ ?_|fail
  all_goals (try (refine ⟨.inr rfl, ?_⟩; simp [Hands, Tryz.results127]))
  all_goals simp_all [isAddr]
end Go.Proofs.YtonajehhfkkglabGreat
