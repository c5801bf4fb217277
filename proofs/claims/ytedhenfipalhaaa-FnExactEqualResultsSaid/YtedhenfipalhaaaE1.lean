/-
  Proved here: steps towards the statement of this claim, text E1.
  No condition beyond what each statement spells out.
-/
import Derived.Test.YtedhenfipalhaaaU5
import Derived.Test.YtedhenfipalhaaaF3
set_option linter.all false
set_option linter.unusedSimpArgs false
set_option linter.unusedVariables false
set_option maxRecDepth 4000
set_option maxHeartbeats 400000
namespace Go.Proofs.Ytedhenfipalhaaa
open Go.Aw
theorem take_eq_succ {α : Type} {a b : List α} {k : Nat} (h1 : a.take k = b.take k) (ha : k < a.length) (hb : k < b.length) (h : a[k] = b[k]) : a.take (k + 1) = b.take (k + 1) := by
  rw [List.take_succ_eq_append_getElem ha, List.take_succ_eq_append_getElem hb, h1, h]
theorem take_eq_all {α : Type} {a b : List α} {k : Nat} (hl : a.length = b.length) (hk : ¬ k < a.length) (h : a.take k = b.take k) : a = b := by
  rw [List.take_of_length_le (by omega), List.take_of_length_le (by omega)] at h
  exact h
theorem ne_at {α : Type} {a b : List α} {k : Nat} (ha : k < a.length) (hb : k < b.length) (h : ¬ a[k] = b[k]) : ¬ a = b := by
  rintro rfl; exact h rfl
theorem ne_len {α : Type} {a b : List α} (h : ¬ a.length = b.length) : ¬ a = b := by
  rintro rfl; exact h rfl
theorem eqRuleA (a b : DRule) : EqA Try.prog 136 (eRule a) (eRule b) (decide (a = b)) :=
  eqA_of (f := 6) (ss := [.str, .int .i64]) (by decide) (by kernel_rfl) (by kernel_rfl) (by kernel_rfl) (by kernel_rfl) (by simp [LikeC, Like]) (by simp [LikeC, Like]) (by cases a; cases b; simp)
theorem eqAttrA (a b : DAttr) : EqA Try.prog 175 (eAttr a) (eAttr b) (decide (a = b)) :=
  eqA_of (f := 6) (ss := [.str, .str]) (by decide) (by kernel_rfl) (by kernel_rfl) (by kernel_rfl) (by kernel_rfl) (by simp [LikeC, Like]) (by simp [LikeC, Like]) (by cases a; cases b; simp)
theorem specSame_ok [Tabs Try.prog] (a b : List Str) (hl : a.length ≤ 1099511627776) : Ok Try.prog 33 [.sl .view 1 (a.map eStr), .sl .view 1 (b.map eStr)] (.bool (decide (a = b))) := by
  refine ent Try.mix Try.func33 Try.ntmps33 ?_
  have W := trivial
  repeat' first|refine st ?_|(refine nx ?_;refine so ?_)|(refine cx ?_;refine sc (fun hc=>?_) (fun hc=>?_)<;>try exact hc.elim)|(refine lx ?_;refine sp (fun hc=>?_) (fun hc=>?_)<;>try exact hc.elim)|refine sx ?_ ?_|refine sy ?_ ?_|fail
  · all_goals (try (refine ⟨.inr rfl, ?_⟩; simp [Hands, Try.results33]))
    exact ne_len (by omega)
  · have hlen := hc
    refine awp_loop' (ι := { k : Nat // k ≤ a.length ∧ a.take k = b.take k }) (fun t o i => ⟨upds t [(5, .int .i64 i.1)], o⟩)
      (fun i => a.length - i.1) ⟨0, by simp, by simp⟩ (weak_o (by simp) (by simp)) ?_
    rintro ⟨k, hk, hi⟩ K1 hK1
    simp only [upds, List.set_cons_succ, List.set_cons_zero] at hK1 ⊢
    have hk1 : IntKind.i64.wrap ((k : Int) + 1) = ((k + 1 : Nat) : Int) := by rw [wrap64] <;> omega
    by_cases hlt : k < a.length
    · have hg := List.getElem?_eq_getElem hlt
      have hg2 := List.getElem?_eq_getElem (show k < b.length by omega)
      have hltb : k < b.length := by omega
      have W := And.intro hk1 (And.intro hg (And.intro hg2 (And.intro hlt hltb)))
      repeat' first|refine st ?_|(refine nx ?_;refine so ?_)|(refine cx ?_;refine sc (fun hc=>?_) (fun hc=>?_)<;>try exact hc.elim)|(refine lx ?_;refine sp (fun hc=>?_) (fun hc=>?_)<;>try exact hc.elim)|refine sx ?_ ?_|refine sy ?_ ?_|fail
      · all_goals (try (refine ⟨.inr rfl, ?_⟩; simp [Hands, Try.results33]))
        exact ne_at hlt hltb hc
      · exact hK1 _ ⟨k + 1, by omega, take_eq_succ hi hlt hltb hc⟩ (weak_o (by simp) (by simp)) (by simp only; omega)
    · have W := hk1
      repeat' first|refine st ?_|(refine nx ?_;refine so ?_)|(refine cx ?_;refine sc (fun hc=>?_) (fun hc=>?_)<;>try exact hc.elim)|(refine lx ?_;refine sp (fun hc=>?_) (fun hc=>?_)<;>try exact hc.elim)|refine sx ?_ ?_|refine sy ?_ ?_|fail
      all_goals (try (refine ⟨.inr rfl, ?_⟩; simp [Hands, Try.results33]))
      exact take_eq_all (by omega) hlt hi
theorem specInts_ok [Tabs Try.prog] (a b : List Int) (hl : a.length ≤ 1099511627776) : Ok Try.prog 97 [.sl .view 1 (a.map eInt), .sl .view 1 (b.map eInt)] (.bool (decide (a = b))) := by
  refine ent Try.mix Try.func97 Try.ntmps97 ?_
  have W := trivial
  repeat' first|refine st ?_|(refine nx ?_;refine so ?_)|(refine cx ?_;refine sc (fun hc=>?_) (fun hc=>?_)<;>try exact hc.elim)|(refine lx ?_;refine sp (fun hc=>?_) (fun hc=>?_)<;>try exact hc.elim)|refine sx ?_ ?_|refine sy ?_ ?_|fail
  · all_goals (try (refine ⟨.inr rfl, ?_⟩; simp [Hands, Try.results97]))
    exact ne_len (by omega)
  · have hlen := hc
    refine awp_loop' (ι := { k : Nat // k ≤ a.length ∧ a.take k = b.take k }) (fun t o i => ⟨upds t [(5, .int .i64 i.1)], o⟩)
      (fun i => a.length - i.1) ⟨0, by simp, by simp⟩ (weak_o (by simp) (by simp)) ?_
    rintro ⟨k, hk, hi⟩ K1 hK1
    simp only [upds, List.set_cons_succ, List.set_cons_zero] at hK1 ⊢
    have hk1 : IntKind.i64.wrap ((k : Int) + 1) = ((k + 1 : Nat) : Int) := by rw [wrap64] <;> omega
    by_cases hlt : k < a.length
    · have hg := List.getElem?_eq_getElem hlt
      have hg2 := List.getElem?_eq_getElem (show k < b.length by omega)
      have hltb : k < b.length := by omega
      have W := And.intro hk1 (And.intro hg (And.intro hg2 (And.intro hlt hltb)))
      repeat' first|refine st ?_|(refine nx ?_;refine so ?_)|(refine cx ?_;refine sc (fun hc=>?_) (fun hc=>?_)<;>try exact hc.elim)|(refine lx ?_;refine sp (fun hc=>?_) (fun hc=>?_)<;>try exact hc.elim)|refine sx ?_ ?_|refine sy ?_ ?_|fail
      · all_goals (try (refine ⟨.inr rfl, ?_⟩; simp [Hands, Try.results97]))
        exact ne_at hlt hltb hc
      · exact hK1 _ ⟨k + 1, by omega, take_eq_succ hi hlt hltb hc⟩ (weak_o (by simp) (by simp)) (by simp only; omega)
    · have W := hk1
      repeat' first|refine st ?_|(refine nx ?_;refine so ?_)|(refine cx ?_;refine sc (fun hc=>?_) (fun hc=>?_)<;>try exact hc.elim)|(refine lx ?_;refine sp (fun hc=>?_) (fun hc=>?_)<;>try exact hc.elim)|refine sx ?_ ?_|refine sy ?_ ?_|fail
      all_goals (try (refine ⟨.inr rfl, ?_⟩; simp [Hands, Try.results97]))
      exact take_eq_all (by omega) hlt hi
theorem equalStr_ok [Tabs Try.prog] (a b : List Str) (hl : a.length ≤ 1099511627776) : Ok Try.prog 39 [.sl .view 1 (a.map eStr), .sl .view 1 (b.map eStr)] (.bool (decide (a = b))) := by
  refine ent Try.mix Try.func39 Try.ntmps39 ?_
  have W := trivial
  repeat' first|refine st ?_|(refine nx ?_;refine so ?_)|(refine cx ?_;refine sc (fun hc=>?_) (fun hc=>?_)<;>try exact hc.elim)|(refine lx ?_;refine sp (fun hc=>?_) (fun hc=>?_)<;>try exact hc.elim)|refine sx ?_ ?_|refine sy ?_ ?_|fail
  · all_goals (try (refine ⟨.inr rfl, ?_⟩; simp [Hands, Try.results39]))
    exact ne_len (by omega)
  · have hlen := hc
    refine awp_loop' (ι := { k : Nat // k ≤ a.length ∧ a.take k = b.take k }) (fun t o i => ⟨upds t [(13, .int .i64 i.1), (5, .undef)], o⟩)
      (fun i => a.length - i.1) ⟨0, by simp, by simp⟩ (weak_o (by simp) (by simp)) ?_
    rintro ⟨k, hk, hi⟩ K1 hK1
    simp only [upds, List.set_cons_succ, List.set_cons_zero] at hK1 ⊢
    have hk1 : IntKind.i64.wrap ((k : Int) + 1) = ((k + 1 : Nat) : Int) := by rw [wrap64] <;> omega
    by_cases hlt : k < a.length
    · have hg := List.getElem?_eq_getElem hlt
      have hg2 := List.getElem?_eq_getElem (show k < b.length by omega)
      have hltb : k < b.length := by omega
      have W := And.intro hk1 (And.intro hg (And.intro hg2 (And.intro hlt hltb)))
      repeat' first|refine st ?_|(refine nx ?_;refine so ?_)|(refine cx ?_;refine sc (fun hc=>?_) (fun hc=>?_)<;>try exact hc.elim)|(refine lx ?_;refine sp (fun hc=>?_) (fun hc=>?_)<;>try exact hc.elim)|refine sx ?_ ?_|refine sy ?_ ?_|fail
      · all_goals (try (refine ⟨.inr rfl, ?_⟩; simp [Hands, Try.results39]))
        exact ne_at hlt hltb hc
      · exact hK1 _ ⟨k + 1, by omega, take_eq_succ hi hlt hltb hc⟩ (weak_o (by simp) (by simp)) (by simp only; omega)
    · have W := hk1
      repeat' first|refine st ?_|(refine nx ?_;refine so ?_)|(refine cx ?_;refine sc (fun hc=>?_) (fun hc=>?_)<;>try exact hc.elim)|(refine lx ?_;refine sp (fun hc=>?_) (fun hc=>?_)<;>try exact hc.elim)|refine sx ?_ ?_|refine sy ?_ ?_|fail
      all_goals (try (refine ⟨.inr rfl, ?_⟩; simp [Hands, Try.results39]))
      exact take_eq_all (by omega) hlt hi
theorem equalInt_ok [Tabs Try.prog] (a b : List Int) (hl : a.length ≤ 1099511627776) : Ok Try.prog 104 [.sl .view 1 (a.map eInt), .sl .view 1 (b.map eInt)] (.bool (decide (a = b))) := by
  refine ent Try.mix Try.func104 Try.ntmps104 ?_
  have W := trivial
  repeat' first|refine st ?_|(refine nx ?_;refine so ?_)|(refine cx ?_;refine sc (fun hc=>?_) (fun hc=>?_)<;>try exact hc.elim)|(refine lx ?_;refine sp (fun hc=>?_) (fun hc=>?_)<;>try exact hc.elim)|refine sx ?_ ?_|refine sy ?_ ?_|fail
  · all_goals (try (refine ⟨.inr rfl, ?_⟩; simp [Hands, Try.results104]))
    exact ne_len (by omega)
  · have hlen := hc
    refine awp_loop' (ι := { k : Nat // k ≤ a.length ∧ a.take k = b.take k }) (fun t o i => ⟨upds t [(13, .int .i64 i.1), (5, .undef)], o⟩)
      (fun i => a.length - i.1) ⟨0, by simp, by simp⟩ (weak_o (by simp) (by simp)) ?_
    rintro ⟨k, hk, hi⟩ K1 hK1
    simp only [upds, List.set_cons_succ, List.set_cons_zero] at hK1 ⊢
    have hk1 : IntKind.i64.wrap ((k : Int) + 1) = ((k + 1 : Nat) : Int) := by rw [wrap64] <;> omega
    by_cases hlt : k < a.length
    · have hg := List.getElem?_eq_getElem hlt
      have hg2 := List.getElem?_eq_getElem (show k < b.length by omega)
      have hltb : k < b.length := by omega
      have W := And.intro hk1 (And.intro hg (And.intro hg2 (And.intro hlt hltb)))
      repeat' first|refine st ?_|(refine nx ?_;refine so ?_)|(refine cx ?_;refine sc (fun hc=>?_) (fun hc=>?_)<;>try exact hc.elim)|(refine lx ?_;refine sp (fun hc=>?_) (fun hc=>?_)<;>try exact hc.elim)|refine sx ?_ ?_|refine sy ?_ ?_|fail
      · all_goals (try (refine ⟨.inr rfl, ?_⟩; simp [Hands, Try.results104]))
        exact ne_at hlt hltb hc
      · exact hK1 _ ⟨k + 1, by omega, take_eq_succ hi hlt hltb hc⟩ (weak_o (by simp) (by simp)) (by simp only; omega)
    · have W := hk1
      repeat' first|refine st ?_|(refine nx ?_;refine so ?_)|(refine cx ?_;refine sc (fun hc=>?_) (fun hc=>?_)<;>try exact hc.elim)|(refine lx ?_;refine sp (fun hc=>?_) (fun hc=>?_)<;>try exact hc.elim)|refine sx ?_ ?_|refine sy ?_ ?_|fail
      all_goals (try (refine ⟨.inr rfl, ?_⟩; simp [Hands, Try.results104]))
      exact take_eq_all (by omega) hlt hi
theorem equalRule_ok [Tabs Try.prog] (a b : List DRule) (hl : a.length ≤ 1099511627776) : Ok Try.prog 105 [.sl .view 2 (a.map eRule), .sl .view 2 (b.map eRule)] (.bool (decide (a = b))) := by
  refine ent Try.mix Try.func105 Try.ntmps105 ?_
  have W := trivial
  repeat' first|refine st ?_|(refine nx ?_;refine so ?_)|(refine cx ?_;refine sc (fun hc=>?_) (fun hc=>?_)<;>try exact hc.elim)|(refine lx ?_;refine sp (fun hc=>?_) (fun hc=>?_)<;>try exact hc.elim)|refine sx ?_ ?_|refine sy ?_ ?_|fail
  · all_goals (try (refine ⟨.inr rfl, ?_⟩; simp [Hands, Try.results105]))
    exact ne_len (by omega)
  · have hlen := hc
    refine awp_loop' (ι := { k : Nat // k ≤ a.length ∧ a.take k = b.take k }) (fun t o i => ⟨upds t [(13, .int .i64 i.1), (5, .undef)], o⟩)
      (fun i => a.length - i.1) ⟨0, by simp, by simp⟩ (weak_o (by simp) (by simp)) ?_
    rintro ⟨k, hk, hi⟩ K1 hK1
    simp only [upds, List.set_cons_succ, List.set_cons_zero] at hK1 ⊢
    have hk1 : IntKind.i64.wrap ((k : Int) + 1) = ((k + 1 : Nat) : Int) := by rw [wrap64] <;> omega
    by_cases hlt : k < a.length
    · have hg := List.getElem?_eq_getElem hlt
      have hg2 := List.getElem?_eq_getElem (show k < b.length by omega)
      have hltb : k < b.length := by omega
      have W := And.intro hk1 (And.intro hg (And.intro hg2 (And.intro hlt hltb)))
      repeat' first|refine st ?_|(refine nx ?_;first|refine so ?_|refine sk (hc:=eqRuleA a[k] (b[k]'(by omega))) (h:=?_))|(refine cx ?_;refine sc (fun hc=>?_) (fun hc=>?_)<;>try exact hc.elim)|(refine lx ?_;refine sp (fun hc=>?_) (fun hc=>?_)<;>try exact hc.elim)|refine sx ?_ ?_|refine sy ?_ ?_|fail
      · all_goals (try (refine ⟨.inr rfl, ?_⟩; simp [Hands, Try.results105]))
        exact ne_at hlt hltb hc
      · exact hK1 _ ⟨k + 1, by omega, take_eq_succ hi hlt hltb hc⟩ (weak_o (by simp) (by simp)) (by simp only; omega)
    · have W := hk1
      repeat' first|refine st ?_|(refine nx ?_;refine so ?_)|(refine cx ?_;refine sc (fun hc=>?_) (fun hc=>?_)<;>try exact hc.elim)|(refine lx ?_;refine sp (fun hc=>?_) (fun hc=>?_)<;>try exact hc.elim)|refine sx ?_ ?_|refine sy ?_ ?_|fail
      all_goals (try (refine ⟨.inr rfl, ?_⟩; simp [Hands, Try.results105]))
      exact take_eq_all (by omega) hlt hi
theorem equalAttr_ok [Tabs Try.prog] (a b : List DAttr) (hl : a.length ≤ 1099511627776) : Ok Try.prog 141 [.sl .view 2 (a.map eAttr), .sl .view 2 (b.map eAttr)] (.bool (decide (a = b))) := by
  refine ent Try.mix Try.func141 Try.ntmps141 ?_
  have W := trivial
  repeat' first|refine st ?_|(refine nx ?_;refine so ?_)|(refine cx ?_;refine sc (fun hc=>?_) (fun hc=>?_)<;>try exact hc.elim)|(refine lx ?_;refine sp (fun hc=>?_) (fun hc=>?_)<;>try exact hc.elim)|refine sx ?_ ?_|refine sy ?_ ?_|fail
  · all_goals (try (refine ⟨.inr rfl, ?_⟩; simp [Hands, Try.results141]))
    exact ne_len (by omega)
  · have hlen := hc
    refine awp_loop' (ι := { k : Nat // k ≤ a.length ∧ a.take k = b.take k }) (fun t o i => ⟨upds t [(13, .int .i64 i.1), (5, .undef)], o⟩)
      (fun i => a.length - i.1) ⟨0, by simp, by simp⟩ (weak_o (by simp) (by simp)) ?_
    rintro ⟨k, hk, hi⟩ K1 hK1
    simp only [upds, List.set_cons_succ, List.set_cons_zero] at hK1 ⊢
    have hk1 : IntKind.i64.wrap ((k : Int) + 1) = ((k + 1 : Nat) : Int) := by rw [wrap64] <;> omega
    by_cases hlt : k < a.length
    · have hg := List.getElem?_eq_getElem hlt
      have hg2 := List.getElem?_eq_getElem (show k < b.length by omega)
      have hltb : k < b.length := by omega
      have W := And.intro hk1 (And.intro hg (And.intro hg2 (And.intro hlt hltb)))
      repeat' first|refine st ?_|(refine nx ?_;first|refine so ?_|refine sk (hc:=eqAttrA a[k] (b[k]'(by omega))) (h:=?_))|(refine cx ?_;refine sc (fun hc=>?_) (fun hc=>?_)<;>try exact hc.elim)|(refine lx ?_;refine sp (fun hc=>?_) (fun hc=>?_)<;>try exact hc.elim)|refine sx ?_ ?_|refine sy ?_ ?_|fail
      · all_goals (try (refine ⟨.inr rfl, ?_⟩; simp [Hands, Try.results141]))
        exact ne_at hlt hltb hc
      · exact hK1 _ ⟨k + 1, by omega, take_eq_succ hi hlt hltb hc⟩ (weak_o (by simp) (by simp)) (by simp only; omega)
    · have W := hk1
      repeat' first|refine st ?_|(refine nx ?_;refine so ?_)|(refine cx ?_;refine sc (fun hc=>?_) (fun hc=>?_)<;>try exact hc.elim)|(refine lx ?_;refine sp (fun hc=>?_) (fun hc=>?_)<;>try exact hc.elim)|refine sx ?_ ?_|refine sy ?_ ?_|fail
      all_goals (try (refine ⟨.inr rfl, ?_⟩; simp [Hands, Try.results141]))
      exact take_eq_all (by omega) hlt hi
end Go.Proofs.Ytedhenfipalhaaa
