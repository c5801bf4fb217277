/-
  Proved here: for every input, the law FnExactEqualResults returns true and leaves its arguments as they were.
  No condition beyond what each statement spells out.
-/
import Derived.Test.YtedhenfipalhaaaE4
import Derived.Test.YtedhenfipalhaaaF4
import Derived.Test.YtedhenfipalhaaaRows
set_option linter.all false
set_option linter.unusedSimpArgs false
set_option linter.unusedVariables false
set_option maxRecDepth 8000
set_option maxHeartbeats 8000000
namespace Go.Proofs.Ytedhenfipalhaaa
open Go.Aw
theorem FnExactEqualResults_law [Tabs Try.prog] (a : DResult) (hwa : wfResult a) (hra : rgResult a) (b : DResult) (hwb : wfResult b) (hrb : rgResult b) : Ok Try.prog 3 [.agg (eResult .view a), .agg (eResult .view b)] (.bool true) := by
  have hz0 := szResult_ok a 1048576 (by omega) (by omega) hwa
  by_cases qz0 : (szResult a) ≤ 1048576
  · rw [sub_pos (by omega)] at hz0
    have hz1 := szResult_ok b (1048576 - (((szResult a) : Nat) : Int)) (by omega) (by omega) hwb
    by_cases qz1 : (szResult a) + (szResult b) ≤ 1048576
    · rw [sub_pos (by omega)] at hz1
      rw [show (1048576 - (((szResult a) : Nat) : Int)) - ((szResult b : Nat) : Int) = 1048576 - (((szResult a) + (szResult b) : Nat) : Int) by omega] at hz1
      have ha : szResult a ≤ 1048576 := by omega
      have hb : szResult b ≤ 1048576 := by omega
      have t1 := toResult_ok a ha
      have t2 := toResult_ok b hb
      have t3 := specEqualResults_ok a b ha
      have t4 := implEqualResults_ok a b ha
      have e1 := eqResult_ok a a (by omega)
      have e2 := eqResult_ok b b (by omega)
      refine ent Try.mix Try.func3 Try.ntmps3 ?_
      have W := trivial
      have c0 := hz0
      have c1 := hz1
      repeat' first|refine st ?_|(refine nx ?_;refine so ?_)|(refine cx ?_;refine sc (fun hc=>?_) (fun hc=>?_)<;>try exact hc.elim)|(refine lx ?_;refine sp (fun hc=>?_) (fun hc=>?_)<;>try exact hc.elim)|refine sx ?_ ?_|refine sy ?_ ?_|fail
      all_goals (try (refine ⟨.inr rfl, ?_⟩; simp [Hands, Try.results3]))
      all_goals (try simp only [decide_eq_true_eq] at *); all_goals (first | omega | simp_all)
    · rw [sub_neg (by omega)] at hz1
      refine ent Try.mix Try.func3 Try.ntmps3 ?_
      have W := trivial
      have c0 := hz0
      have c1 := hz1
      repeat' first|refine st ?_|(refine nx ?_;refine so ?_)|(refine cx ?_;refine sc (fun hc=>?_) (fun hc=>?_)<;>try exact hc.elim)|(refine lx ?_;refine sp (fun hc=>?_) (fun hc=>?_)<;>try exact hc.elim)|refine sx ?_ ?_|refine sy ?_ ?_|fail
      all_goals (try (refine ⟨.inr rfl, ?_⟩; simp [Hands, Try.results3]))
  · rw [sub_neg (by omega)] at hz0
    refine ent Try.mix Try.func3 Try.ntmps3 ?_
    have W := trivial
    have c0 := hz0
    repeat' first|refine st ?_|(refine nx ?_;refine so ?_)|(refine cx ?_;refine sc (fun hc=>?_) (fun hc=>?_)<;>try exact hc.elim)|(refine lx ?_;refine sp (fun hc=>?_) (fun hc=>?_)<;>try exact hc.elim)|refine sx ?_ ?_|refine sy ?_ ?_|fail
    all_goals (try (refine ⟨.inr rfl, ?_⟩; simp [Hands, Try.results3]))

set_option maxRecDepth 100000 in
theorem law3_lifted (os : Os) (started : os.Started) (H : Type) (enc : TypeId × Value → H) :
    ReturnsInHanded {} Try.checked os 3 .any (Rows.fnExactEqualResultsSpec.pre6 enc Try.prog Try.f3 Rows.fnExactEqualResultsRow.domain false) (Rows.fnExactEqualResultsSpec.post enc Try.prog Try.f3 false true false false) := by
  refine returnsInHanded_of_change (C := Try.checked) (by kernel_rfl) started (by kernel_rfl) Try.func3
    (ChangeSpec.witness6 (enc := enc) (C := Try.checked) false ⟨#[], #[.agg #[.slice none 0 0, .slice none 0 0, .slice none 0 0, .slice none 0 0, .slice none 0 0, .bool false], .agg #[.slice none 0 0, .slice none 0 0, .slice none 0 0, .slice none 0 0, .slice none 0 0, .bool false]], []⟩ 8 (by kernel_rfl) (by kernel_rfl) (by kernel_rfl) (by kernel_rfl)) ?_
  intro W base args ds gs before hval hW _ _
  letI T : Tabs Try.prog := { holds := fun _ => True, low := 0, low_le := fun _ _ => Nat.zero_le _, stable := fun _ _ _ _ => trivial }
  exact row_true (C := Try.checked) (T := T) (ss := [.agg shResult, .agg shResult]) (fuel := 8) (tb := 4) (by kernel_rfl) (by decide +kernel) (by kernel_rfl) (by kernel_rfl) (by kernel_rfl) rfl
    (fun ds h => by
      match ds, h with
      | [d0, d1], _ => rfl)
    (fun avs hf => by
      obtain ⟨c, r0, rfl, hx, hf1⟩ := fitsV_agg hf
      obtain ⟨a, rfl, hwa, hra⟩ := fits_Result c hx
      obtain ⟨c, r1, rfl, hx, hf2⟩ := fitsV_agg hf1
      obtain ⟨b, rfl, hwb, hrb⟩ := fits_Result c hx
      obtain rfl := fitsV_nil hf2
      exact FnExactEqualResults_law a hwa hra b hwb hrb) trivial hval hW
/-- For every input the law returns true and its arguments read as they did. -/
theorem law3_holds : Rows.FnExactEqualResultsSaid :=
  OpenClaim.holds_of_wide 3 Try.f3 rfl rfl rfl rfl rfl rfl rfl ⟨rfl, rfl, rfl, rfl, rfl⟩ rfl rfl rfl rfl rfl (by kernel_rfl) Try.func3 (by kernel_rfl)
    (of_decide_eq_true (by kernel_rfl)) (by unfold Func.isWrapper; first | (rw [if_pos (by decide +kernel)]; kernel_rfl) | (rw [if_neg (by decide +kernel)]; exact ⟨rfl, rfl⟩))
    (fun os started H enc _ => law3_lifted os started H enc)

end Go.Proofs.Ytedhenfipalhaaa
