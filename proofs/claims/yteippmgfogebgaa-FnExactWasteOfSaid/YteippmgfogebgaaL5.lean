/-
  Proved here: for every input, the law FnExactWasteOf returns true and leaves its argument as it was.
  No condition beyond what each statement spells out.
-/
import Derived.Test.YteippmgfogebgaaG5
set_option linter.unusedSimpArgs false
set_option linter.unusedVariables false
namespace Go.Proofs.Yteippmgfogebgaa
open Go.Aw

theorem law5_ok (l : List DGuess) (hl : l.length ≤ 9223372036854775807) (hw : ∀ g ∈ l, wfG g) : Ok Try.prog 5 [.sl .view 9 (l.map eGuess)] (.bool true) := by
  have hsz := szGuessS_ok l 1048576 (by omega) (by omega) hl hw
  by_cases hlt : sub 1048576 (szL szG l) < 0
  · refine ok_of_awp Try.mix Try.func5 rfl ?_
    simp only [Try.ntmps5, List.length_cons, List.length_nil, Nat.reduceSub, Nat.reduceAdd, List.replicate_succ, List.replicate_zero, List.cons_append, List.nil_append]
    repeat' (first
      | (refine awpL_cons rfl fun K hK => ?_; simp [aop]; refine ⟨_, (hsz), hK _ ?_⟩; clear hK K)
      | (refine awpL_cons rfl fun K hK => ?_; simp [aop]; (try simp (disch := omega) only [wrap64]); refine hK _ ?_; clear hK K)
      | refine awpL_nil ?_
      | refine awp_seq fun K hK => ?_
      | refine awp_region ?_
      | refine awp_then (by assumption) ?_
      | refine awp_then_ret ?_
      | refine awp_then_exit ?_
      | refine awp_in_normal ?_
      | refine awp_in_ret ?_
      | refine awp_in_eq ?_
      | refine awp_in_ne (by decide) ?_
      | refine awp_ret ?_
      | (refine awp_cond rfl (fun hc => ?_) (fun hc => ?_) <;> simp at hc <;> (try (exfalso; omega)))
      | refine awp_block ?_
      | refine awp_exit ?_
      | refine awp_skip ?_)
    all_goals (try (refine ⟨.inr rfl, ?_⟩; simp [Hands, Try.results5]))
  · have hsl : szL szG l ≤ 1048576 := by
      have := (sub_range (by omega) (by omega : 0 ≤ sub 1048576 (szL szG l))).2.2
      omega
    have hlen : l.length ≤ 1048576 := by unfold szL at hsl; omega
    refine ok_of_awp Try.mix Try.func5 rfl ?_
    simp only [Try.ntmps5, List.length_cons, List.length_nil, Nat.reduceSub, Nat.reduceAdd, List.replicate_succ, List.replicate_zero, List.cons_append, List.nil_append]
    repeat' (first
      | (refine awpL_cons rfl fun K hK => ?_; simp [aop]; refine ⟨_, (hsz), hK _ ?_⟩; clear hK K)
      | (refine awpL_cons rfl fun K hK => ?_; simp [aop]; refine ⟨_, (toGuessS_ok l hlen), hK _ ?_⟩; clear hK K)
      | (refine awpL_cons rfl fun K hK => ?_; simp [aop]; refine ⟨_, (specWaste_ok l hsl), hK _ ?_⟩; clear hK K)
      | (refine awpL_cons rfl fun K hK => ?_; simp [aop]; refine ⟨_, (implWaste_ok l hsl), hK _ ?_⟩; clear hK K)
      | (refine awpL_cons rfl fun K hK => ?_; simp [aop]; refine ⟨_, (eqGuessS_ok l l hlen), hK _ ?_⟩; clear hK K)
      | (refine awpL_cons rfl fun K hK => ?_; simp [aop]; (try simp (disch := omega) only [wrap64]); refine hK _ ?_; clear hK K)
      | refine awpL_nil ?_
      | refine awp_seq fun K hK => ?_
      | refine awp_region ?_
      | refine awp_then (by assumption) ?_
      | refine awp_then_ret ?_
      | refine awp_then_exit ?_
      | refine awp_in_normal ?_
      | refine awp_in_ret ?_
      | refine awp_in_eq ?_
      | refine awp_in_ne (by decide) ?_
      | refine awp_ret ?_
      | (refine awp_cond rfl (fun hc => ?_) (fun hc => ?_) <;> simp at hc <;> (try (exfalso; omega)))
      | refine awp_block ?_
      | refine awp_exit ?_
      | refine awp_skip ?_)
    all_goals (try (refine ⟨.inr rfl, ?_⟩; simp [Hands, Try.results5]))

set_option maxRecDepth 100000 in
theorem law5_lifted (os : Os) (started : os.Started) (H : Type) (enc : TypeId × Value → H) :
    ReturnsInHanded {} Try.checked os 5 .any (Rows.fnExactWasteOfSpec.pre6 enc Try.prog Try.f5 Rows.fnExactWasteOfRow.domain false) (Rows.fnExactWasteOfSpec.post enc Try.prog Try.f5 false true false false) := by
  refine returnsInHanded_of_change (C := Try.checked) (by kernel_rfl) started (by kernel_rfl) Try.func5
    (ChangeSpec.witness6 (enc := enc) (C := Try.checked) false ⟨#[], #[.slice none 0 0], []⟩ 8 (by kernel_rfl) (by kernel_rfl) (by kernel_rfl) (by kernel_rfl)) ?_
  intro W base args ds gs before hval hW _ _
  exact row_true (C := Try.checked) (ss := [.one (.sl 9 shG)]) (fuel := 8) (tb := 4) (by kernel_rfl) (by decide +kernel) (by kernel_rfl) (by kernel_rfl) (by kernel_rfl) rfl
    (fun ds h => by
      match ds, h with
      | [d0], _ => rfl)
    (fun avs hf => by
      obtain ⟨x, r, rfl, hx, hf1⟩ := fitsV_one hf
      obtain rfl := fitsV_nil hf1
      obtain ⟨l, rfl, hl, hw⟩ := fits_guesses hx
      exact law5_ok l hl hw) hval hW
/-- For every input the law returns true and its arguments read as they did. -/
theorem law5_holds : Rows.FnExactWasteOfSaid :=
  OpenClaim.holds_of_wide 5 Try.f5 rfl rfl rfl rfl rfl rfl rfl ⟨rfl, rfl, rfl, rfl, rfl⟩ rfl rfl rfl rfl rfl (by kernel_rfl) Try.func5 (by kernel_rfl)
    (of_decide_eq_true (by kernel_rfl)) (by unfold Func.isWrapper; first | (rw [if_pos (by decide +kernel)]; kernel_rfl) | (rw [if_neg (by decide +kernel)]; exact ⟨rfl, rfl⟩))
    (fun os started H enc _ => law5_lifted os started H enc)
end Go.Proofs.Yteippmgfogebgaa
