/-
  Proved here: for every input, the law FnExactEqualGuesses returns true and leaves its arguments as they were.
  No condition beyond what each statement spells out.
-/
import Derived.Test.YteippmgfogebgaaG6
set_option linter.unusedSimpArgs false
set_option linter.unusedVariables false
namespace Go.Proofs.Yteippmgfogebgaa
open Go.Aw

set_option maxHeartbeats 1000000 in
theorem law6_ok (a b : List DGuess) (hl : a.length ≤ 9223372036854775807) (hw : ∀ g ∈ a, wfG g) (hl2 : b.length ≤ 9223372036854775807) (hw2 : ∀ g ∈ b, wfG g) : Ok Try.prog 6 [.sl .view 9 (a.map eGuess), .sl .view 9 (b.map eGuess)] (.bool true) := by
  have hsz := szGuessS_ok a 1048576 (by omega) (by omega) hl hw
  by_cases hlt : sub 1048576 (szL szG a) < 0
  · refine ok_of_awp Try.mix Try.func6 rfl ?_
    simp only [Try.ntmps6, List.length_cons, List.length_nil, Nat.reduceSub, Nat.reduceAdd, List.replicate_succ, List.replicate_zero, List.cons_append, List.nil_append]
    repeat' (first
      | (refine awpL_cons rfl fun K hK => ?_; simp [-Bool.exists_bool, aop]; refine ⟨_, (hsz), hK _ ?_⟩; clear hK K)
      | (refine awpL_cons rfl fun K hK => ?_; simp [-Bool.exists_bool, aop]; (try simp (disch := omega) only [wrap64]); refine hK _ ?_; clear hK K)
      | refine awpL_nil ?_
      | refine awp_seq fun K hK => ?_
      | refine awp_region ?_
      | refine awp_then (by assumption) ?_
      | refine awp_then_ret ?_
      | refine awp_then_exit ?_
      | refine awp_in_normal ?_
      | refine awp_in_ret ?_
      | refine awp_in_eq ?_
      | refine awp_in_ne (by decide) ?_
      | refine awp_ret ?_
      | (refine awp_cond rfl (fun hc => ?_) (fun hc => ?_) <;> simp at hc <;> (try (exfalso; omega)))
      | refine awp_block ?_
      | refine awp_exit ?_
      | refine awp_skip ?_)
    all_goals (try (refine ⟨.inr rfl, ?_⟩; simp [Hands, Try.results6]))
  have h1 := sub_range (by omega) (by omega : 0 ≤ sub 1048576 (szL szG a))
  have hlen : a.length ≤ 1048576 := by unfold szL at h1; omega
  have hsz2 := szGuessS_ok b (sub 1048576 (szL szG a)) (by omega) (by omega) hl2 hw2
  by_cases hlt2 : sub (sub 1048576 (szL szG a)) (szL szG b) < 0
  · refine ok_of_awp Try.mix Try.func6 rfl ?_
    simp only [Try.ntmps6, List.length_cons, List.length_nil, Nat.reduceSub, Nat.reduceAdd, List.replicate_succ, List.replicate_zero, List.cons_append, List.nil_append]
    repeat' (first
      | (refine awpL_cons rfl fun K hK => ?_; simp [-Bool.exists_bool, aop]; refine ⟨_, (hsz), hK _ ?_⟩; clear hK K)
      | (refine awpL_cons rfl fun K hK => ?_; simp [-Bool.exists_bool, aop]; refine ⟨_, (hsz2), hK _ ?_⟩; clear hK K)
      | (refine awpL_cons rfl fun K hK => ?_; simp [-Bool.exists_bool, aop]; (try simp (disch := omega) only [wrap64]); refine hK _ ?_; clear hK K)
      | refine awpL_nil ?_
      | refine awp_seq fun K hK => ?_
      | refine awp_region ?_
      | refine awp_then (by assumption) ?_
      | refine awp_then_ret ?_
      | refine awp_then_exit ?_
      | refine awp_in_normal ?_
      | refine awp_in_ret ?_
      | refine awp_in_eq ?_
      | refine awp_in_ne (by decide) ?_
      | refine awp_ret ?_
      | (refine awp_cond rfl (fun hc => ?_) (fun hc => ?_) <;> simp at hc <;> (try (exfalso; omega)))
      | refine awp_block ?_
      | refine awp_exit ?_
      | refine awp_skip ?_)
    all_goals (try (refine ⟨.inr rfl, ?_⟩; simp [Hands, Try.results6]))
  have h2 := sub_range (by omega) (by omega : 0 ≤ sub (sub 1048576 (szL szG a)) (szL szG b))
  have hlen2 : b.length ≤ 1048576 := by
    have : b.length ≤ szL szG b := by unfold szL; omega
    omega
  refine ok_of_awp Try.mix Try.func6 rfl ?_
  simp only [Try.ntmps6, List.length_cons, List.length_nil, Nat.reduceSub, Nat.reduceAdd, List.replicate_succ, List.replicate_zero, List.cons_append, List.nil_append]
  repeat' (first
    | (refine awpL_cons rfl fun K hK => ?_; simp [-Bool.exists_bool, aop]; refine ⟨_, (hsz), hK _ ?_⟩; clear hK K)
    | (refine awpL_cons rfl fun K hK => ?_; simp [-Bool.exists_bool, aop]; refine ⟨_, (hsz2), hK _ ?_⟩; clear hK K)
    | (refine awpL_cons rfl fun K hK => ?_; simp [-Bool.exists_bool, aop]; refine ⟨_, (toGuessS_ok a hlen), hK _ ?_⟩; clear hK K)
    | (refine awpL_cons rfl fun K hK => ?_; simp [-Bool.exists_bool, aop]; refine ⟨_, (toGuessS_ok b hlen2), hK _ ?_⟩; clear hK K)
    | (refine awpL_cons rfl fun K hK => ?_; simp [-Bool.exists_bool, aop]; refine ⟨_, (specEqual_ok a b hlen), hK _ ?_⟩; clear hK K)
    | (refine awpL_cons rfl fun K hK => ?_; simp [-Bool.exists_bool, aop]; refine ⟨_, (implEqual_ok a b hlen), hK _ ?_⟩; clear hK K)
    | (refine awpL_cons rfl fun K hK => ?_; simp [-Bool.exists_bool, aop]; refine ⟨_, (eqGuessS_ok a a hlen), hK _ ?_⟩; clear hK K)
    | (refine awpL_cons rfl fun K hK => ?_; simp [-Bool.exists_bool, aop]; refine ⟨_, (eqGuessS_ok b b hlen2), hK _ ?_⟩; clear hK K)
    | (refine awpL_cons rfl fun K hK => ?_; simp [-Bool.exists_bool, aop]; (try simp (disch := omega) only [wrap64]); refine hK _ ?_; clear hK K)
    | refine awpL_nil ?_
    | refine awp_seq fun K hK => ?_
    | refine awp_region ?_
    | refine awp_then (by assumption) ?_
    | refine awp_then_ret ?_
    | refine awp_then_exit ?_
    | refine awp_in_normal ?_
    | refine awp_in_ret ?_
    | refine awp_in_eq ?_
    | refine awp_in_ne (by decide) ?_
    | refine awp_ret ?_
    | (refine awp_cond rfl (fun hc => ?_) (fun hc => ?_) <;> simp at hc <;> (try (exfalso; omega)))
    | refine awp_block ?_
    | refine awp_exit ?_
    | refine awp_skip ?_)
  all_goals (try (refine ⟨.inr rfl, ?_⟩; simp [Hands, Try.results6]))

set_option maxRecDepth 100000 in
theorem law6_lifted (os : Os) (started : os.Started) (H : Type) (enc : TypeId × Value → H) :
    ReturnsInHanded {} Try.checked os 6 .any (Rows.fnExactEqualGuessesSpec.pre6 enc Try.prog Try.f6 Rows.fnExactEqualGuessesRow.domain false) (Rows.fnExactEqualGuessesSpec.post enc Try.prog Try.f6 false true false false) := by
  refine returnsInHanded_of_change (C := Try.checked) (by kernel_rfl) started (by kernel_rfl) Try.func6
    (ChangeSpec.witness6 (enc := enc) (C := Try.checked) false ⟨#[], #[.slice none 0 0, .slice none 0 0], []⟩ 8 (by kernel_rfl) (by kernel_rfl) (by kernel_rfl) (by kernel_rfl)) ?_
  intro W base args ds gs before hval hW _ _
  exact row_true (C := Try.checked) (ss := [.one (.sl 9 shG), .one (.sl 9 shG)]) (fuel := 8) (tb := 4) (by kernel_rfl) (by decide +kernel) (by kernel_rfl) (by kernel_rfl) (by kernel_rfl) rfl
    (fun ds h => by
      match ds, h with
      | [d0, d1], _ => rfl)
    (fun avs hf => by
      obtain ⟨x, r, rfl, hx, hf1⟩ := fitsV_one hf
      obtain ⟨y, r, rfl, hy, hf2⟩ := fitsV_one hf1
      obtain rfl := fitsV_nil hf2
      obtain ⟨a, rfl, hl, hw⟩ := fits_guesses hx
      obtain ⟨b, rfl, hl2, hw2⟩ := fits_guesses hy
      exact law6_ok a b hl hw hl2 hw2) hval hW
/-- For every input the law returns true and its arguments read as they did. -/
theorem law6_holds : Rows.FnExactEqualGuessesSaid :=
  OpenClaim.holds_of_wide 6 Try.f6 rfl rfl rfl rfl rfl rfl rfl ⟨rfl, rfl, rfl, rfl, rfl⟩ rfl rfl rfl rfl rfl (by kernel_rfl) Try.func6 (by kernel_rfl)
    (of_decide_eq_true (by kernel_rfl)) (by unfold Func.isWrapper; first | (rw [if_pos (by decide +kernel)]; kernel_rfl) | (rw [if_neg (by decide +kernel)]; exact ⟨rfl, rfl⟩))
    (fun os started H enc _ => law6_lifted os started H enc)
end Go.Proofs.Yteippmgfogebgaa
