/-
  Proved here: for every input, the law FnExactUnusedGuesses returns true and leaves its argument as it was.
  No condition beyond what each statement spells out.
-/
import Derived.Test.YteippmgfogebgaaG3
import Derived.Test.YteippmgfogebgaaAwRow
import Derived.Test.YteippmgfogebgaaRows
set_option linter.unusedSimpArgs false
set_option linter.unusedVariables false
namespace Go.Proofs.Yteippmgfogebgaa
open Go.Aw

@[simp] def shA : List Sh := [.str, .str]
@[simp] def shR : List Sh := [.int .i64, .int .i64, .str, .int .i64, .bool, .str]
@[simp] def shG : List Sh := [.str, .str, .int .i64, .int .i64, .str, .int .i64, .bool, .str, .bool]
theorem fits_guess (r : List AV) (h : FitsC shG r) : ∃ g, r = eGuess g ∧ wfG g := by
  obtain ⟨a, r, rfl, ha, h⟩ := fits_str h
  obtain ⟨b, r, rfl, hb, h⟩ := fits_str h
  obtain ⟨c, r, rfl, hc, h⟩ := fits_int h
  obtain ⟨d, r, rfl, hd, h⟩ := fits_int h
  obtain ⟨e, r, rfl, he, h⟩ := fits_str h
  obtain ⟨f, r, rfl, hf, h⟩ := fits_int h
  obtain ⟨g, r, rfl, h1⟩ := fits_bool h
  obtain ⟨i, r, rfl, hi, h2⟩ := fits_str h1
  obtain ⟨j, r, rfl, h3⟩ := fits_bool h2
  obtain rfl := fits_nil h3
  exact ⟨⟨⟨a, b⟩, ⟨c, d, e, f, g, i⟩, j⟩, rfl, ⟨ha, hb⟩, ⟨he, hi⟩⟩
theorem fits_guesses {x : AV} (h : FitsC [.sl 9 shG] [x]) : ∃ l : List DGuess, x = .sl .view 9 (l.map eGuess) ∧ l.length ≤ 9223372036854775807 ∧ ∀ g ∈ l, wfG g := by
  obtain ⟨rows, r, e, hl, hr, _⟩ := fits_sl h
  obtain ⟨rfl, rfl⟩ := List.cons.inj e
  obtain ⟨l, rfl, hp⟩ := fits_map fits_guess rows hr
  exact ⟨l, rfl, by simpa using hl, hp⟩

theorem law3_ok (l : List DGuess) (hl : l.length ≤ 9223372036854775807) (hw : ∀ g ∈ l, wfG g) : Ok Try.prog 3 [.sl .view 9 (l.map eGuess)] (.bool true) := by
  have hsz := szGuessS_ok l 1048576 (by omega) (by omega) hl hw
  by_cases hlt : sub 1048576 (szL szG l) < 0
  · refine ok_of_awp Try.mix Try.func3 rfl ?_
    simp only [Try.ntmps3, List.length_cons, List.length_nil, Nat.reduceSub, Nat.reduceAdd, List.replicate_succ, List.replicate_zero, List.cons_append, List.nil_append]
    repeat' (first
      | (refine awpL_cons rfl fun K hK => ?_; simp [aop]; refine ⟨_, (hsz), hK _ ?_⟩; clear hK K)
      | (refine awpL_cons rfl fun K hK => ?_; simp [aop]; (try simp (disch := omega) only [wrap64]); refine hK _ ?_; clear hK K)
      | refine awpL_nil ?_
      | refine awp_seq fun K hK => ?_
      | refine awp_region ?_
      | refine awp_then (by assumption) ?_
      | refine awp_then_ret ?_
      | refine awp_then_exit ?_
      | refine awp_in_normal ?_
      | refine awp_in_ret ?_
      | refine awp_in_eq ?_
      | refine awp_in_ne (by decide) ?_
      | refine awp_ret ?_
      | (refine awp_cond rfl (fun hc => ?_) (fun hc => ?_) <;> simp at hc <;> (try (exfalso; omega)))
      | refine awp_block ?_
      | refine awp_exit ?_
      | refine awp_skip ?_)
    all_goals (try (refine ⟨.inr rfl, ?_⟩; simp [Hands, Try.results3]))
  · have hlen : l.length ≤ 1048576 := by
      have := (sub_range (by omega) (by omega : 0 ≤ sub 1048576 (szL szG l))).2.2
      unfold szL at this; omega
    refine ok_of_awp Try.mix Try.func3 rfl ?_
    simp only [Try.ntmps3, List.length_cons, List.length_nil, Nat.reduceSub, Nat.reduceAdd, List.replicate_succ, List.replicate_zero, List.cons_append, List.nil_append]
    repeat' (first
      | (refine awpL_cons rfl fun K hK => ?_; simp [aop]; refine ⟨_, (hsz), hK _ ?_⟩; clear hK K)
      | (refine awpL_cons rfl fun K hK => ?_; simp [aop]; refine ⟨_, (toGuessS_ok l hlen), hK _ ?_⟩; clear hK K)
      | (refine awpL_cons rfl fun K hK => ?_; simp [aop]; refine ⟨_, (specUnused_ok l hlen), hK _ ?_⟩; clear hK K)
      | (refine awpL_cons rfl fun K hK => ?_; simp [aop]; refine ⟨_, (implUnused_ok l hlen), hK _ ?_⟩; clear hK K)
      | (refine awpL_cons rfl fun K hK => ?_; simp [aop]; refine ⟨_, (eqGuessS_ok l l hlen), hK _ ?_⟩; clear hK K)
      | (refine awpL_cons rfl fun K hK => ?_; simp [aop]; (try simp (disch := omega) only [wrap64]); refine hK _ ?_; clear hK K)
      | refine awpL_nil ?_
      | refine awp_seq fun K hK => ?_
      | refine awp_region ?_
      | refine awp_then (by assumption) ?_
      | refine awp_then_ret ?_
      | refine awp_then_exit ?_
      | refine awp_in_normal ?_
      | refine awp_in_ret ?_
      | refine awp_in_eq ?_
      | refine awp_in_ne (by decide) ?_
      | refine awp_ret ?_
      | (refine awp_cond rfl (fun hc => ?_) (fun hc => ?_) <;> simp at hc <;> (try (exfalso; omega)))
      | refine awp_block ?_
      | refine awp_exit ?_
      | refine awp_skip ?_)
    all_goals (try (refine ⟨.inr rfl, ?_⟩; simp [Hands, Try.results3]))

set_option maxRecDepth 100000 in
theorem law3_lifted (os : Os) (started : os.Started) (H : Type) (enc : TypeId × Value → H) :
    ReturnsInHanded {} Try.checked os 3 .any (Rows.fnExactUnusedGuessesSpec.pre6 enc Try.prog Try.f3 Rows.fnExactUnusedGuessesRow.domain false) (Rows.fnExactUnusedGuessesSpec.post enc Try.prog Try.f3 false true false false) := by
  refine returnsInHanded_of_change (C := Try.checked) (by kernel_rfl) started (by kernel_rfl) Try.func3
    (ChangeSpec.witness6 (enc := enc) (C := Try.checked) false ⟨#[], #[.slice none 0 0], []⟩ 8 (by kernel_rfl) (by kernel_rfl) (by kernel_rfl) (by kernel_rfl)) ?_
  intro W base args ds gs before hval hW _ _
  exact row_true (C := Try.checked) (ss := [.one (.sl 9 shG)]) (fuel := 8) (tb := 4) (by kernel_rfl) (by decide +kernel) (by kernel_rfl) (by kernel_rfl) (by kernel_rfl) rfl
    (fun ds h => by
      match ds, h with
      | [d], _ => rfl)
    (fun avs hf => by
      obtain ⟨x, r, rfl, hx, hf1⟩ := fitsV_one hf
      obtain rfl := fitsV_nil hf1
      obtain ⟨l, rfl, hl, hw⟩ := fits_guesses hx
      exact law3_ok l hl hw) hval hW
theorem law3_holds : Rows.FnExactUnusedGuessesSaid :=
  OpenClaim.holds_of_wide 3 Try.f3 rfl rfl rfl rfl rfl rfl rfl ⟨rfl, rfl, rfl, rfl, rfl⟩ rfl rfl rfl rfl rfl (by kernel_rfl) Try.func3 (by kernel_rfl)
    (of_decide_eq_true (by kernel_rfl)) (by unfold Func.isWrapper; first | (rw [if_pos (by decide +kernel)]; kernel_rfl) | (rw [if_neg (by decide +kernel)]; exact ⟨rfl, rfl⟩))
    (fun os started H enc _ => law3_lifted os started H enc)

end Go.Proofs.Yteippmgfogebgaa
