/-
  Proved here: for every input, the law FnExactFindGuess returns true and leaves its arguments as they were.
  No condition beyond what each statement spells out.
-/
import Derived.Test.YteippmgfogebgaaG4s
import Derived.Test.YteippmgfogebgaaG7
set_option linter.unusedSimpArgs false
set_option linter.unusedVariables false
namespace Go.Proofs.Yteippmgfogebgaa
open Go.Aw

theorem fits_addr (r : List AV) (h : FitsC shA r) : ∃ a, r = eAddr a ∧ wfA a := by
  obtain ⟨a, r, rfl, ha, h1⟩ := fits_str h
  obtain ⟨b, r, rfl, hb, h2⟩ := fits_str h1
  obtain rfl := fits_nil h2
  exact ⟨⟨a, b⟩, rfl, ha, hb⟩

set_option maxHeartbeats 1000000 in
theorem law4_ok (l : List DGuess) (a : DAddr) (hl : l.length ≤ 9223372036854775807) (hw : ∀ g ∈ l, wfG g) (hw2 : wfA a) : Ok Try.prog 4 [.sl .view 9 (l.map eGuess), .agg (eAddr a)] (.bool true) := by
  have hsz := szGuessS_ok l 1048576 (by omega) (by omega) hl hw
  by_cases hlt : sub 1048576 (szL szG l) < 0
  · refine ok_of_awp Try.mix Try.func4 rfl ?_
    simp only [Try.ntmps4, List.length_cons, List.length_nil, Nat.reduceSub, Nat.reduceAdd, List.replicate_succ, List.replicate_zero, List.cons_append, List.nil_append]
    repeat' (first
      | (refine awpL_cons rfl fun K hK => ?_; simp [-Bool.exists_bool, aop]; refine ⟨_, (hsz), hK _ ?_⟩; clear hK K)
      | (refine awpL_cons rfl fun K hK => ?_; simp [-Bool.exists_bool, aop]; (try simp (disch := omega) only [wrap64]); refine hK _ ?_; clear hK K)
      | refine awpL_nil ?_
      | refine awp_seq fun K hK => ?_
      | refine awp_region ?_
      | refine awp_then (by assumption) ?_
      | refine awp_then_ret ?_
      | refine awp_then_exit ?_
      | refine awp_in_normal ?_
      | refine awp_in_ret ?_
      | refine awp_in_eq ?_
      | refine awp_in_ne (by decide) ?_
      | refine awp_ret ?_
      | (refine awp_cond rfl (fun hc => ?_) (fun hc => ?_) <;> simp at hc <;> (try (exfalso; omega)))
      | refine awp_block ?_
      | refine awp_exit ?_
      | refine awp_skip ?_)
    all_goals (try (refine ⟨.inr rfl, ?_⟩; simp [Hands, Try.results4]))
  have h1 := sub_range (by omega) (by omega : 0 ≤ sub 1048576 (szL szG l))
  have hlen : l.length ≤ 1048576 := by
    have : l.length ≤ szL szG l := by unfold szL; omega
    omega
  have hsz2 := szAddr_ok a (sub 1048576 (szL szG l)) (by omega) (by omega) hw2
  by_cases hlt2 : sub (sub 1048576 (szL szG l)) (szA a) < 0
  · refine ok_of_awp Try.mix Try.func4 rfl ?_
    simp only [Try.ntmps4, List.length_cons, List.length_nil, Nat.reduceSub, Nat.reduceAdd, List.replicate_succ, List.replicate_zero, List.cons_append, List.nil_append]
    repeat' (first
      | (refine awpL_cons rfl fun K hK => ?_; simp [-Bool.exists_bool, aop]; refine ⟨_, (hsz), hK _ ?_⟩; clear hK K)
      | (refine awpL_cons rfl fun K hK => ?_; simp [-Bool.exists_bool, aop]; refine ⟨_, (hsz2), hK _ ?_⟩; clear hK K)
      | (refine awpL_cons rfl fun K hK => ?_; simp [-Bool.exists_bool, aop]; (try simp (disch := omega) only [wrap64]); refine hK _ ?_; clear hK K)
      | refine awpL_nil ?_
      | refine awp_seq fun K hK => ?_
      | refine awp_region ?_
      | refine awp_then (by assumption) ?_
      | refine awp_then_ret ?_
      | refine awp_then_exit ?_
      | refine awp_in_normal ?_
      | refine awp_in_ret ?_
      | refine awp_in_eq ?_
      | refine awp_in_ne (by decide) ?_
      | refine awp_ret ?_
      | (refine awp_cond rfl (fun hc => ?_) (fun hc => ?_) <;> simp at hc <;> (try (exfalso; omega)))
      | refine awp_block ?_
      | refine awp_exit ?_
      | refine awp_skip ?_)
    all_goals (try (refine ⟨.inr rfl, ?_⟩; simp [Hands, Try.results4]))
  refine ok_of_awp Try.mix Try.func4 rfl ?_
  simp only [Try.ntmps4, List.length_cons, List.length_nil, Nat.reduceSub, Nat.reduceAdd, List.replicate_succ, List.replicate_zero, List.cons_append, List.nil_append]
  repeat' (first
    | (refine awpL_cons rfl fun K hK => ?_; simp [-Bool.exists_bool, aop]; refine ⟨_, (hsz), hK _ ?_⟩; clear hK K)
    | (refine awpL_cons rfl fun K hK => ?_; simp [-Bool.exists_bool, aop]; refine ⟨_, (hsz2), hK _ ?_⟩; clear hK K)
    | (refine awpL_cons rfl fun K hK => ?_; simp [-Bool.exists_bool, aop]; (try simp (disch := omega) only [wrap64]); refine hK _ ?_; clear hK K)
    | refine awpL_nil ?_
    | refine awp_seq fun K hK => ?_
    | refine awp_region ?_
    | refine awp_then (by assumption) ?_
    | refine awp_then_ret ?_
    | refine awp_then_exit ?_
    | refine awp_in_normal ?_
    | refine awp_in_ret ?_
    | refine awp_in_eq ?_
    | refine awp_in_ne (by decide) ?_
    | refine awp_ret ?_
    | (refine awp_cond rfl (fun hc => ?_) (fun hc => ?_) <;> simp at hc <;> (try (exfalso; omega)))
    | refine awp_block ?_
    | refine awp_exit ?_
    | refine awp_skip ?_)
  refine awp_draw (fun J => ⟨[.sl .view 9 (l.map eGuess), .agg (eAddr a), .undef, .ptr 0 0 0 0, .bool false, .undef, dv J 5 (.int .i64 (findFrom a l 0)), .undef, .undef, .undef, .undef, .undef, .undef, .undef, .undef, .undef, .undef, .undef, .undef, dv J 0 (.sl .view 9 (l.map eGuess)), dv J 1 (.obj 1 0), dv J 2 (.agg (eAddr a)), dv J 3 (.agg (eAddr a)), dv J 4 (.int .i64 (findFrom a l 0)), .undef, .undef, .undef, .undef, .undef, .undef, .undef, .undef, .undef, .undef, .undef, .undef, .undef, .undef], if J 1 = true then [⟨true, true, 2, 0, [eAddr a]⟩, ⟨true, false, 9, 0, l.map eGuess⟩] else [⟨true, true, 2, 0, [eAddr a]⟩]⟩) (weak_o (by simp [dv]) (by simp [dv])) (by decide) ?_ ?_
  · simp only [drawSteps, and_true]
    refine ⟨⟨trivial, fun J h1 h2 => aop_k fun K hK => ?_⟩, ⟨trivial, fun J h1 h2 => aop_k fun K hK => ?_⟩, ⟨trivial, fun J h1 h2 => aop_k fun K hK => ?_⟩, ⟨trivial, fun J h1 h2 => aop_k fun K hK => ?_⟩, ⟨trivial, fun J h1 h2 => aop_k fun K hK => ?_⟩, ⟨trivial, fun J h1 h2 => aop_k fun K hK => ?_⟩⟩
    all_goals simp [Region.binds] at h2
    all_goals first
      | (simp [-Bool.exists_bool, aop, dv, h1, h2]; refine ⟨_, (toGuessS_ok l hlen), hK _ (weak_t ?_)⟩; simp [dv, upd, h1, h2])
      | (simp [-Bool.exists_bool, aop, dv, h1, h2]; refine ⟨_, (toAddr_ok a), hK _ (weak_t ?_)⟩; simp [dv, upd, h1, h2])
      | (simp [-Bool.exists_bool, aop, dv, h1, h2]; refine ⟨_, (specFind_ok l a hlen), hK _ (weak_t ?_)⟩; simp [dv, upd, h1, h2])
      | (simp [-Bool.exists_bool, aop, dv, h1, h2]; refine hK _ (weak_t ?_); simp [dv, upd, h1, h2])
      | (simp [-Bool.exists_bool, aop, dv, h1, h2]; refine ⟨_, (toGuessS_ok l hlen), hK _ (weak_o ?_ ?_)⟩ <;> simp [dv, upd, h1, h2])
      | (simp [-Bool.exists_bool, aop, dv, h1, h2]; refine ⟨_, (toAddr_ok a), hK _ (weak_o ?_ ?_)⟩ <;> simp [dv, upd, h1, h2])
      | (simp [-Bool.exists_bool, aop, dv, h1, h2]; refine ⟨_, (specFind_ok l a hlen), hK _ (weak_o ?_ ?_)⟩ <;> simp [dv, upd, h1, h2])
      | (simp [-Bool.exists_bool, aop, dv, h1, h2]; refine hK _ (weak_o ?_ ?_) <;> simp [dv, upd, h1, h2])
      | (cases hj : J 1 <;> simp [-Bool.exists_bool, aop, dv, h1, h2, hj] <;> refine ⟨_, (toGuessS_ok l hlen), hK _ (weak_o ?_ ?_)⟩ <;> simp [dv, upd, h1, h2, hj])
      | (cases hj : J 1 <;> simp [-Bool.exists_bool, aop, dv, h1, h2, hj] <;> refine ⟨_, (toAddr_ok a), hK _ (weak_o ?_ ?_)⟩ <;> simp [dv, upd, h1, h2, hj])
      | (cases hj : J 1 <;> simp [-Bool.exists_bool, aop, dv, h1, h2, hj] <;> refine ⟨_, (specFind_ok l a hlen), hK _ (weak_o ?_ ?_)⟩ <;> simp [dv, upd, h1, h2, hj])
      | (cases hj : J 1 <;> simp [-Bool.exists_bool, aop, dv, h1, h2, hj] <;> refine hK _ (weak_o ?_ ?_) <;> simp [dv, upd, h1, h2, hj])
  · intro J hJ
    have hJs : J 0 = true ∧ J 1 = true ∧ J 2 = true ∧ J 3 = true ∧ J 4 = true ∧ J 5 = true := ⟨hJ 0 (by decide), hJ 1 (by decide), hJ 2 (by decide), hJ 3 (by decide), hJ 4 (by decide), hJ 5 (by decide)⟩
    simp only [dv, hJs, if_true]
    clear hJs hJ J
    repeat' (first
      | (refine awpL_cons rfl fun K hK => ?_; simp [-Bool.exists_bool, aop]; refine ⟨_, (toGuessS_ok l hlen), hK _ ?_⟩; clear hK K)
      | (refine awpL_cons rfl fun K hK => ?_; simp [-Bool.exists_bool, aop]; refine ⟨_, (toAddr_ok a), hK _ ?_⟩; clear hK K)
      | (refine awpL_cons rfl fun K hK => ?_; simp [-Bool.exists_bool, aop]; refine ⟨_, (implFind_ok l a hlen), hK _ ?_⟩; clear hK K)
      | (refine awpL_cons rfl fun K hK => ?_; simp [-Bool.exists_bool, aop]; refine ⟨_, (eqGuessS_ok l l hlen), hK _ ?_⟩; clear hK K)
      | (refine awpL_cons rfl fun K hK => ?_; simp [-Bool.exists_bool, aop]; (try simp (disch := omega) only [wrap64]); refine hK _ ?_; clear hK K)
      | refine awpL_nil ?_
      | refine awp_seq fun K hK => ?_
      | refine awp_region ?_
      | refine awp_then (by assumption) ?_
      | refine awp_then_ret ?_
      | refine awp_then_exit ?_
      | refine awp_in_normal ?_
      | refine awp_in_ret ?_
      | refine awp_in_eq ?_
      | refine awp_in_ne (by decide) ?_
      | refine awp_ret ?_
      | (refine awp_cond rfl (fun hc => ?_) (fun hc => ?_) <;> simp at hc <;> (try (exfalso; omega)))
      | refine awp_block ?_
      | refine awp_exit ?_
      | refine awp_skip ?_)
    all_goals (try (refine ⟨.inr rfl, ?_⟩; simp [Hands, Try.results4]))

set_option maxRecDepth 100000 in
theorem law4_lifted (os : Os) (started : os.Started) (H : Type) (enc : TypeId × Value → H) :
    ReturnsInHanded {} Try.checked os 4 .any (Rows.fnExactFindGuessSpec.pre6 enc Try.prog Try.f4 Rows.fnExactFindGuessRow.domain false) (Rows.fnExactFindGuessSpec.post enc Try.prog Try.f4 false true false false) := by
  refine returnsInHanded_of_change (C := Try.checked) (by kernel_rfl) started (by kernel_rfl) Try.func4
    (ChangeSpec.witness6 (enc := enc) (C := Try.checked) false ⟨#[], #[.slice none 0 0, .agg #[.string ⟨#[]⟩, .string ⟨#[]⟩]], []⟩ 8 (by kernel_rfl) (by kernel_rfl) (by kernel_rfl) (by kernel_rfl)) ?_
  intro W base args ds gs before hval hW _ _
  exact row_true (C := Try.checked) (ss := [.one (.sl 9 shG), .agg shA]) (fuel := 8) (tb := 4) (by kernel_rfl) (by decide +kernel) (by kernel_rfl) (by kernel_rfl) (by kernel_rfl) rfl
    (fun ds h => by
      match ds, h with
      | [d0, d1], _ => rfl)
    (fun avs hf => by
      obtain ⟨x, r, rfl, hx, hf1⟩ := fitsV_one hf
      obtain ⟨c, r, rfl, hy, hf2⟩ := fitsV_agg hf1
      obtain rfl := fitsV_nil hf2
      obtain ⟨l, rfl, hl, hw⟩ := fits_guesses hx
      obtain ⟨a, rfl, hw2⟩ := fits_addr c hy
      exact law4_ok l a hl hw hw2) hval hW
/-- For every input the law returns true and its arguments read as they did. -/
theorem law4_holds : Rows.FnExactFindGuessSaid :=
  OpenClaim.holds_of_wide 4 Try.f4 rfl rfl rfl rfl rfl rfl rfl ⟨rfl, rfl, rfl, rfl, rfl⟩ rfl rfl rfl rfl rfl (by kernel_rfl) Try.func4 (by kernel_rfl)
    (of_decide_eq_true (by kernel_rfl)) (by unfold Func.isWrapper; first | (rw [if_pos (by decide +kernel)]; kernel_rfl) | (rw [if_neg (by decide +kernel)]; exact ⟨rfl, rfl⟩))
    (fun os started H enc _ => law4_lifted os started H enc)
end Go.Proofs.Yteippmgfogebgaa
