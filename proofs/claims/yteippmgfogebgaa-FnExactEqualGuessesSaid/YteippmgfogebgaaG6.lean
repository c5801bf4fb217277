/-
  Proved here: contracts of EqualGuesses, in the reference and in the program, and of slices.Equal.
  No condition beyond what each statement spells out.
-/
import Derived.Test.YteippmgfogebgaaG4s
import Derived.Test.YteippmgfogebgaaAwEq
set_option linter.unusedSimpArgs false
set_option linter.unusedVariables false
namespace Go.Proofs.Yteippmgfogebgaa
open Go.Aw

theorem eGuess_inj {a b : DGuess} : eGuess a = eGuess b ↔ a = b := by
  obtain ⟨⟨a1, a2⟩, ⟨a3, a4, a5, a6, a7, a8⟩, a9⟩ := a
  obtain ⟨⟨b1, b2⟩, ⟨b3, b4, b5, b6, b7, b8⟩, b9⟩ := b
  simp only [eGuess, List.cons.injEq, AV.str.injEq, AV.int.injEq, AV.bool.injEq, true_and, and_true, DGuess.mk.injEq, DAddr.mk.injEq, DResp.mk.injEq]
  grind
theorem eqGuessA (a b : DGuess) : EqA Try.prog 53 (eGuess a) (eGuess b) (decide (a = b)) :=
  eqA_of (f := 6) (ss := shG) (by decide) (by kernel_rfl) (by kernel_rfl) (by kernel_rfl) (by kernel_rfl) (by simp [LikeC, Like]) (by simp [LikeC, Like]) (by rw [eGuess_inj, decide_eq_true_iff])

theorem specEqual_ok (a b : List DGuess) (hl : a.length ≤ 1048576) : Ok Try.prog 20 [.sl .view 9 (a.map eGuess), .sl .view 9 (b.map eGuess)] (.bool (decide (a = b))) := by
  refine ok_of_awp Try.mix Try.func20 rfl ?_
  simp only [Try.ntmps20, List.length_cons, List.length_nil, Nat.reduceSub, Nat.reduceAdd, List.replicate_succ, List.replicate_zero, List.cons_append, List.nil_append]
  repeat' (first
    | (refine awpL_cons rfl fun K hK => ?_; simp [-Bool.exists_bool, aop]; (try simp (disch := omega) only [wrap64]); refine hK _ ?_; clear hK K)
    | refine awpL_nil ?_
    | refine awp_seq fun K hK => ?_
    | refine awp_region ?_
    | refine awp_then (by assumption) ?_
    | refine awp_then_ret ?_
    | refine awp_then_exit ?_
    | refine awp_in_normal ?_
    | refine awp_in_ret ?_
    | refine awp_in_eq ?_
    | refine awp_in_ne (by decide) ?_
    | refine awp_ret ?_
    | (refine awp_cond rfl (fun hc => ?_) (fun hc => ?_) <;> simp at hc <;> (try (exfalso; omega)))
    | refine awp_block ?_
    | refine awp_exit ?_
    | refine awp_skip ?_)
  · all_goals (try (refine ⟨.inr rfl, ?_⟩; simp [Hands, Try.results20]))
    intro h; subst h; exact absurd rfl hc
  · have hlen : a.length = b.length := by omega
    refine awp_loop (ι := { k : Nat // k ≤ a.length ∧ a.take k = b.take k })
      (fun i => ⟨[.sl .view 9 (a.map eGuess), .sl .view 9 (b.map eGuess), .undef, .undef, .bool false, .int .i64 i.1, .undef, .undef, .undef, .undef, .undef, .undef, .undef, .undef, .undef, .undef, .undef, .undef, .undef, .undef, .undef, .undef, .undef, .undef, .undef, .undef], []⟩)
      (fun i => a.length - i.1) ⟨0, by simp⟩ (weak_o (by simp) (by simp)) ?_
    rintro ⟨k, hk, hpre⟩ K1 hK1
    have hk1 : IntKind.i64.wrap ((k : Int) + 1) = ((k + 1 : Nat) : Int) := by rw [wrap64] <;> omega
    by_cases hlt : k < a.length
    · have hg := List.getElem?_eq_getElem hlt
      have hltb : k < b.length := by omega
      have hgb := List.getElem?_eq_getElem hltb
      repeat' (first
        | (refine awpL_cons rfl fun K hK => ?_; simp [-Bool.exists_bool, aop, hk1, hg, hlt]; (try simp (disch := omega) only [wrap64]); refine hK _ ?_; clear hK K)
        | refine awpL_nil ?_
        | refine awp_seq fun K hK => ?_
        | refine awp_region ?_
        | refine awp_then (by assumption) ?_
        | refine awp_then_ret ?_
        | refine awp_then_exit ?_
        | refine awp_in_normal ?_
        | refine awp_in_ret ?_
        | refine awp_in_eq ?_
        | refine awp_in_ne (by decide) ?_
        | refine awp_ret ?_
        | (refine awp_cond rfl (fun hc => ?_) (fun hc => ?_) <;> simp at hc <;> (try (exfalso; omega)))
        | refine awp_block ?_
        | refine awp_exit ?_
        | refine awp_skip ?_)
      refine awp_draw (fun J => ⟨[.sl .view 9 (a.map eGuess), .sl .view 9 (b.map eGuess), .undef, .undef, .bool false, .int .i64 k, .undef, .undef, .undef, .undef, .undef, .undef, .undef, .undef, .undef, .undef, .undef, dv J 0 (.sl .view 9 (a.map eGuess)), dv J 1 (.int .i64 k), dv J 2 (.vptr .view (eGuess a[k]) 0), dv J 3 (.agg (eGuess a[k])), dv J 4 (.sl .view 9 (b.map eGuess)), dv J 5 (.int .i64 k), dv J 6 (.vptr .view (eGuess b[k]) 0), dv J 7 (.agg (eGuess b[k])), dv J 8 (.bool (!decide (a[k] = b[k])))], []⟩) (weak_o (by simp [dv, hg, hgb]) (by simp [dv, hg, hgb])) (by decide) ?_ ?_
      · simp only [drawSteps, and_true]
        refine ⟨⟨trivial, fun J h1 h2 => aop_k fun K hK => ?_⟩, ⟨trivial, fun J h1 h2 => aop_k fun K hK => ?_⟩, ⟨trivial, fun J h1 h2 => aop_k fun K hK => ?_⟩, ⟨trivial, fun J h1 h2 => aop_k fun K hK => ?_⟩, ⟨trivial, fun J h1 h2 => aop_k fun K hK => ?_⟩, ⟨trivial, fun J h1 h2 => aop_k fun K hK => ?_⟩, ⟨trivial, fun J h1 h2 => aop_k fun K hK => ?_⟩, ⟨trivial, fun J h1 h2 => aop_k fun K hK => ?_⟩, ⟨trivial, fun J h1 h2 => aop_k fun K hK => ?_⟩⟩
        all_goals simp [Region.binds] at h2
        all_goals first
          | (simp [-Bool.exists_bool, aop, dv, h1, h2, hg, hgb]; refine ⟨_, (eqGuessA a[k] b[k]), hK _ (weak_t ?_)⟩; simp [dv, upd, h1, h2])
          | (simp [-Bool.exists_bool, aop, dv, h1, h2, hg, hgb]; refine hK _ (weak_t ?_); simp [dv, upd, h1, h2])
      · intro J hJ
        have hJs : J 0 = true ∧ J 1 = true ∧ J 2 = true ∧ J 3 = true ∧ J 4 = true ∧ J 5 = true ∧ J 6 = true ∧ J 7 = true ∧ J 8 = true := ⟨hJ 0 (by decide), hJ 1 (by decide), hJ 2 (by decide), hJ 3 (by decide), hJ 4 (by decide), hJ 5 (by decide), hJ 6 (by decide), hJ 7 (by decide), hJ 8 (by decide)⟩
        simp only [dv, hJs, if_true]
        clear hJs hJ J
        repeat' (first
          | (refine awpL_cons rfl fun K hK => ?_; simp [-Bool.exists_bool, aop, hk1]; (try simp (disch := omega) only [wrap64]); refine hK _ ?_; clear hK K)
          | refine awpL_nil ?_
          | refine awp_seq fun K hK => ?_
          | refine awp_region ?_
          | refine awp_then (by assumption) ?_
          | refine awp_then_ret ?_
          | refine awp_then_exit ?_
          | refine awp_in_normal ?_
          | refine awp_in_ret ?_
          | refine awp_in_eq ?_
          | refine awp_in_ne (by decide) ?_
          | refine awp_ret ?_
          | (refine awp_cond rfl (fun hc => ?_) (fun hc => ?_) <;> simp at hc <;> (try (exfalso; omega)))
          | refine awp_block ?_
          | refine awp_exit ?_
          | refine awp_skip ?_)
        · all_goals (try (refine ⟨.inr rfl, ?_⟩; simp [Hands, Try.results20]))
          intro h; subst h; exact hc rfl
        · have hts : a.take (k + 1) = b.take (k + 1) := by
            rw [List.take_succ_eq_append_getElem hlt, List.take_succ_eq_append_getElem hltb, hpre, hc]
          refine hK1 _ ⟨k + 1, by omega, hts⟩ (weak_o ?_ ?_) (by simp only; omega)
          · simp
          · simp
    · have hka : a.length ≤ k := by omega
      rw [List.take_of_length_le hka, List.take_of_length_le (by omega)] at hpre
      subst hpre
      repeat' (first
        | (refine awpL_cons rfl fun K hK => ?_; simp [-Bool.exists_bool, aop, hk1]; (try simp (disch := omega) only [wrap64]); refine hK _ ?_; clear hK K)
        | refine awpL_nil ?_
        | refine awp_seq fun K hK => ?_
        | refine awp_region ?_
        | refine awp_then (by assumption) ?_
        | refine awp_then_ret ?_
        | refine awp_then_exit ?_
        | refine awp_in_normal ?_
        | refine awp_in_ret ?_
        | refine awp_in_eq ?_
        | refine awp_in_ne (by decide) ?_
        | refine awp_ret ?_
        | (refine awp_cond rfl (fun hc => ?_) (fun hc => ?_) <;> simp at hc <;> (try (exfalso; omega)))
        | refine awp_block ?_
        | refine awp_exit ?_
        | refine awp_skip ?_)
      all_goals (try (refine ⟨.inr rfl, ?_⟩; simp [Hands, Try.results20]))

theorem slicesEqual_ok (a b : List DGuess) (hl : a.length ≤ 1048576) : Ok Try.prog 38 [.sl .view 9 (a.map eGuess), .sl .view 9 (b.map eGuess)] (.bool (decide (a = b))) := by
  refine ok_of_awp Try.mix Try.func38 rfl ?_
  simp only [Try.ntmps38, List.length_cons, List.length_nil, Nat.reduceSub, Nat.reduceAdd, List.replicate_succ, List.replicate_zero, List.cons_append, List.nil_append]
  repeat' (first
    | (refine awpL_cons rfl fun K hK => ?_; simp [-Bool.exists_bool, aop]; (try simp (disch := omega) only [wrap64]); refine hK _ ?_; clear hK K)
    | refine awpL_nil ?_
    | refine awp_seq fun K hK => ?_
    | refine awp_region ?_
    | refine awp_then (by assumption) ?_
    | refine awp_then_ret ?_
    | refine awp_then_exit ?_
    | refine awp_in_normal ?_
    | refine awp_in_ret ?_
    | refine awp_in_eq ?_
    | refine awp_in_ne (by decide) ?_
    | refine awp_ret ?_
    | (refine awp_cond rfl (fun hc => ?_) (fun hc => ?_) <;> simp at hc <;> (try (exfalso; omega)))
    | refine awp_block ?_
    | refine awp_exit ?_
    | refine awp_skip ?_)
  · all_goals (try (refine ⟨.inr rfl, ?_⟩; simp [Hands, Try.results38]))
    intro h; subst h; exact absurd rfl hc
  · have hlen : a.length = b.length := by omega
    refine awp_loop (ι := { k : Nat // k ≤ a.length ∧ a.take k = b.take k })
      (fun i => ⟨[.sl .view 9 (a.map eGuess), .sl .view 9 (b.map eGuess), .undef, .undef, .bool false, .undef, .undef, .undef, .undef, .undef, .undef, .undef, .int .i64 a.length, .int .i64 i.1, .undef, .undef, .undef, .undef, .undef, .undef, .undef, .undef, .undef, .undef, .undef, .undef], []⟩)
      (fun i => a.length - i.1) ⟨0, by simp⟩ (weak_o (by simp) (by simp)) ?_
    rintro ⟨k, hk, hpre⟩ K1 hK1
    have hk1 : IntKind.i64.wrap ((k : Int) + 1) = ((k + 1 : Nat) : Int) := by rw [wrap64] <;> omega
    by_cases hlt : k < a.length
    · have hg := List.getElem?_eq_getElem hlt
      have hltb : k < b.length := by omega
      have hgb := List.getElem?_eq_getElem hltb
      repeat' (first
        | (refine awpL_cons rfl fun K hK => ?_; simp [-Bool.exists_bool, aop, hk1, hg, hlt]; (try simp (disch := omega) only [wrap64]); refine hK _ ?_; clear hK K)
        | refine awpL_nil ?_
        | refine awp_seq fun K hK => ?_
        | refine awp_region ?_
        | refine awp_then (by assumption) ?_
        | refine awp_then_ret ?_
        | refine awp_then_exit ?_
        | refine awp_in_normal ?_
        | refine awp_in_ret ?_
        | refine awp_in_eq ?_
        | refine awp_in_ne (by decide) ?_
        | refine awp_ret ?_
        | (refine awp_cond rfl (fun hc => ?_) (fun hc => ?_) <;> simp at hc <;> (try (exfalso; omega)))
        | refine awp_block ?_
        | refine awp_exit ?_
        | refine awp_skip ?_)
      refine awp_draw (fun J => ⟨[.sl .view 9 (a.map eGuess), .sl .view 9 (b.map eGuess), .undef, .undef, .bool false, .int .i64 k, .undef, .undef, .undef, .undef, .undef, .undef, .int .i64 a.length, .int .i64 k, .undef, .undef, dv J 0 (.sl .view 9 (a.map eGuess)), dv J 1 (.int .i64 k), dv J 2 (.vptr .view (eGuess a[k]) 0), dv J 3 (.agg (eGuess a[k])), dv J 4 (.sl .view 9 (b.map eGuess)), dv J 5 (.int .i64 k), dv J 6 (.vptr .view (eGuess b[k]) 0), dv J 7 (.agg (eGuess b[k])), dv J 8 (.bool (!decide (a[k] = b[k]))), .undef], []⟩) (weak_o (by simp [dv, hg, hgb]) (by simp [dv, hg, hgb])) (by decide) ?_ ?_
      · simp only [drawSteps, and_true]
        refine ⟨⟨trivial, fun J h1 h2 => aop_k fun K hK => ?_⟩, ⟨trivial, fun J h1 h2 => aop_k fun K hK => ?_⟩, ⟨trivial, fun J h1 h2 => aop_k fun K hK => ?_⟩, ⟨trivial, fun J h1 h2 => aop_k fun K hK => ?_⟩, ⟨trivial, fun J h1 h2 => aop_k fun K hK => ?_⟩, ⟨trivial, fun J h1 h2 => aop_k fun K hK => ?_⟩, ⟨trivial, fun J h1 h2 => aop_k fun K hK => ?_⟩, ⟨trivial, fun J h1 h2 => aop_k fun K hK => ?_⟩, ⟨trivial, fun J h1 h2 => aop_k fun K hK => ?_⟩⟩
        all_goals simp [Region.binds] at h2
        all_goals first
          | (simp [-Bool.exists_bool, aop, dv, h1, h2, hg, hgb]; refine ⟨_, (eqGuessA a[k] b[k]), hK _ (weak_t ?_)⟩; simp [dv, upd, h1, h2])
          | (simp [-Bool.exists_bool, aop, dv, h1, h2, hg, hgb]; refine hK _ (weak_t ?_); simp [dv, upd, h1, h2])
      · intro J hJ
        have hJs : J 0 = true ∧ J 1 = true ∧ J 2 = true ∧ J 3 = true ∧ J 4 = true ∧ J 5 = true ∧ J 6 = true ∧ J 7 = true ∧ J 8 = true := ⟨hJ 0 (by decide), hJ 1 (by decide), hJ 2 (by decide), hJ 3 (by decide), hJ 4 (by decide), hJ 5 (by decide), hJ 6 (by decide), hJ 7 (by decide), hJ 8 (by decide)⟩
        simp only [dv, hJs, if_true]
        clear hJs hJ J
        repeat' (first
          | (refine awpL_cons rfl fun K hK => ?_; simp [-Bool.exists_bool, aop, hk1]; (try simp (disch := omega) only [wrap64]); refine hK _ ?_; clear hK K)
          | refine awpL_nil ?_
          | refine awp_seq fun K hK => ?_
          | refine awp_region ?_
          | refine awp_then (by assumption) ?_
          | refine awp_then_ret ?_
          | refine awp_then_exit ?_
          | refine awp_in_normal ?_
          | refine awp_in_ret ?_
          | refine awp_in_eq ?_
          | refine awp_in_ne (by decide) ?_
          | refine awp_ret ?_
          | (refine awp_cond rfl (fun hc => ?_) (fun hc => ?_) <;> simp at hc <;> (try (exfalso; omega)))
          | refine awp_block ?_
          | refine awp_exit ?_
          | refine awp_skip ?_)
        · all_goals (try (refine ⟨.inr rfl, ?_⟩; simp [Hands, Try.results38]))
          intro h; subst h; exact hc rfl
        · have hts : a.take (k + 1) = b.take (k + 1) := by
            rw [List.take_succ_eq_append_getElem hlt, List.take_succ_eq_append_getElem hltb, hpre, hc]
          refine hK1 _ ⟨k + 1, by omega, hts⟩ (weak_o ?_ ?_) (by simp only; omega)
          · simp
          · simp
    · have hka : a.length ≤ k := by omega
      rw [List.take_of_length_le hka, List.take_of_length_le (by omega)] at hpre
      subst hpre
      repeat' (first
        | (refine awpL_cons rfl fun K hK => ?_; simp [-Bool.exists_bool, aop, hk1]; (try simp (disch := omega) only [wrap64]); refine hK _ ?_; clear hK K)
        | refine awpL_nil ?_
        | refine awp_seq fun K hK => ?_
        | refine awp_region ?_
        | refine awp_then (by assumption) ?_
        | refine awp_then_ret ?_
        | refine awp_then_exit ?_
        | refine awp_in_normal ?_
        | refine awp_in_ret ?_
        | refine awp_in_eq ?_
        | refine awp_in_ne (by decide) ?_
        | refine awp_ret ?_
        | (refine awp_cond rfl (fun hc => ?_) (fun hc => ?_) <;> simp at hc <;> (try (exfalso; omega)))
        | refine awp_block ?_
        | refine awp_exit ?_
        | refine awp_skip ?_)
      all_goals (try (refine ⟨.inr rfl, ?_⟩; simp [Hands, Try.results38]))

theorem implEqual_ok (a b : List DGuess) (hl : a.length ≤ 1048576) : Ok Try.prog 21 [.sl .view 9 (a.map eGuess), .sl .view 9 (b.map eGuess)] (.bool (decide (a = b))) := by
  refine ok_of_awp Try.mix Try.func21 rfl ?_
  simp only [Try.ntmps21, List.length_cons, List.length_nil, Nat.reduceSub, Nat.reduceAdd, List.replicate_succ, List.replicate_zero, List.cons_append, List.nil_append]
  repeat' (first
    | (refine awpL_cons rfl fun K hK => ?_; simp [-Bool.exists_bool, aop]; refine ⟨_, (slicesEqual_ok a b hl), hK _ ?_⟩; clear hK K)
    | (refine awpL_cons rfl fun K hK => ?_; simp [-Bool.exists_bool, aop]; (try simp (disch := omega) only [wrap64]); refine hK _ ?_; clear hK K)
    | refine awpL_nil ?_
    | refine awp_seq fun K hK => ?_
    | refine awp_region ?_
    | refine awp_then (by assumption) ?_
    | refine awp_then_ret ?_
    | refine awp_then_exit ?_
    | refine awp_in_normal ?_
    | refine awp_in_ret ?_
    | refine awp_in_eq ?_
    | refine awp_in_ne (by decide) ?_
    | refine awp_ret ?_
    | (refine awp_cond rfl (fun hc => ?_) (fun hc => ?_) <;> simp at hc <;> (try (exfalso; omega)))
    | refine awp_block ?_
    | refine awp_exit ?_
    | refine awp_skip ?_)
  all_goals (try (refine ⟨.inr rfl, ?_⟩; simp [Hands, Try.results21]))
end Go.Proofs.Yteippmgfogebgaa
