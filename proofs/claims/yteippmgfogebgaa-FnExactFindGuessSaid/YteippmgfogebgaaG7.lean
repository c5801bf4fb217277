/-
  Proved here: contracts of FindGuess, in the reference and in the program, of slices.IndexFunc at it and of its closure.
  No condition beyond what each statement spells out.
-/
import Derived.Test.YteippmgfogebgaaG3
import Derived.Test.YteippmgfogebgaaAwEq
set_option linter.unusedSimpArgs false
set_option linter.unusedVariables false
namespace Go.Proofs.Yteippmgfogebgaa
open Go.Aw

theorem eAddr_inj {a b : DAddr} : eAddr a = eAddr b ↔ a = b := by
  obtain ⟨a1, a2⟩ := a
  obtain ⟨b1, b2⟩ := b
  simp
theorem eqAddrA (a b : DAddr) : EqA Try.prog 33 (eAddr a) (eAddr b) (decide (a = b)) :=
  eqA_of (f := 6) (ss := [.str, .str]) (by decide) (by kernel_rfl) (by kernel_rfl) (by kernel_rfl) (by kernel_rfl) (by simp [LikeC, Like]) (by simp [LikeC, Like]) (by rw [eAddr_inj, decide_eq_true_iff])

/-- Where an address stands first, or -1. -/
def findFrom (a : DAddr) : List DGuess → Nat → Int
  | [], _ => -1
  | g :: r, k => if g.to = a then k else findFrom a r (k + 1)
theorem findFrom_at {a : DAddr} {l : List DGuess} {k : Nat} (h : k < l.length) : findFrom a (l.drop k) k = if l[k].to = a then (k : Int) else findFrom a (l.drop (k + 1)) (k + 1) := by
  rw [List.drop_eq_getElem_cons h, findFrom]
theorem findFrom_end {a : DAddr} {l : List DGuess} {k : Nat} (h : ¬ k < l.length) : findFrom a (l.drop k) k = -1 := by
  rw [List.drop_eq_nil_of_le (by omega), findFrom]

theorem closure_ok (g : DGuess) (a : DAddr) : Ok Try.prog 35 [.agg (eGuess g), .vptr .view (eAddr a) 0] (.bool (decide (g.to = a))) := by
  refine ok_of_awp Try.mix Try.func35 rfl ?_
  simp only [Try.ntmps35, List.length_cons, List.length_nil, Nat.reduceSub, Nat.reduceAdd, List.replicate_succ, List.replicate_zero, List.cons_append, List.nil_append]
  repeat' (first
    | (refine awpL_cons rfl fun K hK => ?_; simp [-Bool.exists_bool, aop]; refine ⟨_, (eqAddrA g.to a), hK _ ?_⟩; clear hK K)
    | (refine awpL_cons rfl fun K hK => ?_; simp [-Bool.exists_bool, aop]; (try simp (disch := omega) only [wrap64]); refine hK _ ?_; clear hK K)
    | refine awpL_nil ?_
    | refine awp_seq fun K hK => ?_
    | refine awp_region ?_
    | refine awp_then (by assumption) ?_
    | refine awp_then_ret ?_
    | refine awp_then_exit ?_
    | refine awp_in_normal ?_
    | refine awp_in_ret ?_
    | refine awp_in_eq ?_
    | refine awp_in_ne (by decide) ?_
    | refine awp_ret ?_
    | (refine awp_cond rfl (fun hc => ?_) (fun hc => ?_) <;> simp at hc <;> (try (exfalso; omega)))
    | refine awp_block ?_
    | refine awp_exit ?_
    | refine awp_skip ?_)
  all_goals (try (refine ⟨.inr rfl, ?_⟩; simp [Hands, Try.results35]))

theorem indexFunc_ok (l : List DGuess) (a : DAddr) (hl : l.length ≤ 1048576) : Ok Try.prog 34 [.sl .view 9 (l.map eGuess), .fn 35 [.vptr .view (eAddr a) 0]] (.int .i64 (findFrom a l 0)) := by
  refine ok_of_awp Try.mix Try.func34 rfl ?_
  simp only [Try.ntmps34, List.length_cons, List.length_nil, Nat.reduceSub, Nat.reduceAdd, List.replicate_succ, List.replicate_zero, List.cons_append, List.nil_append]
  repeat' (first
    | (refine awpL_cons rfl fun K hK => ?_; simp [-Bool.exists_bool, aop]; (try simp (disch := omega) only [wrap64]); refine hK _ ?_; clear hK K)
    | refine awpL_nil ?_
    | refine awp_seq fun K hK => ?_
    | refine awp_region ?_
    | refine awp_then (by assumption) ?_
    | refine awp_then_ret ?_
    | refine awp_then_exit ?_
    | refine awp_in_normal ?_
    | refine awp_in_ret ?_
    | refine awp_in_eq ?_
    | refine awp_in_ne (by decide) ?_
    | refine awp_ret ?_
    | (refine awp_cond rfl (fun hc => ?_) (fun hc => ?_) <;> simp at hc <;> (try (exfalso; omega)))
    | refine awp_block ?_
    | refine awp_exit ?_
    | refine awp_skip ?_)
  refine awp_loop (ι := { k : Nat // k ≤ l.length ∧ findFrom a (l.drop k) k = findFrom a l 0 })
    (fun i => ⟨[.sl .view 9 (l.map eGuess), .fn 35 [.vptr .view (eAddr a) 0], .undef, .undef, .int .i64 0, .undef, .sl .view 9 (l.map eGuess), .int .i64 l.length, .int .i64 i.1, .undef, .undef, .undef, .undef, .undef, .undef, .undef, .undef, .undef, .undef], []⟩)
    (fun i => l.length - i.1) ⟨0, by simp⟩ (weak_o (by simp) (by simp)) ?_
  rintro ⟨k, hk, hpre⟩ K1 hK1
  have hk1 : IntKind.i64.wrap ((k : Int) + 1) = ((k + 1 : Nat) : Int) := by rw [wrap64] <;> omega
  by_cases hlt : k < l.length
  · have hg := List.getElem?_eq_getElem hlt
    rw [findFrom_at hlt] at hpre
    repeat' (first
      | (refine awpL_cons rfl fun K hK => ?_; simp [-Bool.exists_bool, aop, hk1, hg]; refine ⟨_, (closure_ok l[k] a), hK _ ?_⟩; clear hK K)
      | (refine awpL_cons rfl fun K hK => ?_; simp [-Bool.exists_bool, aop, hk1, hg]; (try simp (disch := omega) only [wrap64]); refine hK _ ?_; clear hK K)
      | (refine awpL_cons rfl fun K hK => ?_; simp [-Bool.exists_bool, aop, hk1, hg, hlt]; (try simp (disch := omega) only [wrap64]); refine hK _ ?_; clear hK K)
      | refine awpL_nil ?_
      | refine awp_seq fun K hK => ?_
      | refine awp_region ?_
      | refine awp_then (by assumption) ?_
      | refine awp_then_ret ?_
      | refine awp_then_exit ?_
      | refine awp_in_normal ?_
      | refine awp_in_ret ?_
      | refine awp_in_eq ?_
      | refine awp_in_ne (by decide) ?_
      | refine awp_ret ?_
      | (refine awp_cond rfl (fun hc => ?_) (fun hc => ?_) <;> simp at hc <;> (try (exfalso; omega)))
      | refine awp_block ?_
      | refine awp_exit ?_
      | refine awp_skip ?_)
    · rw [if_pos hc] at hpre
      all_goals (try (refine ⟨.inr rfl, ?_⟩; simp [Hands, Try.results34]))
      exact hpre
    · rw [if_neg hc] at hpre
      refine hK1 _ ⟨k + 1, by omega, hpre⟩ (weak_o ?_ ?_) (by simp only; omega)
      · simp
      · simp
  · rw [findFrom_end hlt] at hpre
    repeat' (first
      | (refine awpL_cons rfl fun K hK => ?_; simp [-Bool.exists_bool, aop, hk1]; (try simp (disch := omega) only [wrap64]); refine hK _ ?_; clear hK K)
      | refine awpL_nil ?_
      | refine awp_seq fun K hK => ?_
      | refine awp_region ?_
      | refine awp_then (by assumption) ?_
      | refine awp_then_ret ?_
      | refine awp_then_exit ?_
      | refine awp_in_normal ?_
      | refine awp_in_ret ?_
      | refine awp_in_eq ?_
      | refine awp_in_ne (by decide) ?_
      | refine awp_ret ?_
      | (refine awp_cond rfl (fun hc => ?_) (fun hc => ?_) <;> simp at hc <;> (try (exfalso; omega)))
      | refine awp_block ?_
      | refine awp_exit ?_
      | refine awp_skip ?_)
    all_goals (try (refine ⟨.inr rfl, ?_⟩; simp [Hands, Try.results34]))
    exact hpre

theorem implFind_ok (l : List DGuess) (a : DAddr) (hl : l.length ≤ 1048576) : Ok Try.prog 17 [.sl .view 9 (l.map eGuess), .agg (eAddr a)] (.int .i64 (findFrom a l 0)) := by
  refine ok_of_awp Try.mix Try.func17 rfl ?_
  simp only [Try.ntmps17, List.length_cons, List.length_nil, Nat.reduceSub, Nat.reduceAdd, List.replicate_succ, List.replicate_zero, List.cons_append, List.nil_append]
  repeat' (first
    | (refine awpL_cons rfl fun K hK => ?_; simp [-Bool.exists_bool, aop]; refine ⟨_, (indexFunc_ok l a hl), hK _ ?_⟩; clear hK K)
    | (refine awpL_cons rfl fun K hK => ?_; simp [-Bool.exists_bool, aop]; (try simp (disch := omega) only [wrap64]); refine hK _ ?_; clear hK K)
    | refine awpL_nil ?_
    | refine awp_seq fun K hK => ?_
    | refine awp_region ?_
    | refine awp_then (by assumption) ?_
    | refine awp_then_ret ?_
    | refine awp_then_exit ?_
    | refine awp_in_normal ?_
    | refine awp_in_ret ?_
    | refine awp_in_eq ?_
    | refine awp_in_ne (by decide) ?_
    | refine awp_ret ?_
    | (refine awp_cond rfl (fun hc => ?_) (fun hc => ?_) <;> simp at hc <;> (try (exfalso; omega)))
    | refine awp_block ?_
    | refine awp_exit ?_
    | refine awp_skip ?_)
  all_goals (try (refine ⟨.inr rfl, ?_⟩; simp [Hands, Try.results17]))

theorem specFind_ok (l : List DGuess) (a : DAddr) (hl : l.length ≤ 1048576) : Ok Try.prog 15 [.sl .view 9 (l.map eGuess), .agg (eAddr a)] (.int .i64 (findFrom a l 0)) := by
  refine ok_of_awp Try.mix Try.func15 rfl ?_
  simp only [Try.ntmps15, List.length_cons, List.length_nil, Nat.reduceSub, Nat.reduceAdd, List.replicate_succ, List.replicate_zero, List.cons_append, List.nil_append]
  repeat' (first
    | (refine awpL_cons rfl fun K hK => ?_; simp [-Bool.exists_bool, aop]; (try simp (disch := omega) only [wrap64]); refine hK _ ?_; clear hK K)
    | refine awpL_nil ?_
    | refine awp_seq fun K hK => ?_
    | refine awp_region ?_
    | refine awp_then (by assumption) ?_
    | refine awp_then_ret ?_
    | refine awp_then_exit ?_
    | refine awp_in_normal ?_
    | refine awp_in_ret ?_
    | refine awp_in_eq ?_
    | refine awp_in_ne (by decide) ?_
    | refine awp_ret ?_
    | (refine awp_cond rfl (fun hc => ?_) (fun hc => ?_) <;> simp at hc <;> (try (exfalso; omega)))
    | refine awp_block ?_
    | refine awp_exit ?_
    | refine awp_skip ?_)
  refine awp_loop (ι := { k : Nat // k ≤ l.length ∧ findFrom a (l.drop k) k = findFrom a l 0 })
    (fun i => ⟨[.sl .view 9 (l.map eGuess), .agg (eAddr a), .undef, .ptr 0 0 0 0, .int .i64 0, .int .i64 i.1, .undef, .undef, .undef, .undef, .undef, .undef, .undef, .undef, .undef, .undef, .undef, .undef, .undef, .undef], [⟨true, true, 2, 0, [eAddr a]⟩]⟩)
    (fun i => l.length - i.1) ⟨0, by simp⟩ (weak_o (by simp) (by simp)) ?_
  rintro ⟨k, hk, hpre⟩ K1 hK1
  have hk1 : IntKind.i64.wrap ((k : Int) + 1) = ((k + 1 : Nat) : Int) := by rw [wrap64] <;> omega
  by_cases hlt : k < l.length
  · have hg := List.getElem?_eq_getElem hlt
    rw [findFrom_at hlt] at hpre
    repeat' (first
      | (refine awpL_cons rfl fun K hK => ?_; simp [-Bool.exists_bool, aop, hk1, hg]; (try simp (disch := omega) only [wrap64]); refine hK _ ?_; clear hK K)
      | (refine awpL_cons rfl fun K hK => ?_; simp [-Bool.exists_bool, aop, hk1, hg, hlt]; (try simp (disch := omega) only [wrap64]); refine hK _ ?_; clear hK K)
      | refine awpL_nil ?_
      | refine awp_seq fun K hK => ?_
      | refine awp_region ?_
      | refine awp_then (by assumption) ?_
      | refine awp_then_ret ?_
      | refine awp_then_exit ?_
      | refine awp_in_normal ?_
      | refine awp_in_ret ?_
      | refine awp_in_eq ?_
      | refine awp_in_ne (by decide) ?_
      | refine awp_ret ?_
      | (refine awp_cond rfl (fun hc => ?_) (fun hc => ?_) <;> simp at hc <;> (try (exfalso; omega)))
      | refine awp_block ?_
      | refine awp_exit ?_
      | refine awp_skip ?_)
    refine awp_draw (fun J => ⟨[.sl .view 9 (l.map eGuess), .agg (eAddr a), .undef, .ptr 0 0 0 0, .int .i64 0, .int .i64 k, .undef, .undef, .undef, .undef, .undef, .undef, dv J 0 (.sl .view 9 (l.map eGuess)), dv J 1 (.int .i64 k), dv J 2 (.vptr .view (eGuess l[k]) 0), dv J 3 (.vptr .view (eGuess l[k]) 0), dv J 4 (.agg (eAddr l[k].to)), dv J 5 (.agg (eAddr a)), dv J 6 (.bool (decide (l[k].to = a))), .undef], [⟨true, true, 2, 0, [eAddr a]⟩]⟩) (weak_o (by simp [dv, hg]) (by simp [dv, hg])) (by decide) ?_ ?_
    · simp only [drawSteps, and_true]
      refine ⟨⟨trivial, fun J h1 h2 => aop_k fun K hK => ?_⟩, ⟨trivial, fun J h1 h2 => aop_k fun K hK => ?_⟩, ⟨trivial, fun J h1 h2 => aop_k fun K hK => ?_⟩, ⟨trivial, fun J h1 h2 => aop_k fun K hK => ?_⟩, ⟨trivial, fun J h1 h2 => aop_k fun K hK => ?_⟩, ⟨trivial, fun J h1 h2 => aop_k fun K hK => ?_⟩, ⟨trivial, fun J h1 h2 => aop_k fun K hK => ?_⟩⟩
      all_goals simp [Region.binds] at h2
      all_goals first
        | (simp [-Bool.exists_bool, aop, dv, h1, h2, hg]; refine ⟨_, (eqAddrA l[k].to a), hK _ (weak_t ?_)⟩; simp [dv, upd, h1, h2])
        | (simp [-Bool.exists_bool, aop, dv, h1, h2, hg]; refine hK _ (weak_t ?_); simp [dv, upd, h1, h2])
    · intro J hJ
      have hJs : J 0 = true ∧ J 1 = true ∧ J 2 = true ∧ J 3 = true ∧ J 4 = true ∧ J 5 = true ∧ J 6 = true := ⟨hJ 0 (by decide), hJ 1 (by decide), hJ 2 (by decide), hJ 3 (by decide), hJ 4 (by decide), hJ 5 (by decide), hJ 6 (by decide)⟩
      simp only [dv, hJs, if_true]
      clear hJs hJ J
      repeat' (first
        | (refine awpL_cons rfl fun K hK => ?_; simp [-Bool.exists_bool, aop, hk1]; (try simp (disch := omega) only [wrap64]); refine hK _ ?_; clear hK K)
        | refine awpL_nil ?_
        | refine awp_seq fun K hK => ?_
        | refine awp_region ?_
        | refine awp_then (by assumption) ?_
        | refine awp_then_ret ?_
        | refine awp_then_exit ?_
        | refine awp_in_normal ?_
        | refine awp_in_ret ?_
        | refine awp_in_eq ?_
        | refine awp_in_ne (by decide) ?_
        | refine awp_ret ?_
        | (refine awp_cond rfl (fun hc => ?_) (fun hc => ?_) <;> simp at hc <;> (try (exfalso; omega)))
        | refine awp_block ?_
        | refine awp_exit ?_
        | refine awp_skip ?_)
      · rw [if_pos hc] at hpre
        all_goals (try (refine ⟨.inr rfl, ?_⟩; simp [Hands, Try.results15]))
        exact hpre
      · rw [if_neg hc] at hpre
        refine hK1 _ ⟨k + 1, by omega, hpre⟩ (weak_o ?_ ?_) (by simp only; omega)
        · simp
        · simp
  · rw [findFrom_end hlt] at hpre
    repeat' (first
      | (refine awpL_cons rfl fun K hK => ?_; simp [-Bool.exists_bool, aop, hk1]; (try simp (disch := omega) only [wrap64]); refine hK _ ?_; clear hK K)
      | refine awpL_nil ?_
      | refine awp_seq fun K hK => ?_
      | refine awp_region ?_
      | refine awp_then (by assumption) ?_
      | refine awp_then_ret ?_
      | refine awp_then_exit ?_
      | refine awp_in_normal ?_
      | refine awp_in_ret ?_
      | refine awp_in_eq ?_
      | refine awp_in_ne (by decide) ?_
      | refine awp_ret ?_
      | (refine awp_cond rfl (fun hc => ?_) (fun hc => ?_) <;> simp at hc <;> (try (exfalso; omega)))
      | refine awp_block ?_
      | refine awp_exit ?_
      | refine awp_skip ?_)
    all_goals (try (refine ⟨.inr rfl, ?_⟩; simp [Hands, Try.results15]))
    exact hpre
end Go.Proofs.Yteippmgfogebgaa
