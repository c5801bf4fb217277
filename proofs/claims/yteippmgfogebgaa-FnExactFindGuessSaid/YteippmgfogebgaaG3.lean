/-
  Proved here: contracts of the functions with loops of this claim.
  No condition beyond what each statement spells out.
-/
import Derived.Test.YteippmgfogebgaaG2
import Derived.Test.YteippmgfogebgaaAwDraw
set_option linter.unusedSimpArgs false
set_option linter.unusedVariables false
namespace Go.Proofs.Yteippmgfogebgaa
open Go.Aw

theorem toGuessS_ok (l : List DGuess) (hl : l.length ≤ 1048576) : Ok Try.prog 11 [.sl .view 9 (l.map eGuess)] (.sl .own 9 (l.map eGuess)) := by
  have hb : (104 : Int) * (l.length : Int) ≤ 281474976710656 := by omega
  have hb2 : (l.length : Int) ≤ 9223372036854775807 := by omega
  generalize hz : ([.str [], .str [], .int .i64 0, .int .i64 0, .str [], .int .i64 0, .bool false, .str [], .bool false] : List AV) = z
  have hz0 := fillL_zero z (l.map eGuess)
  rw [List.length_map] at hz0
  refine ok_of_awp Try.mix Try.func11 rfl ?_
  simp only [Try.ntmps11, List.length_cons, List.length_nil, Nat.reduceSub, Nat.reduceAdd, List.replicate_succ, List.replicate_zero, List.cons_append, List.nil_append]
  repeat' (first
    | (refine awpL_cons rfl fun K hK => ?_; simp [aop, hb, hb2]; (try simp (disch := omega) only [wrap64]); refine hK _ ?_; clear hK K)
    | refine awpL_nil ?_
    | refine awp_seq fun K hK => ?_
    | refine awp_region ?_
    | refine awp_then (by assumption) ?_
    | refine awp_then_ret ?_
    | refine awp_then_exit ?_
    | refine awp_in_normal ?_
    | refine awp_in_ret ?_
    | refine awp_in_eq ?_
    | refine awp_in_ne (by decide) ?_
    | refine awp_ret ?_
    | (refine awp_cond rfl (fun hc => ?_) (fun hc => ?_) <;> simp at hc <;> (try (exfalso; omega)))
    | refine awp_block ?_
    | refine awp_exit ?_
    | refine awp_skip ?_)
  refine awp_loop (ι := { k : Nat // k ≤ l.length })
    (fun i => ⟨[.sl .view 9 (l.map eGuess), .undef, .sl .own 0 [], .obj 0 0, .int .i64 i.1, .undef, .undef, .undef, .undef, .undef, .undef, .undef, .undef, .undef, .undef, .undef, .undef, .undef, .undef, .undef, .undef, .undef, .undef], [⟨true, false, 9, 0, fillL z (l.map eGuess) i.1⟩]⟩)
    (fun i => l.length - i.1) ⟨0, by simp⟩ (weak_o (by simp [hz, hz0]) (by simp)) ?_
  rintro ⟨k, hk⟩ K1 hK1
  have hk1 : IntKind.i64.wrap ((k : Int) + 1) = ((k + 1 : Nat) : Int) := by rw [wrap64] <;> omega
  by_cases hlt : k < l.length
  · have hg := List.getElem?_eq_getElem hlt
    have hfg := fillL_get z (l.map eGuess) k (by simpa using hlt)
    have hfs := fillL_set z (l.map eGuess) k (by simpa using hlt)
    rw [List.getElem_map] at hfs
    simp only [eGuess] at hfs
    have hzl : z.length = 9 := by rw [← hz]; rfl
    have hzd : z.drop 9 = [] := by rw [← hz]; rfl
    repeat' (first
      | (refine awpL_cons rfl fun K hK => ?_; simp [aop, hk1, hg, hfg, hzl, hzd, hfs]; refine ⟨_, (toGuess_ok l[k]), hK _ ?_⟩; clear hK K)
      | (refine awpL_cons rfl fun K hK => ?_; simp [aop, hk1, hg, hfg, hzl, hzd, hfs]; (try simp (disch := omega) only [wrap64]); refine hK _ ?_; clear hK K)
      | (refine awpL_cons rfl fun K hK => ?_; simp [aop, hk1, hg, hlt]; (try simp (disch := omega) only [wrap64]); refine hK _ ?_; clear hK K)
      | refine awpL_nil ?_
      | refine awp_seq fun K hK => ?_
      | refine awp_region ?_
      | refine awp_then (by assumption) ?_
      | refine awp_then_ret ?_
      | refine awp_then_exit ?_
      | refine awp_in_normal ?_
      | refine awp_in_ret ?_
      | refine awp_in_eq ?_
      | refine awp_in_ne (by decide) ?_
      | refine awp_ret ?_
      | (refine awp_cond rfl (fun hc => ?_) (fun hc => ?_) <;> simp at hc <;> (try (exfalso; omega)))
      | refine awp_block ?_
      | refine awp_exit ?_
      | refine awp_skip ?_)
    refine hK1 _ ⟨k + 1, by omega⟩ (weak_o ?_ ?_) (by simp only; omega)
    · simp
    · simp
  · repeat' (first
      | (refine awpL_cons rfl fun K hK => ?_; simp [aop, hk1]; (try simp (disch := omega) only [wrap64]); refine hK _ ?_; clear hK K)
      | refine awpL_nil ?_
      | refine awp_seq fun K hK => ?_
      | refine awp_region ?_
      | refine awp_then (by assumption) ?_
      | refine awp_then_ret ?_
      | refine awp_then_exit ?_
      | refine awp_in_normal ?_
      | refine awp_in_ret ?_
      | refine awp_in_eq ?_
      | refine awp_in_ne (by decide) ?_
      | refine awp_ret ?_
      | (refine awp_cond rfl (fun hc => ?_) (fun hc => ?_) <;> simp at hc <;> (try (exfalso; omega)))
      | refine awp_block ?_
      | refine awp_exit ?_
      | refine awp_skip ?_)
    have hfa := fillL_all z (l.map eGuess) k (by simpa using hlt)
    all_goals (try (refine ⟨.inr rfl, ?_⟩; simp [Hands, Try.results11, hfa]))

def unusedN (g : DGuess) : Nat := if g.used then 0 else 1
theorem unused_le (l : List DGuess) (k : Nat) : sumN unusedN (l.take k) ≤ l.length := by
  induction l generalizing k with
  | nil => simp [sumN]
  | cons x xs ih =>
    cases k with
    | zero => simp [sumN]
    | succ k =>
      simp only [List.take_succ_cons, sumN, List.length_cons]
      have := ih k
      have : unusedN x ≤ 1 := by unfold unusedN; split <;> omega
      omega

theorem implUnused_ok (l : List DGuess) (hl : l.length ≤ 1048576) : Ok Try.prog 12 [.sl .view 9 (l.map eGuess)] (.int .i64 (sumN unusedN l)) := by
  refine ok_of_awp Try.mix Try.func12 rfl ?_
  simp only [Try.ntmps12, List.length_cons, List.length_nil, Nat.reduceSub, Nat.reduceAdd, List.replicate_succ, List.replicate_zero, List.cons_append, List.nil_append]
  repeat' (first
    | (refine awpL_cons rfl fun K hK => ?_; simp [aop]; (try simp (disch := omega) only [wrap64]); refine hK _ ?_; clear hK K)
    | refine awpL_nil ?_
    | refine awp_seq fun K hK => ?_
    | refine awp_region ?_
    | refine awp_then (by assumption) ?_
    | refine awp_then_ret ?_
    | refine awp_then_exit ?_
    | refine awp_in_normal ?_
    | refine awp_in_ret ?_
    | refine awp_in_eq ?_
    | refine awp_in_ne (by decide) ?_
    | refine awp_ret ?_
    | (refine awp_cond rfl (fun hc => ?_) (fun hc => ?_) <;> simp at hc <;> (try (exfalso; omega)))
    | refine awp_block ?_
    | refine awp_exit ?_
    | refine awp_skip ?_)
  refine awp_loop (ι := { k : Nat // k ≤ l.length })
    (fun i => ⟨[.sl .view 9 (l.map eGuess), .undef, .undef, .int .i64 (sumN unusedN (l.take i.1) : Nat), .undef, .undef, .sl .view 9 (l.map eGuess), .int .i64 l.length, .int .i64 i.1, .undef, .undef, .undef, .undef, .undef, .undef, .undef, .undef, .undef, .undef], []⟩)
    (fun i => l.length - i.1) ⟨0, by simp⟩ (weak_o (by simp) (by simp [sumN])) ?_
  rintro ⟨k, hk⟩ K1 hK1
  have hk1 : IntKind.i64.wrap ((k : Int) + 1) = ((k + 1 : Nat) : Int) := by rw [wrap64] <;> omega
  have hu := unused_le l k
  have hu1 : IntKind.i64.wrap ((sumN unusedN (l.take k) : Int) + 1) = ((sumN unusedN (l.take k) + 1 : Nat) : Int) := by rw [wrap64] <;> omega
  by_cases hlt : k < l.length
  · have hg := List.getElem?_eq_getElem hlt
    have hts := sumN_take_succ unusedN l k hlt
    repeat' (first
      | (refine awpL_cons rfl fun K hK => ?_; simp [aop, hk1, hg, hlt, hu1]; (try simp (disch := omega) only [wrap64]); refine hK _ ?_; clear hK K)
      | refine awpL_nil ?_
      | refine awp_seq fun K hK => ?_
      | refine awp_region ?_
      | refine awp_then (by assumption) ?_
      | refine awp_then_ret ?_
      | refine awp_then_exit ?_
      | refine awp_in_normal ?_
      | refine awp_in_ret ?_
      | refine awp_in_eq ?_
      | refine awp_in_ne (by decide) ?_
      | refine awp_ret ?_
      | (refine awp_cond rfl (fun hc => ?_) (fun hc => ?_) <;> simp at hc <;> (try (exfalso; omega)))
      | refine awp_block ?_
      | refine awp_exit ?_
      | refine awp_skip ?_)
    · refine hK1 _ ⟨k + 1, by omega⟩ (weak_take 0 rfl ?_ (by simp) (by simp)) (by simp only; omega)
      simp [hts, unusedN, hc]
    · refine hK1 _ ⟨k + 1, by omega⟩ (weak_take 0 rfl ?_ (by simp) (by simp)) (by simp only; omega)
      simp [hts, unusedN, hc]
  · repeat' (first
      | (refine awpL_cons rfl fun K hK => ?_; simp [aop, hk1]; (try simp (disch := omega) only [wrap64]); refine hK _ ?_; clear hK K)
      | refine awpL_nil ?_
      | refine awp_seq fun K hK => ?_
      | refine awp_region ?_
      | refine awp_then (by assumption) ?_
      | refine awp_then_ret ?_
      | refine awp_then_exit ?_
      | refine awp_in_normal ?_
      | refine awp_in_ret ?_
      | refine awp_in_eq ?_
      | refine awp_in_ne (by decide) ?_
      | refine awp_ret ?_
      | (refine awp_cond rfl (fun hc => ?_) (fun hc => ?_) <;> simp at hc <;> (try (exfalso; omega)))
      | refine awp_block ?_
      | refine awp_exit ?_
      | refine awp_skip ?_)
    all_goals (try (refine ⟨.inr rfl, ?_⟩; simp [Hands, Try.results12]))
    rw [List.take_of_length_le (by omega)]

theorem specUnused_ok (l : List DGuess) (hl : l.length ≤ 1048576) : Ok Try.prog 10 [.sl .view 9 (l.map eGuess)] (.int .i64 (sumN unusedN l)) := by
  refine ok_of_awp Try.mix Try.func10 rfl ?_
  simp only [Try.ntmps10, List.length_cons, List.length_nil, Nat.reduceSub, Nat.reduceAdd, List.replicate_succ, List.replicate_zero, List.cons_append, List.nil_append]
  repeat' (first
    | (refine awpL_cons rfl fun K hK => ?_; simp [aop]; (try simp (disch := omega) only [wrap64]); refine hK _ ?_; clear hK K)
    | refine awpL_nil ?_
    | refine awp_seq fun K hK => ?_
    | refine awp_region ?_
    | refine awp_then (by assumption) ?_
    | refine awp_then_ret ?_
    | refine awp_then_exit ?_
    | refine awp_in_normal ?_
    | refine awp_in_ret ?_
    | refine awp_in_eq ?_
    | refine awp_in_ne (by decide) ?_
    | refine awp_ret ?_
    | (refine awp_cond rfl (fun hc => ?_) (fun hc => ?_) <;> simp at hc <;> (try (exfalso; omega)))
    | refine awp_block ?_
    | refine awp_exit ?_
    | refine awp_skip ?_)
  refine awp_loop (ι := { k : Nat // k ≤ l.length })
    (fun i => ⟨[.sl .view 9 (l.map eGuess), .undef, .undef, .int .i64 (sumN unusedN (l.take i.1) : Nat), .int .i64 i.1, .undef, .undef, .undef, .undef, .undef, .undef, .undef, .undef, .undef, .undef, .undef, .undef, .undef, .undef, .undef], []⟩)
    (fun i => l.length - i.1) ⟨0, by simp⟩ (weak_o (by simp) (by simp [sumN])) ?_
  rintro ⟨k, hk⟩ K1 hK1
  have hk1 : IntKind.i64.wrap ((k : Int) + 1) = ((k + 1 : Nat) : Int) := by rw [wrap64] <;> omega
  have hu := unused_le l k
  have hu1 : IntKind.i64.wrap ((sumN unusedN (l.take k) : Int) + 1) = ((sumN unusedN (l.take k) + 1 : Nat) : Int) := by rw [wrap64] <;> omega
  by_cases hlt : k < l.length
  · have hg := List.getElem?_eq_getElem hlt
    have hts := sumN_take_succ unusedN l k hlt
    repeat' (first
      | (refine awpL_cons rfl fun K hK => ?_; simp [aop, hk1, hg, hlt, hu1]; (try simp (disch := omega) only [wrap64]); refine hK _ ?_; clear hK K)
      | refine awpL_nil ?_
      | refine awp_seq fun K hK => ?_
      | refine awp_region ?_
      | refine awp_then (by assumption) ?_
      | refine awp_then_ret ?_
      | refine awp_then_exit ?_
      | refine awp_in_normal ?_
      | refine awp_in_ret ?_
      | refine awp_in_eq ?_
      | refine awp_in_ne (by decide) ?_
      | refine awp_ret ?_
      | (refine awp_cond rfl (fun hc => ?_) (fun hc => ?_) <;> simp at hc <;> (try (exfalso; omega)))
      | refine awp_block ?_
      | refine awp_exit ?_
      | refine awp_skip ?_)
    · refine hK1 _ ⟨k + 1, by omega⟩ (weak_o (by simp) ?_) (by simp only; omega)
      simp [hts, unusedN, hc]
    · refine hK1 _ ⟨k + 1, by omega⟩ (weak_o (by simp) ?_) (by simp only; omega)
      simp [hts, unusedN, hc]
  · repeat' (first
      | (refine awpL_cons rfl fun K hK => ?_; simp [aop, hk1]; (try simp (disch := omega) only [wrap64]); refine hK _ ?_; clear hK K)
      | refine awpL_nil ?_
      | refine awp_seq fun K hK => ?_
      | refine awp_region ?_
      | refine awp_then (by assumption) ?_
      | refine awp_then_ret ?_
      | refine awp_then_exit ?_
      | refine awp_in_normal ?_
      | refine awp_in_ret ?_
      | refine awp_in_eq ?_
      | refine awp_in_ne (by decide) ?_
      | refine awp_ret ?_
      | (refine awp_cond rfl (fun hc => ?_) (fun hc => ?_) <;> simp at hc <;> (try (exfalso; omega)))
      | refine awp_block ?_
      | refine awp_exit ?_
      | refine awp_skip ?_)
    all_goals (try (refine ⟨.inr rfl, ?_⟩; simp [Hands, Try.results10]))
    rw [List.take_of_length_le (by omega)]

theorem eqGuessS_ok (a b : List DGuess) (hl : a.length ≤ 1048576) : Ok Try.prog 13 [.sl .view 9 (a.map eGuess), .sl .view 9 (b.map eGuess)] (.bool (decide (a = b))) := by
  refine ok_of_awp Try.mix Try.func13 rfl ?_
  simp only [Try.ntmps13, List.length_cons, List.length_nil, Nat.reduceSub, Nat.reduceAdd, List.replicate_succ, List.replicate_zero, List.cons_append, List.nil_append]
  repeat' (first
    | (refine awpL_cons rfl fun K hK => ?_; simp [aop]; (try simp (disch := omega) only [wrap64]); refine hK _ ?_; clear hK K)
    | refine awpL_nil ?_
    | refine awp_seq fun K hK => ?_
    | refine awp_region ?_
    | refine awp_then (by assumption) ?_
    | refine awp_then_ret ?_
    | refine awp_then_exit ?_
    | refine awp_in_normal ?_
    | refine awp_in_ret ?_
    | refine awp_in_eq ?_
    | refine awp_in_ne (by decide) ?_
    | refine awp_ret ?_
    | (refine awp_cond rfl (fun hc => ?_) (fun hc => ?_) <;> simp at hc <;> (try (exfalso; omega)))
    | refine awp_block ?_
    | refine awp_exit ?_
    | refine awp_skip ?_)
  · all_goals (try (refine ⟨.inr rfl, ?_⟩; simp [Hands, Try.results13]))
    intro h; subst h; exact absurd rfl hc
  · have hlen : a.length = b.length := by omega
    refine awp_loop (ι := { k : Nat // k ≤ a.length ∧ a.take k = b.take k })
      (fun i => ⟨[.sl .view 9 (a.map eGuess), .sl .view 9 (b.map eGuess), .undef, .undef, .bool false, .int .i64 i.1, .undef, .undef, .undef, .undef, .undef, .undef, .undef, .undef, .undef, .undef, .undef, .undef, .undef, .undef, .undef, .undef, .undef, .undef, .undef, .undef, .undef], []⟩)
      (fun i => a.length - i.1) ⟨0, by simp⟩ (weak_o (by simp) (by simp)) ?_
    rintro ⟨k, hk, hpre⟩ K1 hK1
    have hk1 : IntKind.i64.wrap ((k : Int) + 1) = ((k + 1 : Nat) : Int) := by rw [wrap64] <;> omega
    by_cases hlt : k < a.length
    · have hg := List.getElem?_eq_getElem hlt
      have hltb : k < b.length := by omega
      have hgb := List.getElem?_eq_getElem hltb
      repeat' (first
        | (refine awpL_cons rfl fun K hK => ?_; simp [aop, hk1, hg, hlt]; (try simp (disch := omega) only [wrap64]); refine hK _ ?_; clear hK K)
        | refine awpL_nil ?_
        | refine awp_seq fun K hK => ?_
        | refine awp_region ?_
        | refine awp_then (by assumption) ?_
        | refine awp_then_ret ?_
        | refine awp_then_exit ?_
        | refine awp_in_normal ?_
        | refine awp_in_ret ?_
        | refine awp_in_eq ?_
        | refine awp_in_ne (by decide) ?_
        | refine awp_ret ?_
        | (refine awp_cond rfl (fun hc => ?_) (fun hc => ?_) <;> simp at hc <;> (try (exfalso; omega)))
        | refine awp_block ?_
        | refine awp_exit ?_
        | refine awp_skip ?_)
      refine awp_draw (fun J => ⟨[.sl .view 9 (a.map eGuess), .sl .view 9 (b.map eGuess), .undef, .undef, .bool false, .int .i64 k, .undef, .undef, .undef, .undef, .undef, .undef, .undef, .undef, .undef, .undef, .undef, dv J 0 (.sl .view 9 (a.map eGuess)), dv J 1 (.int .i64 k), dv J 2 (.vptr .view (eGuess a[k]) 0), dv J 3 (.agg (eGuess a[k])), dv J 4 (.sl .view 9 (b.map eGuess)), dv J 5 (.int .i64 k), dv J 6 (.vptr .view (eGuess b[k]) 0), dv J 7 (.agg (eGuess b[k])), dv J 8 (.bool (decide (a[k] = b[k]))), dv J 9 (.bool (!decide (a[k] = b[k])))], []⟩) (weak_o (by simp [dv, hg, hgb]) (by simp [dv, hg, hgb])) (by decide) ?_ ?_
      · simp only [drawSteps, and_true]
        refine ⟨⟨trivial, fun J h1 h2 => aop_k fun K hK => ?_⟩, ⟨trivial, fun J h1 h2 => aop_k fun K hK => ?_⟩, ⟨trivial, fun J h1 h2 => aop_k fun K hK => ?_⟩, ⟨trivial, fun J h1 h2 => aop_k fun K hK => ?_⟩, ⟨trivial, fun J h1 h2 => aop_k fun K hK => ?_⟩, ⟨trivial, fun J h1 h2 => aop_k fun K hK => ?_⟩, ⟨trivial, fun J h1 h2 => aop_k fun K hK => ?_⟩, ⟨trivial, fun J h1 h2 => aop_k fun K hK => ?_⟩, ⟨trivial, fun J h1 h2 => aop_k fun K hK => ?_⟩, ⟨trivial, fun J h1 h2 => aop_k fun K hK => ?_⟩⟩
        all_goals simp [Region.binds] at h2
        all_goals first
          | (simp [aop, dv, h1, h2, hg, hgb]; refine ⟨_, (eqGuess_ok a[k] b[k]), hK _ (weak_t ?_)⟩; simp [dv, upd, h1, h2])
          | (simp [aop, dv, h1, h2, hg, hgb]; refine hK _ (weak_t ?_); simp [dv, upd, h1, h2])
      · intro J hJ
        have hJs : J 0 = true ∧ J 1 = true ∧ J 2 = true ∧ J 3 = true ∧ J 4 = true ∧ J 5 = true ∧ J 6 = true ∧ J 7 = true ∧ J 8 = true ∧ J 9 = true := ⟨hJ 0 (by decide), hJ 1 (by decide), hJ 2 (by decide), hJ 3 (by decide), hJ 4 (by decide), hJ 5 (by decide), hJ 6 (by decide), hJ 7 (by decide), hJ 8 (by decide), hJ 9 (by decide)⟩
        simp only [dv, hJs, if_true]
        clear hJs hJ J
        repeat' (first
          | (refine awpL_cons rfl fun K hK => ?_; simp [aop, hk1]; (try simp (disch := omega) only [wrap64]); refine hK _ ?_; clear hK K)
          | refine awpL_nil ?_
          | refine awp_seq fun K hK => ?_
          | refine awp_region ?_
          | refine awp_then (by assumption) ?_
          | refine awp_then_ret ?_
          | refine awp_then_exit ?_
          | refine awp_in_normal ?_
          | refine awp_in_ret ?_
          | refine awp_in_eq ?_
          | refine awp_in_ne (by decide) ?_
          | refine awp_ret ?_
          | (refine awp_cond rfl (fun hc => ?_) (fun hc => ?_) <;> simp at hc <;> (try (exfalso; omega)))
          | refine awp_block ?_
          | refine awp_exit ?_
          | refine awp_skip ?_)
        · all_goals (try (refine ⟨.inr rfl, ?_⟩; simp [Hands, Try.results13]))
          intro h; subst h; exact hc rfl
        · have hts : a.take (k + 1) = b.take (k + 1) := by
            rw [List.take_succ_eq_append_getElem hlt, List.take_succ_eq_append_getElem hltb, hpre, hc]
          refine hK1 _ ⟨k + 1, by omega, hts⟩ (weak_o ?_ ?_) (by simp only; omega)
          · simp
          · simp
    · have hka : a.length ≤ k := by omega
      rw [List.take_of_length_le hka, List.take_of_length_le (by omega)] at hpre
      subst hpre
      repeat' (first
        | (refine awpL_cons rfl fun K hK => ?_; simp [aop, hk1]; (try simp (disch := omega) only [wrap64]); refine hK _ ?_; clear hK K)
        | refine awpL_nil ?_
        | refine awp_seq fun K hK => ?_
        | refine awp_region ?_
        | refine awp_then (by assumption) ?_
        | refine awp_then_ret ?_
        | refine awp_then_exit ?_
        | refine awp_in_normal ?_
        | refine awp_in_ret ?_
        | refine awp_in_eq ?_
        | refine awp_in_ne (by decide) ?_
        | refine awp_ret ?_
        | (refine awp_cond rfl (fun hc => ?_) (fun hc => ?_) <;> simp at hc <;> (try (exfalso; omega)))
        | refine awp_block ?_
        | refine awp_exit ?_
        | refine awp_skip ?_)
      all_goals (try (refine ⟨.inr rfl, ?_⟩; simp [Hands, Try.results13]))
end Go.Proofs.Yteippmgfogebgaa
