/-
  Proved here: contracts of the small functions of this claim.
  No condition beyond what each statement spells out.
-/
import Derived.Test.YteippmgfogebgaaYFacts
import Derived.Test.YteippmgfogebgaaAwData
set_option linter.unusedSimpArgs false
set_option linter.unusedVariables false
namespace Go.Proofs.Yteippmgfogebgaa
open Go.Aw
theorem Try.mix : Try.prog.follows .mixedOrders = true := by kernel_rfl

theorem toAddr_ok (a : DAddr) : Ok Try.prog 16 [.agg (eAddr a)] (.agg (eAddr a)) := by
  refine ok_of_awp Try.mix Try.func16 rfl ?_
  simp only [Try.ntmps16, List.length_cons, List.length_nil, Nat.reduceSub, Nat.reduceAdd, List.replicate_succ, List.replicate_zero, List.cons_append, List.nil_append]
  repeat' (first
    | (refine awpL_cons rfl fun K hK => ?_; simp [aop]; (try simp (disch := omega) only [wrap64]); refine hK _ ?_; clear hK K)
    | refine awpL_nil ?_
    | refine awp_seq fun K hK => ?_
    | refine awp_region ?_
    | refine awp_then (by assumption) ?_
    | refine awp_then_ret ?_
    | refine awp_then_exit ?_
    | refine awp_in_normal ?_
    | refine awp_in_ret ?_
    | refine awp_in_eq ?_
    | refine awp_in_ne (by decide) ?_
    | refine awp_ret ?_
    | (refine awp_cond rfl (fun hc => ?_) (fun hc => ?_) <;> simp at hc <;> (try (exfalso; omega)))
    | refine awp_block ?_
    | refine awp_exit ?_
    | refine awp_skip ?_)
  all_goals (try (refine ⟨.inr rfl, ?_⟩; simp [Hands, Try.results16]))

theorem toResp_ok (a : DResp) : Ok Try.prog 29 [.agg (eResp a)] (.agg (eResp a)) := by
  refine ok_of_awp Try.mix Try.func29 rfl ?_
  simp only [Try.ntmps29, List.length_cons, List.length_nil, Nat.reduceSub, Nat.reduceAdd, List.replicate_succ, List.replicate_zero, List.cons_append, List.nil_append]
  repeat' (first
    | (refine awpL_cons rfl fun K hK => ?_; simp [aop]; (try simp (disch := omega) only [wrap64]); refine hK _ ?_; clear hK K)
    | refine awpL_nil ?_
    | refine awp_seq fun K hK => ?_
    | refine awp_region ?_
    | refine awp_then (by assumption) ?_
    | refine awp_then_ret ?_
    | refine awp_then_exit ?_
    | refine awp_in_normal ?_
    | refine awp_in_ret ?_
    | refine awp_in_eq ?_
    | refine awp_in_ne (by decide) ?_
    | refine awp_ret ?_
    | (refine awp_cond rfl (fun hc => ?_) (fun hc => ?_) <;> simp at hc <;> (try (exfalso; omega)))
    | refine awp_block ?_
    | refine awp_exit ?_
    | refine awp_skip ?_)
  all_goals (try (refine ⟨.inr rfl, ?_⟩; simp [Hands, Try.results29]))

theorem toGuess_ok (a : DGuess) : Ok Try.prog 32 [.agg (eGuess a)] (.agg (eGuess a)) := by
  refine ok_of_awp Try.mix Try.func32 rfl ?_
  simp only [Try.ntmps32, List.length_cons, List.length_nil, Nat.reduceSub, Nat.reduceAdd, List.replicate_succ, List.replicate_zero, List.cons_append, List.nil_append]
  repeat' (first
    | (refine awpL_cons rfl fun K hK => ?_; simp [aop]; refine ⟨_, (toAddr_ok a.to), hK _ ?_⟩; clear hK K)
    | (refine awpL_cons rfl fun K hK => ?_; simp [aop]; refine ⟨_, (toResp_ok a.resp), hK _ ?_⟩; clear hK K)
    | (refine awpL_cons rfl fun K hK => ?_; simp [aop]; (try simp (disch := omega) only [wrap64]); refine hK _ ?_; clear hK K)
    | refine awpL_nil ?_
    | refine awp_seq fun K hK => ?_
    | refine awp_region ?_
    | refine awp_then (by assumption) ?_
    | refine awp_then_ret ?_
    | refine awp_then_exit ?_
    | refine awp_in_normal ?_
    | refine awp_in_ret ?_
    | refine awp_in_eq ?_
    | refine awp_in_ne (by decide) ?_
    | refine awp_ret ?_
    | (refine awp_cond rfl (fun hc => ?_) (fun hc => ?_) <;> simp at hc <;> (try (exfalso; omega)))
    | refine awp_block ?_
    | refine awp_exit ?_
    | refine awp_skip ?_)
  all_goals (try (refine ⟨.inr rfl, ?_⟩; simp [Hands, Try.results32]))

theorem szAddr_ok (a : DAddr) (n : Int) (h0 : 0 ≤ n) (h1 : n ≤ 1048576) (hw : wfA a) : Ok Try.prog 14 [.agg (eAddr a), .int .i64 n] (.int .i64 (sub n (szA a))) := by
  obtain ⟨w1, w2⟩ := hw
  refine ok_of_awp Try.mix Try.func14 rfl ?_
  simp only [Try.ntmps14, List.length_cons, List.length_nil, Nat.reduceSub, Nat.reduceAdd, List.replicate_succ, List.replicate_zero, List.cons_append, List.nil_append]
  repeat' (first
    | (refine awpL_cons rfl fun K hK => ?_; simp [aop]; (try simp (disch := omega) only [wrap64]); refine hK _ ?_; clear hK K)
    | refine awpL_nil ?_
    | refine awp_seq fun K hK => ?_
    | refine awp_region ?_
    | refine awp_then (by assumption) ?_
    | refine awp_then_ret ?_
    | refine awp_then_exit ?_
    | refine awp_in_normal ?_
    | refine awp_in_ret ?_
    | refine awp_in_eq ?_
    | refine awp_in_ne (by decide) ?_
    | refine awp_ret ?_
    | (refine awp_cond rfl (fun hc => ?_) (fun hc => ?_) <;> simp at hc <;> (try (exfalso; omega)))
    | refine awp_block ?_
    | refine awp_exit ?_
    | refine awp_skip ?_)
  all_goals (try (refine ⟨.inr rfl, ?_⟩; simp [Hands, Try.results14, sub, szA]))
  all_goals omega

theorem szResp_ok (a : DResp) (n : Int) (h0 : 0 ≤ n) (h1 : n ≤ 1048576) (hw : wfR a) : Ok Try.prog 27 [.agg (eResp a), .int .i64 n] (.int .i64 (sub n (szR a))) := by
  obtain ⟨w1, w2⟩ := hw
  refine ok_of_awp Try.mix Try.func27 rfl ?_
  simp only [Try.ntmps27, List.length_cons, List.length_nil, Nat.reduceSub, Nat.reduceAdd, List.replicate_succ, List.replicate_zero, List.cons_append, List.nil_append]
  repeat' (first
    | (refine awpL_cons rfl fun K hK => ?_; simp [aop]; (try simp (disch := omega) only [wrap64]); refine hK _ ?_; clear hK K)
    | refine awpL_nil ?_
    | refine awp_seq fun K hK => ?_
    | refine awp_region ?_
    | refine awp_then (by assumption) ?_
    | refine awp_then_ret ?_
    | refine awp_then_exit ?_
    | refine awp_in_normal ?_
    | refine awp_in_ret ?_
    | refine awp_in_eq ?_
    | refine awp_in_ne (by decide) ?_
    | refine awp_ret ?_
    | (refine awp_cond rfl (fun hc => ?_) (fun hc => ?_) <;> simp at hc <;> (try (exfalso; omega)))
    | refine awp_block ?_
    | refine awp_exit ?_
    | refine awp_skip ?_)
  all_goals (try (refine ⟨.inr rfl, ?_⟩; simp [Hands, Try.results27, sub, szR]))
  all_goals omega

theorem szGuess_ok (a : DGuess) (n : Int) (h0 : 0 ≤ n) (h1 : n ≤ 1048576) (hw : wfG a) : Ok Try.prog 31 [.agg (eGuess a), .int .i64 n] (.int .i64 (sub n (szG a))) := by
  obtain ⟨w1, w2⟩ := hw
  refine ok_of_awp Try.mix Try.func31 rfl ?_
  simp only [Try.ntmps31, List.length_cons, List.length_nil, Nat.reduceSub, Nat.reduceAdd, List.replicate_succ, List.replicate_zero, List.cons_append, List.nil_append]
  repeat' (first
    | (refine awpL_cons rfl fun K hK => ?_; simp [aop]; refine ⟨_, (szAddr_ok a.to _ (by omega) (by omega) w1), hK _ ?_⟩; clear hK K)
    | (refine awpL_cons rfl fun K hK => ?_; simp [aop]; refine ⟨_, (szResp_ok a.resp _ ‹_› (sub_range h1 ‹_›).1 w2), hK _ ?_⟩; clear hK K)
    | (refine awpL_cons rfl fun K hK => ?_; simp [aop]; (try simp (disch := omega) only [wrap64]); refine hK _ ?_; clear hK K)
    | refine awpL_nil ?_
    | refine awp_seq fun K hK => ?_
    | refine awp_region ?_
    | refine awp_then (by assumption) ?_
    | refine awp_then_ret ?_
    | refine awp_then_exit ?_
    | refine awp_in_normal ?_
    | refine awp_in_ret ?_
    | refine awp_in_eq ?_
    | refine awp_in_ne (by decide) ?_
    | refine awp_ret ?_
    | (refine awp_cond rfl (fun hc => ?_) (fun hc => ?_) <;> simp at hc <;> (try (exfalso; omega)))
    | refine awp_block ?_
    | refine awp_exit ?_
    | refine awp_skip ?_)
  all_goals (try (refine ⟨.inr rfl, ?_⟩; simp [Hands, Try.results31, szG]))
  · exact (sub_add_neg ‹_›).symm
  · rw [sub_add ‹_›] at *; exact (sub_neg1 ‹_›).symm
  · exact sub_add ‹_›

theorem eqAddr_ok (a b : DAddr) : Ok Try.prog 43 [.agg (eAddr a), .agg (eAddr b)] (.bool (decide (a = b))) := by
  refine ok_of_awp Try.mix Try.func43 rfl ?_
  simp only [Try.ntmps43, List.length_cons, List.length_nil, Nat.reduceSub, Nat.reduceAdd, List.replicate_succ, List.replicate_zero, List.cons_append, List.nil_append]
  repeat' (first
    | (refine awpL_cons rfl fun K hK => ?_; simp [aop]; (try simp (disch := omega) only [wrap64]); refine hK _ ?_; clear hK K)
    | refine awpL_nil ?_
    | refine awp_seq fun K hK => ?_
    | refine awp_region ?_
    | refine awp_then (by assumption) ?_
    | refine awp_then_ret ?_
    | refine awp_then_exit ?_
    | refine awp_in_normal ?_
    | refine awp_in_ret ?_
    | refine awp_in_eq ?_
    | refine awp_in_ne (by decide) ?_
    | refine awp_ret ?_
    | (refine awp_cond rfl (fun hc => ?_) (fun hc => ?_) <;> simp at hc <;> (try (exfalso; omega)))
    | refine awp_block ?_
    | refine awp_exit ?_
    | refine awp_skip ?_)
  all_goals (try (refine ⟨.inr rfl, ?_⟩; simp [Hands, Try.results43]))
  all_goals (cases a; cases b; simp_all)

theorem eqResp_ok (a b : DResp) : Ok Try.prog 24 [.agg (eResp a), .agg (eResp b)] (.bool (decide (a = b))) := by
  refine ok_of_awp Try.mix Try.func24 rfl ?_
  simp only [Try.ntmps24, List.length_cons, List.length_nil, Nat.reduceSub, Nat.reduceAdd, List.replicate_succ, List.replicate_zero, List.cons_append, List.nil_append]
  repeat' (first
    | (refine awpL_cons rfl fun K hK => ?_; simp [aop]; (try simp (disch := omega) only [wrap64]); refine hK _ ?_; clear hK K)
    | refine awpL_nil ?_
    | refine awp_seq fun K hK => ?_
    | refine awp_region ?_
    | refine awp_then (by assumption) ?_
    | refine awp_then_ret ?_
    | refine awp_then_exit ?_
    | refine awp_in_normal ?_
    | refine awp_in_ret ?_
    | refine awp_in_eq ?_
    | refine awp_in_ne (by decide) ?_
    | refine awp_ret ?_
    | (refine awp_cond rfl (fun hc => ?_) (fun hc => ?_) <;> simp at hc <;> (try (exfalso; omega)))
    | refine awp_block ?_
    | refine awp_exit ?_
    | refine awp_skip ?_)
  all_goals (try (refine ⟨.inr rfl, ?_⟩; simp [Hands, Try.results24]))
  all_goals (cases a; cases b; simp_all)

theorem eqGuess_ok (a b : DGuess) : Ok Try.prog 33 [.agg (eGuess a), .agg (eGuess b)] (.bool (decide (a = b))) := by
  refine ok_of_awp Try.mix Try.func33 rfl ?_
  simp only [Try.ntmps33, List.length_cons, List.length_nil, Nat.reduceSub, Nat.reduceAdd, List.replicate_succ, List.replicate_zero, List.cons_append, List.nil_append]
  repeat' (first
    | (refine awpL_cons rfl fun K hK => ?_; simp [aop]; refine ⟨_, (eqAddr_ok a.to b.to), hK _ ?_⟩; clear hK K)
    | (refine awpL_cons rfl fun K hK => ?_; simp [aop]; refine ⟨_, (eqResp_ok a.resp b.resp), hK _ ?_⟩; clear hK K)
    | (refine awpL_cons rfl fun K hK => ?_; simp [aop]; (try simp (disch := omega) only [wrap64]); refine hK _ ?_; clear hK K)
    | refine awpL_nil ?_
    | refine awp_seq fun K hK => ?_
    | refine awp_region ?_
    | refine awp_then (by assumption) ?_
    | refine awp_then_ret ?_
    | refine awp_then_exit ?_
    | refine awp_in_normal ?_
    | refine awp_in_ret ?_
    | refine awp_in_eq ?_
    | refine awp_in_ne (by decide) ?_
    | refine awp_ret ?_
    | (refine awp_cond rfl (fun hc => ?_) (fun hc => ?_) <;> simp at hc <;> (try (exfalso; omega)))
    | refine awp_block ?_
    | refine awp_exit ?_
    | refine awp_skip ?_)
  all_goals (try (refine ⟨.inr rfl, ?_⟩; simp [Hands, Try.results33]))
  all_goals (cases a; cases b; simp_all)

theorem szGuessS_ok (l : List DGuess) (n : Int) (h0 : 0 ≤ n) (h1 : n ≤ 1048576) (hl : l.length ≤ 9223372036854775807) (hw : ∀ g ∈ l, wfG g) : Ok Try.prog 9 [.sl .view 9 (l.map eGuess), .int .i64 n] (.int .i64 (sub n (szL szG l))) := by
  refine ok_of_awp Try.mix Try.func9 rfl ?_
  simp only [Try.ntmps9, List.length_cons, List.length_nil, Nat.reduceSub, Nat.reduceAdd, List.replicate_succ, List.replicate_zero, List.cons_append, List.nil_append]
  repeat' (first
    | (refine awpL_cons rfl fun K hK => ?_; simp [aop]; (try simp (disch := omega) only [wrap64]); refine hK _ ?_; clear hK K)
    | refine awpL_nil ?_
    | refine awp_seq fun K hK => ?_
    | refine awp_region ?_
    | refine awp_then (by assumption) ?_
    | refine awp_then_ret ?_
    | refine awp_then_exit ?_
    | refine awp_in_normal ?_
    | refine awp_in_ret ?_
    | refine awp_in_eq ?_
    | refine awp_in_ne (by decide) ?_
    | refine awp_ret ?_
    | (refine awp_cond rfl (fun hc => ?_) (fun hc => ?_) <;> simp at hc <;> (try (exfalso; omega)))
    | refine awp_block ?_
    | refine awp_exit ?_
    | refine awp_skip ?_)
  · refine ⟨.inr rfl, ?_⟩; simp [Hands, Try.results9, sub, szL]; omega
  · refine awp_loop (ι := { k : Nat // k ≤ l.length ∧ l.length + sumN szG (l.take k) ≤ n })
      (fun i => ⟨[.sl .view 9 (l.map eGuess), .int .i64 (n - (l.length + sumN szG (l.take i.1) : Nat)), .undef, .undef, .int .i64 0, .int .i64 i.1, .undef, .undef, .undef, .undef, .undef, .undef, .undef, .undef, .undef, .undef, .undef, .undef, .undef, .undef, .undef, .undef, .undef, .undef, .undef, .undef, .undef], []⟩)
      (fun i => l.length - i.1) ⟨0, by simp, by simp [sumN]; omega⟩ (weak_t (by simp [sumN])) ?_
    rintro ⟨k, hk, hs⟩ K1 hK1
    have hk1 : IntKind.i64.wrap ((k : Int) + 1) = ((k + 1 : Nat) : Int) := by rw [wrap64] <;> omega
    by_cases hlt : k < l.length
    · have hg := List.getElem?_eq_getElem hlt
      have hts := sumN_take_succ szG l k hlt
      have htl := sumN_take_le szG l (k + 1)
      have hwg := hw _ (List.getElem_mem hlt)
      repeat' (first
        | (refine awpL_cons rfl fun K hK => ?_; simp [aop, hk1, hg]; refine ⟨_, (szGuess_ok _ _ (by omega) (by omega) hwg), hK _ ?_⟩; clear hK K)
        | (refine awpL_cons rfl fun K hK => ?_; simp [aop, hk1, hg]; (try simp (disch := omega) only [wrap64]); refine hK _ ?_; clear hK K)
        | refine awpL_nil ?_
        | refine awp_seq fun K hK => ?_
        | refine awp_region ?_
        | refine awp_then (by assumption) ?_
        | refine awp_then_ret ?_
        | refine awp_then_exit ?_
        | refine awp_in_normal ?_
        | refine awp_in_ret ?_
        | refine awp_in_eq ?_
        | refine awp_in_ne (by decide) ?_
        | refine awp_ret ?_
        | (refine awp_cond rfl (fun hc => ?_) (fun hc => ?_) <;> simp at hc <;> (try (exfalso; omega)))
        | refine awp_block ?_
        | refine awp_exit ?_
        | refine awp_skip ?_)
      · refine ⟨.inr rfl, ?_⟩
        simp [Hands, Try.results9, szL]
        unfold sub at *
        split at hc
        · rw [if_pos (by omega)]
        · omega
      · have hr := sub_range (by omega) hc
        refine hK1 _ ⟨k + 1, by omega, by omega⟩ (weak_t ?_) (by simp only; omega)
        simp [hr.2.1]
        omega
    · repeat' (first
        | (refine awpL_cons rfl fun K hK => ?_; simp [aop, hk1]; (try simp (disch := omega) only [wrap64]); refine hK _ ?_; clear hK K)
        | refine awpL_nil ?_
        | refine awp_seq fun K hK => ?_
        | refine awp_region ?_
        | refine awp_then (by assumption) ?_
        | refine awp_then_ret ?_
        | refine awp_then_exit ?_
        | refine awp_in_normal ?_
        | refine awp_in_ret ?_
        | refine awp_in_eq ?_
        | refine awp_in_ne (by decide) ?_
        | refine awp_ret ?_
        | (refine awp_cond rfl (fun hc => ?_) (fun hc => ?_) <;> simp at hc <;> (try (exfalso; omega)))
        | refine awp_block ?_
        | refine awp_exit ?_
        | refine awp_skip ?_)
      all_goals (try (refine ⟨.inr rfl, ?_⟩; simp [Hands, Try.results9, szL]))
      have : k = l.length := by omega
      subst this
      rw [List.take_length] at *
      rw [sub_pos (by omega)]
      omega

end Go.Proofs.Yteippmgfogebgaa
