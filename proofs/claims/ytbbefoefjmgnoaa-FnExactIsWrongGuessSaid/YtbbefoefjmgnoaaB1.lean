/-
  Proved here: contracts of IsComplete and IsParsed, in the reference and in the program.
  No condition beyond what each statement spells out.
-/
import Derived.Test.YtbbefoefjmgnoaaA4
import Derived.Test.YtbbefoefjmgnoaaAwWalk
import Derived.Test.YtbbefoefjmgnoaaAwEq
set_option linter.all false
set_option linter.unusedSimpArgs false
set_option linter.unusedVariables false
set_option maxRecDepth 4000
set_option maxHeartbeats 4000000
namespace Go.Proofs.Ytbbefoefjmgnoaa
open Go.Aw

theorem specIsComplete_ok (p : DPage) : Ok Try.prog 12 [.agg (ePage .view p)] (.bool p.loaded) := by
  refine ok_of_awp Try.mix Try.func12 rfl ?_
  simp only [Try.ntmps12, List.length_cons, List.length_nil, Nat.reduceSub, Nat.reduceAdd, List.replicate_succ, List.replicate_zero, List.cons_append, List.nil_append]
  repeat' (first
    | ((with_reducible refine idp (p := awpL _ _ (_ :: _) _ _) ?_); refine awpL_cons rfl fun K hK => ?_; simp [-Bool.exists_bool, aop]; first | ((try simp (disch := omega) only [wrap64]); refine hK _ ?_; clear hK K))
    | ((with_reducible refine idp (p := awpL _ _ (_ :: _) _ _) ?_); refine awpL_take rfl ?_ ?_; (focus (simp [guardA]; done)); intro K hK; simp [-Bool.exists_bool, aop]; first | ((try simp (disch := omega) only [wrap64]); refine hK _ ?_; clear hK K))
    | ((with_reducible refine idp (p := awpL _ _ (_ :: _) _ _) ?_); refine awpL_skip rfl ?_ ?_; (focus (simp [guardA]; done)); simp only [AS.put, List.set_cons_succ, List.set_cons_zero])
    | ((with_reducible refine idp (p := awpL _ _ (_ :: _) _ _) ?_); refine awpL_split rfl rfl rfl (fun hc => ?_) (fun hc => ?_) <;> simp only [List.set_cons_succ, List.set_cons_zero])
    | ((with_reducible refine idp (p := dwalk _ _ _ _ _ _ (_ :: _) _ _) ?_); refine dwalk_cons rfl rfl (by simp [Region.binds]; rfl) (by decide) (by simp [Region.binds]; rfl) (by simp; rfl) fun K hK => ?_; simp [-Bool.exists_bool, aop]; first | ((try simp (disch := omega) only [wrap64]); refine hK _ (by simp) ?_; clear hK K; simp))
    | ((with_reducible refine idp (p := awpL _ _ [] _ _) ?_); refine awpL_nil ?_)
    | ((with_reducible refine idp (p := awp _ (.region _ _ true) _ _) ?_); refine awp_drawn (by decide) ?_)
    | ((with_reducible refine idp (p := dwalk _ _ _ _ _ _ [] _ _) ?_); refine dwalk_nil (by simp; rfl) (by simp; rfl) ?_)
    | ((with_reducible refine idp (p := awp _ (.seq _ _) _ _) ?_); refine awp_seq fun K hK => ?_)
    | ((with_reducible refine idp (p := awp _ (.region _ _ false) _ _) ?_); refine awp_region ?_)
    | ((with_reducible refine idp (p := AThen _ _ .normal _) ?_); refine awp_then (by assumption) ?_)
    | ((with_reducible refine idp (p := AThen _ _ .ret _) ?_); refine awp_then_ret ?_)
    | ((with_reducible refine idp (p := AThen _ _ (.exit _) _) ?_); refine awp_then_exit ?_)
    | ((with_reducible refine idp (p := AIn _ _ .normal _) ?_); refine awp_in_normal ?_)
    | ((with_reducible refine idp (p := AIn _ _ .ret _) ?_); refine awp_in_ret ?_)
    | ((with_reducible refine idp (p := AIn _ _ (.exit _) _) ?_); first | refine awp_in_eq ?_ | refine awp_in_ne (by decide) ?_)
    | ((with_reducible refine idp (p := awp _ .ret _ _) ?_); refine awp_ret ?_)
    | ((with_reducible refine idp (p := awp _ (.cond _ _ _) _ _) ?_); (refine awp_cond rfl (fun hc => ?_) (fun hc => ?_) <;> (try simp at hc) <;> (try (exfalso; omega))))
    | ((with_reducible refine idp (p := awp _ (.block _ _) _ _) ?_); refine awp_block ?_)
    | ((with_reducible refine idp (p := awp _ (.exit _) _ _) ?_); refine awp_exit ?_)
    | ((with_reducible refine idp (p := awp _ .skip _ _) ?_); refine awp_skip ?_))
  all_goals (try (refine ⟨.inr rfl, ?_⟩; simp [Hands, Try.results12]))
  all_goals (repeat clear hK K)
theorem implIsComplete_ok (p : DPage) : Ok Try.prog 14 [.agg (ePage .view p)] (.bool p.loaded) := by
  refine ok_of_awp Try.mix Try.func14 rfl ?_
  simp only [Try.ntmps14, List.length_cons, List.length_nil, Nat.reduceSub, Nat.reduceAdd, List.replicate_succ, List.replicate_zero, List.cons_append, List.nil_append]
  repeat' (first
    | ((with_reducible refine idp (p := awpL _ _ (_ :: _) _ _) ?_); refine awpL_cons rfl fun K hK => ?_; simp [-Bool.exists_bool, aop]; first | ((try simp (disch := omega) only [wrap64]); refine hK _ ?_; clear hK K))
    | ((with_reducible refine idp (p := awpL _ _ (_ :: _) _ _) ?_); refine awpL_take rfl ?_ ?_; (focus (simp [guardA]; done)); intro K hK; simp [-Bool.exists_bool, aop]; first | ((try simp (disch := omega) only [wrap64]); refine hK _ ?_; clear hK K))
    | ((with_reducible refine idp (p := awpL _ _ (_ :: _) _ _) ?_); refine awpL_skip rfl ?_ ?_; (focus (simp [guardA]; done)); simp only [AS.put, List.set_cons_succ, List.set_cons_zero])
    | ((with_reducible refine idp (p := awpL _ _ (_ :: _) _ _) ?_); refine awpL_split rfl rfl rfl (fun hc => ?_) (fun hc => ?_) <;> simp only [List.set_cons_succ, List.set_cons_zero])
    | ((with_reducible refine idp (p := dwalk _ _ _ _ _ _ (_ :: _) _ _) ?_); refine dwalk_cons rfl rfl (by simp [Region.binds]; rfl) (by decide) (by simp [Region.binds]; rfl) (by simp; rfl) fun K hK => ?_; simp [-Bool.exists_bool, aop]; first | ((try simp (disch := omega) only [wrap64]); refine hK _ (by simp) ?_; clear hK K; simp))
    | ((with_reducible refine idp (p := awpL _ _ [] _ _) ?_); refine awpL_nil ?_)
    | ((with_reducible refine idp (p := awp _ (.region _ _ true) _ _) ?_); refine awp_drawn (by decide) ?_)
    | ((with_reducible refine idp (p := dwalk _ _ _ _ _ _ [] _ _) ?_); refine dwalk_nil (by simp; rfl) (by simp; rfl) ?_)
    | ((with_reducible refine idp (p := awp _ (.seq _ _) _ _) ?_); refine awp_seq fun K hK => ?_)
    | ((with_reducible refine idp (p := awp _ (.region _ _ false) _ _) ?_); refine awp_region ?_)
    | ((with_reducible refine idp (p := AThen _ _ .normal _) ?_); refine awp_then (by assumption) ?_)
    | ((with_reducible refine idp (p := AThen _ _ .ret _) ?_); refine awp_then_ret ?_)
    | ((with_reducible refine idp (p := AThen _ _ (.exit _) _) ?_); refine awp_then_exit ?_)
    | ((with_reducible refine idp (p := AIn _ _ .normal _) ?_); refine awp_in_normal ?_)
    | ((with_reducible refine idp (p := AIn _ _ .ret _) ?_); refine awp_in_ret ?_)
    | ((with_reducible refine idp (p := AIn _ _ (.exit _) _) ?_); first | refine awp_in_eq ?_ | refine awp_in_ne (by decide) ?_)
    | ((with_reducible refine idp (p := awp _ .ret _ _) ?_); refine awp_ret ?_)
    | ((with_reducible refine idp (p := awp _ (.cond _ _ _) _ _) ?_); (refine awp_cond rfl (fun hc => ?_) (fun hc => ?_) <;> (try simp at hc) <;> (try (exfalso; omega))))
    | ((with_reducible refine idp (p := awp _ (.block _ _) _ _) ?_); refine awp_block ?_)
    | ((with_reducible refine idp (p := awp _ (.exit _) _ _) ?_); refine awp_exit ?_)
    | ((with_reducible refine idp (p := awp _ .skip _ _) ?_); refine awp_skip ?_))
  all_goals (try (refine ⟨.inr rfl, ?_⟩; simp [Hands, Try.results14]))
  all_goals (repeat clear hK K)

def isParsed (p : DPage) : Bool := p.ended && decide (p.queue.length = 0) && decide (p.block = 0) && decide (p.inline = 0)
theorem specIsParsed_ok (p : DPage) : Ok Try.prog 16 [.agg (ePage .view p)] (.bool (isParsed p)) := by
  refine ok_of_awp Try.mix Try.func16 rfl ?_
  simp only [Try.ntmps16, List.length_cons, List.length_nil, Nat.reduceSub, Nat.reduceAdd, List.replicate_succ, List.replicate_zero, List.cons_append, List.nil_append]
  repeat' (first
    | ((with_reducible refine idp (p := awpL _ _ (_ :: _) _ _) ?_); refine awpL_cons rfl fun K hK => ?_; simp [-Bool.exists_bool, aop]; first | ((try simp (disch := omega) only [wrap64]); refine hK _ ?_; clear hK K))
    | ((with_reducible refine idp (p := awpL _ _ (_ :: _) _ _) ?_); refine awpL_take rfl ?_ ?_; (focus (simp [guardA]; done)); intro K hK; simp [-Bool.exists_bool, aop]; first | ((try simp (disch := omega) only [wrap64]); refine hK _ ?_; clear hK K))
    | ((with_reducible refine idp (p := awpL _ _ (_ :: _) _ _) ?_); refine awpL_skip rfl ?_ ?_; (focus (simp [guardA]; done)); simp only [AS.put, List.set_cons_succ, List.set_cons_zero])
    | ((with_reducible refine idp (p := awpL _ _ (_ :: _) _ _) ?_); refine awpL_split rfl rfl rfl (fun hc => ?_) (fun hc => ?_) <;> simp only [List.set_cons_succ, List.set_cons_zero])
    | ((with_reducible refine idp (p := dwalk _ _ _ _ _ _ (_ :: _) _ _) ?_); refine dwalk_cons rfl rfl (by simp [Region.binds]; rfl) (by decide) (by simp [Region.binds]; rfl) (by simp; rfl) fun K hK => ?_; simp [-Bool.exists_bool, aop]; first | ((try simp (disch := omega) only [wrap64]); refine hK _ (by simp) ?_; clear hK K; simp))
    | ((with_reducible refine idp (p := awpL _ _ [] _ _) ?_); refine awpL_nil ?_)
    | ((with_reducible refine idp (p := awp _ (.region _ _ true) _ _) ?_); refine awp_drawn (by decide) ?_)
    | ((with_reducible refine idp (p := dwalk _ _ _ _ _ _ [] _ _) ?_); refine dwalk_nil (by simp; rfl) (by simp; rfl) ?_)
    | ((with_reducible refine idp (p := awp _ (.seq _ _) _ _) ?_); refine awp_seq fun K hK => ?_)
    | ((with_reducible refine idp (p := awp _ (.region _ _ false) _ _) ?_); refine awp_region ?_)
    | ((with_reducible refine idp (p := AThen _ _ .normal _) ?_); refine awp_then (by assumption) ?_)
    | ((with_reducible refine idp (p := AThen _ _ .ret _) ?_); refine awp_then_ret ?_)
    | ((with_reducible refine idp (p := AThen _ _ (.exit _) _) ?_); refine awp_then_exit ?_)
    | ((with_reducible refine idp (p := AIn _ _ .normal _) ?_); refine awp_in_normal ?_)
    | ((with_reducible refine idp (p := AIn _ _ .ret _) ?_); refine awp_in_ret ?_)
    | ((with_reducible refine idp (p := AIn _ _ (.exit _) _) ?_); first | refine awp_in_eq ?_ | refine awp_in_ne (by decide) ?_)
    | ((with_reducible refine idp (p := awp _ .ret _ _) ?_); refine awp_ret ?_)
    | ((with_reducible refine idp (p := awp _ (.cond _ _ _) _ _) ?_); (refine awp_cond rfl (fun hc => ?_) (fun hc => ?_) <;> (try simp at hc) <;> (try (exfalso; omega))))
    | ((with_reducible refine idp (p := awp _ (.block _ _) _ _) ?_); refine awp_block ?_)
    | ((with_reducible refine idp (p := awp _ (.exit _) _ _) ?_); refine awp_exit ?_)
    | ((with_reducible refine idp (p := awp _ .skip _ _) ?_); refine awp_skip ?_))
  all_goals (try (refine ⟨.inr rfl, ?_⟩; simp [Hands, Try.results16]))
  all_goals (repeat clear hK K)
  all_goals (simp_all [isParsed] <;> rfl)
theorem implIsParsed_ok (p : DPage) : Ok Try.prog 17 [.agg (ePage .view p)] (.bool (isParsed p)) := by
  refine ok_of_awp Try.mix Try.func17 rfl ?_
  simp only [Try.ntmps17, List.length_cons, List.length_nil, Nat.reduceSub, Nat.reduceAdd, List.replicate_succ, List.replicate_zero, List.cons_append, List.nil_append]
  repeat' (first
    | ((with_reducible refine idp (p := awpL _ _ (_ :: _) _ _) ?_); refine awpL_cons rfl fun K hK => ?_; simp [-Bool.exists_bool, aop]; first | ((try simp (disch := omega) only [wrap64]); refine hK _ ?_; clear hK K))
    | ((with_reducible refine idp (p := awpL _ _ (_ :: _) _ _) ?_); refine awpL_take rfl ?_ ?_; (focus (simp [guardA]; done)); intro K hK; simp [-Bool.exists_bool, aop]; first | ((try simp (disch := omega) only [wrap64]); refine hK _ ?_; clear hK K))
    | ((with_reducible refine idp (p := awpL _ _ (_ :: _) _ _) ?_); refine awpL_skip rfl ?_ ?_; (focus (simp [guardA]; done)); simp only [AS.put, List.set_cons_succ, List.set_cons_zero])
    | ((with_reducible refine idp (p := awpL _ _ (_ :: _) _ _) ?_); refine awpL_split rfl rfl rfl (fun hc => ?_) (fun hc => ?_) <;> simp only [List.set_cons_succ, List.set_cons_zero])
    | ((with_reducible refine idp (p := dwalk _ _ _ _ _ _ (_ :: _) _ _) ?_); refine dwalk_cons rfl rfl (by simp [Region.binds]; rfl) (by decide) (by simp [Region.binds]; rfl) (by simp; rfl) fun K hK => ?_; simp [-Bool.exists_bool, aop]; first | ((try simp (disch := omega) only [wrap64]); refine hK _ (by simp) ?_; clear hK K; simp))
    | ((with_reducible refine idp (p := awpL _ _ [] _ _) ?_); refine awpL_nil ?_)
    | ((with_reducible refine idp (p := awp _ (.region _ _ true) _ _) ?_); refine awp_drawn (by decide) ?_)
    | ((with_reducible refine idp (p := dwalk _ _ _ _ _ _ [] _ _) ?_); refine dwalk_nil (by simp; rfl) (by simp; rfl) ?_)
    | ((with_reducible refine idp (p := awp _ (.seq _ _) _ _) ?_); refine awp_seq fun K hK => ?_)
    | ((with_reducible refine idp (p := awp _ (.region _ _ false) _ _) ?_); refine awp_region ?_)
    | ((with_reducible refine idp (p := AThen _ _ .normal _) ?_); refine awp_then (by assumption) ?_)
    | ((with_reducible refine idp (p := AThen _ _ .ret _) ?_); refine awp_then_ret ?_)
    | ((with_reducible refine idp (p := AThen _ _ (.exit _) _) ?_); refine awp_then_exit ?_)
    | ((with_reducible refine idp (p := AIn _ _ .normal _) ?_); refine awp_in_normal ?_)
    | ((with_reducible refine idp (p := AIn _ _ .ret _) ?_); refine awp_in_ret ?_)
    | ((with_reducible refine idp (p := AIn _ _ (.exit _) _) ?_); first | refine awp_in_eq ?_ | refine awp_in_ne (by decide) ?_)
    | ((with_reducible refine idp (p := awp _ .ret _ _) ?_); refine awp_ret ?_)
    | ((with_reducible refine idp (p := awp _ (.cond _ _ _) _ _) ?_); (refine awp_cond rfl (fun hc => ?_) (fun hc => ?_) <;> (try simp at hc) <;> (try (exfalso; omega))))
    | ((with_reducible refine idp (p := awp _ (.block _ _) _ _) ?_); refine awp_block ?_)
    | ((with_reducible refine idp (p := awp _ (.exit _) _ _) ?_); refine awp_exit ?_)
    | ((with_reducible refine idp (p := awp _ .skip _ _) ?_); refine awp_skip ?_))
  all_goals (try (refine ⟨.inr rfl, ?_⟩; simp [Hands, Try.results17]))
  all_goals (repeat clear hK K)
  all_goals (simp_all [isParsed] <;> rfl)
end Go.Proofs.Ytbbefoefjmgnoaa
