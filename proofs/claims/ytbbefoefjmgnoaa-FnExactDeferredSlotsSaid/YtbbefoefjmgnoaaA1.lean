/-
  Proved here: contracts of sz, to and eq at addresses, attributes, tokenizers and plain slices.
  No condition beyond what each statement spells out.
-/
import Derived.Test.YtbbefoefjmgnoaaA0
set_option linter.all false
set_option linter.unusedSimpArgs false
set_option linter.unusedVariables false
set_option maxRecDepth 4000
set_option maxHeartbeats 4000000
namespace Go.Proofs.Ytbbefoefjmgnoaa
open Go.Aw
theorem toAddr_ok (a : DAddr) (hs : szAddr a ≤ 1048576) : Ok Try.prog 22 [.agg (eAddr a)] (.agg (eAddr a)) := by
  simp only [szAddr] at hs
  refine ok_of_awp Try.mix Try.func22 rfl ?_
  simp only [Try.ntmps22, List.length_cons, List.length_nil, Nat.reduceSub, Nat.reduceAdd, List.replicate_succ, List.replicate_zero, List.cons_append, List.nil_append]
  repeat' (first
    | ((with_reducible refine idp (p := awpL _ _ (_ :: _) _ _) ?_); refine awpL_cons rfl fun K hK => ?_; simp [-Bool.exists_bool, aop]; first | ((try simp (disch := omega) only [wrap64]); refine hK _ ?_; clear hK K))
    | ((with_reducible refine idp (p := awpL _ _ (_ :: _) _ _) ?_); refine awpL_take rfl ?_ ?_; (focus (simp [guardA]; done)); intro K hK; simp [-Bool.exists_bool, aop]; first | ((try simp (disch := omega) only [wrap64]); refine hK _ ?_; clear hK K))
    | ((with_reducible refine idp (p := awpL _ _ (_ :: _) _ _) ?_); refine awpL_skip rfl ?_ ?_; (focus (simp [guardA]; done)); simp only [AS.put, List.set_cons_succ, List.set_cons_zero])
    | ((with_reducible refine idp (p := awpL _ _ (_ :: _) _ _) ?_); refine awpL_split rfl rfl rfl (fun hc => ?_) (fun hc => ?_) <;> simp only [List.set_cons_succ, List.set_cons_zero])
    | ((with_reducible refine idp (p := dwalk _ _ _ _ _ _ (_ :: _) _ _) ?_); refine dwalk_cons rfl rfl (by simp [Region.binds]; rfl) (by decide) (by simp [Region.binds]; rfl) (by simp; rfl) fun K hK => ?_; simp [-Bool.exists_bool, aop]; first | ((try simp (disch := omega) only [wrap64]); refine hK _ (by simp) ?_; clear hK K; simp))
    | ((with_reducible refine idp (p := awpL _ _ [] _ _) ?_); refine awpL_nil ?_)
    | ((with_reducible refine idp (p := awp _ (.region _ _ true) _ _) ?_); refine awp_drawn (by decide) ?_)
    | ((with_reducible refine idp (p := dwalk _ _ _ _ _ _ [] _ _) ?_); refine dwalk_nil (by simp; rfl) (by simp; rfl) ?_)
    | ((with_reducible refine idp (p := awp _ (.seq _ _) _ _) ?_); refine awp_seq fun K hK => ?_)
    | ((with_reducible refine idp (p := awp _ (.region _ _ false) _ _) ?_); refine awp_region ?_)
    | ((with_reducible refine idp (p := AThen _ _ .normal _) ?_); refine awp_then (by assumption) ?_)
    | ((with_reducible refine idp (p := AThen _ _ .ret _) ?_); refine awp_then_ret ?_)
    | ((with_reducible refine idp (p := AThen _ _ (.exit _) _) ?_); refine awp_then_exit ?_)
    | ((with_reducible refine idp (p := AIn _ _ .normal _) ?_); refine awp_in_normal ?_)
    | ((with_reducible refine idp (p := AIn _ _ .ret _) ?_); refine awp_in_ret ?_)
    | ((with_reducible refine idp (p := AIn _ _ (.exit _) _) ?_); first | refine awp_in_eq ?_ | refine awp_in_ne (by decide) ?_)
    | ((with_reducible refine idp (p := awp _ .ret _ _) ?_); refine awp_ret ?_)
    | ((with_reducible refine idp (p := awp _ (.cond _ _ _) _ _) ?_); (refine awp_cond rfl (fun hc => ?_) (fun hc => ?_) <;> (try simp at hc) <;> (try (exfalso; omega))))
    | ((with_reducible refine idp (p := awp _ (.block _ _) _ _) ?_); refine awp_block ?_)
    | ((with_reducible refine idp (p := awp _ (.exit _) _ _) ?_); refine awp_exit ?_)
    | ((with_reducible refine idp (p := awp _ .skip _ _) ?_); refine awp_skip ?_))
  all_goals (try (refine ⟨.inr rfl, ?_⟩; simp [Hands, Try.results22]))
  all_goals (repeat clear hK K)

theorem szAddr_ok (a : DAddr) (n : Int) (h0 : 0 ≤ n) (h1 : n ≤ 1048576) (hw : wfAddr a) : Ok Try.prog 20 [.agg (eAddr a), .int .i64 n] (.int .i64 (sub n (szAddr a))) := by
  simp only [wfAddr] at hw
  obtain ⟨whost, wpath⟩ := hw
  refine ok_of_awp Try.mix Try.func20 rfl ?_
  simp only [Try.ntmps20, List.length_cons, List.length_nil, Nat.reduceSub, Nat.reduceAdd, List.replicate_succ, List.replicate_zero, List.cons_append, List.nil_append]
  repeat' (first
    | ((with_reducible refine idp (p := awpL _ _ (_ :: _) _ _) ?_); refine awpL_cons rfl fun K hK => ?_; simp [-Bool.exists_bool, aop]; first | ((try simp (disch := omega) only [wrap64]); refine hK _ ?_; clear hK K))
    | ((with_reducible refine idp (p := awpL _ _ (_ :: _) _ _) ?_); refine awpL_take rfl ?_ ?_; (focus (simp [guardA]; done)); intro K hK; simp [-Bool.exists_bool, aop]; first | ((try simp (disch := omega) only [wrap64]); refine hK _ ?_; clear hK K))
    | ((with_reducible refine idp (p := awpL _ _ (_ :: _) _ _) ?_); refine awpL_skip rfl ?_ ?_; (focus (simp [guardA]; done)); simp only [AS.put, List.set_cons_succ, List.set_cons_zero])
    | ((with_reducible refine idp (p := awpL _ _ (_ :: _) _ _) ?_); refine awpL_split rfl rfl rfl (fun hc => ?_) (fun hc => ?_) <;> simp only [List.set_cons_succ, List.set_cons_zero])
    | ((with_reducible refine idp (p := dwalk _ _ _ _ _ _ (_ :: _) _ _) ?_); refine dwalk_cons rfl rfl (by simp [Region.binds]; rfl) (by decide) (by simp [Region.binds]; rfl) (by simp; rfl) fun K hK => ?_; simp [-Bool.exists_bool, aop]; first | ((try simp (disch := omega) only [wrap64]); refine hK _ (by simp) ?_; clear hK K; simp))
    | ((with_reducible refine idp (p := awpL _ _ [] _ _) ?_); refine awpL_nil ?_)
    | ((with_reducible refine idp (p := awp _ (.region _ _ true) _ _) ?_); refine awp_drawn (by decide) ?_)
    | ((with_reducible refine idp (p := dwalk _ _ _ _ _ _ [] _ _) ?_); refine dwalk_nil (by simp; rfl) (by simp; rfl) ?_)
    | ((with_reducible refine idp (p := awp _ (.seq _ _) _ _) ?_); refine awp_seq fun K hK => ?_)
    | ((with_reducible refine idp (p := awp _ (.region _ _ false) _ _) ?_); refine awp_region ?_)
    | ((with_reducible refine idp (p := AThen _ _ .normal _) ?_); refine awp_then (by assumption) ?_)
    | ((with_reducible refine idp (p := AThen _ _ .ret _) ?_); refine awp_then_ret ?_)
    | ((with_reducible refine idp (p := AThen _ _ (.exit _) _) ?_); refine awp_then_exit ?_)
    | ((with_reducible refine idp (p := AIn _ _ .normal _) ?_); refine awp_in_normal ?_)
    | ((with_reducible refine idp (p := AIn _ _ .ret _) ?_); refine awp_in_ret ?_)
    | ((with_reducible refine idp (p := AIn _ _ (.exit _) _) ?_); first | refine awp_in_eq ?_ | refine awp_in_ne (by decide) ?_)
    | ((with_reducible refine idp (p := awp _ .ret _ _) ?_); refine awp_ret ?_)
    | ((with_reducible refine idp (p := awp _ (.cond _ _ _) _ _) ?_); (refine awp_cond rfl (fun hc => ?_) (fun hc => ?_) <;> (try simp at hc) <;> (try (exfalso; omega))))
    | ((with_reducible refine idp (p := awp _ (.block _ _) _ _) ?_); refine awp_block ?_)
    | ((with_reducible refine idp (p := awp _ (.exit _) _ _) ?_); refine awp_exit ?_)
    | ((with_reducible refine idp (p := awp _ .skip _ _) ?_); refine awp_skip ?_))
  all_goals (try (refine ⟨.inr rfl, ?_⟩; simp [Hands, Try.results20, szAddr]))
  all_goals (repeat clear hK K)
  all_goals (
    (try simp (disch := omega) only [wrap64] at *)
    (try simp only [sub]); (try split); all_goals omega)

theorem eqAddr_ok (a b : DAddr) (hs : szAddr a ≤ 1048576) : Ok Try.prog 52 [.agg (eAddr a), .agg (eAddr b)] (.bool (decide (a = b))) := by
  simp only [szAddr] at hs
  refine ok_of_awp Try.mix Try.func52 rfl ?_
  simp only [Try.ntmps52, List.length_cons, List.length_nil, Nat.reduceSub, Nat.reduceAdd, List.replicate_succ, List.replicate_zero, List.cons_append, List.nil_append]
  repeat' (first
    | ((with_reducible refine idp (p := awpL _ _ (_ :: _) _ _) ?_); refine awpL_cons rfl fun K hK => ?_; simp [-Bool.exists_bool, aop]; first | ((try simp (disch := omega) only [wrap64]); refine hK _ ?_; clear hK K))
    | ((with_reducible refine idp (p := awpL _ _ (_ :: _) _ _) ?_); refine awpL_take rfl ?_ ?_; (focus (simp [guardA]; done)); intro K hK; simp [-Bool.exists_bool, aop]; first | ((try simp (disch := omega) only [wrap64]); refine hK _ ?_; clear hK K))
    | ((with_reducible refine idp (p := awpL _ _ (_ :: _) _ _) ?_); refine awpL_skip rfl ?_ ?_; (focus (simp [guardA]; done)); simp only [AS.put, List.set_cons_succ, List.set_cons_zero])
    | ((with_reducible refine idp (p := awpL _ _ (_ :: _) _ _) ?_); refine awpL_split rfl rfl rfl (fun hc => ?_) (fun hc => ?_) <;> simp only [List.set_cons_succ, List.set_cons_zero])
    | ((with_reducible refine idp (p := dwalk _ _ _ _ _ _ (_ :: _) _ _) ?_); refine dwalk_cons rfl rfl (by simp [Region.binds]; rfl) (by decide) (by simp [Region.binds]; rfl) (by simp; rfl) fun K hK => ?_; simp [-Bool.exists_bool, aop]; first | ((try simp (disch := omega) only [wrap64]); refine hK _ (by simp) ?_; clear hK K; simp))
    | ((with_reducible refine idp (p := awpL _ _ [] _ _) ?_); refine awpL_nil ?_)
    | ((with_reducible refine idp (p := awp _ (.region _ _ true) _ _) ?_); refine awp_drawn (by decide) ?_)
    | ((with_reducible refine idp (p := dwalk _ _ _ _ _ _ [] _ _) ?_); refine dwalk_nil (by simp; rfl) (by simp; rfl) ?_)
    | ((with_reducible refine idp (p := awp _ (.seq _ _) _ _) ?_); refine awp_seq fun K hK => ?_)
    | ((with_reducible refine idp (p := awp _ (.region _ _ false) _ _) ?_); refine awp_region ?_)
    | ((with_reducible refine idp (p := AThen _ _ .normal _) ?_); refine awp_then (by assumption) ?_)
    | ((with_reducible refine idp (p := AThen _ _ .ret _) ?_); refine awp_then_ret ?_)
    | ((with_reducible refine idp (p := AThen _ _ (.exit _) _) ?_); refine awp_then_exit ?_)
    | ((with_reducible refine idp (p := AIn _ _ .normal _) ?_); refine awp_in_normal ?_)
    | ((with_reducible refine idp (p := AIn _ _ .ret _) ?_); refine awp_in_ret ?_)
    | ((with_reducible refine idp (p := AIn _ _ (.exit _) _) ?_); first | refine awp_in_eq ?_ | refine awp_in_ne (by decide) ?_)
    | ((with_reducible refine idp (p := awp _ .ret _ _) ?_); refine awp_ret ?_)
    | ((with_reducible refine idp (p := awp _ (.cond _ _ _) _ _) ?_); (refine awp_cond rfl (fun hc => ?_) (fun hc => ?_) <;> (try simp at hc) <;> (try (exfalso; omega))))
    | ((with_reducible refine idp (p := awp _ (.block _ _) _ _) ?_); refine awp_block ?_)
    | ((with_reducible refine idp (p := awp _ (.exit _) _ _) ?_); refine awp_exit ?_)
    | ((with_reducible refine idp (p := awp _ .skip _ _) ?_); refine awp_skip ?_))
  all_goals (try (refine ⟨.inr rfl, ?_⟩; simp [Hands, Try.results52]))
  all_goals (repeat clear hK K)
  all_goals ((repeat clear hK K); cases a; cases b; simp_all)

theorem toAttr_ok (a : DAttr) (hs : szAttr a ≤ 1048576) : Ok Try.prog 99 [.agg (eAttr a)] (.agg (eAttr a)) := by
  simp only [szAttr] at hs
  refine ok_of_awp Try.mix Try.func99 rfl ?_
  simp only [Try.ntmps99, List.length_cons, List.length_nil, Nat.reduceSub, Nat.reduceAdd, List.replicate_succ, List.replicate_zero, List.cons_append, List.nil_append]
  repeat' (first
    | ((with_reducible refine idp (p := awpL _ _ (_ :: _) _ _) ?_); refine awpL_cons rfl fun K hK => ?_; simp [-Bool.exists_bool, aop]; first | ((try simp (disch := omega) only [wrap64]); refine hK _ ?_; clear hK K))
    | ((with_reducible refine idp (p := awpL _ _ (_ :: _) _ _) ?_); refine awpL_take rfl ?_ ?_; (focus (simp [guardA]; done)); intro K hK; simp [-Bool.exists_bool, aop]; first | ((try simp (disch := omega) only [wrap64]); refine hK _ ?_; clear hK K))
    | ((with_reducible refine idp (p := awpL _ _ (_ :: _) _ _) ?_); refine awpL_skip rfl ?_ ?_; (focus (simp [guardA]; done)); simp only [AS.put, List.set_cons_succ, List.set_cons_zero])
    | ((with_reducible refine idp (p := awpL _ _ (_ :: _) _ _) ?_); refine awpL_split rfl rfl rfl (fun hc => ?_) (fun hc => ?_) <;> simp only [List.set_cons_succ, List.set_cons_zero])
    | ((with_reducible refine idp (p := dwalk _ _ _ _ _ _ (_ :: _) _ _) ?_); refine dwalk_cons rfl rfl (by simp [Region.binds]; rfl) (by decide) (by simp [Region.binds]; rfl) (by simp; rfl) fun K hK => ?_; simp [-Bool.exists_bool, aop]; first | ((try simp (disch := omega) only [wrap64]); refine hK _ (by simp) ?_; clear hK K; simp))
    | ((with_reducible refine idp (p := awpL _ _ [] _ _) ?_); refine awpL_nil ?_)
    | ((with_reducible refine idp (p := awp _ (.region _ _ true) _ _) ?_); refine awp_drawn (by decide) ?_)
    | ((with_reducible refine idp (p := dwalk _ _ _ _ _ _ [] _ _) ?_); refine dwalk_nil (by simp; rfl) (by simp; rfl) ?_)
    | ((with_reducible refine idp (p := awp _ (.seq _ _) _ _) ?_); refine awp_seq fun K hK => ?_)
    | ((with_reducible refine idp (p := awp _ (.region _ _ false) _ _) ?_); refine awp_region ?_)
    | ((with_reducible refine idp (p := AThen _ _ .normal _) ?_); refine awp_then (by assumption) ?_)
    | ((with_reducible refine idp (p := AThen _ _ .ret _) ?_); refine awp_then_ret ?_)
    | ((with_reducible refine idp (p := AThen _ _ (.exit _) _) ?_); refine awp_then_exit ?_)
    | ((with_reducible refine idp (p := AIn _ _ .normal _) ?_); refine awp_in_normal ?_)
    | ((with_reducible refine idp (p := AIn _ _ .ret _) ?_); refine awp_in_ret ?_)
    | ((with_reducible refine idp (p := AIn _ _ (.exit _) _) ?_); first | refine awp_in_eq ?_ | refine awp_in_ne (by decide) ?_)
    | ((with_reducible refine idp (p := awp _ .ret _ _) ?_); refine awp_ret ?_)
    | ((with_reducible refine idp (p := awp _ (.cond _ _ _) _ _) ?_); (refine awp_cond rfl (fun hc => ?_) (fun hc => ?_) <;> (try simp at hc) <;> (try (exfalso; omega))))
    | ((with_reducible refine idp (p := awp _ (.block _ _) _ _) ?_); refine awp_block ?_)
    | ((with_reducible refine idp (p := awp _ (.exit _) _ _) ?_); refine awp_exit ?_)
    | ((with_reducible refine idp (p := awp _ .skip _ _) ?_); refine awp_skip ?_))
  all_goals (try (refine ⟨.inr rfl, ?_⟩; simp [Hands, Try.results99]))
  all_goals (repeat clear hK K)

theorem szAttr_ok (a : DAttr) (n : Int) (h0 : 0 ≤ n) (h1 : n ≤ 1048576) (hw : wfAttr a) : Ok Try.prog 98 [.agg (eAttr a), .int .i64 n] (.int .i64 (sub n (szAttr a))) := by
  simp only [wfAttr] at hw
  obtain ⟨wname, wvalue⟩ := hw
  refine ok_of_awp Try.mix Try.func98 rfl ?_
  simp only [Try.ntmps98, List.length_cons, List.length_nil, Nat.reduceSub, Nat.reduceAdd, List.replicate_succ, List.replicate_zero, List.cons_append, List.nil_append]
  repeat' (first
    | ((with_reducible refine idp (p := awpL _ _ (_ :: _) _ _) ?_); refine awpL_cons rfl fun K hK => ?_; simp [-Bool.exists_bool, aop]; first | ((try simp (disch := omega) only [wrap64]); refine hK _ ?_; clear hK K))
    | ((with_reducible refine idp (p := awpL _ _ (_ :: _) _ _) ?_); refine awpL_take rfl ?_ ?_; (focus (simp [guardA]; done)); intro K hK; simp [-Bool.exists_bool, aop]; first | ((try simp (disch := omega) only [wrap64]); refine hK _ ?_; clear hK K))
    | ((with_reducible refine idp (p := awpL _ _ (_ :: _) _ _) ?_); refine awpL_skip rfl ?_ ?_; (focus (simp [guardA]; done)); simp only [AS.put, List.set_cons_succ, List.set_cons_zero])
    | ((with_reducible refine idp (p := awpL _ _ (_ :: _) _ _) ?_); refine awpL_split rfl rfl rfl (fun hc => ?_) (fun hc => ?_) <;> simp only [List.set_cons_succ, List.set_cons_zero])
    | ((with_reducible refine idp (p := dwalk _ _ _ _ _ _ (_ :: _) _ _) ?_); refine dwalk_cons rfl rfl (by simp [Region.binds]; rfl) (by decide) (by simp [Region.binds]; rfl) (by simp; rfl) fun K hK => ?_; simp [-Bool.exists_bool, aop]; first | ((try simp (disch := omega) only [wrap64]); refine hK _ (by simp) ?_; clear hK K; simp))
    | ((with_reducible refine idp (p := awpL _ _ [] _ _) ?_); refine awpL_nil ?_)
    | ((with_reducible refine idp (p := awp _ (.region _ _ true) _ _) ?_); refine awp_drawn (by decide) ?_)
    | ((with_reducible refine idp (p := dwalk _ _ _ _ _ _ [] _ _) ?_); refine dwalk_nil (by simp; rfl) (by simp; rfl) ?_)
    | ((with_reducible refine idp (p := awp _ (.seq _ _) _ _) ?_); refine awp_seq fun K hK => ?_)
    | ((with_reducible refine idp (p := awp _ (.region _ _ false) _ _) ?_); refine awp_region ?_)
    | ((with_reducible refine idp (p := AThen _ _ .normal _) ?_); refine awp_then (by assumption) ?_)
    | ((with_reducible refine idp (p := AThen _ _ .ret _) ?_); refine awp_then_ret ?_)
    | ((with_reducible refine idp (p := AThen _ _ (.exit _) _) ?_); refine awp_then_exit ?_)
    | ((with_reducible refine idp (p := AIn _ _ .normal _) ?_); refine awp_in_normal ?_)
    | ((with_reducible refine idp (p := AIn _ _ .ret _) ?_); refine awp_in_ret ?_)
    | ((with_reducible refine idp (p := AIn _ _ (.exit _) _) ?_); first | refine awp_in_eq ?_ | refine awp_in_ne (by decide) ?_)
    | ((with_reducible refine idp (p := awp _ .ret _ _) ?_); refine awp_ret ?_)
    | ((with_reducible refine idp (p := awp _ (.cond _ _ _) _ _) ?_); (refine awp_cond rfl (fun hc => ?_) (fun hc => ?_) <;> (try simp at hc) <;> (try (exfalso; omega))))
    | ((with_reducible refine idp (p := awp _ (.block _ _) _ _) ?_); refine awp_block ?_)
    | ((with_reducible refine idp (p := awp _ (.exit _) _ _) ?_); refine awp_exit ?_)
    | ((with_reducible refine idp (p := awp _ .skip _ _) ?_); refine awp_skip ?_))
  all_goals (try (refine ⟨.inr rfl, ?_⟩; simp [Hands, Try.results98, szAttr]))
  all_goals (repeat clear hK K)
  all_goals (
    (try simp (disch := omega) only [wrap64] at *)
    (try simp only [sub]); (try split); all_goals omega)

theorem eqAttr_ok (a b : DAttr) (hs : szAttr a ≤ 1048576) : Ok Try.prog 100 [.agg (eAttr a), .agg (eAttr b)] (.bool (decide (a = b))) := by
  simp only [szAttr] at hs
  refine ok_of_awp Try.mix Try.func100 rfl ?_
  simp only [Try.ntmps100, List.length_cons, List.length_nil, Nat.reduceSub, Nat.reduceAdd, List.replicate_succ, List.replicate_zero, List.cons_append, List.nil_append]
  repeat' (first
    | ((with_reducible refine idp (p := awpL _ _ (_ :: _) _ _) ?_); refine awpL_cons rfl fun K hK => ?_; simp [-Bool.exists_bool, aop]; first | ((try simp (disch := omega) only [wrap64]); refine hK _ ?_; clear hK K))
    | ((with_reducible refine idp (p := awpL _ _ (_ :: _) _ _) ?_); refine awpL_take rfl ?_ ?_; (focus (simp [guardA]; done)); intro K hK; simp [-Bool.exists_bool, aop]; first | ((try simp (disch := omega) only [wrap64]); refine hK _ ?_; clear hK K))
    | ((with_reducible refine idp (p := awpL _ _ (_ :: _) _ _) ?_); refine awpL_skip rfl ?_ ?_; (focus (simp [guardA]; done)); simp only [AS.put, List.set_cons_succ, List.set_cons_zero])
    | ((with_reducible refine idp (p := awpL _ _ (_ :: _) _ _) ?_); refine awpL_split rfl rfl rfl (fun hc => ?_) (fun hc => ?_) <;> simp only [List.set_cons_succ, List.set_cons_zero])
    | ((with_reducible refine idp (p := dwalk _ _ _ _ _ _ (_ :: _) _ _) ?_); refine dwalk_cons rfl rfl (by simp [Region.binds]; rfl) (by decide) (by simp [Region.binds]; rfl) (by simp; rfl) fun K hK => ?_; simp [-Bool.exists_bool, aop]; first | ((try simp (disch := omega) only [wrap64]); refine hK _ (by simp) ?_; clear hK K; simp))
    | ((with_reducible refine idp (p := awpL _ _ [] _ _) ?_); refine awpL_nil ?_)
    | ((with_reducible refine idp (p := awp _ (.region _ _ true) _ _) ?_); refine awp_drawn (by decide) ?_)
    | ((with_reducible refine idp (p := dwalk _ _ _ _ _ _ [] _ _) ?_); refine dwalk_nil (by simp; rfl) (by simp; rfl) ?_)
    | ((with_reducible refine idp (p := awp _ (.seq _ _) _ _) ?_); refine awp_seq fun K hK => ?_)
    | ((with_reducible refine idp (p := awp _ (.region _ _ false) _ _) ?_); refine awp_region ?_)
    | ((with_reducible refine idp (p := AThen _ _ .normal _) ?_); refine awp_then (by assumption) ?_)
    | ((with_reducible refine idp (p := AThen _ _ .ret _) ?_); refine awp_then_ret ?_)
    | ((with_reducible refine idp (p := AThen _ _ (.exit _) _) ?_); refine awp_then_exit ?_)
    | ((with_reducible refine idp (p := AIn _ _ .normal _) ?_); refine awp_in_normal ?_)
    | ((with_reducible refine idp (p := AIn _ _ .ret _) ?_); refine awp_in_ret ?_)
    | ((with_reducible refine idp (p := AIn _ _ (.exit _) _) ?_); first | refine awp_in_eq ?_ | refine awp_in_ne (by decide) ?_)
    | ((with_reducible refine idp (p := awp _ .ret _ _) ?_); refine awp_ret ?_)
    | ((with_reducible refine idp (p := awp _ (.cond _ _ _) _ _) ?_); (refine awp_cond rfl (fun hc => ?_) (fun hc => ?_) <;> (try simp at hc) <;> (try (exfalso; omega))))
    | ((with_reducible refine idp (p := awp _ (.block _ _) _ _) ?_); refine awp_block ?_)
    | ((with_reducible refine idp (p := awp _ (.exit _) _ _) ?_); refine awp_exit ?_)
    | ((with_reducible refine idp (p := awp _ .skip _ _) ?_); refine awp_skip ?_))
  all_goals (try (refine ⟨.inr rfl, ?_⟩; simp [Hands, Try.results100]))
  all_goals (repeat clear hK K)
  all_goals ((repeat clear hK K); cases a; cases b; simp_all)

theorem toTokenizer_ok (a : DTokenizer) (hs : szTokenizer a ≤ 1048576) : Ok Try.prog 45 [.agg (eTokenizer a)] (.agg (eTokenizer a)) := by
  simp only [szTokenizer] at hs
  refine ok_of_awp Try.mix Try.func45 rfl ?_
  simp only [Try.ntmps45, List.length_cons, List.length_nil, Nat.reduceSub, Nat.reduceAdd, List.replicate_succ, List.replicate_zero, List.cons_append, List.nil_append]
  repeat' (first
    | ((with_reducible refine idp (p := awpL _ _ (_ :: _) _ _) ?_); refine awpL_cons rfl fun K hK => ?_; simp [-Bool.exists_bool, aop]; first | ((try simp (disch := omega) only [wrap64]); refine hK _ ?_; clear hK K))
    | ((with_reducible refine idp (p := awpL _ _ (_ :: _) _ _) ?_); refine awpL_take rfl ?_ ?_; (focus (simp [guardA]; done)); intro K hK; simp [-Bool.exists_bool, aop]; first | ((try simp (disch := omega) only [wrap64]); refine hK _ ?_; clear hK K))
    | ((with_reducible refine idp (p := awpL _ _ (_ :: _) _ _) ?_); refine awpL_skip rfl ?_ ?_; (focus (simp [guardA]; done)); simp only [AS.put, List.set_cons_succ, List.set_cons_zero])
    | ((with_reducible refine idp (p := awpL _ _ (_ :: _) _ _) ?_); refine awpL_split rfl rfl rfl (fun hc => ?_) (fun hc => ?_) <;> simp only [List.set_cons_succ, List.set_cons_zero])
    | ((with_reducible refine idp (p := dwalk _ _ _ _ _ _ (_ :: _) _ _) ?_); refine dwalk_cons rfl rfl (by simp [Region.binds]; rfl) (by decide) (by simp [Region.binds]; rfl) (by simp; rfl) fun K hK => ?_; simp [-Bool.exists_bool, aop]; first | ((try simp (disch := omega) only [wrap64]); refine hK _ (by simp) ?_; clear hK K; simp))
    | ((with_reducible refine idp (p := awpL _ _ [] _ _) ?_); refine awpL_nil ?_)
    | ((with_reducible refine idp (p := awp _ (.region _ _ true) _ _) ?_); refine awp_drawn (by decide) ?_)
    | ((with_reducible refine idp (p := dwalk _ _ _ _ _ _ [] _ _) ?_); refine dwalk_nil (by simp; rfl) (by simp; rfl) ?_)
    | ((with_reducible refine idp (p := awp _ (.seq _ _) _ _) ?_); refine awp_seq fun K hK => ?_)
    | ((with_reducible refine idp (p := awp _ (.region _ _ false) _ _) ?_); refine awp_region ?_)
    | ((with_reducible refine idp (p := AThen _ _ .normal _) ?_); refine awp_then (by assumption) ?_)
    | ((with_reducible refine idp (p := AThen _ _ .ret _) ?_); refine awp_then_ret ?_)
    | ((with_reducible refine idp (p := AThen _ _ (.exit _) _) ?_); refine awp_then_exit ?_)
    | ((with_reducible refine idp (p := AIn _ _ .normal _) ?_); refine awp_in_normal ?_)
    | ((with_reducible refine idp (p := AIn _ _ .ret _) ?_); refine awp_in_ret ?_)
    | ((with_reducible refine idp (p := AIn _ _ (.exit _) _) ?_); first | refine awp_in_eq ?_ | refine awp_in_ne (by decide) ?_)
    | ((with_reducible refine idp (p := awp _ .ret _ _) ?_); refine awp_ret ?_)
    | ((with_reducible refine idp (p := awp _ (.cond _ _ _) _ _) ?_); (refine awp_cond rfl (fun hc => ?_) (fun hc => ?_) <;> (try simp at hc) <;> (try (exfalso; omega))))
    | ((with_reducible refine idp (p := awp _ (.block _ _) _ _) ?_); refine awp_block ?_)
    | ((with_reducible refine idp (p := awp _ (.exit _) _ _) ?_); refine awp_exit ?_)
    | ((with_reducible refine idp (p := awp _ .skip _ _) ?_); refine awp_skip ?_))
  all_goals (try (refine ⟨.inr rfl, ?_⟩; simp [Hands, Try.results45]))
  all_goals (repeat clear hK K)

theorem szTokenizer_ok (a : DTokenizer) (n : Int) (h0 : 0 ≤ n) (h1 : n ≤ 1048576) (hw : wfTokenizer a) : Ok Try.prog 37 [.agg (eTokenizer a), .int .i64 n] (.int .i64 (sub n (szTokenizer a))) := by
  simp only [wfTokenizer] at hw
  have wrest := hw
  refine ok_of_awp Try.mix Try.func37 rfl ?_
  simp only [Try.ntmps37, List.length_cons, List.length_nil, Nat.reduceSub, Nat.reduceAdd, List.replicate_succ, List.replicate_zero, List.cons_append, List.nil_append]
  repeat' (first
    | ((with_reducible refine idp (p := awpL _ _ (_ :: _) _ _) ?_); refine awpL_cons rfl fun K hK => ?_; simp [-Bool.exists_bool, aop]; first | ((try simp (disch := omega) only [wrap64]); refine hK _ ?_; clear hK K))
    | ((with_reducible refine idp (p := awpL _ _ (_ :: _) _ _) ?_); refine awpL_take rfl ?_ ?_; (focus (simp [guardA]; done)); intro K hK; simp [-Bool.exists_bool, aop]; first | ((try simp (disch := omega) only [wrap64]); refine hK _ ?_; clear hK K))
    | ((with_reducible refine idp (p := awpL _ _ (_ :: _) _ _) ?_); refine awpL_skip rfl ?_ ?_; (focus (simp [guardA]; done)); simp only [AS.put, List.set_cons_succ, List.set_cons_zero])
    | ((with_reducible refine idp (p := awpL _ _ (_ :: _) _ _) ?_); refine awpL_split rfl rfl rfl (fun hc => ?_) (fun hc => ?_) <;> simp only [List.set_cons_succ, List.set_cons_zero])
    | ((with_reducible refine idp (p := dwalk _ _ _ _ _ _ (_ :: _) _ _) ?_); refine dwalk_cons rfl rfl (by simp [Region.binds]; rfl) (by decide) (by simp [Region.binds]; rfl) (by simp; rfl) fun K hK => ?_; simp [-Bool.exists_bool, aop]; first | ((try simp (disch := omega) only [wrap64]); refine hK _ (by simp) ?_; clear hK K; simp))
    | ((with_reducible refine idp (p := awpL _ _ [] _ _) ?_); refine awpL_nil ?_)
    | ((with_reducible refine idp (p := awp _ (.region _ _ true) _ _) ?_); refine awp_drawn (by decide) ?_)
    | ((with_reducible refine idp (p := dwalk _ _ _ _ _ _ [] _ _) ?_); refine dwalk_nil (by simp; rfl) (by simp; rfl) ?_)
    | ((with_reducible refine idp (p := awp _ (.seq _ _) _ _) ?_); refine awp_seq fun K hK => ?_)
    | ((with_reducible refine idp (p := awp _ (.region _ _ false) _ _) ?_); refine awp_region ?_)
    | ((with_reducible refine idp (p := AThen _ _ .normal _) ?_); refine awp_then (by assumption) ?_)
    | ((with_reducible refine idp (p := AThen _ _ .ret _) ?_); refine awp_then_ret ?_)
    | ((with_reducible refine idp (p := AThen _ _ (.exit _) _) ?_); refine awp_then_exit ?_)
    | ((with_reducible refine idp (p := AIn _ _ .normal _) ?_); refine awp_in_normal ?_)
    | ((with_reducible refine idp (p := AIn _ _ .ret _) ?_); refine awp_in_ret ?_)
    | ((with_reducible refine idp (p := AIn _ _ (.exit _) _) ?_); first | refine awp_in_eq ?_ | refine awp_in_ne (by decide) ?_)
    | ((with_reducible refine idp (p := awp _ .ret _ _) ?_); refine awp_ret ?_)
    | ((with_reducible refine idp (p := awp _ (.cond _ _ _) _ _) ?_); (refine awp_cond rfl (fun hc => ?_) (fun hc => ?_) <;> (try simp at hc) <;> (try (exfalso; omega))))
    | ((with_reducible refine idp (p := awp _ (.block _ _) _ _) ?_); refine awp_block ?_)
    | ((with_reducible refine idp (p := awp _ (.exit _) _ _) ?_); refine awp_exit ?_)
    | ((with_reducible refine idp (p := awp _ .skip _ _) ?_); refine awp_skip ?_))
  all_goals (try (refine ⟨.inr rfl, ?_⟩; simp [Hands, Try.results37, szTokenizer]))
  all_goals (repeat clear hK K)
  all_goals (
    (try simp (disch := omega) only [wrap64] at *)
    (try simp only [sub]); (try split); all_goals omega)

theorem eqTokenizer_ok (a b : DTokenizer) (hs : szTokenizer a ≤ 1048576) : Ok Try.prog 54 [.agg (eTokenizer a), .agg (eTokenizer b)] (.bool (decide (a = b))) := by
  simp only [szTokenizer] at hs
  refine ok_of_awp Try.mix Try.func54 rfl ?_
  simp only [Try.ntmps54, List.length_cons, List.length_nil, Nat.reduceSub, Nat.reduceAdd, List.replicate_succ, List.replicate_zero, List.cons_append, List.nil_append]
  repeat' (first
    | ((with_reducible refine idp (p := awpL _ _ (_ :: _) _ _) ?_); refine awpL_cons rfl fun K hK => ?_; simp [-Bool.exists_bool, aop]; first | ((try simp (disch := omega) only [wrap64]); refine hK _ ?_; clear hK K))
    | ((with_reducible refine idp (p := awpL _ _ (_ :: _) _ _) ?_); refine awpL_take rfl ?_ ?_; (focus (simp [guardA]; done)); intro K hK; simp [-Bool.exists_bool, aop]; first | ((try simp (disch := omega) only [wrap64]); refine hK _ ?_; clear hK K))
    | ((with_reducible refine idp (p := awpL _ _ (_ :: _) _ _) ?_); refine awpL_skip rfl ?_ ?_; (focus (simp [guardA]; done)); simp only [AS.put, List.set_cons_succ, List.set_cons_zero])
    | ((with_reducible refine idp (p := awpL _ _ (_ :: _) _ _) ?_); refine awpL_split rfl rfl rfl (fun hc => ?_) (fun hc => ?_) <;> simp only [List.set_cons_succ, List.set_cons_zero])
    | ((with_reducible refine idp (p := dwalk _ _ _ _ _ _ (_ :: _) _ _) ?_); refine dwalk_cons rfl rfl (by simp [Region.binds]; rfl) (by decide) (by simp [Region.binds]; rfl) (by simp; rfl) fun K hK => ?_; simp [-Bool.exists_bool, aop]; first | ((try simp (disch := omega) only [wrap64]); refine hK _ (by simp) ?_; clear hK K; simp))
    | ((with_reducible refine idp (p := awpL _ _ [] _ _) ?_); refine awpL_nil ?_)
    | ((with_reducible refine idp (p := awp _ (.region _ _ true) _ _) ?_); refine awp_drawn (by decide) ?_)
    | ((with_reducible refine idp (p := dwalk _ _ _ _ _ _ [] _ _) ?_); refine dwalk_nil (by simp; rfl) (by simp; rfl) ?_)
    | ((with_reducible refine idp (p := awp _ (.seq _ _) _ _) ?_); refine awp_seq fun K hK => ?_)
    | ((with_reducible refine idp (p := awp _ (.region _ _ false) _ _) ?_); refine awp_region ?_)
    | ((with_reducible refine idp (p := AThen _ _ .normal _) ?_); refine awp_then (by assumption) ?_)
    | ((with_reducible refine idp (p := AThen _ _ .ret _) ?_); refine awp_then_ret ?_)
    | ((with_reducible refine idp (p := AThen _ _ (.exit _) _) ?_); refine awp_then_exit ?_)
    | ((with_reducible refine idp (p := AIn _ _ .normal _) ?_); refine awp_in_normal ?_)
    | ((with_reducible refine idp (p := AIn _ _ .ret _) ?_); refine awp_in_ret ?_)
    | ((with_reducible refine idp (p := AIn _ _ (.exit _) _) ?_); first | refine awp_in_eq ?_ | refine awp_in_ne (by decide) ?_)
    | ((with_reducible refine idp (p := awp _ .ret _ _) ?_); refine awp_ret ?_)
    | ((with_reducible refine idp (p := awp _ (.cond _ _ _) _ _) ?_); (refine awp_cond rfl (fun hc => ?_) (fun hc => ?_) <;> (try simp at hc) <;> (try (exfalso; omega))))
    | ((with_reducible refine idp (p := awp _ (.block _ _) _ _) ?_); refine awp_block ?_)
    | ((with_reducible refine idp (p := awp _ (.exit _) _ _) ?_); refine awp_exit ?_)
    | ((with_reducible refine idp (p := awp _ .skip _ _) ?_); refine awp_skip ?_))
  all_goals (try (refine ⟨.inr rfl, ?_⟩; simp [Hands, Try.results54]))
  all_goals (repeat clear hK K)
  all_goals ((repeat clear hK K); cases a; cases b; simp_all)

theorem toIntS_ok (l : List Int) (hs : l.length ≤ 1048576) : Ok Try.prog 79 [.sl .view 1 (l.map eInt)] (.sl .own 1 (l.map eInt)) := by
  have hl : l.length ≤ 1048576 := by (try simp only [szL] at hs); omega
  have hb : (8 : Int) * (l.length : Int) ≤ 281474976710656 := by omega
  have hb2 : (l.length : Int) ≤ 9223372036854775807 := by omega
  generalize hz : ([.int .i64 0] : List AV) = z
  have hz0 := fillL_zero z (l.map eInt)
  rw [List.length_map] at hz0
  refine ok_of_awp Try.mix Try.func79 rfl ?_
  simp only [Try.ntmps79, List.length_cons, List.length_nil, Nat.reduceSub, Nat.reduceAdd, List.replicate_succ, List.replicate_zero, List.cons_append, List.nil_append]
  repeat' (first
    | ((with_reducible refine idp (p := awpL _ _ (_ :: _) _ _) ?_); refine awpL_cons rfl fun K hK => ?_; simp [-Bool.exists_bool, aop, hb, hb2]; first | ((try simp (disch := omega) only [wrap64]); refine hK _ ?_; clear hK K))
    | ((with_reducible refine idp (p := awpL _ _ (_ :: _) _ _) ?_); refine awpL_take rfl ?_ ?_; (focus (simp [guardA, hb, hb2]; done)); intro K hK; simp [-Bool.exists_bool, aop, hb, hb2]; first | ((try simp (disch := omega) only [wrap64]); refine hK _ ?_; clear hK K))
    | ((with_reducible refine idp (p := awpL _ _ (_ :: _) _ _) ?_); refine awpL_skip rfl ?_ ?_; (focus (simp [guardA, hb, hb2]; done)); simp only [AS.put, List.set_cons_succ, List.set_cons_zero])
    | ((with_reducible refine idp (p := awpL _ _ (_ :: _) _ _) ?_); refine awpL_split rfl rfl rfl (fun hc => ?_) (fun hc => ?_) <;> simp only [List.set_cons_succ, List.set_cons_zero])
    | ((with_reducible refine idp (p := dwalk _ _ _ _ _ _ (_ :: _) _ _) ?_); refine dwalk_cons rfl rfl (by simp [Region.binds]; rfl) (by decide) (by simp [Region.binds]; rfl) (by simp; rfl) fun K hK => ?_; simp [-Bool.exists_bool, aop, hb, hb2]; first | ((try simp (disch := omega) only [wrap64]); refine hK _ (by simp) ?_; clear hK K; simp))
    | ((with_reducible refine idp (p := awpL _ _ [] _ _) ?_); refine awpL_nil ?_)
    | ((with_reducible refine idp (p := awp _ (.region _ _ true) _ _) ?_); refine awp_drawn (by decide) ?_)
    | ((with_reducible refine idp (p := dwalk _ _ _ _ _ _ [] _ _) ?_); refine dwalk_nil (by simp; rfl) (by simp; rfl) ?_)
    | ((with_reducible refine idp (p := awp _ (.seq _ _) _ _) ?_); refine awp_seq fun K hK => ?_)
    | ((with_reducible refine idp (p := awp _ (.region _ _ false) _ _) ?_); refine awp_region ?_)
    | ((with_reducible refine idp (p := AThen _ _ .normal _) ?_); refine awp_then (by assumption) ?_)
    | ((with_reducible refine idp (p := AThen _ _ .ret _) ?_); refine awp_then_ret ?_)
    | ((with_reducible refine idp (p := AThen _ _ (.exit _) _) ?_); refine awp_then_exit ?_)
    | ((with_reducible refine idp (p := AIn _ _ .normal _) ?_); refine awp_in_normal ?_)
    | ((with_reducible refine idp (p := AIn _ _ .ret _) ?_); refine awp_in_ret ?_)
    | ((with_reducible refine idp (p := AIn _ _ (.exit _) _) ?_); first | refine awp_in_eq ?_ | refine awp_in_ne (by decide) ?_)
    | ((with_reducible refine idp (p := awp _ .ret _ _) ?_); refine awp_ret ?_)
    | ((with_reducible refine idp (p := awp _ (.cond _ _ _) _ _) ?_); (refine awp_cond rfl (fun hc => ?_) (fun hc => ?_) <;> (try simp at hc) <;> (try (exfalso; omega))))
    | ((with_reducible refine idp (p := awp _ (.block _ _) _ _) ?_); refine awp_block ?_)
    | ((with_reducible refine idp (p := awp _ (.exit _) _ _) ?_); refine awp_exit ?_)
    | ((with_reducible refine idp (p := awp _ .skip _ _) ?_); refine awp_skip ?_))
  refine awp_loop' (ι := { k : Nat // k ≤ l.length }) (fun t o i => ⟨upds t [(4, .int .i64 i.1)], [⟨true, false, 1, 1, fillL z (l.map eInt) i.1⟩]⟩)
    (fun i => l.length - i.1) ⟨0, by simp⟩ (weak_o (by simp [hz, hz0]) (by simp)) ?_
  rintro ⟨k, hk⟩ K1 hK1
  simp only [upds, List.set_cons_succ, List.set_cons_zero] at hK1 ⊢
  have hk1 : IntKind.i64.wrap ((k : Int) + 1) = ((k + 1 : Nat) : Int) := by rw [wrap64] <;> omega
  by_cases hlt : k < l.length
  · have hg := List.getElem?_eq_getElem hlt
    have hfg := fillL_get z (l.map eInt) k (by simpa using hlt)
    have hfs := fillL_set z (l.map eInt) k (by simpa using hlt)
    rw [List.getElem_map] at hfs
    simp only [eInt] at hfs
    have hzl : z.length = 1 := by rw [← hz]; rfl
    have hzd : z.drop 1 = [] := by rw [← hz]; rfl
    repeat' (first
      | ((with_reducible refine idp (p := awpL _ _ (_ :: _) _ _) ?_); refine awpL_cons rfl fun K hK => ?_; simp [-Bool.exists_bool, aop, hk1, hg, hfg, hzl, hzd, hfs]; first | ((try simp (disch := omega) only [wrap64]); refine hK _ ?_; clear hK K))
      | ((with_reducible refine idp (p := awpL _ _ (_ :: _) _ _) ?_); refine awpL_cons rfl fun K hK => ?_; simp [-Bool.exists_bool, aop, hk1, hg, hlt]; first | ((try simp (disch := omega) only [wrap64]); refine hK _ ?_; clear hK K))
      | ((with_reducible refine idp (p := awpL _ _ (_ :: _) _ _) ?_); refine awpL_take rfl ?_ ?_; (focus (simp [guardA, hk1, hg, hfg, hzl, hzd, hfs]; done)); intro K hK; simp [-Bool.exists_bool, aop, hk1, hg, hfg, hzl, hzd, hfs]; first | ((try simp (disch := omega) only [wrap64]); refine hK _ ?_; clear hK K))
      | ((with_reducible refine idp (p := awpL _ _ (_ :: _) _ _) ?_); refine awpL_take rfl ?_ ?_; (focus (simp [guardA, hk1, hg, hlt]; done)); intro K hK; simp [-Bool.exists_bool, aop, hk1, hg, hlt]; first | ((try simp (disch := omega) only [wrap64]); refine hK _ ?_; clear hK K))
      | ((with_reducible refine idp (p := awpL _ _ (_ :: _) _ _) ?_); refine awpL_skip rfl ?_ ?_; (focus (simp [guardA, hk1, hg, hlt]; done)); simp only [AS.put, List.set_cons_succ, List.set_cons_zero])
      | ((with_reducible refine idp (p := awpL _ _ (_ :: _) _ _) ?_); refine awpL_split rfl rfl rfl (fun hc => ?_) (fun hc => ?_) <;> simp only [List.set_cons_succ, List.set_cons_zero])
      | ((with_reducible refine idp (p := dwalk _ _ _ _ _ _ (_ :: _) _ _) ?_); refine dwalk_cons rfl rfl (by simp [Region.binds]; rfl) (by decide) (by simp [Region.binds]; rfl) (by simp; rfl) fun K hK => ?_; simp [-Bool.exists_bool, aop, hk1, hg, hfg, hzl, hzd, hfs]; first | ((try simp (disch := omega) only [wrap64]); refine hK _ (by simp) ?_; clear hK K; simp))
      | ((with_reducible refine idp (p := dwalk _ _ _ _ _ _ (_ :: _) _ _) ?_); refine dwalk_cons rfl rfl (by simp [Region.binds]; rfl) (by decide) (by simp [Region.binds]; rfl) (by simp; rfl) fun K hK => ?_; simp [-Bool.exists_bool, aop, hk1, hg, hlt]; first | ((try simp (disch := omega) only [wrap64]); refine hK _ (by simp) ?_; clear hK K; simp))
      | ((with_reducible refine idp (p := awpL _ _ [] _ _) ?_); refine awpL_nil ?_)
      | ((with_reducible refine idp (p := awp _ (.region _ _ true) _ _) ?_); refine awp_drawn (by decide) ?_)
      | ((with_reducible refine idp (p := dwalk _ _ _ _ _ _ [] _ _) ?_); refine dwalk_nil (by simp; rfl) (by simp; rfl) ?_)
      | ((with_reducible refine idp (p := awp _ (.seq _ _) _ _) ?_); refine awp_seq fun K hK => ?_)
      | ((with_reducible refine idp (p := awp _ (.region _ _ false) _ _) ?_); refine awp_region ?_)
      | ((with_reducible refine idp (p := AThen _ _ .normal _) ?_); refine awp_then (by assumption) ?_)
      | ((with_reducible refine idp (p := AThen _ _ .ret _) ?_); refine awp_then_ret ?_)
      | ((with_reducible refine idp (p := AThen _ _ (.exit _) _) ?_); refine awp_then_exit ?_)
      | ((with_reducible refine idp (p := AIn _ _ .normal _) ?_); refine awp_in_normal ?_)
      | ((with_reducible refine idp (p := AIn _ _ .ret _) ?_); refine awp_in_ret ?_)
      | ((with_reducible refine idp (p := AIn _ _ (.exit _) _) ?_); first | refine awp_in_eq ?_ | refine awp_in_ne (by decide) ?_)
      | ((with_reducible refine idp (p := awp _ .ret _ _) ?_); refine awp_ret ?_)
      | ((with_reducible refine idp (p := awp _ (.cond _ _ _) _ _) ?_); (refine awp_cond rfl (fun hc => ?_) (fun hc => ?_) <;> (try simp at hc) <;> (try (exfalso; omega))))
      | ((with_reducible refine idp (p := awp _ (.block _ _) _ _) ?_); refine awp_block ?_)
      | ((with_reducible refine idp (p := awp _ (.exit _) _ _) ?_); refine awp_exit ?_)
      | ((with_reducible refine idp (p := awp _ .skip _ _) ?_); refine awp_skip ?_))
    refine hK1 _ ⟨k + 1, by omega⟩ (weak_take 1 rfl ?_ (by simp) (by simp)) (by simp only; omega)
    simp
  · repeat' (first
      | ((with_reducible refine idp (p := awpL _ _ (_ :: _) _ _) ?_); refine awpL_cons rfl fun K hK => ?_; simp [-Bool.exists_bool, aop, hk1]; first | ((try simp (disch := omega) only [wrap64]); refine hK _ ?_; clear hK K))
      | ((with_reducible refine idp (p := awpL _ _ (_ :: _) _ _) ?_); refine awpL_take rfl ?_ ?_; (focus (simp [guardA, hk1]; done)); intro K hK; simp [-Bool.exists_bool, aop, hk1]; first | ((try simp (disch := omega) only [wrap64]); refine hK _ ?_; clear hK K))
      | ((with_reducible refine idp (p := awpL _ _ (_ :: _) _ _) ?_); refine awpL_skip rfl ?_ ?_; (focus (simp [guardA, hk1]; done)); simp only [AS.put, List.set_cons_succ, List.set_cons_zero])
      | ((with_reducible refine idp (p := awpL _ _ (_ :: _) _ _) ?_); refine awpL_split rfl rfl rfl (fun hc => ?_) (fun hc => ?_) <;> simp only [List.set_cons_succ, List.set_cons_zero])
      | ((with_reducible refine idp (p := dwalk _ _ _ _ _ _ (_ :: _) _ _) ?_); refine dwalk_cons rfl rfl (by simp [Region.binds]; rfl) (by decide) (by simp [Region.binds]; rfl) (by simp; rfl) fun K hK => ?_; simp [-Bool.exists_bool, aop, hk1]; first | ((try simp (disch := omega) only [wrap64]); refine hK _ (by simp) ?_; clear hK K; simp))
      | ((with_reducible refine idp (p := awpL _ _ [] _ _) ?_); refine awpL_nil ?_)
      | ((with_reducible refine idp (p := awp _ (.region _ _ true) _ _) ?_); refine awp_drawn (by decide) ?_)
      | ((with_reducible refine idp (p := dwalk _ _ _ _ _ _ [] _ _) ?_); refine dwalk_nil (by simp; rfl) (by simp; rfl) ?_)
      | ((with_reducible refine idp (p := awp _ (.seq _ _) _ _) ?_); refine awp_seq fun K hK => ?_)
      | ((with_reducible refine idp (p := awp _ (.region _ _ false) _ _) ?_); refine awp_region ?_)
      | ((with_reducible refine idp (p := AThen _ _ .normal _) ?_); refine awp_then (by assumption) ?_)
      | ((with_reducible refine idp (p := AThen _ _ .ret _) ?_); refine awp_then_ret ?_)
      | ((with_reducible refine idp (p := AThen _ _ (.exit _) _) ?_); refine awp_then_exit ?_)
      | ((with_reducible refine idp (p := AIn _ _ .normal _) ?_); refine awp_in_normal ?_)
      | ((with_reducible refine idp (p := AIn _ _ .ret _) ?_); refine awp_in_ret ?_)
      | ((with_reducible refine idp (p := AIn _ _ (.exit _) _) ?_); first | refine awp_in_eq ?_ | refine awp_in_ne (by decide) ?_)
      | ((with_reducible refine idp (p := awp _ .ret _ _) ?_); refine awp_ret ?_)
      | ((with_reducible refine idp (p := awp _ (.cond _ _ _) _ _) ?_); (refine awp_cond rfl (fun hc => ?_) (fun hc => ?_) <;> (try simp at hc) <;> (try (exfalso; omega))))
      | ((with_reducible refine idp (p := awp _ (.block _ _) _ _) ?_); refine awp_block ?_)
      | ((with_reducible refine idp (p := awp _ (.exit _) _ _) ?_); refine awp_exit ?_)
      | ((with_reducible refine idp (p := awp _ .skip _ _) ?_); refine awp_skip ?_))
    have hfa := fillL_all z (l.map eInt) k (by simpa using hlt)
    all_goals (try (refine ⟨.inr rfl, ?_⟩; simp [Hands, Try.results79, hfa]))
    all_goals (repeat clear hK K)

theorem szIntS_ok (l : List Int) (n : Int) (h0 : 0 ≤ n) (h1 : n ≤ 1048576) (hw : l.length ≤ 9223372036854775807) : Ok Try.prog 74 [.sl .view 1 (l.map eInt), .int .i64 n] (.int .i64 (sub n (l.length))) := by
  refine ok_of_awp Try.mix Try.func74 rfl ?_
  simp only [Try.ntmps74, List.length_cons, List.length_nil, Nat.reduceSub, Nat.reduceAdd, List.replicate_succ, List.replicate_zero, List.cons_append, List.nil_append]
  repeat' (first
    | ((with_reducible refine idp (p := awpL _ _ (_ :: _) _ _) ?_); refine awpL_cons rfl fun K hK => ?_; simp [-Bool.exists_bool, aop]; first | ((try simp (disch := omega) only [wrap64]); refine hK _ ?_; clear hK K))
    | ((with_reducible refine idp (p := awpL _ _ (_ :: _) _ _) ?_); refine awpL_take rfl ?_ ?_; (focus (simp [guardA]; done)); intro K hK; simp [-Bool.exists_bool, aop]; first | ((try simp (disch := omega) only [wrap64]); refine hK _ ?_; clear hK K))
    | ((with_reducible refine idp (p := awpL _ _ (_ :: _) _ _) ?_); refine awpL_skip rfl ?_ ?_; (focus (simp [guardA]; done)); simp only [AS.put, List.set_cons_succ, List.set_cons_zero])
    | ((with_reducible refine idp (p := awpL _ _ (_ :: _) _ _) ?_); refine awpL_split rfl rfl rfl (fun hc => ?_) (fun hc => ?_) <;> simp only [List.set_cons_succ, List.set_cons_zero])
    | ((with_reducible refine idp (p := dwalk _ _ _ _ _ _ (_ :: _) _ _) ?_); refine dwalk_cons rfl rfl (by simp [Region.binds]; rfl) (by decide) (by simp [Region.binds]; rfl) (by simp; rfl) fun K hK => ?_; simp [-Bool.exists_bool, aop]; first | ((try simp (disch := omega) only [wrap64]); refine hK _ (by simp) ?_; clear hK K; simp))
    | ((with_reducible refine idp (p := awpL _ _ [] _ _) ?_); refine awpL_nil ?_)
    | ((with_reducible refine idp (p := awp _ (.region _ _ true) _ _) ?_); refine awp_drawn (by decide) ?_)
    | ((with_reducible refine idp (p := dwalk _ _ _ _ _ _ [] _ _) ?_); refine dwalk_nil (by simp; rfl) (by simp; rfl) ?_)
    | ((with_reducible refine idp (p := awp _ (.seq _ _) _ _) ?_); refine awp_seq fun K hK => ?_)
    | ((with_reducible refine idp (p := awp _ (.region _ _ false) _ _) ?_); refine awp_region ?_)
    | ((with_reducible refine idp (p := AThen _ _ .normal _) ?_); refine awp_then (by assumption) ?_)
    | ((with_reducible refine idp (p := AThen _ _ .ret _) ?_); refine awp_then_ret ?_)
    | ((with_reducible refine idp (p := AThen _ _ (.exit _) _) ?_); refine awp_then_exit ?_)
    | ((with_reducible refine idp (p := AIn _ _ .normal _) ?_); refine awp_in_normal ?_)
    | ((with_reducible refine idp (p := AIn _ _ .ret _) ?_); refine awp_in_ret ?_)
    | ((with_reducible refine idp (p := AIn _ _ (.exit _) _) ?_); first | refine awp_in_eq ?_ | refine awp_in_ne (by decide) ?_)
    | ((with_reducible refine idp (p := awp _ .ret _ _) ?_); refine awp_ret ?_)
    | ((with_reducible refine idp (p := awp _ (.cond _ _ _) _ _) ?_); (refine awp_cond rfl (fun hc => ?_) (fun hc => ?_) <;> (try simp at hc) <;> (try (exfalso; omega))))
    | ((with_reducible refine idp (p := awp _ (.block _ _) _ _) ?_); refine awp_block ?_)
    | ((with_reducible refine idp (p := awp _ (.exit _) _ _) ?_); refine awp_exit ?_)
    | ((with_reducible refine idp (p := awp _ .skip _ _) ?_); refine awp_skip ?_))
  all_goals (try (refine ⟨.inr rfl, ?_⟩; simp [Hands, Try.results74]))
  all_goals (repeat clear hK K)
  all_goals (first | omega | ((repeat clear hK K); simp only [sub] at *; grind) | ((repeat clear hK K); simp only [sub, IntKind.wrap_i64] at *; grind))

theorem eqIntS_ok (a b : List Int) (hs : a.length ≤ 1048576) : Ok Try.prog 28 [.sl .view 1 (a.map eInt), .sl .view 1 (b.map eInt)] (.bool (decide (a = b))) := by
  have hl : a.length ≤ 1048576 := by (try simp only [szL] at hs); omega
  refine ok_of_awp Try.mix Try.func28 rfl ?_
  simp only [Try.ntmps28, List.length_cons, List.length_nil, Nat.reduceSub, Nat.reduceAdd, List.replicate_succ, List.replicate_zero, List.cons_append, List.nil_append]
  repeat' (first
    | ((with_reducible refine idp (p := awpL _ _ (_ :: _) _ _) ?_); refine awpL_cons rfl fun K hK => ?_; simp [-Bool.exists_bool, aop]; first | ((try simp (disch := omega) only [wrap64]); refine hK _ ?_; clear hK K))
    | ((with_reducible refine idp (p := awpL _ _ (_ :: _) _ _) ?_); refine awpL_take rfl ?_ ?_; (focus (simp [guardA]; done)); intro K hK; simp [-Bool.exists_bool, aop]; first | ((try simp (disch := omega) only [wrap64]); refine hK _ ?_; clear hK K))
    | ((with_reducible refine idp (p := awpL _ _ (_ :: _) _ _) ?_); refine awpL_skip rfl ?_ ?_; (focus (simp [guardA]; done)); simp only [AS.put, List.set_cons_succ, List.set_cons_zero])
    | ((with_reducible refine idp (p := awpL _ _ (_ :: _) _ _) ?_); refine awpL_split rfl rfl rfl (fun hc => ?_) (fun hc => ?_) <;> simp only [List.set_cons_succ, List.set_cons_zero])
    | ((with_reducible refine idp (p := dwalk _ _ _ _ _ _ (_ :: _) _ _) ?_); refine dwalk_cons rfl rfl (by simp [Region.binds]; rfl) (by decide) (by simp [Region.binds]; rfl) (by simp; rfl) fun K hK => ?_; simp [-Bool.exists_bool, aop]; first | ((try simp (disch := omega) only [wrap64]); refine hK _ (by simp) ?_; clear hK K; simp))
    | ((with_reducible refine idp (p := awpL _ _ [] _ _) ?_); refine awpL_nil ?_)
    | ((with_reducible refine idp (p := awp _ (.region _ _ true) _ _) ?_); refine awp_drawn (by decide) ?_)
    | ((with_reducible refine idp (p := dwalk _ _ _ _ _ _ [] _ _) ?_); refine dwalk_nil (by simp; rfl) (by simp; rfl) ?_)
    | ((with_reducible refine idp (p := awp _ (.seq _ _) _ _) ?_); refine awp_seq fun K hK => ?_)
    | ((with_reducible refine idp (p := awp _ (.region _ _ false) _ _) ?_); refine awp_region ?_)
    | ((with_reducible refine idp (p := AThen _ _ .normal _) ?_); refine awp_then (by assumption) ?_)
    | ((with_reducible refine idp (p := AThen _ _ .ret _) ?_); refine awp_then_ret ?_)
    | ((with_reducible refine idp (p := AThen _ _ (.exit _) _) ?_); refine awp_then_exit ?_)
    | ((with_reducible refine idp (p := AIn _ _ .normal _) ?_); refine awp_in_normal ?_)
    | ((with_reducible refine idp (p := AIn _ _ .ret _) ?_); refine awp_in_ret ?_)
    | ((with_reducible refine idp (p := AIn _ _ (.exit _) _) ?_); first | refine awp_in_eq ?_ | refine awp_in_ne (by decide) ?_)
    | ((with_reducible refine idp (p := awp _ .ret _ _) ?_); refine awp_ret ?_)
    | ((with_reducible refine idp (p := awp _ (.cond _ _ _) _ _) ?_); (refine awp_cond rfl (fun hc => ?_) (fun hc => ?_) <;> (try simp at hc) <;> (try (exfalso; omega))))
    | ((with_reducible refine idp (p := awp _ (.block _ _) _ _) ?_); refine awp_block ?_)
    | ((with_reducible refine idp (p := awp _ (.exit _) _ _) ?_); refine awp_exit ?_)
    | ((with_reducible refine idp (p := awp _ .skip _ _) ?_); refine awp_skip ?_))
  · all_goals (try (refine ⟨.inr rfl, ?_⟩; simp [Hands, Try.results28]))
    all_goals (repeat clear hK K)
    intro h; subst h; exact absurd rfl hc
  · have hlen : a.length = b.length := by omega
    refine awp_loop' (ι := { k : Nat // k ≤ a.length ∧ a.take k = b.take k }) (fun t o i => ⟨upds t [(5, .int .i64 i.1)], []⟩)
      (fun i => a.length - i.1) ⟨0, by simp⟩ (weak_o (by simp) (by simp)) ?_
    rintro ⟨k, hk, hpre⟩ K1 hK1
    simp only [upds, List.set_cons_succ, List.set_cons_zero] at hK1 ⊢
    have hk1 : IntKind.i64.wrap ((k : Int) + 1) = ((k + 1 : Nat) : Int) := by rw [wrap64] <;> omega
    by_cases hlt : k < a.length
    · have hg := List.getElem?_eq_getElem hlt
      have hltb : k < b.length := by omega
      have hgb := List.getElem?_eq_getElem hltb
      repeat' (first
        | ((with_reducible refine idp (p := awpL _ _ (_ :: _) _ _) ?_); refine awpL_cons rfl fun K hK => ?_; simp [-Bool.exists_bool, aop, hk1, hg, hlt, hgb, hltb]; first | ((try simp (disch := omega) only [wrap64]); refine hK _ ?_; clear hK K))
        | ((with_reducible refine idp (p := awpL _ _ (_ :: _) _ _) ?_); refine awpL_take rfl ?_ ?_; (focus (simp [guardA, hk1, hg, hlt, hgb, hltb]; done)); intro K hK; simp [-Bool.exists_bool, aop, hk1, hg, hlt, hgb, hltb]; first | ((try simp (disch := omega) only [wrap64]); refine hK _ ?_; clear hK K))
        | ((with_reducible refine idp (p := awpL _ _ (_ :: _) _ _) ?_); refine awpL_skip rfl ?_ ?_; (focus (simp [guardA, hk1, hg, hlt, hgb, hltb]; done)); simp only [AS.put, List.set_cons_succ, List.set_cons_zero])
        | ((with_reducible refine idp (p := awpL _ _ (_ :: _) _ _) ?_); refine awpL_split rfl rfl rfl (fun hc => ?_) (fun hc => ?_) <;> simp only [List.set_cons_succ, List.set_cons_zero])
        | ((with_reducible refine idp (p := dwalk _ _ _ _ _ _ (_ :: _) _ _) ?_); refine dwalk_cons rfl rfl (by simp [Region.binds]; rfl) (by decide) (by simp [Region.binds]; rfl) (by simp; rfl) fun K hK => ?_; simp [-Bool.exists_bool, aop, hk1, hg, hlt, hgb, hltb]; first | ((try simp (disch := omega) only [wrap64]); refine hK _ (by simp) ?_; clear hK K; simp))
        | ((with_reducible refine idp (p := awpL _ _ [] _ _) ?_); refine awpL_nil ?_)
        | ((with_reducible refine idp (p := awp _ (.region _ _ true) _ _) ?_); refine awp_drawn (by decide) ?_)
        | ((with_reducible refine idp (p := dwalk _ _ _ _ _ _ [] _ _) ?_); refine dwalk_nil (by simp; rfl) (by simp; rfl) ?_)
        | ((with_reducible refine idp (p := awp _ (.seq _ _) _ _) ?_); refine awp_seq fun K hK => ?_)
        | ((with_reducible refine idp (p := awp _ (.region _ _ false) _ _) ?_); refine awp_region ?_)
        | ((with_reducible refine idp (p := AThen _ _ .normal _) ?_); refine awp_then (by assumption) ?_)
        | ((with_reducible refine idp (p := AThen _ _ .ret _) ?_); refine awp_then_ret ?_)
        | ((with_reducible refine idp (p := AThen _ _ (.exit _) _) ?_); refine awp_then_exit ?_)
        | ((with_reducible refine idp (p := AIn _ _ .normal _) ?_); refine awp_in_normal ?_)
        | ((with_reducible refine idp (p := AIn _ _ .ret _) ?_); refine awp_in_ret ?_)
        | ((with_reducible refine idp (p := AIn _ _ (.exit _) _) ?_); first | refine awp_in_eq ?_ | refine awp_in_ne (by decide) ?_)
        | ((with_reducible refine idp (p := awp _ .ret _ _) ?_); refine awp_ret ?_)
        | ((with_reducible refine idp (p := awp _ (.cond _ _ _) _ _) ?_); (refine awp_cond rfl (fun hc => ?_) (fun hc => ?_) <;> (try simp at hc) <;> (try (exfalso; omega))))
        | ((with_reducible refine idp (p := awp _ (.block _ _) _ _) ?_); refine awp_block ?_)
        | ((with_reducible refine idp (p := awp _ (.exit _) _ _) ?_); refine awp_exit ?_)
        | ((with_reducible refine idp (p := awp _ .skip _ _) ?_); refine awp_skip ?_))
      · all_goals (try (refine ⟨.inr rfl, ?_⟩; simp [Hands, Try.results28]))
        all_goals (repeat clear hK K)
        intro h; subst h; exact hc rfl
      · have hts : a.take (k + 1) = b.take (k + 1) := by
          rw [List.take_succ_eq_append_getElem hlt, List.take_succ_eq_append_getElem hltb, hpre, hc]
        refine hK1 _ ⟨k + 1, by omega, hts⟩ (weak_o (by simp) (by simp)) (by simp only; omega)
    · have hka : a.length ≤ k := by omega
      rw [List.take_of_length_le hka, List.take_of_length_le (by omega)] at hpre
      subst hpre
      repeat' (first
        | ((with_reducible refine idp (p := awpL _ _ (_ :: _) _ _) ?_); refine awpL_cons rfl fun K hK => ?_; simp [-Bool.exists_bool, aop, hk1]; first | ((try simp (disch := omega) only [wrap64]); refine hK _ ?_; clear hK K))
        | ((with_reducible refine idp (p := awpL _ _ (_ :: _) _ _) ?_); refine awpL_take rfl ?_ ?_; (focus (simp [guardA, hk1]; done)); intro K hK; simp [-Bool.exists_bool, aop, hk1]; first | ((try simp (disch := omega) only [wrap64]); refine hK _ ?_; clear hK K))
        | ((with_reducible refine idp (p := awpL _ _ (_ :: _) _ _) ?_); refine awpL_skip rfl ?_ ?_; (focus (simp [guardA, hk1]; done)); simp only [AS.put, List.set_cons_succ, List.set_cons_zero])
        | ((with_reducible refine idp (p := awpL _ _ (_ :: _) _ _) ?_); refine awpL_split rfl rfl rfl (fun hc => ?_) (fun hc => ?_) <;> simp only [List.set_cons_succ, List.set_cons_zero])
        | ((with_reducible refine idp (p := dwalk _ _ _ _ _ _ (_ :: _) _ _) ?_); refine dwalk_cons rfl rfl (by simp [Region.binds]; rfl) (by decide) (by simp [Region.binds]; rfl) (by simp; rfl) fun K hK => ?_; simp [-Bool.exists_bool, aop, hk1]; first | ((try simp (disch := omega) only [wrap64]); refine hK _ (by simp) ?_; clear hK K; simp))
        | ((with_reducible refine idp (p := awpL _ _ [] _ _) ?_); refine awpL_nil ?_)
        | ((with_reducible refine idp (p := awp _ (.region _ _ true) _ _) ?_); refine awp_drawn (by decide) ?_)
        | ((with_reducible refine idp (p := dwalk _ _ _ _ _ _ [] _ _) ?_); refine dwalk_nil (by simp; rfl) (by simp; rfl) ?_)
        | ((with_reducible refine idp (p := awp _ (.seq _ _) _ _) ?_); refine awp_seq fun K hK => ?_)
        | ((with_reducible refine idp (p := awp _ (.region _ _ false) _ _) ?_); refine awp_region ?_)
        | ((with_reducible refine idp (p := AThen _ _ .normal _) ?_); refine awp_then (by assumption) ?_)
        | ((with_reducible refine idp (p := AThen _ _ .ret _) ?_); refine awp_then_ret ?_)
        | ((with_reducible refine idp (p := AThen _ _ (.exit _) _) ?_); refine awp_then_exit ?_)
        | ((with_reducible refine idp (p := AIn _ _ .normal _) ?_); refine awp_in_normal ?_)
        | ((with_reducible refine idp (p := AIn _ _ .ret _) ?_); refine awp_in_ret ?_)
        | ((with_reducible refine idp (p := AIn _ _ (.exit _) _) ?_); first | refine awp_in_eq ?_ | refine awp_in_ne (by decide) ?_)
        | ((with_reducible refine idp (p := awp _ .ret _ _) ?_); refine awp_ret ?_)
        | ((with_reducible refine idp (p := awp _ (.cond _ _ _) _ _) ?_); (refine awp_cond rfl (fun hc => ?_) (fun hc => ?_) <;> (try simp at hc) <;> (try (exfalso; omega))))
        | ((with_reducible refine idp (p := awp _ (.block _ _) _ _) ?_); refine awp_block ?_)
        | ((with_reducible refine idp (p := awp _ (.exit _) _ _) ?_); refine awp_exit ?_)
        | ((with_reducible refine idp (p := awp _ .skip _ _) ?_); refine awp_skip ?_))
      all_goals (try (refine ⟨.inr rfl, ?_⟩; simp [Hands, Try.results28]))
      all_goals (repeat clear hK K)

theorem toStringS_ok (l : List Str) (hs : szL szStr l ≤ 1048576) : Ok Try.prog 51 [.sl .view 1 (l.map eStr)] (.sl .own 1 (l.map eStr)) := by
  have hl : l.length ≤ 1048576 := by (try simp only [szL] at hs); omega
  have hb : (16 : Int) * (l.length : Int) ≤ 281474976710656 := by omega
  have hb2 : (l.length : Int) ≤ 9223372036854775807 := by omega
  generalize hz : ([.str []] : List AV) = z
  have hz0 := fillL_zero z (l.map eStr)
  rw [List.length_map] at hz0
  refine ok_of_awp Try.mix Try.func51 rfl ?_
  simp only [Try.ntmps51, List.length_cons, List.length_nil, Nat.reduceSub, Nat.reduceAdd, List.replicate_succ, List.replicate_zero, List.cons_append, List.nil_append]
  repeat' (first
    | ((with_reducible refine idp (p := awpL _ _ (_ :: _) _ _) ?_); refine awpL_cons rfl fun K hK => ?_; simp [-Bool.exists_bool, aop, hb, hb2]; first | ((try simp (disch := omega) only [wrap64]); refine hK _ ?_; clear hK K))
    | ((with_reducible refine idp (p := awpL _ _ (_ :: _) _ _) ?_); refine awpL_take rfl ?_ ?_; (focus (simp [guardA, hb, hb2]; done)); intro K hK; simp [-Bool.exists_bool, aop, hb, hb2]; first | ((try simp (disch := omega) only [wrap64]); refine hK _ ?_; clear hK K))
    | ((with_reducible refine idp (p := awpL _ _ (_ :: _) _ _) ?_); refine awpL_skip rfl ?_ ?_; (focus (simp [guardA, hb, hb2]; done)); simp only [AS.put, List.set_cons_succ, List.set_cons_zero])
    | ((with_reducible refine idp (p := awpL _ _ (_ :: _) _ _) ?_); refine awpL_split rfl rfl rfl (fun hc => ?_) (fun hc => ?_) <;> simp only [List.set_cons_succ, List.set_cons_zero])
    | ((with_reducible refine idp (p := dwalk _ _ _ _ _ _ (_ :: _) _ _) ?_); refine dwalk_cons rfl rfl (by simp [Region.binds]; rfl) (by decide) (by simp [Region.binds]; rfl) (by simp; rfl) fun K hK => ?_; simp [-Bool.exists_bool, aop, hb, hb2]; first | ((try simp (disch := omega) only [wrap64]); refine hK _ (by simp) ?_; clear hK K; simp))
    | ((with_reducible refine idp (p := awpL _ _ [] _ _) ?_); refine awpL_nil ?_)
    | ((with_reducible refine idp (p := awp _ (.region _ _ true) _ _) ?_); refine awp_drawn (by decide) ?_)
    | ((with_reducible refine idp (p := dwalk _ _ _ _ _ _ [] _ _) ?_); refine dwalk_nil (by simp; rfl) (by simp; rfl) ?_)
    | ((with_reducible refine idp (p := awp _ (.seq _ _) _ _) ?_); refine awp_seq fun K hK => ?_)
    | ((with_reducible refine idp (p := awp _ (.region _ _ false) _ _) ?_); refine awp_region ?_)
    | ((with_reducible refine idp (p := AThen _ _ .normal _) ?_); refine awp_then (by assumption) ?_)
    | ((with_reducible refine idp (p := AThen _ _ .ret _) ?_); refine awp_then_ret ?_)
    | ((with_reducible refine idp (p := AThen _ _ (.exit _) _) ?_); refine awp_then_exit ?_)
    | ((with_reducible refine idp (p := AIn _ _ .normal _) ?_); refine awp_in_normal ?_)
    | ((with_reducible refine idp (p := AIn _ _ .ret _) ?_); refine awp_in_ret ?_)
    | ((with_reducible refine idp (p := AIn _ _ (.exit _) _) ?_); first | refine awp_in_eq ?_ | refine awp_in_ne (by decide) ?_)
    | ((with_reducible refine idp (p := awp _ .ret _ _) ?_); refine awp_ret ?_)
    | ((with_reducible refine idp (p := awp _ (.cond _ _ _) _ _) ?_); (refine awp_cond rfl (fun hc => ?_) (fun hc => ?_) <;> (try simp at hc) <;> (try (exfalso; omega))))
    | ((with_reducible refine idp (p := awp _ (.block _ _) _ _) ?_); refine awp_block ?_)
    | ((with_reducible refine idp (p := awp _ (.exit _) _ _) ?_); refine awp_exit ?_)
    | ((with_reducible refine idp (p := awp _ .skip _ _) ?_); refine awp_skip ?_))
  refine awp_loop' (ι := { k : Nat // k ≤ l.length }) (fun t o i => ⟨upds t [(4, .int .i64 i.1)], [⟨true, false, 1, 1, fillL z (l.map eStr) i.1⟩]⟩)
    (fun i => l.length - i.1) ⟨0, by simp⟩ (weak_o (by simp [hz, hz0]) (by simp)) ?_
  rintro ⟨k, hk⟩ K1 hK1
  simp only [upds, List.set_cons_succ, List.set_cons_zero] at hK1 ⊢
  have hk1 : IntKind.i64.wrap ((k : Int) + 1) = ((k + 1 : Nat) : Int) := by rw [wrap64] <;> omega
  by_cases hlt : k < l.length
  · have hg := List.getElem?_eq_getElem hlt
    have hfg := fillL_get z (l.map eStr) k (by simpa using hlt)
    have hfs := fillL_set z (l.map eStr) k (by simpa using hlt)
    rw [List.getElem_map] at hfs
    simp only [eStr] at hfs
    have hzl : z.length = 1 := by rw [← hz]; rfl
    have hzd : z.drop 1 = [] := by rw [← hz]; rfl
    repeat' (first
      | ((with_reducible refine idp (p := awpL _ _ (_ :: _) _ _) ?_); refine awpL_cons rfl fun K hK => ?_; simp [-Bool.exists_bool, aop, hk1, hg, hfg, hzl, hzd, hfs]; first | ((try simp (disch := omega) only [wrap64]); refine hK _ ?_; clear hK K))
      | ((with_reducible refine idp (p := awpL _ _ (_ :: _) _ _) ?_); refine awpL_cons rfl fun K hK => ?_; simp [-Bool.exists_bool, aop, hk1, hg, hlt]; first | ((try simp (disch := omega) only [wrap64]); refine hK _ ?_; clear hK K))
      | ((with_reducible refine idp (p := awpL _ _ (_ :: _) _ _) ?_); refine awpL_take rfl ?_ ?_; (focus (simp [guardA, hk1, hg, hfg, hzl, hzd, hfs]; done)); intro K hK; simp [-Bool.exists_bool, aop, hk1, hg, hfg, hzl, hzd, hfs]; first | ((try simp (disch := omega) only [wrap64]); refine hK _ ?_; clear hK K))
      | ((with_reducible refine idp (p := awpL _ _ (_ :: _) _ _) ?_); refine awpL_take rfl ?_ ?_; (focus (simp [guardA, hk1, hg, hlt]; done)); intro K hK; simp [-Bool.exists_bool, aop, hk1, hg, hlt]; first | ((try simp (disch := omega) only [wrap64]); refine hK _ ?_; clear hK K))
      | ((with_reducible refine idp (p := awpL _ _ (_ :: _) _ _) ?_); refine awpL_skip rfl ?_ ?_; (focus (simp [guardA, hk1, hg, hlt]; done)); simp only [AS.put, List.set_cons_succ, List.set_cons_zero])
      | ((with_reducible refine idp (p := awpL _ _ (_ :: _) _ _) ?_); refine awpL_split rfl rfl rfl (fun hc => ?_) (fun hc => ?_) <;> simp only [List.set_cons_succ, List.set_cons_zero])
      | ((with_reducible refine idp (p := dwalk _ _ _ _ _ _ (_ :: _) _ _) ?_); refine dwalk_cons rfl rfl (by simp [Region.binds]; rfl) (by decide) (by simp [Region.binds]; rfl) (by simp; rfl) fun K hK => ?_; simp [-Bool.exists_bool, aop, hk1, hg, hfg, hzl, hzd, hfs]; first | ((try simp (disch := omega) only [wrap64]); refine hK _ (by simp) ?_; clear hK K; simp))
      | ((with_reducible refine idp (p := dwalk _ _ _ _ _ _ (_ :: _) _ _) ?_); refine dwalk_cons rfl rfl (by simp [Region.binds]; rfl) (by decide) (by simp [Region.binds]; rfl) (by simp; rfl) fun K hK => ?_; simp [-Bool.exists_bool, aop, hk1, hg, hlt]; first | ((try simp (disch := omega) only [wrap64]); refine hK _ (by simp) ?_; clear hK K; simp))
      | ((with_reducible refine idp (p := awpL _ _ [] _ _) ?_); refine awpL_nil ?_)
      | ((with_reducible refine idp (p := awp _ (.region _ _ true) _ _) ?_); refine awp_drawn (by decide) ?_)
      | ((with_reducible refine idp (p := dwalk _ _ _ _ _ _ [] _ _) ?_); refine dwalk_nil (by simp; rfl) (by simp; rfl) ?_)
      | ((with_reducible refine idp (p := awp _ (.seq _ _) _ _) ?_); refine awp_seq fun K hK => ?_)
      | ((with_reducible refine idp (p := awp _ (.region _ _ false) _ _) ?_); refine awp_region ?_)
      | ((with_reducible refine idp (p := AThen _ _ .normal _) ?_); refine awp_then (by assumption) ?_)
      | ((with_reducible refine idp (p := AThen _ _ .ret _) ?_); refine awp_then_ret ?_)
      | ((with_reducible refine idp (p := AThen _ _ (.exit _) _) ?_); refine awp_then_exit ?_)
      | ((with_reducible refine idp (p := AIn _ _ .normal _) ?_); refine awp_in_normal ?_)
      | ((with_reducible refine idp (p := AIn _ _ .ret _) ?_); refine awp_in_ret ?_)
      | ((with_reducible refine idp (p := AIn _ _ (.exit _) _) ?_); first | refine awp_in_eq ?_ | refine awp_in_ne (by decide) ?_)
      | ((with_reducible refine idp (p := awp _ .ret _ _) ?_); refine awp_ret ?_)
      | ((with_reducible refine idp (p := awp _ (.cond _ _ _) _ _) ?_); (refine awp_cond rfl (fun hc => ?_) (fun hc => ?_) <;> (try simp at hc) <;> (try (exfalso; omega))))
      | ((with_reducible refine idp (p := awp _ (.block _ _) _ _) ?_); refine awp_block ?_)
      | ((with_reducible refine idp (p := awp _ (.exit _) _ _) ?_); refine awp_exit ?_)
      | ((with_reducible refine idp (p := awp _ .skip _ _) ?_); refine awp_skip ?_))
    refine hK1 _ ⟨k + 1, by omega⟩ (weak_take 1 rfl ?_ (by simp) (by simp)) (by simp only; omega)
    simp
  · repeat' (first
      | ((with_reducible refine idp (p := awpL _ _ (_ :: _) _ _) ?_); refine awpL_cons rfl fun K hK => ?_; simp [-Bool.exists_bool, aop, hk1]; first | ((try simp (disch := omega) only [wrap64]); refine hK _ ?_; clear hK K))
      | ((with_reducible refine idp (p := awpL _ _ (_ :: _) _ _) ?_); refine awpL_take rfl ?_ ?_; (focus (simp [guardA, hk1]; done)); intro K hK; simp [-Bool.exists_bool, aop, hk1]; first | ((try simp (disch := omega) only [wrap64]); refine hK _ ?_; clear hK K))
      | ((with_reducible refine idp (p := awpL _ _ (_ :: _) _ _) ?_); refine awpL_skip rfl ?_ ?_; (focus (simp [guardA, hk1]; done)); simp only [AS.put, List.set_cons_succ, List.set_cons_zero])
      | ((with_reducible refine idp (p := awpL _ _ (_ :: _) _ _) ?_); refine awpL_split rfl rfl rfl (fun hc => ?_) (fun hc => ?_) <;> simp only [List.set_cons_succ, List.set_cons_zero])
      | ((with_reducible refine idp (p := dwalk _ _ _ _ _ _ (_ :: _) _ _) ?_); refine dwalk_cons rfl rfl (by simp [Region.binds]; rfl) (by decide) (by simp [Region.binds]; rfl) (by simp; rfl) fun K hK => ?_; simp [-Bool.exists_bool, aop, hk1]; first | ((try simp (disch := omega) only [wrap64]); refine hK _ (by simp) ?_; clear hK K; simp))
      | ((with_reducible refine idp (p := awpL _ _ [] _ _) ?_); refine awpL_nil ?_)
      | ((with_reducible refine idp (p := awp _ (.region _ _ true) _ _) ?_); refine awp_drawn (by decide) ?_)
      | ((with_reducible refine idp (p := dwalk _ _ _ _ _ _ [] _ _) ?_); refine dwalk_nil (by simp; rfl) (by simp; rfl) ?_)
      | ((with_reducible refine idp (p := awp _ (.seq _ _) _ _) ?_); refine awp_seq fun K hK => ?_)
      | ((with_reducible refine idp (p := awp _ (.region _ _ false) _ _) ?_); refine awp_region ?_)
      | ((with_reducible refine idp (p := AThen _ _ .normal _) ?_); refine awp_then (by assumption) ?_)
      | ((with_reducible refine idp (p := AThen _ _ .ret _) ?_); refine awp_then_ret ?_)
      | ((with_reducible refine idp (p := AThen _ _ (.exit _) _) ?_); refine awp_then_exit ?_)
      | ((with_reducible refine idp (p := AIn _ _ .normal _) ?_); refine awp_in_normal ?_)
      | ((with_reducible refine idp (p := AIn _ _ .ret _) ?_); refine awp_in_ret ?_)
      | ((with_reducible refine idp (p := AIn _ _ (.exit _) _) ?_); first | refine awp_in_eq ?_ | refine awp_in_ne (by decide) ?_)
      | ((with_reducible refine idp (p := awp _ .ret _ _) ?_); refine awp_ret ?_)
      | ((with_reducible refine idp (p := awp _ (.cond _ _ _) _ _) ?_); (refine awp_cond rfl (fun hc => ?_) (fun hc => ?_) <;> (try simp at hc) <;> (try (exfalso; omega))))
      | ((with_reducible refine idp (p := awp _ (.block _ _) _ _) ?_); refine awp_block ?_)
      | ((with_reducible refine idp (p := awp _ (.exit _) _ _) ?_); refine awp_exit ?_)
      | ((with_reducible refine idp (p := awp _ .skip _ _) ?_); refine awp_skip ?_))
    have hfa := fillL_all z (l.map eStr) k (by simpa using hlt)
    all_goals (try (refine ⟨.inr rfl, ?_⟩; simp [Hands, Try.results51, hfa]))
    all_goals (repeat clear hK K)

theorem szStringS_ok (l : List Str) (n : Int) (h0 : 0 ≤ n) (h1 : n ≤ 1048576) (hw : l.length ≤ 9223372036854775807 ∧ ∀ y ∈ l, y.length ≤ 9223372036854775807) : Ok Try.prog 43 [.sl .view 1 (l.map eStr), .int .i64 n] (.int .i64 (sub n (szL szStr l))) := by
  obtain ⟨hl, hw⟩ := hw
  refine ok_of_awp Try.mix Try.func43 rfl ?_
  simp only [Try.ntmps43, List.length_cons, List.length_nil, Nat.reduceSub, Nat.reduceAdd, List.replicate_succ, List.replicate_zero, List.cons_append, List.nil_append]
  repeat' (first
    | ((with_reducible refine idp (p := awpL _ _ (_ :: _) _ _) ?_); refine awpL_cons rfl fun K hK => ?_; simp [-Bool.exists_bool, aop]; first | ((try simp (disch := omega) only [wrap64]); refine hK _ ?_; clear hK K))
    | ((with_reducible refine idp (p := awpL _ _ (_ :: _) _ _) ?_); refine awpL_take rfl ?_ ?_; (focus (simp [guardA]; done)); intro K hK; simp [-Bool.exists_bool, aop]; first | ((try simp (disch := omega) only [wrap64]); refine hK _ ?_; clear hK K))
    | ((with_reducible refine idp (p := awpL _ _ (_ :: _) _ _) ?_); refine awpL_skip rfl ?_ ?_; (focus (simp [guardA]; done)); simp only [AS.put, List.set_cons_succ, List.set_cons_zero])
    | ((with_reducible refine idp (p := awpL _ _ (_ :: _) _ _) ?_); refine awpL_split rfl rfl rfl (fun hc => ?_) (fun hc => ?_) <;> simp only [List.set_cons_succ, List.set_cons_zero])
    | ((with_reducible refine idp (p := dwalk _ _ _ _ _ _ (_ :: _) _ _) ?_); refine dwalk_cons rfl rfl (by simp [Region.binds]; rfl) (by decide) (by simp [Region.binds]; rfl) (by simp; rfl) fun K hK => ?_; simp [-Bool.exists_bool, aop]; first | ((try simp (disch := omega) only [wrap64]); refine hK _ (by simp) ?_; clear hK K; simp))
    | ((with_reducible refine idp (p := awpL _ _ [] _ _) ?_); refine awpL_nil ?_)
    | ((with_reducible refine idp (p := awp _ (.region _ _ true) _ _) ?_); refine awp_drawn (by decide) ?_)
    | ((with_reducible refine idp (p := dwalk _ _ _ _ _ _ [] _ _) ?_); refine dwalk_nil (by simp; rfl) (by simp; rfl) ?_)
    | ((with_reducible refine idp (p := awp _ (.seq _ _) _ _) ?_); refine awp_seq fun K hK => ?_)
    | ((with_reducible refine idp (p := awp _ (.region _ _ false) _ _) ?_); refine awp_region ?_)
    | ((with_reducible refine idp (p := AThen _ _ .normal _) ?_); refine awp_then (by assumption) ?_)
    | ((with_reducible refine idp (p := AThen _ _ .ret _) ?_); refine awp_then_ret ?_)
    | ((with_reducible refine idp (p := AThen _ _ (.exit _) _) ?_); refine awp_then_exit ?_)
    | ((with_reducible refine idp (p := AIn _ _ .normal _) ?_); refine awp_in_normal ?_)
    | ((with_reducible refine idp (p := AIn _ _ .ret _) ?_); refine awp_in_ret ?_)
    | ((with_reducible refine idp (p := AIn _ _ (.exit _) _) ?_); first | refine awp_in_eq ?_ | refine awp_in_ne (by decide) ?_)
    | ((with_reducible refine idp (p := awp _ .ret _ _) ?_); refine awp_ret ?_)
    | ((with_reducible refine idp (p := awp _ (.cond _ _ _) _ _) ?_); (refine awp_cond rfl (fun hc => ?_) (fun hc => ?_) <;> (try simp at hc) <;> (try (exfalso; omega))))
    | ((with_reducible refine idp (p := awp _ (.block _ _) _ _) ?_); refine awp_block ?_)
    | ((with_reducible refine idp (p := awp _ (.exit _) _ _) ?_); refine awp_exit ?_)
    | ((with_reducible refine idp (p := awp _ .skip _ _) ?_); refine awp_skip ?_))
  · refine ⟨.inr rfl, ?_⟩; simp [Hands, Try.results43, sub, szL]; omega
  · refine awp_loop' (ι := { k : Nat // k ≤ l.length ∧ l.length + sumN szStr (l.take k) ≤ n }) (fun t o i => ⟨upds t [(1, .int .i64 (n - (l.length + sumN szStr (l.take i.1) : Nat))), (5, .int .i64 i.1)], []⟩)
      (fun i => l.length - i.1) ⟨0, by simp, by simp [sumN]; omega⟩ (weak_o (by simp) (by simp [sumN])) ?_
    rintro ⟨k, hk, hs⟩ K1 hK1
    simp only [upds, List.set_cons_succ, List.set_cons_zero] at hK1 ⊢
    have hk1 : IntKind.i64.wrap ((k : Int) + 1) = ((k + 1 : Nat) : Int) := by rw [wrap64] <;> omega
    by_cases hlt : k < l.length
    · have hg := List.getElem?_eq_getElem hlt
      have hts := sumN_take_succ szStr l k hlt
      have htl := sumN_take_le szStr l (k + 1)
      have hwg := hw _ (List.getElem_mem hlt)
      repeat' (first
        | ((with_reducible refine idp (p := awpL _ _ (_ :: _) _ _) ?_); refine awpL_cons rfl fun K hK => ?_; simp [-Bool.exists_bool, aop, hk1, hg]; first | ((try simp (disch := omega) only [wrap64]); refine hK _ ?_; clear hK K))
        | ((with_reducible refine idp (p := awpL _ _ (_ :: _) _ _) ?_); refine awpL_take rfl ?_ ?_; (focus (simp [guardA, hk1, hg]; done)); intro K hK; simp [-Bool.exists_bool, aop, hk1, hg]; first | ((try simp (disch := omega) only [wrap64]); refine hK _ ?_; clear hK K))
        | ((with_reducible refine idp (p := awpL _ _ (_ :: _) _ _) ?_); refine awpL_skip rfl ?_ ?_; (focus (simp [guardA, hk1, hg]; done)); simp only [AS.put, List.set_cons_succ, List.set_cons_zero])
        | ((with_reducible refine idp (p := awpL _ _ (_ :: _) _ _) ?_); refine awpL_split rfl rfl rfl (fun hc => ?_) (fun hc => ?_) <;> simp only [List.set_cons_succ, List.set_cons_zero])
        | ((with_reducible refine idp (p := dwalk _ _ _ _ _ _ (_ :: _) _ _) ?_); refine dwalk_cons rfl rfl (by simp [Region.binds]; rfl) (by decide) (by simp [Region.binds]; rfl) (by simp; rfl) fun K hK => ?_; simp [-Bool.exists_bool, aop, hk1, hg]; first | ((try simp (disch := omega) only [wrap64]); refine hK _ (by simp) ?_; clear hK K; simp))
        | ((with_reducible refine idp (p := awpL _ _ [] _ _) ?_); refine awpL_nil ?_)
        | ((with_reducible refine idp (p := awp _ (.region _ _ true) _ _) ?_); refine awp_drawn (by decide) ?_)
        | ((with_reducible refine idp (p := dwalk _ _ _ _ _ _ [] _ _) ?_); refine dwalk_nil (by simp; rfl) (by simp; rfl) ?_)
        | ((with_reducible refine idp (p := awp _ (.seq _ _) _ _) ?_); refine awp_seq fun K hK => ?_)
        | ((with_reducible refine idp (p := awp _ (.region _ _ false) _ _) ?_); refine awp_region ?_)
        | ((with_reducible refine idp (p := AThen _ _ .normal _) ?_); refine awp_then (by assumption) ?_)
        | ((with_reducible refine idp (p := AThen _ _ .ret _) ?_); refine awp_then_ret ?_)
        | ((with_reducible refine idp (p := AThen _ _ (.exit _) _) ?_); refine awp_then_exit ?_)
        | ((with_reducible refine idp (p := AIn _ _ .normal _) ?_); refine awp_in_normal ?_)
        | ((with_reducible refine idp (p := AIn _ _ .ret _) ?_); refine awp_in_ret ?_)
        | ((with_reducible refine idp (p := AIn _ _ (.exit _) _) ?_); first | refine awp_in_eq ?_ | refine awp_in_ne (by decide) ?_)
        | ((with_reducible refine idp (p := awp _ .ret _ _) ?_); refine awp_ret ?_)
        | ((with_reducible refine idp (p := awp _ (.cond _ _ _) _ _) ?_); (refine awp_cond rfl (fun hc => ?_) (fun hc => ?_) <;> (try simp at hc) <;> (try (exfalso; omega))))
        | ((with_reducible refine idp (p := awp _ (.block _ _) _ _) ?_); refine awp_block ?_)
        | ((with_reducible refine idp (p := awp _ (.exit _) _ _) ?_); refine awp_exit ?_)
        | ((with_reducible refine idp (p := awp _ .skip _ _) ?_); refine awp_skip ?_))
      · refine ⟨.inr rfl, ?_⟩
        simp [Hands, Try.results43, szL]
        (repeat clear hK K); simp only [sub, szStr] at *; grind
      · refine hK1 _ ⟨k + 1, by omega, by (repeat clear hK K); simp only [sub, szStr] at *; grind⟩ (weak_o (by simp) ?_) (by simp only; omega)
        simp
        (repeat clear hK K); simp only [sub, szStr] at *; grind
    · repeat' (first
        | ((with_reducible refine idp (p := awpL _ _ (_ :: _) _ _) ?_); refine awpL_cons rfl fun K hK => ?_; simp [-Bool.exists_bool, aop, hk1]; first | ((try simp (disch := omega) only [wrap64]); refine hK _ ?_; clear hK K))
        | ((with_reducible refine idp (p := awpL _ _ (_ :: _) _ _) ?_); refine awpL_take rfl ?_ ?_; (focus (simp [guardA, hk1]; done)); intro K hK; simp [-Bool.exists_bool, aop, hk1]; first | ((try simp (disch := omega) only [wrap64]); refine hK _ ?_; clear hK K))
        | ((with_reducible refine idp (p := awpL _ _ (_ :: _) _ _) ?_); refine awpL_skip rfl ?_ ?_; (focus (simp [guardA, hk1]; done)); simp only [AS.put, List.set_cons_succ, List.set_cons_zero])
        | ((with_reducible refine idp (p := awpL _ _ (_ :: _) _ _) ?_); refine awpL_split rfl rfl rfl (fun hc => ?_) (fun hc => ?_) <;> simp only [List.set_cons_succ, List.set_cons_zero])
        | ((with_reducible refine idp (p := dwalk _ _ _ _ _ _ (_ :: _) _ _) ?_); refine dwalk_cons rfl rfl (by simp [Region.binds]; rfl) (by decide) (by simp [Region.binds]; rfl) (by simp; rfl) fun K hK => ?_; simp [-Bool.exists_bool, aop, hk1]; first | ((try simp (disch := omega) only [wrap64]); refine hK _ (by simp) ?_; clear hK K; simp))
        | ((with_reducible refine idp (p := awpL _ _ [] _ _) ?_); refine awpL_nil ?_)
        | ((with_reducible refine idp (p := awp _ (.region _ _ true) _ _) ?_); refine awp_drawn (by decide) ?_)
        | ((with_reducible refine idp (p := dwalk _ _ _ _ _ _ [] _ _) ?_); refine dwalk_nil (by simp; rfl) (by simp; rfl) ?_)
        | ((with_reducible refine idp (p := awp _ (.seq _ _) _ _) ?_); refine awp_seq fun K hK => ?_)
        | ((with_reducible refine idp (p := awp _ (.region _ _ false) _ _) ?_); refine awp_region ?_)
        | ((with_reducible refine idp (p := AThen _ _ .normal _) ?_); refine awp_then (by assumption) ?_)
        | ((with_reducible refine idp (p := AThen _ _ .ret _) ?_); refine awp_then_ret ?_)
        | ((with_reducible refine idp (p := AThen _ _ (.exit _) _) ?_); refine awp_then_exit ?_)
        | ((with_reducible refine idp (p := AIn _ _ .normal _) ?_); refine awp_in_normal ?_)
        | ((with_reducible refine idp (p := AIn _ _ .ret _) ?_); refine awp_in_ret ?_)
        | ((with_reducible refine idp (p := AIn _ _ (.exit _) _) ?_); first | refine awp_in_eq ?_ | refine awp_in_ne (by decide) ?_)
        | ((with_reducible refine idp (p := awp _ .ret _ _) ?_); refine awp_ret ?_)
        | ((with_reducible refine idp (p := awp _ (.cond _ _ _) _ _) ?_); (refine awp_cond rfl (fun hc => ?_) (fun hc => ?_) <;> (try simp at hc) <;> (try (exfalso; omega))))
        | ((with_reducible refine idp (p := awp _ (.block _ _) _ _) ?_); refine awp_block ?_)
        | ((with_reducible refine idp (p := awp _ (.exit _) _ _) ?_); refine awp_exit ?_)
        | ((with_reducible refine idp (p := awp _ .skip _ _) ?_); refine awp_skip ?_))
      all_goals (try (refine ⟨.inr rfl, ?_⟩; simp [Hands, Try.results43, szL]))
      all_goals (repeat clear hK K)
      have : k = l.length := by omega
      subst this
      rw [List.take_length] at *
      rw [sub_pos (by omega)]
      omega

theorem eqStringS_ok (a b : List Str) (hs : szL szStr a ≤ 1048576) : Ok Try.prog 60 [.sl .view 1 (a.map eStr), .sl .view 1 (b.map eStr)] (.bool (decide (a = b))) := by
  have hl : a.length ≤ 1048576 := by (try simp only [szL] at hs); omega
  refine ok_of_awp Try.mix Try.func60 rfl ?_
  simp only [Try.ntmps60, List.length_cons, List.length_nil, Nat.reduceSub, Nat.reduceAdd, List.replicate_succ, List.replicate_zero, List.cons_append, List.nil_append]
  repeat' (first
    | ((with_reducible refine idp (p := awpL _ _ (_ :: _) _ _) ?_); refine awpL_cons rfl fun K hK => ?_; simp [-Bool.exists_bool, aop]; first | ((try simp (disch := omega) only [wrap64]); refine hK _ ?_; clear hK K))
    | ((with_reducible refine idp (p := awpL _ _ (_ :: _) _ _) ?_); refine awpL_take rfl ?_ ?_; (focus (simp [guardA]; done)); intro K hK; simp [-Bool.exists_bool, aop]; first | ((try simp (disch := omega) only [wrap64]); refine hK _ ?_; clear hK K))
    | ((with_reducible refine idp (p := awpL _ _ (_ :: _) _ _) ?_); refine awpL_skip rfl ?_ ?_; (focus (simp [guardA]; done)); simp only [AS.put, List.set_cons_succ, List.set_cons_zero])
    | ((with_reducible refine idp (p := awpL _ _ (_ :: _) _ _) ?_); refine awpL_split rfl rfl rfl (fun hc => ?_) (fun hc => ?_) <;> simp only [List.set_cons_succ, List.set_cons_zero])
    | ((with_reducible refine idp (p := dwalk _ _ _ _ _ _ (_ :: _) _ _) ?_); refine dwalk_cons rfl rfl (by simp [Region.binds]; rfl) (by decide) (by simp [Region.binds]; rfl) (by simp; rfl) fun K hK => ?_; simp [-Bool.exists_bool, aop]; first | ((try simp (disch := omega) only [wrap64]); refine hK _ (by simp) ?_; clear hK K; simp))
    | ((with_reducible refine idp (p := awpL _ _ [] _ _) ?_); refine awpL_nil ?_)
    | ((with_reducible refine idp (p := awp _ (.region _ _ true) _ _) ?_); refine awp_drawn (by decide) ?_)
    | ((with_reducible refine idp (p := dwalk _ _ _ _ _ _ [] _ _) ?_); refine dwalk_nil (by simp; rfl) (by simp; rfl) ?_)
    | ((with_reducible refine idp (p := awp _ (.seq _ _) _ _) ?_); refine awp_seq fun K hK => ?_)
    | ((with_reducible refine idp (p := awp _ (.region _ _ false) _ _) ?_); refine awp_region ?_)
    | ((with_reducible refine idp (p := AThen _ _ .normal _) ?_); refine awp_then (by assumption) ?_)
    | ((with_reducible refine idp (p := AThen _ _ .ret _) ?_); refine awp_then_ret ?_)
    | ((with_reducible refine idp (p := AThen _ _ (.exit _) _) ?_); refine awp_then_exit ?_)
    | ((with_reducible refine idp (p := AIn _ _ .normal _) ?_); refine awp_in_normal ?_)
    | ((with_reducible refine idp (p := AIn _ _ .ret _) ?_); refine awp_in_ret ?_)
    | ((with_reducible refine idp (p := AIn _ _ (.exit _) _) ?_); first | refine awp_in_eq ?_ | refine awp_in_ne (by decide) ?_)
    | ((with_reducible refine idp (p := awp _ .ret _ _) ?_); refine awp_ret ?_)
    | ((with_reducible refine idp (p := awp _ (.cond _ _ _) _ _) ?_); (refine awp_cond rfl (fun hc => ?_) (fun hc => ?_) <;> (try simp at hc) <;> (try (exfalso; omega))))
    | ((with_reducible refine idp (p := awp _ (.block _ _) _ _) ?_); refine awp_block ?_)
    | ((with_reducible refine idp (p := awp _ (.exit _) _ _) ?_); refine awp_exit ?_)
    | ((with_reducible refine idp (p := awp _ .skip _ _) ?_); refine awp_skip ?_))
  · all_goals (try (refine ⟨.inr rfl, ?_⟩; simp [Hands, Try.results60]))
    all_goals (repeat clear hK K)
    intro h; subst h; exact absurd rfl hc
  · have hlen : a.length = b.length := by omega
    refine awp_loop' (ι := { k : Nat // k ≤ a.length ∧ a.take k = b.take k }) (fun t o i => ⟨upds t [(5, .int .i64 i.1)], []⟩)
      (fun i => a.length - i.1) ⟨0, by simp⟩ (weak_o (by simp) (by simp)) ?_
    rintro ⟨k, hk, hpre⟩ K1 hK1
    simp only [upds, List.set_cons_succ, List.set_cons_zero] at hK1 ⊢
    have hk1 : IntKind.i64.wrap ((k : Int) + 1) = ((k + 1 : Nat) : Int) := by rw [wrap64] <;> omega
    by_cases hlt : k < a.length
    · have hg := List.getElem?_eq_getElem hlt
      have hltb : k < b.length := by omega
      have hgb := List.getElem?_eq_getElem hltb
      repeat' (first
        | ((with_reducible refine idp (p := awpL _ _ (_ :: _) _ _) ?_); refine awpL_cons rfl fun K hK => ?_; simp [-Bool.exists_bool, aop, hk1, hg, hlt, hgb, hltb]; first | ((try simp (disch := omega) only [wrap64]); refine hK _ ?_; clear hK K))
        | ((with_reducible refine idp (p := awpL _ _ (_ :: _) _ _) ?_); refine awpL_take rfl ?_ ?_; (focus (simp [guardA, hk1, hg, hlt, hgb, hltb]; done)); intro K hK; simp [-Bool.exists_bool, aop, hk1, hg, hlt, hgb, hltb]; first | ((try simp (disch := omega) only [wrap64]); refine hK _ ?_; clear hK K))
        | ((with_reducible refine idp (p := awpL _ _ (_ :: _) _ _) ?_); refine awpL_skip rfl ?_ ?_; (focus (simp [guardA, hk1, hg, hlt, hgb, hltb]; done)); simp only [AS.put, List.set_cons_succ, List.set_cons_zero])
        | ((with_reducible refine idp (p := awpL _ _ (_ :: _) _ _) ?_); refine awpL_split rfl rfl rfl (fun hc => ?_) (fun hc => ?_) <;> simp only [List.set_cons_succ, List.set_cons_zero])
        | ((with_reducible refine idp (p := dwalk _ _ _ _ _ _ (_ :: _) _ _) ?_); refine dwalk_cons rfl rfl (by simp [Region.binds]; rfl) (by decide) (by simp [Region.binds]; rfl) (by simp; rfl) fun K hK => ?_; simp [-Bool.exists_bool, aop, hk1, hg, hlt, hgb, hltb]; first | ((try simp (disch := omega) only [wrap64]); refine hK _ (by simp) ?_; clear hK K; simp))
        | ((with_reducible refine idp (p := awpL _ _ [] _ _) ?_); refine awpL_nil ?_)
        | ((with_reducible refine idp (p := awp _ (.region _ _ true) _ _) ?_); refine awp_drawn (by decide) ?_)
        | ((with_reducible refine idp (p := dwalk _ _ _ _ _ _ [] _ _) ?_); refine dwalk_nil (by simp; rfl) (by simp; rfl) ?_)
        | ((with_reducible refine idp (p := awp _ (.seq _ _) _ _) ?_); refine awp_seq fun K hK => ?_)
        | ((with_reducible refine idp (p := awp _ (.region _ _ false) _ _) ?_); refine awp_region ?_)
        | ((with_reducible refine idp (p := AThen _ _ .normal _) ?_); refine awp_then (by assumption) ?_)
        | ((with_reducible refine idp (p := AThen _ _ .ret _) ?_); refine awp_then_ret ?_)
        | ((with_reducible refine idp (p := AThen _ _ (.exit _) _) ?_); refine awp_then_exit ?_)
        | ((with_reducible refine idp (p := AIn _ _ .normal _) ?_); refine awp_in_normal ?_)
        | ((with_reducible refine idp (p := AIn _ _ .ret _) ?_); refine awp_in_ret ?_)
        | ((with_reducible refine idp (p := AIn _ _ (.exit _) _) ?_); first | refine awp_in_eq ?_ | refine awp_in_ne (by decide) ?_)
        | ((with_reducible refine idp (p := awp _ .ret _ _) ?_); refine awp_ret ?_)
        | ((with_reducible refine idp (p := awp _ (.cond _ _ _) _ _) ?_); (refine awp_cond rfl (fun hc => ?_) (fun hc => ?_) <;> (try simp at hc) <;> (try (exfalso; omega))))
        | ((with_reducible refine idp (p := awp _ (.block _ _) _ _) ?_); refine awp_block ?_)
        | ((with_reducible refine idp (p := awp _ (.exit _) _ _) ?_); refine awp_exit ?_)
        | ((with_reducible refine idp (p := awp _ .skip _ _) ?_); refine awp_skip ?_))
      · all_goals (try (refine ⟨.inr rfl, ?_⟩; simp [Hands, Try.results60]))
        all_goals (repeat clear hK K)
        intro h; subst h; exact hc rfl
      · have hts : a.take (k + 1) = b.take (k + 1) := by
          rw [List.take_succ_eq_append_getElem hlt, List.take_succ_eq_append_getElem hltb, hpre, hc]
        refine hK1 _ ⟨k + 1, by omega, hts⟩ (weak_o (by simp) (by simp)) (by simp only; omega)
    · have hka : a.length ≤ k := by omega
      rw [List.take_of_length_le hka, List.take_of_length_le (by omega)] at hpre
      subst hpre
      repeat' (first
        | ((with_reducible refine idp (p := awpL _ _ (_ :: _) _ _) ?_); refine awpL_cons rfl fun K hK => ?_; simp [-Bool.exists_bool, aop, hk1]; first | ((try simp (disch := omega) only [wrap64]); refine hK _ ?_; clear hK K))
        | ((with_reducible refine idp (p := awpL _ _ (_ :: _) _ _) ?_); refine awpL_take rfl ?_ ?_; (focus (simp [guardA, hk1]; done)); intro K hK; simp [-Bool.exists_bool, aop, hk1]; first | ((try simp (disch := omega) only [wrap64]); refine hK _ ?_; clear hK K))
        | ((with_reducible refine idp (p := awpL _ _ (_ :: _) _ _) ?_); refine awpL_skip rfl ?_ ?_; (focus (simp [guardA, hk1]; done)); simp only [AS.put, List.set_cons_succ, List.set_cons_zero])
        | ((with_reducible refine idp (p := awpL _ _ (_ :: _) _ _) ?_); refine awpL_split rfl rfl rfl (fun hc => ?_) (fun hc => ?_) <;> simp only [List.set_cons_succ, List.set_cons_zero])
        | ((with_reducible refine idp (p := dwalk _ _ _ _ _ _ (_ :: _) _ _) ?_); refine dwalk_cons rfl rfl (by simp [Region.binds]; rfl) (by decide) (by simp [Region.binds]; rfl) (by simp; rfl) fun K hK => ?_; simp [-Bool.exists_bool, aop, hk1]; first | ((try simp (disch := omega) only [wrap64]); refine hK _ (by simp) ?_; clear hK K; simp))
        | ((with_reducible refine idp (p := awpL _ _ [] _ _) ?_); refine awpL_nil ?_)
        | ((with_reducible refine idp (p := awp _ (.region _ _ true) _ _) ?_); refine awp_drawn (by decide) ?_)
        | ((with_reducible refine idp (p := dwalk _ _ _ _ _ _ [] _ _) ?_); refine dwalk_nil (by simp; rfl) (by simp; rfl) ?_)
        | ((with_reducible refine idp (p := awp _ (.seq _ _) _ _) ?_); refine awp_seq fun K hK => ?_)
        | ((with_reducible refine idp (p := awp _ (.region _ _ false) _ _) ?_); refine awp_region ?_)
        | ((with_reducible refine idp (p := AThen _ _ .normal _) ?_); refine awp_then (by assumption) ?_)
        | ((with_reducible refine idp (p := AThen _ _ .ret _) ?_); refine awp_then_ret ?_)
        | ((with_reducible refine idp (p := AThen _ _ (.exit _) _) ?_); refine awp_then_exit ?_)
        | ((with_reducible refine idp (p := AIn _ _ .normal _) ?_); refine awp_in_normal ?_)
        | ((with_reducible refine idp (p := AIn _ _ .ret _) ?_); refine awp_in_ret ?_)
        | ((with_reducible refine idp (p := AIn _ _ (.exit _) _) ?_); first | refine awp_in_eq ?_ | refine awp_in_ne (by decide) ?_)
        | ((with_reducible refine idp (p := awp _ .ret _ _) ?_); refine awp_ret ?_)
        | ((with_reducible refine idp (p := awp _ (.cond _ _ _) _ _) ?_); (refine awp_cond rfl (fun hc => ?_) (fun hc => ?_) <;> (try simp at hc) <;> (try (exfalso; omega))))
        | ((with_reducible refine idp (p := awp _ (.block _ _) _ _) ?_); refine awp_block ?_)
        | ((with_reducible refine idp (p := awp _ (.exit _) _ _) ?_); refine awp_exit ?_)
        | ((with_reducible refine idp (p := awp _ .skip _ _) ?_); refine awp_skip ?_))
      all_goals (try (refine ⟨.inr rfl, ?_⟩; simp [Hands, Try.results60]))
      all_goals (repeat clear hK K)

theorem toAttrS_ok (l : List DAttr) (hs : szL szAttr l ≤ 1048576) : Ok Try.prog 94 [.sl .view 2 (l.map eAttr)] (.sl .own 2 (l.map eAttr)) := by
  have hl : l.length ≤ 1048576 := by (try simp only [szL] at hs); omega
  have hb : (32 : Int) * (l.length : Int) ≤ 281474976710656 := by omega
  have hb2 : (l.length : Int) ≤ 9223372036854775807 := by omega
  generalize hz : ([.str [], .str []] : List AV) = z
  have hz0 := fillL_zero z (l.map eAttr)
  rw [List.length_map] at hz0
  refine ok_of_awp Try.mix Try.func94 rfl ?_
  simp only [Try.ntmps94, List.length_cons, List.length_nil, Nat.reduceSub, Nat.reduceAdd, List.replicate_succ, List.replicate_zero, List.cons_append, List.nil_append]
  repeat' (first
    | ((with_reducible refine idp (p := awpL _ _ (_ :: _) _ _) ?_); refine awpL_cons rfl fun K hK => ?_; simp [-Bool.exists_bool, aop, hb, hb2]; first | ((try simp (disch := omega) only [wrap64]); refine hK _ ?_; clear hK K))
    | ((with_reducible refine idp (p := awpL _ _ (_ :: _) _ _) ?_); refine awpL_take rfl ?_ ?_; (focus (simp [guardA, hb, hb2]; done)); intro K hK; simp [-Bool.exists_bool, aop, hb, hb2]; first | ((try simp (disch := omega) only [wrap64]); refine hK _ ?_; clear hK K))
    | ((with_reducible refine idp (p := awpL _ _ (_ :: _) _ _) ?_); refine awpL_skip rfl ?_ ?_; (focus (simp [guardA, hb, hb2]; done)); simp only [AS.put, List.set_cons_succ, List.set_cons_zero])
    | ((with_reducible refine idp (p := awpL _ _ (_ :: _) _ _) ?_); refine awpL_split rfl rfl rfl (fun hc => ?_) (fun hc => ?_) <;> simp only [List.set_cons_succ, List.set_cons_zero])
    | ((with_reducible refine idp (p := dwalk _ _ _ _ _ _ (_ :: _) _ _) ?_); refine dwalk_cons rfl rfl (by simp [Region.binds]; rfl) (by decide) (by simp [Region.binds]; rfl) (by simp; rfl) fun K hK => ?_; simp [-Bool.exists_bool, aop, hb, hb2]; first | ((try simp (disch := omega) only [wrap64]); refine hK _ (by simp) ?_; clear hK K; simp))
    | ((with_reducible refine idp (p := awpL _ _ [] _ _) ?_); refine awpL_nil ?_)
    | ((with_reducible refine idp (p := awp _ (.region _ _ true) _ _) ?_); refine awp_drawn (by decide) ?_)
    | ((with_reducible refine idp (p := dwalk _ _ _ _ _ _ [] _ _) ?_); refine dwalk_nil (by simp; rfl) (by simp; rfl) ?_)
    | ((with_reducible refine idp (p := awp _ (.seq _ _) _ _) ?_); refine awp_seq fun K hK => ?_)
    | ((with_reducible refine idp (p := awp _ (.region _ _ false) _ _) ?_); refine awp_region ?_)
    | ((with_reducible refine idp (p := AThen _ _ .normal _) ?_); refine awp_then (by assumption) ?_)
    | ((with_reducible refine idp (p := AThen _ _ .ret _) ?_); refine awp_then_ret ?_)
    | ((with_reducible refine idp (p := AThen _ _ (.exit _) _) ?_); refine awp_then_exit ?_)
    | ((with_reducible refine idp (p := AIn _ _ .normal _) ?_); refine awp_in_normal ?_)
    | ((with_reducible refine idp (p := AIn _ _ .ret _) ?_); refine awp_in_ret ?_)
    | ((with_reducible refine idp (p := AIn _ _ (.exit _) _) ?_); first | refine awp_in_eq ?_ | refine awp_in_ne (by decide) ?_)
    | ((with_reducible refine idp (p := awp _ .ret _ _) ?_); refine awp_ret ?_)
    | ((with_reducible refine idp (p := awp _ (.cond _ _ _) _ _) ?_); (refine awp_cond rfl (fun hc => ?_) (fun hc => ?_) <;> (try simp at hc) <;> (try (exfalso; omega))))
    | ((with_reducible refine idp (p := awp _ (.block _ _) _ _) ?_); refine awp_block ?_)
    | ((with_reducible refine idp (p := awp _ (.exit _) _ _) ?_); refine awp_exit ?_)
    | ((with_reducible refine idp (p := awp _ .skip _ _) ?_); refine awp_skip ?_))
  refine awp_loop' (ι := { k : Nat // k ≤ l.length }) (fun t o i => ⟨upds t [(4, .int .i64 i.1)], [⟨true, false, 2, 1, fillL z (l.map eAttr) i.1⟩]⟩)
    (fun i => l.length - i.1) ⟨0, by simp⟩ (weak_o (by simp [hz, hz0]) (by simp)) ?_
  rintro ⟨k, hk⟩ K1 hK1
  simp only [upds, List.set_cons_succ, List.set_cons_zero] at hK1 ⊢
  have hk1 : IntKind.i64.wrap ((k : Int) + 1) = ((k + 1 : Nat) : Int) := by rw [wrap64] <;> omega
  by_cases hlt : k < l.length
  · have hg := List.getElem?_eq_getElem hlt
    have hfg := fillL_get z (l.map eAttr) k (by simpa using hlt)
    have hfs := fillL_set z (l.map eAttr) k (by simpa using hlt)
    rw [List.getElem_map] at hfs
    simp only [eAttr] at hfs
    have hzl : z.length = 2 := by rw [← hz]; rfl
    have hzd : z.drop 2 = [] := by rw [← hz]; rfl
    repeat' (first
      | ((with_reducible refine idp (p := awpL _ _ (_ :: _) _ _) ?_); refine awpL_cons rfl fun K hK => ?_; simp [-Bool.exists_bool, aop, hk1, hg, hfg, hzl, hzd, hfs]; first | (refine ⟨_, (toAttr_ok l[k] (by have := sumN_get_le szAttr l k hlt; (try simp only [szL] at hs); omega)), hK _ ?_⟩; clear hK K; (try simp only [absorb_eq, absorbc_eq, absV, absVc, absO, absOc, absN, absNc, List.append_nil, List.nil_append, List.cons_append, List.length_cons, List.length_nil, Nat.add_zero, Nat.zero_add, Nat.reduceAdd])) | ((try simp (disch := omega) only [wrap64]); refine hK _ ?_; clear hK K))
      | ((with_reducible refine idp (p := awpL _ _ (_ :: _) _ _) ?_); refine awpL_cons rfl fun K hK => ?_; simp [-Bool.exists_bool, aop, hk1, hg, hlt]; first | (refine ⟨_, (toAttr_ok l[k] (by have := sumN_get_le szAttr l k hlt; (try simp only [szL] at hs); omega)), hK _ ?_⟩; clear hK K; (try simp only [absorb_eq, absorbc_eq, absV, absVc, absO, absOc, absN, absNc, List.append_nil, List.nil_append, List.cons_append, List.length_cons, List.length_nil, Nat.add_zero, Nat.zero_add, Nat.reduceAdd])) | ((try simp (disch := omega) only [wrap64]); refine hK _ ?_; clear hK K))
      | ((with_reducible refine idp (p := awpL _ _ (_ :: _) _ _) ?_); refine awpL_take rfl ?_ ?_; (focus (simp [guardA, hk1, hg, hfg, hzl, hzd, hfs]; done)); intro K hK; simp [-Bool.exists_bool, aop, hk1, hg, hfg, hzl, hzd, hfs]; first | (refine ⟨_, (toAttr_ok l[k] (by have := sumN_get_le szAttr l k hlt; (try simp only [szL] at hs); omega)), hK _ ?_⟩; clear hK K; (try simp only [absorb_eq, absorbc_eq, absV, absVc, absO, absOc, absN, absNc, List.append_nil, List.nil_append, List.cons_append, List.length_cons, List.length_nil, Nat.add_zero, Nat.zero_add, Nat.reduceAdd])) | ((try simp (disch := omega) only [wrap64]); refine hK _ ?_; clear hK K))
      | ((with_reducible refine idp (p := awpL _ _ (_ :: _) _ _) ?_); refine awpL_take rfl ?_ ?_; (focus (simp [guardA, hk1, hg, hlt]; done)); intro K hK; simp [-Bool.exists_bool, aop, hk1, hg, hlt]; first | (refine ⟨_, (toAttr_ok l[k] (by have := sumN_get_le szAttr l k hlt; (try simp only [szL] at hs); omega)), hK _ ?_⟩; clear hK K; (try simp only [absorb_eq, absorbc_eq, absV, absVc, absO, absOc, absN, absNc, List.append_nil, List.nil_append, List.cons_append, List.length_cons, List.length_nil, Nat.add_zero, Nat.zero_add, Nat.reduceAdd])) | ((try simp (disch := omega) only [wrap64]); refine hK _ ?_; clear hK K))
      | ((with_reducible refine idp (p := awpL _ _ (_ :: _) _ _) ?_); refine awpL_skip rfl ?_ ?_; (focus (simp [guardA, hk1, hg, hlt]; done)); simp only [AS.put, List.set_cons_succ, List.set_cons_zero])
      | ((with_reducible refine idp (p := awpL _ _ (_ :: _) _ _) ?_); refine awpL_split rfl rfl rfl (fun hc => ?_) (fun hc => ?_) <;> simp only [List.set_cons_succ, List.set_cons_zero])
      | ((with_reducible refine idp (p := dwalk _ _ _ _ _ _ (_ :: _) _ _) ?_); refine dwalk_cons rfl rfl (by simp [Region.binds]; rfl) (by decide) (by simp [Region.binds]; rfl) (by simp; rfl) fun K hK => ?_; simp [-Bool.exists_bool, aop, hk1, hg, hfg, hzl, hzd, hfs]; first | (refine ⟨_, (toAttr_ok l[k] (by have := sumN_get_le szAttr l k hlt; (try simp only [szL] at hs); omega)), hK _ (by simp) ?_⟩; clear hK K; simp only [dval, absorb_eq, absorbc_eq, absV, absVc, absO, absOc, absN, absNc, List.append_nil, Nat.add_zero, Nat.zero_add, Nat.reduceAdd, List.length_cons, List.length_nil, List.cons_append, List.nil_append]) | ((try simp (disch := omega) only [wrap64]); refine hK _ (by simp) ?_; clear hK K; simp))
      | ((with_reducible refine idp (p := dwalk _ _ _ _ _ _ (_ :: _) _ _) ?_); refine dwalk_cons rfl rfl (by simp [Region.binds]; rfl) (by decide) (by simp [Region.binds]; rfl) (by simp; rfl) fun K hK => ?_; simp [-Bool.exists_bool, aop, hk1, hg, hlt]; first | (refine ⟨_, (toAttr_ok l[k] (by have := sumN_get_le szAttr l k hlt; (try simp only [szL] at hs); omega)), hK _ (by simp) ?_⟩; clear hK K; simp only [dval, absorb_eq, absorbc_eq, absV, absVc, absO, absOc, absN, absNc, List.append_nil, Nat.add_zero, Nat.zero_add, Nat.reduceAdd, List.length_cons, List.length_nil, List.cons_append, List.nil_append]) | ((try simp (disch := omega) only [wrap64]); refine hK _ (by simp) ?_; clear hK K; simp))
      | ((with_reducible refine idp (p := awpL _ _ [] _ _) ?_); refine awpL_nil ?_)
      | ((with_reducible refine idp (p := awp _ (.region _ _ true) _ _) ?_); refine awp_drawn (by decide) ?_)
      | ((with_reducible refine idp (p := dwalk _ _ _ _ _ _ [] _ _) ?_); refine dwalk_nil (by simp; rfl) (by simp; rfl) ?_)
      | ((with_reducible refine idp (p := awp _ (.seq _ _) _ _) ?_); refine awp_seq fun K hK => ?_)
      | ((with_reducible refine idp (p := awp _ (.region _ _ false) _ _) ?_); refine awp_region ?_)
      | ((with_reducible refine idp (p := AThen _ _ .normal _) ?_); refine awp_then (by assumption) ?_)
      | ((with_reducible refine idp (p := AThen _ _ .ret _) ?_); refine awp_then_ret ?_)
      | ((with_reducible refine idp (p := AThen _ _ (.exit _) _) ?_); refine awp_then_exit ?_)
      | ((with_reducible refine idp (p := AIn _ _ .normal _) ?_); refine awp_in_normal ?_)
      | ((with_reducible refine idp (p := AIn _ _ .ret _) ?_); refine awp_in_ret ?_)
      | ((with_reducible refine idp (p := AIn _ _ (.exit _) _) ?_); first | refine awp_in_eq ?_ | refine awp_in_ne (by decide) ?_)
      | ((with_reducible refine idp (p := awp _ .ret _ _) ?_); refine awp_ret ?_)
      | ((with_reducible refine idp (p := awp _ (.cond _ _ _) _ _) ?_); (refine awp_cond rfl (fun hc => ?_) (fun hc => ?_) <;> (try simp at hc) <;> (try (exfalso; omega))))
      | ((with_reducible refine idp (p := awp _ (.block _ _) _ _) ?_); refine awp_block ?_)
      | ((with_reducible refine idp (p := awp _ (.exit _) _ _) ?_); refine awp_exit ?_)
      | ((with_reducible refine idp (p := awp _ .skip _ _) ?_); refine awp_skip ?_))
    refine hK1 _ ⟨k + 1, by omega⟩ (weak_take 1 rfl ?_ (by simp) (by simp)) (by simp only; omega)
    simp
  · repeat' (first
      | ((with_reducible refine idp (p := awpL _ _ (_ :: _) _ _) ?_); refine awpL_cons rfl fun K hK => ?_; simp [-Bool.exists_bool, aop, hk1]; first | ((try simp (disch := omega) only [wrap64]); refine hK _ ?_; clear hK K))
      | ((with_reducible refine idp (p := awpL _ _ (_ :: _) _ _) ?_); refine awpL_take rfl ?_ ?_; (focus (simp [guardA, hk1]; done)); intro K hK; simp [-Bool.exists_bool, aop, hk1]; first | ((try simp (disch := omega) only [wrap64]); refine hK _ ?_; clear hK K))
      | ((with_reducible refine idp (p := awpL _ _ (_ :: _) _ _) ?_); refine awpL_skip rfl ?_ ?_; (focus (simp [guardA, hk1]; done)); simp only [AS.put, List.set_cons_succ, List.set_cons_zero])
      | ((with_reducible refine idp (p := awpL _ _ (_ :: _) _ _) ?_); refine awpL_split rfl rfl rfl (fun hc => ?_) (fun hc => ?_) <;> simp only [List.set_cons_succ, List.set_cons_zero])
      | ((with_reducible refine idp (p := dwalk _ _ _ _ _ _ (_ :: _) _ _) ?_); refine dwalk_cons rfl rfl (by simp [Region.binds]; rfl) (by decide) (by simp [Region.binds]; rfl) (by simp; rfl) fun K hK => ?_; simp [-Bool.exists_bool, aop, hk1]; first | ((try simp (disch := omega) only [wrap64]); refine hK _ (by simp) ?_; clear hK K; simp))
      | ((with_reducible refine idp (p := awpL _ _ [] _ _) ?_); refine awpL_nil ?_)
      | ((with_reducible refine idp (p := awp _ (.region _ _ true) _ _) ?_); refine awp_drawn (by decide) ?_)
      | ((with_reducible refine idp (p := dwalk _ _ _ _ _ _ [] _ _) ?_); refine dwalk_nil (by simp; rfl) (by simp; rfl) ?_)
      | ((with_reducible refine idp (p := awp _ (.seq _ _) _ _) ?_); refine awp_seq fun K hK => ?_)
      | ((with_reducible refine idp (p := awp _ (.region _ _ false) _ _) ?_); refine awp_region ?_)
      | ((with_reducible refine idp (p := AThen _ _ .normal _) ?_); refine awp_then (by assumption) ?_)
      | ((with_reducible refine idp (p := AThen _ _ .ret _) ?_); refine awp_then_ret ?_)
      | ((with_reducible refine idp (p := AThen _ _ (.exit _) _) ?_); refine awp_then_exit ?_)
      | ((with_reducible refine idp (p := AIn _ _ .normal _) ?_); refine awp_in_normal ?_)
      | ((with_reducible refine idp (p := AIn _ _ .ret _) ?_); refine awp_in_ret ?_)
      | ((with_reducible refine idp (p := AIn _ _ (.exit _) _) ?_); first | refine awp_in_eq ?_ | refine awp_in_ne (by decide) ?_)
      | ((with_reducible refine idp (p := awp _ .ret _ _) ?_); refine awp_ret ?_)
      | ((with_reducible refine idp (p := awp _ (.cond _ _ _) _ _) ?_); (refine awp_cond rfl (fun hc => ?_) (fun hc => ?_) <;> (try simp at hc) <;> (try (exfalso; omega))))
      | ((with_reducible refine idp (p := awp _ (.block _ _) _ _) ?_); refine awp_block ?_)
      | ((with_reducible refine idp (p := awp _ (.exit _) _ _) ?_); refine awp_exit ?_)
      | ((with_reducible refine idp (p := awp _ .skip _ _) ?_); refine awp_skip ?_))
    have hfa := fillL_all z (l.map eAttr) k (by simpa using hlt)
    all_goals (try (refine ⟨.inr rfl, ?_⟩; simp [Hands, Try.results94, hfa]))
    all_goals (repeat clear hK K)

theorem szAttrS_ok (l : List DAttr) (n : Int) (h0 : 0 ≤ n) (h1 : n ≤ 1048576) (hw : l.length ≤ 9223372036854775807 ∧ ∀ y ∈ l, wfAttr y) : Ok Try.prog 92 [.sl .view 2 (l.map eAttr), .int .i64 n] (.int .i64 (sub n (szL szAttr l))) := by
  obtain ⟨hl, hw⟩ := hw
  refine ok_of_awp Try.mix Try.func92 rfl ?_
  simp only [Try.ntmps92, List.length_cons, List.length_nil, Nat.reduceSub, Nat.reduceAdd, List.replicate_succ, List.replicate_zero, List.cons_append, List.nil_append]
  repeat' (first
    | ((with_reducible refine idp (p := awpL _ _ (_ :: _) _ _) ?_); refine awpL_cons rfl fun K hK => ?_; simp [-Bool.exists_bool, aop]; first | ((try simp (disch := omega) only [wrap64]); refine hK _ ?_; clear hK K))
    | ((with_reducible refine idp (p := awpL _ _ (_ :: _) _ _) ?_); refine awpL_take rfl ?_ ?_; (focus (simp [guardA]; done)); intro K hK; simp [-Bool.exists_bool, aop]; first | ((try simp (disch := omega) only [wrap64]); refine hK _ ?_; clear hK K))
    | ((with_reducible refine idp (p := awpL _ _ (_ :: _) _ _) ?_); refine awpL_skip rfl ?_ ?_; (focus (simp [guardA]; done)); simp only [AS.put, List.set_cons_succ, List.set_cons_zero])
    | ((with_reducible refine idp (p := awpL _ _ (_ :: _) _ _) ?_); refine awpL_split rfl rfl rfl (fun hc => ?_) (fun hc => ?_) <;> simp only [List.set_cons_succ, List.set_cons_zero])
    | ((with_reducible refine idp (p := dwalk _ _ _ _ _ _ (_ :: _) _ _) ?_); refine dwalk_cons rfl rfl (by simp [Region.binds]; rfl) (by decide) (by simp [Region.binds]; rfl) (by simp; rfl) fun K hK => ?_; simp [-Bool.exists_bool, aop]; first | ((try simp (disch := omega) only [wrap64]); refine hK _ (by simp) ?_; clear hK K; simp))
    | ((with_reducible refine idp (p := awpL _ _ [] _ _) ?_); refine awpL_nil ?_)
    | ((with_reducible refine idp (p := awp _ (.region _ _ true) _ _) ?_); refine awp_drawn (by decide) ?_)
    | ((with_reducible refine idp (p := dwalk _ _ _ _ _ _ [] _ _) ?_); refine dwalk_nil (by simp; rfl) (by simp; rfl) ?_)
    | ((with_reducible refine idp (p := awp _ (.seq _ _) _ _) ?_); refine awp_seq fun K hK => ?_)
    | ((with_reducible refine idp (p := awp _ (.region _ _ false) _ _) ?_); refine awp_region ?_)
    | ((with_reducible refine idp (p := AThen _ _ .normal _) ?_); refine awp_then (by assumption) ?_)
    | ((with_reducible refine idp (p := AThen _ _ .ret _) ?_); refine awp_then_ret ?_)
    | ((with_reducible refine idp (p := AThen _ _ (.exit _) _) ?_); refine awp_then_exit ?_)
    | ((with_reducible refine idp (p := AIn _ _ .normal _) ?_); refine awp_in_normal ?_)
    | ((with_reducible refine idp (p := AIn _ _ .ret _) ?_); refine awp_in_ret ?_)
    | ((with_reducible refine idp (p := AIn _ _ (.exit _) _) ?_); first | refine awp_in_eq ?_ | refine awp_in_ne (by decide) ?_)
    | ((with_reducible refine idp (p := awp _ .ret _ _) ?_); refine awp_ret ?_)
    | ((with_reducible refine idp (p := awp _ (.cond _ _ _) _ _) ?_); (refine awp_cond rfl (fun hc => ?_) (fun hc => ?_) <;> (try simp at hc) <;> (try (exfalso; omega))))
    | ((with_reducible refine idp (p := awp _ (.block _ _) _ _) ?_); refine awp_block ?_)
    | ((with_reducible refine idp (p := awp _ (.exit _) _ _) ?_); refine awp_exit ?_)
    | ((with_reducible refine idp (p := awp _ .skip _ _) ?_); refine awp_skip ?_))
  · refine ⟨.inr rfl, ?_⟩; simp [Hands, Try.results92, sub, szL]; omega
  · refine awp_loop' (ι := { k : Nat // k ≤ l.length ∧ l.length + sumN szAttr (l.take k) ≤ n }) (fun t o i => ⟨upds t [(1, .int .i64 (n - (l.length + sumN szAttr (l.take i.1) : Nat))), (5, .int .i64 i.1)], []⟩)
      (fun i => l.length - i.1) ⟨0, by simp, by simp [sumN]; omega⟩ (weak_o (by simp) (by simp [sumN])) ?_
    rintro ⟨k, hk, hs⟩ K1 hK1
    simp only [upds, List.set_cons_succ, List.set_cons_zero] at hK1 ⊢
    have hk1 : IntKind.i64.wrap ((k : Int) + 1) = ((k + 1 : Nat) : Int) := by rw [wrap64] <;> omega
    by_cases hlt : k < l.length
    · have hg := List.getElem?_eq_getElem hlt
      have hts := sumN_take_succ szAttr l k hlt
      have htl := sumN_take_le szAttr l (k + 1)
      have hwg := hw _ (List.getElem_mem hlt)
      repeat' (first
        | ((with_reducible refine idp (p := awpL _ _ (_ :: _) _ _) ?_); refine awpL_cons rfl fun K hK => ?_; simp [-Bool.exists_bool, aop, hk1, hg]; first | (refine ⟨_, (szAttr_ok _ _ (by omega) (by omega) hwg), hK _ ?_⟩; clear hK K; (try simp only [absorb_eq, absorbc_eq, absV, absVc, absO, absOc, absN, absNc, List.append_nil, List.nil_append, List.cons_append, List.length_cons, List.length_nil, Nat.add_zero, Nat.zero_add, Nat.reduceAdd])) | ((try simp (disch := omega) only [wrap64]); refine hK _ ?_; clear hK K))
        | ((with_reducible refine idp (p := awpL _ _ (_ :: _) _ _) ?_); refine awpL_take rfl ?_ ?_; (focus (simp [guardA, hk1, hg]; done)); intro K hK; simp [-Bool.exists_bool, aop, hk1, hg]; first | (refine ⟨_, (szAttr_ok _ _ (by omega) (by omega) hwg), hK _ ?_⟩; clear hK K; (try simp only [absorb_eq, absorbc_eq, absV, absVc, absO, absOc, absN, absNc, List.append_nil, List.nil_append, List.cons_append, List.length_cons, List.length_nil, Nat.add_zero, Nat.zero_add, Nat.reduceAdd])) | ((try simp (disch := omega) only [wrap64]); refine hK _ ?_; clear hK K))
        | ((with_reducible refine idp (p := awpL _ _ (_ :: _) _ _) ?_); refine awpL_skip rfl ?_ ?_; (focus (simp [guardA, hk1, hg]; done)); simp only [AS.put, List.set_cons_succ, List.set_cons_zero])
        | ((with_reducible refine idp (p := awpL _ _ (_ :: _) _ _) ?_); refine awpL_split rfl rfl rfl (fun hc => ?_) (fun hc => ?_) <;> simp only [List.set_cons_succ, List.set_cons_zero])
        | ((with_reducible refine idp (p := dwalk _ _ _ _ _ _ (_ :: _) _ _) ?_); refine dwalk_cons rfl rfl (by simp [Region.binds]; rfl) (by decide) (by simp [Region.binds]; rfl) (by simp; rfl) fun K hK => ?_; simp [-Bool.exists_bool, aop, hk1, hg]; first | (refine ⟨_, (szAttr_ok _ _ (by omega) (by omega) hwg), hK _ (by simp) ?_⟩; clear hK K; simp only [dval, absorb_eq, absorbc_eq, absV, absVc, absO, absOc, absN, absNc, List.append_nil, Nat.add_zero, Nat.zero_add, Nat.reduceAdd, List.length_cons, List.length_nil, List.cons_append, List.nil_append]) | ((try simp (disch := omega) only [wrap64]); refine hK _ (by simp) ?_; clear hK K; simp))
        | ((with_reducible refine idp (p := awpL _ _ [] _ _) ?_); refine awpL_nil ?_)
        | ((with_reducible refine idp (p := awp _ (.region _ _ true) _ _) ?_); refine awp_drawn (by decide) ?_)
        | ((with_reducible refine idp (p := dwalk _ _ _ _ _ _ [] _ _) ?_); refine dwalk_nil (by simp; rfl) (by simp; rfl) ?_)
        | ((with_reducible refine idp (p := awp _ (.seq _ _) _ _) ?_); refine awp_seq fun K hK => ?_)
        | ((with_reducible refine idp (p := awp _ (.region _ _ false) _ _) ?_); refine awp_region ?_)
        | ((with_reducible refine idp (p := AThen _ _ .normal _) ?_); refine awp_then (by assumption) ?_)
        | ((with_reducible refine idp (p := AThen _ _ .ret _) ?_); refine awp_then_ret ?_)
        | ((with_reducible refine idp (p := AThen _ _ (.exit _) _) ?_); refine awp_then_exit ?_)
        | ((with_reducible refine idp (p := AIn _ _ .normal _) ?_); refine awp_in_normal ?_)
        | ((with_reducible refine idp (p := AIn _ _ .ret _) ?_); refine awp_in_ret ?_)
        | ((with_reducible refine idp (p := AIn _ _ (.exit _) _) ?_); first | refine awp_in_eq ?_ | refine awp_in_ne (by decide) ?_)
        | ((with_reducible refine idp (p := awp _ .ret _ _) ?_); refine awp_ret ?_)
        | ((with_reducible refine idp (p := awp _ (.cond _ _ _) _ _) ?_); (refine awp_cond rfl (fun hc => ?_) (fun hc => ?_) <;> (try simp at hc) <;> (try (exfalso; omega))))
        | ((with_reducible refine idp (p := awp _ (.block _ _) _ _) ?_); refine awp_block ?_)
        | ((with_reducible refine idp (p := awp _ (.exit _) _ _) ?_); refine awp_exit ?_)
        | ((with_reducible refine idp (p := awp _ .skip _ _) ?_); refine awp_skip ?_))
      · refine ⟨.inr rfl, ?_⟩
        simp [Hands, Try.results92, szL]
        (repeat clear hK K); simp only [sub] at *; grind
      · refine hK1 _ ⟨k + 1, by omega, by (repeat clear hK K); simp only [sub] at *; grind⟩ (weak_o (by simp) ?_) (by simp only; omega)
        simp
        (repeat clear hK K); simp only [sub] at *; grind
    · repeat' (first
        | ((with_reducible refine idp (p := awpL _ _ (_ :: _) _ _) ?_); refine awpL_cons rfl fun K hK => ?_; simp [-Bool.exists_bool, aop, hk1]; first | ((try simp (disch := omega) only [wrap64]); refine hK _ ?_; clear hK K))
        | ((with_reducible refine idp (p := awpL _ _ (_ :: _) _ _) ?_); refine awpL_take rfl ?_ ?_; (focus (simp [guardA, hk1]; done)); intro K hK; simp [-Bool.exists_bool, aop, hk1]; first | ((try simp (disch := omega) only [wrap64]); refine hK _ ?_; clear hK K))
        | ((with_reducible refine idp (p := awpL _ _ (_ :: _) _ _) ?_); refine awpL_skip rfl ?_ ?_; (focus (simp [guardA, hk1]; done)); simp only [AS.put, List.set_cons_succ, List.set_cons_zero])
        | ((with_reducible refine idp (p := awpL _ _ (_ :: _) _ _) ?_); refine awpL_split rfl rfl rfl (fun hc => ?_) (fun hc => ?_) <;> simp only [List.set_cons_succ, List.set_cons_zero])
        | ((with_reducible refine idp (p := dwalk _ _ _ _ _ _ (_ :: _) _ _) ?_); refine dwalk_cons rfl rfl (by simp [Region.binds]; rfl) (by decide) (by simp [Region.binds]; rfl) (by simp; rfl) fun K hK => ?_; simp [-Bool.exists_bool, aop, hk1]; first | ((try simp (disch := omega) only [wrap64]); refine hK _ (by simp) ?_; clear hK K; simp))
        | ((with_reducible refine idp (p := awpL _ _ [] _ _) ?_); refine awpL_nil ?_)
        | ((with_reducible refine idp (p := awp _ (.region _ _ true) _ _) ?_); refine awp_drawn (by decide) ?_)
        | ((with_reducible refine idp (p := dwalk _ _ _ _ _ _ [] _ _) ?_); refine dwalk_nil (by simp; rfl) (by simp; rfl) ?_)
        | ((with_reducible refine idp (p := awp _ (.seq _ _) _ _) ?_); refine awp_seq fun K hK => ?_)
        | ((with_reducible refine idp (p := awp _ (.region _ _ false) _ _) ?_); refine awp_region ?_)
        | ((with_reducible refine idp (p := AThen _ _ .normal _) ?_); refine awp_then (by assumption) ?_)
        | ((with_reducible refine idp (p := AThen _ _ .ret _) ?_); refine awp_then_ret ?_)
        | ((with_reducible refine idp (p := AThen _ _ (.exit _) _) ?_); refine awp_then_exit ?_)
        | ((with_reducible refine idp (p := AIn _ _ .normal _) ?_); refine awp_in_normal ?_)
        | ((with_reducible refine idp (p := AIn _ _ .ret _) ?_); refine awp_in_ret ?_)
        | ((with_reducible refine idp (p := AIn _ _ (.exit _) _) ?_); first | refine awp_in_eq ?_ | refine awp_in_ne (by decide) ?_)
        | ((with_reducible refine idp (p := awp _ .ret _ _) ?_); refine awp_ret ?_)
        | ((with_reducible refine idp (p := awp _ (.cond _ _ _) _ _) ?_); (refine awp_cond rfl (fun hc => ?_) (fun hc => ?_) <;> (try simp at hc) <;> (try (exfalso; omega))))
        | ((with_reducible refine idp (p := awp _ (.block _ _) _ _) ?_); refine awp_block ?_)
        | ((with_reducible refine idp (p := awp _ (.exit _) _ _) ?_); refine awp_exit ?_)
        | ((with_reducible refine idp (p := awp _ .skip _ _) ?_); refine awp_skip ?_))
      all_goals (try (refine ⟨.inr rfl, ?_⟩; simp [Hands, Try.results92, szL]))
      all_goals (repeat clear hK K)
      have : k = l.length := by omega
      subst this
      rw [List.take_length] at *
      rw [sub_pos (by omega)]
      omega

theorem eqAttrS_ok (a b : List DAttr) (hs : szL szAttr a ≤ 1048576) : Ok Try.prog 96 [.sl .view 2 (a.map eAttr), .sl .view 2 (b.map eAttr)] (.bool (decide (a = b))) := by
  have hl : a.length ≤ 1048576 := by (try simp only [szL] at hs); omega
  refine ok_of_awp Try.mix Try.func96 rfl ?_
  simp only [Try.ntmps96, List.length_cons, List.length_nil, Nat.reduceSub, Nat.reduceAdd, List.replicate_succ, List.replicate_zero, List.cons_append, List.nil_append]
  repeat' (first
    | ((with_reducible refine idp (p := awpL _ _ (_ :: _) _ _) ?_); refine awpL_cons rfl fun K hK => ?_; simp [-Bool.exists_bool, aop]; first | ((try simp (disch := omega) only [wrap64]); refine hK _ ?_; clear hK K))
    | ((with_reducible refine idp (p := awpL _ _ (_ :: _) _ _) ?_); refine awpL_take rfl ?_ ?_; (focus (simp [guardA]; done)); intro K hK; simp [-Bool.exists_bool, aop]; first | ((try simp (disch := omega) only [wrap64]); refine hK _ ?_; clear hK K))
    | ((with_reducible refine idp (p := awpL _ _ (_ :: _) _ _) ?_); refine awpL_skip rfl ?_ ?_; (focus (simp [guardA]; done)); simp only [AS.put, List.set_cons_succ, List.set_cons_zero])
    | ((with_reducible refine idp (p := awpL _ _ (_ :: _) _ _) ?_); refine awpL_split rfl rfl rfl (fun hc => ?_) (fun hc => ?_) <;> simp only [List.set_cons_succ, List.set_cons_zero])
    | ((with_reducible refine idp (p := dwalk _ _ _ _ _ _ (_ :: _) _ _) ?_); refine dwalk_cons rfl rfl (by simp [Region.binds]; rfl) (by decide) (by simp [Region.binds]; rfl) (by simp; rfl) fun K hK => ?_; simp [-Bool.exists_bool, aop]; first | ((try simp (disch := omega) only [wrap64]); refine hK _ (by simp) ?_; clear hK K; simp))
    | ((with_reducible refine idp (p := awpL _ _ [] _ _) ?_); refine awpL_nil ?_)
    | ((with_reducible refine idp (p := awp _ (.region _ _ true) _ _) ?_); refine awp_drawn (by decide) ?_)
    | ((with_reducible refine idp (p := dwalk _ _ _ _ _ _ [] _ _) ?_); refine dwalk_nil (by simp; rfl) (by simp; rfl) ?_)
    | ((with_reducible refine idp (p := awp _ (.seq _ _) _ _) ?_); refine awp_seq fun K hK => ?_)
    | ((with_reducible refine idp (p := awp _ (.region _ _ false) _ _) ?_); refine awp_region ?_)
    | ((with_reducible refine idp (p := AThen _ _ .normal _) ?_); refine awp_then (by assumption) ?_)
    | ((with_reducible refine idp (p := AThen _ _ .ret _) ?_); refine awp_then_ret ?_)
    | ((with_reducible refine idp (p := AThen _ _ (.exit _) _) ?_); refine awp_then_exit ?_)
    | ((with_reducible refine idp (p := AIn _ _ .normal _) ?_); refine awp_in_normal ?_)
    | ((with_reducible refine idp (p := AIn _ _ .ret _) ?_); refine awp_in_ret ?_)
    | ((with_reducible refine idp (p := AIn _ _ (.exit _) _) ?_); first | refine awp_in_eq ?_ | refine awp_in_ne (by decide) ?_)
    | ((with_reducible refine idp (p := awp _ .ret _ _) ?_); refine awp_ret ?_)
    | ((with_reducible refine idp (p := awp _ (.cond _ _ _) _ _) ?_); (refine awp_cond rfl (fun hc => ?_) (fun hc => ?_) <;> (try simp at hc) <;> (try (exfalso; omega))))
    | ((with_reducible refine idp (p := awp _ (.block _ _) _ _) ?_); refine awp_block ?_)
    | ((with_reducible refine idp (p := awp _ (.exit _) _ _) ?_); refine awp_exit ?_)
    | ((with_reducible refine idp (p := awp _ .skip _ _) ?_); refine awp_skip ?_))
  · all_goals (try (refine ⟨.inr rfl, ?_⟩; simp [Hands, Try.results96]))
    all_goals (repeat clear hK K)
    intro h; subst h; exact absurd rfl hc
  · have hlen : a.length = b.length := by omega
    refine awp_loop' (ι := { k : Nat // k ≤ a.length ∧ a.take k = b.take k }) (fun t o i => ⟨upds t [(5, .int .i64 i.1)], []⟩)
      (fun i => a.length - i.1) ⟨0, by simp⟩ (weak_o (by simp) (by simp)) ?_
    rintro ⟨k, hk, hpre⟩ K1 hK1
    simp only [upds, List.set_cons_succ, List.set_cons_zero] at hK1 ⊢
    have hk1 : IntKind.i64.wrap ((k : Int) + 1) = ((k + 1 : Nat) : Int) := by rw [wrap64] <;> omega
    by_cases hlt : k < a.length
    · have hg := List.getElem?_eq_getElem hlt
      have hltb : k < b.length := by omega
      have hgb := List.getElem?_eq_getElem hltb
      repeat' (first
        | ((with_reducible refine idp (p := awpL _ _ (_ :: _) _ _) ?_); refine awpL_cons rfl fun K hK => ?_; simp [-Bool.exists_bool, aop, hk1, hg, hlt, hgb, hltb]; first | (refine ⟨_, (eqAttr_ok a[k] b[k] (by have := sumN_get_le szAttr a k hlt; (try simp only [szL] at hs); omega)), hK _ ?_⟩; clear hK K; (try simp only [absorb_eq, absorbc_eq, absV, absVc, absO, absOc, absN, absNc, List.append_nil, List.nil_append, List.cons_append, List.length_cons, List.length_nil, Nat.add_zero, Nat.zero_add, Nat.reduceAdd])) | ((try simp (disch := omega) only [wrap64]); refine hK _ ?_; clear hK K))
        | ((with_reducible refine idp (p := awpL _ _ (_ :: _) _ _) ?_); refine awpL_take rfl ?_ ?_; (focus (simp [guardA, hk1, hg, hlt, hgb, hltb]; done)); intro K hK; simp [-Bool.exists_bool, aop, hk1, hg, hlt, hgb, hltb]; first | (refine ⟨_, (eqAttr_ok a[k] b[k] (by have := sumN_get_le szAttr a k hlt; (try simp only [szL] at hs); omega)), hK _ ?_⟩; clear hK K; (try simp only [absorb_eq, absorbc_eq, absV, absVc, absO, absOc, absN, absNc, List.append_nil, List.nil_append, List.cons_append, List.length_cons, List.length_nil, Nat.add_zero, Nat.zero_add, Nat.reduceAdd])) | ((try simp (disch := omega) only [wrap64]); refine hK _ ?_; clear hK K))
        | ((with_reducible refine idp (p := awpL _ _ (_ :: _) _ _) ?_); refine awpL_skip rfl ?_ ?_; (focus (simp [guardA, hk1, hg, hlt, hgb, hltb]; done)); simp only [AS.put, List.set_cons_succ, List.set_cons_zero])
        | ((with_reducible refine idp (p := awpL _ _ (_ :: _) _ _) ?_); refine awpL_split rfl rfl rfl (fun hc => ?_) (fun hc => ?_) <;> simp only [List.set_cons_succ, List.set_cons_zero])
        | ((with_reducible refine idp (p := dwalk _ _ _ _ _ _ (_ :: _) _ _) ?_); refine dwalk_cons rfl rfl (by simp [Region.binds]; rfl) (by decide) (by simp [Region.binds]; rfl) (by simp; rfl) fun K hK => ?_; simp [-Bool.exists_bool, aop, hk1, hg, hlt, hgb, hltb]; first | (refine ⟨_, (eqAttr_ok a[k] b[k] (by have := sumN_get_le szAttr a k hlt; (try simp only [szL] at hs); omega)), hK _ (by simp) ?_⟩; clear hK K; simp only [dval, absorb_eq, absorbc_eq, absV, absVc, absO, absOc, absN, absNc, List.append_nil, Nat.add_zero, Nat.zero_add, Nat.reduceAdd, List.length_cons, List.length_nil, List.cons_append, List.nil_append]) | ((try simp (disch := omega) only [wrap64]); refine hK _ (by simp) ?_; clear hK K; simp))
        | ((with_reducible refine idp (p := awpL _ _ [] _ _) ?_); refine awpL_nil ?_)
        | ((with_reducible refine idp (p := awp _ (.region _ _ true) _ _) ?_); refine awp_drawn (by decide) ?_)
        | ((with_reducible refine idp (p := dwalk _ _ _ _ _ _ [] _ _) ?_); refine dwalk_nil (by simp; rfl) (by simp; rfl) ?_)
        | ((with_reducible refine idp (p := awp _ (.seq _ _) _ _) ?_); refine awp_seq fun K hK => ?_)
        | ((with_reducible refine idp (p := awp _ (.region _ _ false) _ _) ?_); refine awp_region ?_)
        | ((with_reducible refine idp (p := AThen _ _ .normal _) ?_); refine awp_then (by assumption) ?_)
        | ((with_reducible refine idp (p := AThen _ _ .ret _) ?_); refine awp_then_ret ?_)
        | ((with_reducible refine idp (p := AThen _ _ (.exit _) _) ?_); refine awp_then_exit ?_)
        | ((with_reducible refine idp (p := AIn _ _ .normal _) ?_); refine awp_in_normal ?_)
        | ((with_reducible refine idp (p := AIn _ _ .ret _) ?_); refine awp_in_ret ?_)
        | ((with_reducible refine idp (p := AIn _ _ (.exit _) _) ?_); first | refine awp_in_eq ?_ | refine awp_in_ne (by decide) ?_)
        | ((with_reducible refine idp (p := awp _ .ret _ _) ?_); refine awp_ret ?_)
        | ((with_reducible refine idp (p := awp _ (.cond _ _ _) _ _) ?_); (refine awp_cond rfl (fun hc => ?_) (fun hc => ?_) <;> (try simp at hc) <;> (try (exfalso; omega))))
        | ((with_reducible refine idp (p := awp _ (.block _ _) _ _) ?_); refine awp_block ?_)
        | ((with_reducible refine idp (p := awp _ (.exit _) _ _) ?_); refine awp_exit ?_)
        | ((with_reducible refine idp (p := awp _ .skip _ _) ?_); refine awp_skip ?_))
      · all_goals (try (refine ⟨.inr rfl, ?_⟩; simp [Hands, Try.results96]))
        all_goals (repeat clear hK K)
        intro h; subst h; exact hc rfl
      · have hts : a.take (k + 1) = b.take (k + 1) := by
          rw [List.take_succ_eq_append_getElem hlt, List.take_succ_eq_append_getElem hltb, hpre, hc]
        refine hK1 _ ⟨k + 1, by omega, hts⟩ (weak_o (by simp) (by simp)) (by simp only; omega)
    · have hka : a.length ≤ k := by omega
      rw [List.take_of_length_le hka, List.take_of_length_le (by omega)] at hpre
      subst hpre
      repeat' (first
        | ((with_reducible refine idp (p := awpL _ _ (_ :: _) _ _) ?_); refine awpL_cons rfl fun K hK => ?_; simp [-Bool.exists_bool, aop, hk1]; first | ((try simp (disch := omega) only [wrap64]); refine hK _ ?_; clear hK K))
        | ((with_reducible refine idp (p := awpL _ _ (_ :: _) _ _) ?_); refine awpL_take rfl ?_ ?_; (focus (simp [guardA, hk1]; done)); intro K hK; simp [-Bool.exists_bool, aop, hk1]; first | ((try simp (disch := omega) only [wrap64]); refine hK _ ?_; clear hK K))
        | ((with_reducible refine idp (p := awpL _ _ (_ :: _) _ _) ?_); refine awpL_skip rfl ?_ ?_; (focus (simp [guardA, hk1]; done)); simp only [AS.put, List.set_cons_succ, List.set_cons_zero])
        | ((with_reducible refine idp (p := awpL _ _ (_ :: _) _ _) ?_); refine awpL_split rfl rfl rfl (fun hc => ?_) (fun hc => ?_) <;> simp only [List.set_cons_succ, List.set_cons_zero])
        | ((with_reducible refine idp (p := dwalk _ _ _ _ _ _ (_ :: _) _ _) ?_); refine dwalk_cons rfl rfl (by simp [Region.binds]; rfl) (by decide) (by simp [Region.binds]; rfl) (by simp; rfl) fun K hK => ?_; simp [-Bool.exists_bool, aop, hk1]; first | ((try simp (disch := omega) only [wrap64]); refine hK _ (by simp) ?_; clear hK K; simp))
        | ((with_reducible refine idp (p := awpL _ _ [] _ _) ?_); refine awpL_nil ?_)
        | ((with_reducible refine idp (p := awp _ (.region _ _ true) _ _) ?_); refine awp_drawn (by decide) ?_)
        | ((with_reducible refine idp (p := dwalk _ _ _ _ _ _ [] _ _) ?_); refine dwalk_nil (by simp; rfl) (by simp; rfl) ?_)
        | ((with_reducible refine idp (p := awp _ (.seq _ _) _ _) ?_); refine awp_seq fun K hK => ?_)
        | ((with_reducible refine idp (p := awp _ (.region _ _ false) _ _) ?_); refine awp_region ?_)
        | ((with_reducible refine idp (p := AThen _ _ .normal _) ?_); refine awp_then (by assumption) ?_)
        | ((with_reducible refine idp (p := AThen _ _ .ret _) ?_); refine awp_then_ret ?_)
        | ((with_reducible refine idp (p := AThen _ _ (.exit _) _) ?_); refine awp_then_exit ?_)
        | ((with_reducible refine idp (p := AIn _ _ .normal _) ?_); refine awp_in_normal ?_)
        | ((with_reducible refine idp (p := AIn _ _ .ret _) ?_); refine awp_in_ret ?_)
        | ((with_reducible refine idp (p := AIn _ _ (.exit _) _) ?_); first | refine awp_in_eq ?_ | refine awp_in_ne (by decide) ?_)
        | ((with_reducible refine idp (p := awp _ .ret _ _) ?_); refine awp_ret ?_)
        | ((with_reducible refine idp (p := awp _ (.cond _ _ _) _ _) ?_); (refine awp_cond rfl (fun hc => ?_) (fun hc => ?_) <;> (try simp at hc) <;> (try (exfalso; omega))))
        | ((with_reducible refine idp (p := awp _ (.block _ _) _ _) ?_); refine awp_block ?_)
        | ((with_reducible refine idp (p := awp _ (.exit _) _ _) ?_); refine awp_exit ?_)
        | ((with_reducible refine idp (p := awp _ .skip _ _) ?_); refine awp_skip ?_))
      all_goals (try (refine ⟨.inr rfl, ?_⟩; simp [Hands, Try.results96]))
      all_goals (repeat clear hK K)

theorem toAddrS_ok (l : List DAddr) (hs : szL szAddr l ≤ 1048576) : Ok Try.prog 50 [.sl .view 2 (l.map eAddr)] (.sl .own 2 (l.map eAddr)) := by
  have hl : l.length ≤ 1048576 := by (try simp only [szL] at hs); omega
  have hb : (32 : Int) * (l.length : Int) ≤ 281474976710656 := by omega
  have hb2 : (l.length : Int) ≤ 9223372036854775807 := by omega
  generalize hz : ([.str [], .str []] : List AV) = z
  have hz0 := fillL_zero z (l.map eAddr)
  rw [List.length_map] at hz0
  refine ok_of_awp Try.mix Try.func50 rfl ?_
  simp only [Try.ntmps50, List.length_cons, List.length_nil, Nat.reduceSub, Nat.reduceAdd, List.replicate_succ, List.replicate_zero, List.cons_append, List.nil_append]
  repeat' (first
    | ((with_reducible refine idp (p := awpL _ _ (_ :: _) _ _) ?_); refine awpL_cons rfl fun K hK => ?_; simp [-Bool.exists_bool, aop, hb, hb2]; first | ((try simp (disch := omega) only [wrap64]); refine hK _ ?_; clear hK K))
    | ((with_reducible refine idp (p := awpL _ _ (_ :: _) _ _) ?_); refine awpL_take rfl ?_ ?_; (focus (simp [guardA, hb, hb2]; done)); intro K hK; simp [-Bool.exists_bool, aop, hb, hb2]; first | ((try simp (disch := omega) only [wrap64]); refine hK _ ?_; clear hK K))
    | ((with_reducible refine idp (p := awpL _ _ (_ :: _) _ _) ?_); refine awpL_skip rfl ?_ ?_; (focus (simp [guardA, hb, hb2]; done)); simp only [AS.put, List.set_cons_succ, List.set_cons_zero])
    | ((with_reducible refine idp (p := awpL _ _ (_ :: _) _ _) ?_); refine awpL_split rfl rfl rfl (fun hc => ?_) (fun hc => ?_) <;> simp only [List.set_cons_succ, List.set_cons_zero])
    | ((with_reducible refine idp (p := dwalk _ _ _ _ _ _ (_ :: _) _ _) ?_); refine dwalk_cons rfl rfl (by simp [Region.binds]; rfl) (by decide) (by simp [Region.binds]; rfl) (by simp; rfl) fun K hK => ?_; simp [-Bool.exists_bool, aop, hb, hb2]; first | ((try simp (disch := omega) only [wrap64]); refine hK _ (by simp) ?_; clear hK K; simp))
    | ((with_reducible refine idp (p := awpL _ _ [] _ _) ?_); refine awpL_nil ?_)
    | ((with_reducible refine idp (p := awp _ (.region _ _ true) _ _) ?_); refine awp_drawn (by decide) ?_)
    | ((with_reducible refine idp (p := dwalk _ _ _ _ _ _ [] _ _) ?_); refine dwalk_nil (by simp; rfl) (by simp; rfl) ?_)
    | ((with_reducible refine idp (p := awp _ (.seq _ _) _ _) ?_); refine awp_seq fun K hK => ?_)
    | ((with_reducible refine idp (p := awp _ (.region _ _ false) _ _) ?_); refine awp_region ?_)
    | ((with_reducible refine idp (p := AThen _ _ .normal _) ?_); refine awp_then (by assumption) ?_)
    | ((with_reducible refine idp (p := AThen _ _ .ret _) ?_); refine awp_then_ret ?_)
    | ((with_reducible refine idp (p := AThen _ _ (.exit _) _) ?_); refine awp_then_exit ?_)
    | ((with_reducible refine idp (p := AIn _ _ .normal _) ?_); refine awp_in_normal ?_)
    | ((with_reducible refine idp (p := AIn _ _ .ret _) ?_); refine awp_in_ret ?_)
    | ((with_reducible refine idp (p := AIn _ _ (.exit _) _) ?_); first | refine awp_in_eq ?_ | refine awp_in_ne (by decide) ?_)
    | ((with_reducible refine idp (p := awp _ .ret _ _) ?_); refine awp_ret ?_)
    | ((with_reducible refine idp (p := awp _ (.cond _ _ _) _ _) ?_); (refine awp_cond rfl (fun hc => ?_) (fun hc => ?_) <;> (try simp at hc) <;> (try (exfalso; omega))))
    | ((with_reducible refine idp (p := awp _ (.block _ _) _ _) ?_); refine awp_block ?_)
    | ((with_reducible refine idp (p := awp _ (.exit _) _ _) ?_); refine awp_exit ?_)
    | ((with_reducible refine idp (p := awp _ .skip _ _) ?_); refine awp_skip ?_))
  refine awp_loop' (ι := { k : Nat // k ≤ l.length }) (fun t o i => ⟨upds t [(4, .int .i64 i.1)], [⟨true, false, 2, 1, fillL z (l.map eAddr) i.1⟩]⟩)
    (fun i => l.length - i.1) ⟨0, by simp⟩ (weak_o (by simp [hz, hz0]) (by simp)) ?_
  rintro ⟨k, hk⟩ K1 hK1
  simp only [upds, List.set_cons_succ, List.set_cons_zero] at hK1 ⊢
  have hk1 : IntKind.i64.wrap ((k : Int) + 1) = ((k + 1 : Nat) : Int) := by rw [wrap64] <;> omega
  by_cases hlt : k < l.length
  · have hg := List.getElem?_eq_getElem hlt
    have hfg := fillL_get z (l.map eAddr) k (by simpa using hlt)
    have hfs := fillL_set z (l.map eAddr) k (by simpa using hlt)
    rw [List.getElem_map] at hfs
    simp only [eAddr] at hfs
    have hzl : z.length = 2 := by rw [← hz]; rfl
    have hzd : z.drop 2 = [] := by rw [← hz]; rfl
    repeat' (first
      | ((with_reducible refine idp (p := awpL _ _ (_ :: _) _ _) ?_); refine awpL_cons rfl fun K hK => ?_; simp [-Bool.exists_bool, aop, hk1, hg, hfg, hzl, hzd, hfs]; first | (refine ⟨_, (toAddr_ok l[k] (by have := sumN_get_le szAddr l k hlt; (try simp only [szL] at hs); omega)), hK _ ?_⟩; clear hK K; (try simp only [absorb_eq, absorbc_eq, absV, absVc, absO, absOc, absN, absNc, List.append_nil, List.nil_append, List.cons_append, List.length_cons, List.length_nil, Nat.add_zero, Nat.zero_add, Nat.reduceAdd])) | ((try simp (disch := omega) only [wrap64]); refine hK _ ?_; clear hK K))
      | ((with_reducible refine idp (p := awpL _ _ (_ :: _) _ _) ?_); refine awpL_cons rfl fun K hK => ?_; simp [-Bool.exists_bool, aop, hk1, hg, hlt]; first | (refine ⟨_, (toAddr_ok l[k] (by have := sumN_get_le szAddr l k hlt; (try simp only [szL] at hs); omega)), hK _ ?_⟩; clear hK K; (try simp only [absorb_eq, absorbc_eq, absV, absVc, absO, absOc, absN, absNc, List.append_nil, List.nil_append, List.cons_append, List.length_cons, List.length_nil, Nat.add_zero, Nat.zero_add, Nat.reduceAdd])) | ((try simp (disch := omega) only [wrap64]); refine hK _ ?_; clear hK K))
      | ((with_reducible refine idp (p := awpL _ _ (_ :: _) _ _) ?_); refine awpL_take rfl ?_ ?_; (focus (simp [guardA, hk1, hg, hfg, hzl, hzd, hfs]; done)); intro K hK; simp [-Bool.exists_bool, aop, hk1, hg, hfg, hzl, hzd, hfs]; first | (refine ⟨_, (toAddr_ok l[k] (by have := sumN_get_le szAddr l k hlt; (try simp only [szL] at hs); omega)), hK _ ?_⟩; clear hK K; (try simp only [absorb_eq, absorbc_eq, absV, absVc, absO, absOc, absN, absNc, List.append_nil, List.nil_append, List.cons_append, List.length_cons, List.length_nil, Nat.add_zero, Nat.zero_add, Nat.reduceAdd])) | ((try simp (disch := omega) only [wrap64]); refine hK _ ?_; clear hK K))
      | ((with_reducible refine idp (p := awpL _ _ (_ :: _) _ _) ?_); refine awpL_take rfl ?_ ?_; (focus (simp [guardA, hk1, hg, hlt]; done)); intro K hK; simp [-Bool.exists_bool, aop, hk1, hg, hlt]; first | (refine ⟨_, (toAddr_ok l[k] (by have := sumN_get_le szAddr l k hlt; (try simp only [szL] at hs); omega)), hK _ ?_⟩; clear hK K; (try simp only [absorb_eq, absorbc_eq, absV, absVc, absO, absOc, absN, absNc, List.append_nil, List.nil_append, List.cons_append, List.length_cons, List.length_nil, Nat.add_zero, Nat.zero_add, Nat.reduceAdd])) | ((try simp (disch := omega) only [wrap64]); refine hK _ ?_; clear hK K))
      | ((with_reducible refine idp (p := awpL _ _ (_ :: _) _ _) ?_); refine awpL_skip rfl ?_ ?_; (focus (simp [guardA, hk1, hg, hlt]; done)); simp only [AS.put, List.set_cons_succ, List.set_cons_zero])
      | ((with_reducible refine idp (p := awpL _ _ (_ :: _) _ _) ?_); refine awpL_split rfl rfl rfl (fun hc => ?_) (fun hc => ?_) <;> simp only [List.set_cons_succ, List.set_cons_zero])
      | ((with_reducible refine idp (p := dwalk _ _ _ _ _ _ (_ :: _) _ _) ?_); refine dwalk_cons rfl rfl (by simp [Region.binds]; rfl) (by decide) (by simp [Region.binds]; rfl) (by simp; rfl) fun K hK => ?_; simp [-Bool.exists_bool, aop, hk1, hg, hfg, hzl, hzd, hfs]; first | (refine ⟨_, (toAddr_ok l[k] (by have := sumN_get_le szAddr l k hlt; (try simp only [szL] at hs); omega)), hK _ (by simp) ?_⟩; clear hK K; simp only [dval, absorb_eq, absorbc_eq, absV, absVc, absO, absOc, absN, absNc, List.append_nil, Nat.add_zero, Nat.zero_add, Nat.reduceAdd, List.length_cons, List.length_nil, List.cons_append, List.nil_append]) | ((try simp (disch := omega) only [wrap64]); refine hK _ (by simp) ?_; clear hK K; simp))
      | ((with_reducible refine idp (p := dwalk _ _ _ _ _ _ (_ :: _) _ _) ?_); refine dwalk_cons rfl rfl (by simp [Region.binds]; rfl) (by decide) (by simp [Region.binds]; rfl) (by simp; rfl) fun K hK => ?_; simp [-Bool.exists_bool, aop, hk1, hg, hlt]; first | (refine ⟨_, (toAddr_ok l[k] (by have := sumN_get_le szAddr l k hlt; (try simp only [szL] at hs); omega)), hK _ (by simp) ?_⟩; clear hK K; simp only [dval, absorb_eq, absorbc_eq, absV, absVc, absO, absOc, absN, absNc, List.append_nil, Nat.add_zero, Nat.zero_add, Nat.reduceAdd, List.length_cons, List.length_nil, List.cons_append, List.nil_append]) | ((try simp (disch := omega) only [wrap64]); refine hK _ (by simp) ?_; clear hK K; simp))
      | ((with_reducible refine idp (p := awpL _ _ [] _ _) ?_); refine awpL_nil ?_)
      | ((with_reducible refine idp (p := awp _ (.region _ _ true) _ _) ?_); refine awp_drawn (by decide) ?_)
      | ((with_reducible refine idp (p := dwalk _ _ _ _ _ _ [] _ _) ?_); refine dwalk_nil (by simp; rfl) (by simp; rfl) ?_)
      | ((with_reducible refine idp (p := awp _ (.seq _ _) _ _) ?_); refine awp_seq fun K hK => ?_)
      | ((with_reducible refine idp (p := awp _ (.region _ _ false) _ _) ?_); refine awp_region ?_)
      | ((with_reducible refine idp (p := AThen _ _ .normal _) ?_); refine awp_then (by assumption) ?_)
      | ((with_reducible refine idp (p := AThen _ _ .ret _) ?_); refine awp_then_ret ?_)
      | ((with_reducible refine idp (p := AThen _ _ (.exit _) _) ?_); refine awp_then_exit ?_)
      | ((with_reducible refine idp (p := AIn _ _ .normal _) ?_); refine awp_in_normal ?_)
      | ((with_reducible refine idp (p := AIn _ _ .ret _) ?_); refine awp_in_ret ?_)
      | ((with_reducible refine idp (p := AIn _ _ (.exit _) _) ?_); first | refine awp_in_eq ?_ | refine awp_in_ne (by decide) ?_)
      | ((with_reducible refine idp (p := awp _ .ret _ _) ?_); refine awp_ret ?_)
      | ((with_reducible refine idp (p := awp _ (.cond _ _ _) _ _) ?_); (refine awp_cond rfl (fun hc => ?_) (fun hc => ?_) <;> (try simp at hc) <;> (try (exfalso; omega))))
      | ((with_reducible refine idp (p := awp _ (.block _ _) _ _) ?_); refine awp_block ?_)
      | ((with_reducible refine idp (p := awp _ (.exit _) _ _) ?_); refine awp_exit ?_)
      | ((with_reducible refine idp (p := awp _ .skip _ _) ?_); refine awp_skip ?_))
    refine hK1 _ ⟨k + 1, by omega⟩ (weak_take 1 rfl ?_ (by simp) (by simp)) (by simp only; omega)
    simp
  · repeat' (first
      | ((with_reducible refine idp (p := awpL _ _ (_ :: _) _ _) ?_); refine awpL_cons rfl fun K hK => ?_; simp [-Bool.exists_bool, aop, hk1]; first | ((try simp (disch := omega) only [wrap64]); refine hK _ ?_; clear hK K))
      | ((with_reducible refine idp (p := awpL _ _ (_ :: _) _ _) ?_); refine awpL_take rfl ?_ ?_; (focus (simp [guardA, hk1]; done)); intro K hK; simp [-Bool.exists_bool, aop, hk1]; first | ((try simp (disch := omega) only [wrap64]); refine hK _ ?_; clear hK K))
      | ((with_reducible refine idp (p := awpL _ _ (_ :: _) _ _) ?_); refine awpL_skip rfl ?_ ?_; (focus (simp [guardA, hk1]; done)); simp only [AS.put, List.set_cons_succ, List.set_cons_zero])
      | ((with_reducible refine idp (p := awpL _ _ (_ :: _) _ _) ?_); refine awpL_split rfl rfl rfl (fun hc => ?_) (fun hc => ?_) <;> simp only [List.set_cons_succ, List.set_cons_zero])
      | ((with_reducible refine idp (p := dwalk _ _ _ _ _ _ (_ :: _) _ _) ?_); refine dwalk_cons rfl rfl (by simp [Region.binds]; rfl) (by decide) (by simp [Region.binds]; rfl) (by simp; rfl) fun K hK => ?_; simp [-Bool.exists_bool, aop, hk1]; first | ((try simp (disch := omega) only [wrap64]); refine hK _ (by simp) ?_; clear hK K; simp))
      | ((with_reducible refine idp (p := awpL _ _ [] _ _) ?_); refine awpL_nil ?_)
      | ((with_reducible refine idp (p := awp _ (.region _ _ true) _ _) ?_); refine awp_drawn (by decide) ?_)
      | ((with_reducible refine idp (p := dwalk _ _ _ _ _ _ [] _ _) ?_); refine dwalk_nil (by simp; rfl) (by simp; rfl) ?_)
      | ((with_reducible refine idp (p := awp _ (.seq _ _) _ _) ?_); refine awp_seq fun K hK => ?_)
      | ((with_reducible refine idp (p := awp _ (.region _ _ false) _ _) ?_); refine awp_region ?_)
      | ((with_reducible refine idp (p := AThen _ _ .normal _) ?_); refine awp_then (by assumption) ?_)
      | ((with_reducible refine idp (p := AThen _ _ .ret _) ?_); refine awp_then_ret ?_)
      | ((with_reducible refine idp (p := AThen _ _ (.exit _) _) ?_); refine awp_then_exit ?_)
      | ((with_reducible refine idp (p := AIn _ _ .normal _) ?_); refine awp_in_normal ?_)
      | ((with_reducible refine idp (p := AIn _ _ .ret _) ?_); refine awp_in_ret ?_)
      | ((with_reducible refine idp (p := AIn _ _ (.exit _) _) ?_); first | refine awp_in_eq ?_ | refine awp_in_ne (by decide) ?_)
      | ((with_reducible refine idp (p := awp _ .ret _ _) ?_); refine awp_ret ?_)
      | ((with_reducible refine idp (p := awp _ (.cond _ _ _) _ _) ?_); (refine awp_cond rfl (fun hc => ?_) (fun hc => ?_) <;> (try simp at hc) <;> (try (exfalso; omega))))
      | ((with_reducible refine idp (p := awp _ (.block _ _) _ _) ?_); refine awp_block ?_)
      | ((with_reducible refine idp (p := awp _ (.exit _) _ _) ?_); refine awp_exit ?_)
      | ((with_reducible refine idp (p := awp _ .skip _ _) ?_); refine awp_skip ?_))
    have hfa := fillL_all z (l.map eAddr) k (by simpa using hlt)
    all_goals (try (refine ⟨.inr rfl, ?_⟩; simp [Hands, Try.results50, hfa]))
    all_goals (repeat clear hK K)

theorem szAddrS_ok (l : List DAddr) (n : Int) (h0 : 0 ≤ n) (h1 : n ≤ 1048576) (hw : l.length ≤ 9223372036854775807 ∧ ∀ y ∈ l, wfAddr y) : Ok Try.prog 42 [.sl .view 2 (l.map eAddr), .int .i64 n] (.int .i64 (sub n (szL szAddr l))) := by
  obtain ⟨hl, hw⟩ := hw
  refine ok_of_awp Try.mix Try.func42 rfl ?_
  simp only [Try.ntmps42, List.length_cons, List.length_nil, Nat.reduceSub, Nat.reduceAdd, List.replicate_succ, List.replicate_zero, List.cons_append, List.nil_append]
  repeat' (first
    | ((with_reducible refine idp (p := awpL _ _ (_ :: _) _ _) ?_); refine awpL_cons rfl fun K hK => ?_; simp [-Bool.exists_bool, aop]; first | ((try simp (disch := omega) only [wrap64]); refine hK _ ?_; clear hK K))
    | ((with_reducible refine idp (p := awpL _ _ (_ :: _) _ _) ?_); refine awpL_take rfl ?_ ?_; (focus (simp [guardA]; done)); intro K hK; simp [-Bool.exists_bool, aop]; first | ((try simp (disch := omega) only [wrap64]); refine hK _ ?_; clear hK K))
    | ((with_reducible refine idp (p := awpL _ _ (_ :: _) _ _) ?_); refine awpL_skip rfl ?_ ?_; (focus (simp [guardA]; done)); simp only [AS.put, List.set_cons_succ, List.set_cons_zero])
    | ((with_reducible refine idp (p := awpL _ _ (_ :: _) _ _) ?_); refine awpL_split rfl rfl rfl (fun hc => ?_) (fun hc => ?_) <;> simp only [List.set_cons_succ, List.set_cons_zero])
    | ((with_reducible refine idp (p := dwalk _ _ _ _ _ _ (_ :: _) _ _) ?_); refine dwalk_cons rfl rfl (by simp [Region.binds]; rfl) (by decide) (by simp [Region.binds]; rfl) (by simp; rfl) fun K hK => ?_; simp [-Bool.exists_bool, aop]; first | ((try simp (disch := omega) only [wrap64]); refine hK _ (by simp) ?_; clear hK K; simp))
    | ((with_reducible refine idp (p := awpL _ _ [] _ _) ?_); refine awpL_nil ?_)
    | ((with_reducible refine idp (p := awp _ (.region _ _ true) _ _) ?_); refine awp_drawn (by decide) ?_)
    | ((with_reducible refine idp (p := dwalk _ _ _ _ _ _ [] _ _) ?_); refine dwalk_nil (by simp; rfl) (by simp; rfl) ?_)
    | ((with_reducible refine idp (p := awp _ (.seq _ _) _ _) ?_); refine awp_seq fun K hK => ?_)
    | ((with_reducible refine idp (p := awp _ (.region _ _ false) _ _) ?_); refine awp_region ?_)
    | ((with_reducible refine idp (p := AThen _ _ .normal _) ?_); refine awp_then (by assumption) ?_)
    | ((with_reducible refine idp (p := AThen _ _ .ret _) ?_); refine awp_then_ret ?_)
    | ((with_reducible refine idp (p := AThen _ _ (.exit _) _) ?_); refine awp_then_exit ?_)
    | ((with_reducible refine idp (p := AIn _ _ .normal _) ?_); refine awp_in_normal ?_)
    | ((with_reducible refine idp (p := AIn _ _ .ret _) ?_); refine awp_in_ret ?_)
    | ((with_reducible refine idp (p := AIn _ _ (.exit _) _) ?_); first | refine awp_in_eq ?_ | refine awp_in_ne (by decide) ?_)
    | ((with_reducible refine idp (p := awp _ .ret _ _) ?_); refine awp_ret ?_)
    | ((with_reducible refine idp (p := awp _ (.cond _ _ _) _ _) ?_); (refine awp_cond rfl (fun hc => ?_) (fun hc => ?_) <;> (try simp at hc) <;> (try (exfalso; omega))))
    | ((with_reducible refine idp (p := awp _ (.block _ _) _ _) ?_); refine awp_block ?_)
    | ((with_reducible refine idp (p := awp _ (.exit _) _ _) ?_); refine awp_exit ?_)
    | ((with_reducible refine idp (p := awp _ .skip _ _) ?_); refine awp_skip ?_))
  · refine ⟨.inr rfl, ?_⟩; simp [Hands, Try.results42, sub, szL]; omega
  · refine awp_loop' (ι := { k : Nat // k ≤ l.length ∧ l.length + sumN szAddr (l.take k) ≤ n }) (fun t o i => ⟨upds t [(1, .int .i64 (n - (l.length + sumN szAddr (l.take i.1) : Nat))), (5, .int .i64 i.1)], []⟩)
      (fun i => l.length - i.1) ⟨0, by simp, by simp [sumN]; omega⟩ (weak_o (by simp) (by simp [sumN])) ?_
    rintro ⟨k, hk, hs⟩ K1 hK1
    simp only [upds, List.set_cons_succ, List.set_cons_zero] at hK1 ⊢
    have hk1 : IntKind.i64.wrap ((k : Int) + 1) = ((k + 1 : Nat) : Int) := by rw [wrap64] <;> omega
    by_cases hlt : k < l.length
    · have hg := List.getElem?_eq_getElem hlt
      have hts := sumN_take_succ szAddr l k hlt
      have htl := sumN_take_le szAddr l (k + 1)
      have hwg := hw _ (List.getElem_mem hlt)
      repeat' (first
        | ((with_reducible refine idp (p := awpL _ _ (_ :: _) _ _) ?_); refine awpL_cons rfl fun K hK => ?_; simp [-Bool.exists_bool, aop, hk1, hg]; first | (refine ⟨_, (szAddr_ok _ _ (by omega) (by omega) hwg), hK _ ?_⟩; clear hK K; (try simp only [absorb_eq, absorbc_eq, absV, absVc, absO, absOc, absN, absNc, List.append_nil, List.nil_append, List.cons_append, List.length_cons, List.length_nil, Nat.add_zero, Nat.zero_add, Nat.reduceAdd])) | ((try simp (disch := omega) only [wrap64]); refine hK _ ?_; clear hK K))
        | ((with_reducible refine idp (p := awpL _ _ (_ :: _) _ _) ?_); refine awpL_take rfl ?_ ?_; (focus (simp [guardA, hk1, hg]; done)); intro K hK; simp [-Bool.exists_bool, aop, hk1, hg]; first | (refine ⟨_, (szAddr_ok _ _ (by omega) (by omega) hwg), hK _ ?_⟩; clear hK K; (try simp only [absorb_eq, absorbc_eq, absV, absVc, absO, absOc, absN, absNc, List.append_nil, List.nil_append, List.cons_append, List.length_cons, List.length_nil, Nat.add_zero, Nat.zero_add, Nat.reduceAdd])) | ((try simp (disch := omega) only [wrap64]); refine hK _ ?_; clear hK K))
        | ((with_reducible refine idp (p := awpL _ _ (_ :: _) _ _) ?_); refine awpL_skip rfl ?_ ?_; (focus (simp [guardA, hk1, hg]; done)); simp only [AS.put, List.set_cons_succ, List.set_cons_zero])
        | ((with_reducible refine idp (p := awpL _ _ (_ :: _) _ _) ?_); refine awpL_split rfl rfl rfl (fun hc => ?_) (fun hc => ?_) <;> simp only [List.set_cons_succ, List.set_cons_zero])
        | ((with_reducible refine idp (p := dwalk _ _ _ _ _ _ (_ :: _) _ _) ?_); refine dwalk_cons rfl rfl (by simp [Region.binds]; rfl) (by decide) (by simp [Region.binds]; rfl) (by simp; rfl) fun K hK => ?_; simp [-Bool.exists_bool, aop, hk1, hg]; first | (refine ⟨_, (szAddr_ok _ _ (by omega) (by omega) hwg), hK _ (by simp) ?_⟩; clear hK K; simp only [dval, absorb_eq, absorbc_eq, absV, absVc, absO, absOc, absN, absNc, List.append_nil, Nat.add_zero, Nat.zero_add, Nat.reduceAdd, List.length_cons, List.length_nil, List.cons_append, List.nil_append]) | ((try simp (disch := omega) only [wrap64]); refine hK _ (by simp) ?_; clear hK K; simp))
        | ((with_reducible refine idp (p := awpL _ _ [] _ _) ?_); refine awpL_nil ?_)
        | ((with_reducible refine idp (p := awp _ (.region _ _ true) _ _) ?_); refine awp_drawn (by decide) ?_)
        | ((with_reducible refine idp (p := dwalk _ _ _ _ _ _ [] _ _) ?_); refine dwalk_nil (by simp; rfl) (by simp; rfl) ?_)
        | ((with_reducible refine idp (p := awp _ (.seq _ _) _ _) ?_); refine awp_seq fun K hK => ?_)
        | ((with_reducible refine idp (p := awp _ (.region _ _ false) _ _) ?_); refine awp_region ?_)
        | ((with_reducible refine idp (p := AThen _ _ .normal _) ?_); refine awp_then (by assumption) ?_)
        | ((with_reducible refine idp (p := AThen _ _ .ret _) ?_); refine awp_then_ret ?_)
        | ((with_reducible refine idp (p := AThen _ _ (.exit _) _) ?_); refine awp_then_exit ?_)
        | ((with_reducible refine idp (p := AIn _ _ .normal _) ?_); refine awp_in_normal ?_)
        | ((with_reducible refine idp (p := AIn _ _ .ret _) ?_); refine awp_in_ret ?_)
        | ((with_reducible refine idp (p := AIn _ _ (.exit _) _) ?_); first | refine awp_in_eq ?_ | refine awp_in_ne (by decide) ?_)
        | ((with_reducible refine idp (p := awp _ .ret _ _) ?_); refine awp_ret ?_)
        | ((with_reducible refine idp (p := awp _ (.cond _ _ _) _ _) ?_); (refine awp_cond rfl (fun hc => ?_) (fun hc => ?_) <;> (try simp at hc) <;> (try (exfalso; omega))))
        | ((with_reducible refine idp (p := awp _ (.block _ _) _ _) ?_); refine awp_block ?_)
        | ((with_reducible refine idp (p := awp _ (.exit _) _ _) ?_); refine awp_exit ?_)
        | ((with_reducible refine idp (p := awp _ .skip _ _) ?_); refine awp_skip ?_))
      · refine ⟨.inr rfl, ?_⟩
        simp [Hands, Try.results42, szL]
        (repeat clear hK K); simp only [sub] at *; grind
      · refine hK1 _ ⟨k + 1, by omega, by (repeat clear hK K); simp only [sub] at *; grind⟩ (weak_o (by simp) ?_) (by simp only; omega)
        simp
        (repeat clear hK K); simp only [sub] at *; grind
    · repeat' (first
        | ((with_reducible refine idp (p := awpL _ _ (_ :: _) _ _) ?_); refine awpL_cons rfl fun K hK => ?_; simp [-Bool.exists_bool, aop, hk1]; first | ((try simp (disch := omega) only [wrap64]); refine hK _ ?_; clear hK K))
        | ((with_reducible refine idp (p := awpL _ _ (_ :: _) _ _) ?_); refine awpL_take rfl ?_ ?_; (focus (simp [guardA, hk1]; done)); intro K hK; simp [-Bool.exists_bool, aop, hk1]; first | ((try simp (disch := omega) only [wrap64]); refine hK _ ?_; clear hK K))
        | ((with_reducible refine idp (p := awpL _ _ (_ :: _) _ _) ?_); refine awpL_skip rfl ?_ ?_; (focus (simp [guardA, hk1]; done)); simp only [AS.put, List.set_cons_succ, List.set_cons_zero])
        | ((with_reducible refine idp (p := awpL _ _ (_ :: _) _ _) ?_); refine awpL_split rfl rfl rfl (fun hc => ?_) (fun hc => ?_) <;> simp only [List.set_cons_succ, List.set_cons_zero])
        | ((with_reducible refine idp (p := dwalk _ _ _ _ _ _ (_ :: _) _ _) ?_); refine dwalk_cons rfl rfl (by simp [Region.binds]; rfl) (by decide) (by simp [Region.binds]; rfl) (by simp; rfl) fun K hK => ?_; simp [-Bool.exists_bool, aop, hk1]; first | ((try simp (disch := omega) only [wrap64]); refine hK _ (by simp) ?_; clear hK K; simp))
        | ((with_reducible refine idp (p := awpL _ _ [] _ _) ?_); refine awpL_nil ?_)
        | ((with_reducible refine idp (p := awp _ (.region _ _ true) _ _) ?_); refine awp_drawn (by decide) ?_)
        | ((with_reducible refine idp (p := dwalk _ _ _ _ _ _ [] _ _) ?_); refine dwalk_nil (by simp; rfl) (by simp; rfl) ?_)
        | ((with_reducible refine idp (p := awp _ (.seq _ _) _ _) ?_); refine awp_seq fun K hK => ?_)
        | ((with_reducible refine idp (p := awp _ (.region _ _ false) _ _) ?_); refine awp_region ?_)
        | ((with_reducible refine idp (p := AThen _ _ .normal _) ?_); refine awp_then (by assumption) ?_)
        | ((with_reducible refine idp (p := AThen _ _ .ret _) ?_); refine awp_then_ret ?_)
        | ((with_reducible refine idp (p := AThen _ _ (.exit _) _) ?_); refine awp_then_exit ?_)
        | ((with_reducible refine idp (p := AIn _ _ .normal _) ?_); refine awp_in_normal ?_)
        | ((with_reducible refine idp (p := AIn _ _ .ret _) ?_); refine awp_in_ret ?_)
        | ((with_reducible refine idp (p := AIn _ _ (.exit _) _) ?_); first | refine awp_in_eq ?_ | refine awp_in_ne (by decide) ?_)
        | ((with_reducible refine idp (p := awp _ .ret _ _) ?_); refine awp_ret ?_)
        | ((with_reducible refine idp (p := awp _ (.cond _ _ _) _ _) ?_); (refine awp_cond rfl (fun hc => ?_) (fun hc => ?_) <;> (try simp at hc) <;> (try (exfalso; omega))))
        | ((with_reducible refine idp (p := awp _ (.block _ _) _ _) ?_); refine awp_block ?_)
        | ((with_reducible refine idp (p := awp _ (.exit _) _ _) ?_); refine awp_exit ?_)
        | ((with_reducible refine idp (p := awp _ .skip _ _) ?_); refine awp_skip ?_))
      all_goals (try (refine ⟨.inr rfl, ?_⟩; simp [Hands, Try.results42, szL]))
      all_goals (repeat clear hK K)
      have : k = l.length := by omega
      subst this
      rw [List.take_length] at *
      rw [sub_pos (by omega)]
      omega

theorem eqAddrS_ok (a b : List DAddr) (hs : szL szAddr a ≤ 1048576) : Ok Try.prog 59 [.sl .view 2 (a.map eAddr), .sl .view 2 (b.map eAddr)] (.bool (decide (a = b))) := by
  have hl : a.length ≤ 1048576 := by (try simp only [szL] at hs); omega
  refine ok_of_awp Try.mix Try.func59 rfl ?_
  simp only [Try.ntmps59, List.length_cons, List.length_nil, Nat.reduceSub, Nat.reduceAdd, List.replicate_succ, List.replicate_zero, List.cons_append, List.nil_append]
  repeat' (first
    | ((with_reducible refine idp (p := awpL _ _ (_ :: _) _ _) ?_); refine awpL_cons rfl fun K hK => ?_; simp [-Bool.exists_bool, aop]; first | ((try simp (disch := omega) only [wrap64]); refine hK _ ?_; clear hK K))
    | ((with_reducible refine idp (p := awpL _ _ (_ :: _) _ _) ?_); refine awpL_take rfl ?_ ?_; (focus (simp [guardA]; done)); intro K hK; simp [-Bool.exists_bool, aop]; first | ((try simp (disch := omega) only [wrap64]); refine hK _ ?_; clear hK K))
    | ((with_reducible refine idp (p := awpL _ _ (_ :: _) _ _) ?_); refine awpL_skip rfl ?_ ?_; (focus (simp [guardA]; done)); simp only [AS.put, List.set_cons_succ, List.set_cons_zero])
    | ((with_reducible refine idp (p := awpL _ _ (_ :: _) _ _) ?_); refine awpL_split rfl rfl rfl (fun hc => ?_) (fun hc => ?_) <;> simp only [List.set_cons_succ, List.set_cons_zero])
    | ((with_reducible refine idp (p := dwalk _ _ _ _ _ _ (_ :: _) _ _) ?_); refine dwalk_cons rfl rfl (by simp [Region.binds]; rfl) (by decide) (by simp [Region.binds]; rfl) (by simp; rfl) fun K hK => ?_; simp [-Bool.exists_bool, aop]; first | ((try simp (disch := omega) only [wrap64]); refine hK _ (by simp) ?_; clear hK K; simp))
    | ((with_reducible refine idp (p := awpL _ _ [] _ _) ?_); refine awpL_nil ?_)
    | ((with_reducible refine idp (p := awp _ (.region _ _ true) _ _) ?_); refine awp_drawn (by decide) ?_)
    | ((with_reducible refine idp (p := dwalk _ _ _ _ _ _ [] _ _) ?_); refine dwalk_nil (by simp; rfl) (by simp; rfl) ?_)
    | ((with_reducible refine idp (p := awp _ (.seq _ _) _ _) ?_); refine awp_seq fun K hK => ?_)
    | ((with_reducible refine idp (p := awp _ (.region _ _ false) _ _) ?_); refine awp_region ?_)
    | ((with_reducible refine idp (p := AThen _ _ .normal _) ?_); refine awp_then (by assumption) ?_)
    | ((with_reducible refine idp (p := AThen _ _ .ret _) ?_); refine awp_then_ret ?_)
    | ((with_reducible refine idp (p := AThen _ _ (.exit _) _) ?_); refine awp_then_exit ?_)
    | ((with_reducible refine idp (p := AIn _ _ .normal _) ?_); refine awp_in_normal ?_)
    | ((with_reducible refine idp (p := AIn _ _ .ret _) ?_); refine awp_in_ret ?_)
    | ((with_reducible refine idp (p := AIn _ _ (.exit _) _) ?_); first | refine awp_in_eq ?_ | refine awp_in_ne (by decide) ?_)
    | ((with_reducible refine idp (p := awp _ .ret _ _) ?_); refine awp_ret ?_)
    | ((with_reducible refine idp (p := awp _ (.cond _ _ _) _ _) ?_); (refine awp_cond rfl (fun hc => ?_) (fun hc => ?_) <;> (try simp at hc) <;> (try (exfalso; omega))))
    | ((with_reducible refine idp (p := awp _ (.block _ _) _ _) ?_); refine awp_block ?_)
    | ((with_reducible refine idp (p := awp _ (.exit _) _ _) ?_); refine awp_exit ?_)
    | ((with_reducible refine idp (p := awp _ .skip _ _) ?_); refine awp_skip ?_))
  · all_goals (try (refine ⟨.inr rfl, ?_⟩; simp [Hands, Try.results59]))
    all_goals (repeat clear hK K)
    intro h; subst h; exact absurd rfl hc
  · have hlen : a.length = b.length := by omega
    refine awp_loop' (ι := { k : Nat // k ≤ a.length ∧ a.take k = b.take k }) (fun t o i => ⟨upds t [(5, .int .i64 i.1)], []⟩)
      (fun i => a.length - i.1) ⟨0, by simp⟩ (weak_o (by simp) (by simp)) ?_
    rintro ⟨k, hk, hpre⟩ K1 hK1
    simp only [upds, List.set_cons_succ, List.set_cons_zero] at hK1 ⊢
    have hk1 : IntKind.i64.wrap ((k : Int) + 1) = ((k + 1 : Nat) : Int) := by rw [wrap64] <;> omega
    by_cases hlt : k < a.length
    · have hg := List.getElem?_eq_getElem hlt
      have hltb : k < b.length := by omega
      have hgb := List.getElem?_eq_getElem hltb
      repeat' (first
        | ((with_reducible refine idp (p := awpL _ _ (_ :: _) _ _) ?_); refine awpL_cons rfl fun K hK => ?_; simp [-Bool.exists_bool, aop, hk1, hg, hlt, hgb, hltb]; first | (refine ⟨_, (eqAddr_ok a[k] b[k] (by have := sumN_get_le szAddr a k hlt; (try simp only [szL] at hs); omega)), hK _ ?_⟩; clear hK K; (try simp only [absorb_eq, absorbc_eq, absV, absVc, absO, absOc, absN, absNc, List.append_nil, List.nil_append, List.cons_append, List.length_cons, List.length_nil, Nat.add_zero, Nat.zero_add, Nat.reduceAdd])) | ((try simp (disch := omega) only [wrap64]); refine hK _ ?_; clear hK K))
        | ((with_reducible refine idp (p := awpL _ _ (_ :: _) _ _) ?_); refine awpL_take rfl ?_ ?_; (focus (simp [guardA, hk1, hg, hlt, hgb, hltb]; done)); intro K hK; simp [-Bool.exists_bool, aop, hk1, hg, hlt, hgb, hltb]; first | (refine ⟨_, (eqAddr_ok a[k] b[k] (by have := sumN_get_le szAddr a k hlt; (try simp only [szL] at hs); omega)), hK _ ?_⟩; clear hK K; (try simp only [absorb_eq, absorbc_eq, absV, absVc, absO, absOc, absN, absNc, List.append_nil, List.nil_append, List.cons_append, List.length_cons, List.length_nil, Nat.add_zero, Nat.zero_add, Nat.reduceAdd])) | ((try simp (disch := omega) only [wrap64]); refine hK _ ?_; clear hK K))
        | ((with_reducible refine idp (p := awpL _ _ (_ :: _) _ _) ?_); refine awpL_skip rfl ?_ ?_; (focus (simp [guardA, hk1, hg, hlt, hgb, hltb]; done)); simp only [AS.put, List.set_cons_succ, List.set_cons_zero])
        | ((with_reducible refine idp (p := awpL _ _ (_ :: _) _ _) ?_); refine awpL_split rfl rfl rfl (fun hc => ?_) (fun hc => ?_) <;> simp only [List.set_cons_succ, List.set_cons_zero])
        | ((with_reducible refine idp (p := dwalk _ _ _ _ _ _ (_ :: _) _ _) ?_); refine dwalk_cons rfl rfl (by simp [Region.binds]; rfl) (by decide) (by simp [Region.binds]; rfl) (by simp; rfl) fun K hK => ?_; simp [-Bool.exists_bool, aop, hk1, hg, hlt, hgb, hltb]; first | (refine ⟨_, (eqAddr_ok a[k] b[k] (by have := sumN_get_le szAddr a k hlt; (try simp only [szL] at hs); omega)), hK _ (by simp) ?_⟩; clear hK K; simp only [dval, absorb_eq, absorbc_eq, absV, absVc, absO, absOc, absN, absNc, List.append_nil, Nat.add_zero, Nat.zero_add, Nat.reduceAdd, List.length_cons, List.length_nil, List.cons_append, List.nil_append]) | ((try simp (disch := omega) only [wrap64]); refine hK _ (by simp) ?_; clear hK K; simp))
        | ((with_reducible refine idp (p := awpL _ _ [] _ _) ?_); refine awpL_nil ?_)
        | ((with_reducible refine idp (p := awp _ (.region _ _ true) _ _) ?_); refine awp_drawn (by decide) ?_)
        | ((with_reducible refine idp (p := dwalk _ _ _ _ _ _ [] _ _) ?_); refine dwalk_nil (by simp; rfl) (by simp; rfl) ?_)
        | ((with_reducible refine idp (p := awp _ (.seq _ _) _ _) ?_); refine awp_seq fun K hK => ?_)
        | ((with_reducible refine idp (p := awp _ (.region _ _ false) _ _) ?_); refine awp_region ?_)
        | ((with_reducible refine idp (p := AThen _ _ .normal _) ?_); refine awp_then (by assumption) ?_)
        | ((with_reducible refine idp (p := AThen _ _ .ret _) ?_); refine awp_then_ret ?_)
        | ((with_reducible refine idp (p := AThen _ _ (.exit _) _) ?_); refine awp_then_exit ?_)
        | ((with_reducible refine idp (p := AIn _ _ .normal _) ?_); refine awp_in_normal ?_)
        | ((with_reducible refine idp (p := AIn _ _ .ret _) ?_); refine awp_in_ret ?_)
        | ((with_reducible refine idp (p := AIn _ _ (.exit _) _) ?_); first | refine awp_in_eq ?_ | refine awp_in_ne (by decide) ?_)
        | ((with_reducible refine idp (p := awp _ .ret _ _) ?_); refine awp_ret ?_)
        | ((with_reducible refine idp (p := awp _ (.cond _ _ _) _ _) ?_); (refine awp_cond rfl (fun hc => ?_) (fun hc => ?_) <;> (try simp at hc) <;> (try (exfalso; omega))))
        | ((with_reducible refine idp (p := awp _ (.block _ _) _ _) ?_); refine awp_block ?_)
        | ((with_reducible refine idp (p := awp _ (.exit _) _ _) ?_); refine awp_exit ?_)
        | ((with_reducible refine idp (p := awp _ .skip _ _) ?_); refine awp_skip ?_))
      · all_goals (try (refine ⟨.inr rfl, ?_⟩; simp [Hands, Try.results59]))
        all_goals (repeat clear hK K)
        intro h; subst h; exact hc rfl
      · have hts : a.take (k + 1) = b.take (k + 1) := by
          rw [List.take_succ_eq_append_getElem hlt, List.take_succ_eq_append_getElem hltb, hpre, hc]
        refine hK1 _ ⟨k + 1, by omega, hts⟩ (weak_o (by simp) (by simp)) (by simp only; omega)
    · have hka : a.length ≤ k := by omega
      rw [List.take_of_length_le hka, List.take_of_length_le (by omega)] at hpre
      subst hpre
      repeat' (first
        | ((with_reducible refine idp (p := awpL _ _ (_ :: _) _ _) ?_); refine awpL_cons rfl fun K hK => ?_; simp [-Bool.exists_bool, aop, hk1]; first | ((try simp (disch := omega) only [wrap64]); refine hK _ ?_; clear hK K))
        | ((with_reducible refine idp (p := awpL _ _ (_ :: _) _ _) ?_); refine awpL_take rfl ?_ ?_; (focus (simp [guardA, hk1]; done)); intro K hK; simp [-Bool.exists_bool, aop, hk1]; first | ((try simp (disch := omega) only [wrap64]); refine hK _ ?_; clear hK K))
        | ((with_reducible refine idp (p := awpL _ _ (_ :: _) _ _) ?_); refine awpL_skip rfl ?_ ?_; (focus (simp [guardA, hk1]; done)); simp only [AS.put, List.set_cons_succ, List.set_cons_zero])
        | ((with_reducible refine idp (p := awpL _ _ (_ :: _) _ _) ?_); refine awpL_split rfl rfl rfl (fun hc => ?_) (fun hc => ?_) <;> simp only [List.set_cons_succ, List.set_cons_zero])
        | ((with_reducible refine idp (p := dwalk _ _ _ _ _ _ (_ :: _) _ _) ?_); refine dwalk_cons rfl rfl (by simp [Region.binds]; rfl) (by decide) (by simp [Region.binds]; rfl) (by simp; rfl) fun K hK => ?_; simp [-Bool.exists_bool, aop, hk1]; first | ((try simp (disch := omega) only [wrap64]); refine hK _ (by simp) ?_; clear hK K; simp))
        | ((with_reducible refine idp (p := awpL _ _ [] _ _) ?_); refine awpL_nil ?_)
        | ((with_reducible refine idp (p := awp _ (.region _ _ true) _ _) ?_); refine awp_drawn (by decide) ?_)
        | ((with_reducible refine idp (p := dwalk _ _ _ _ _ _ [] _ _) ?_); refine dwalk_nil (by simp; rfl) (by simp; rfl) ?_)
        | ((with_reducible refine idp (p := awp _ (.seq _ _) _ _) ?_); refine awp_seq fun K hK => ?_)
        | ((with_reducible refine idp (p := awp _ (.region _ _ false) _ _) ?_); refine awp_region ?_)
        | ((with_reducible refine idp (p := AThen _ _ .normal _) ?_); refine awp_then (by assumption) ?_)
        | ((with_reducible refine idp (p := AThen _ _ .ret _) ?_); refine awp_then_ret ?_)
        | ((with_reducible refine idp (p := AThen _ _ (.exit _) _) ?_); refine awp_then_exit ?_)
        | ((with_reducible refine idp (p := AIn _ _ .normal _) ?_); refine awp_in_normal ?_)
        | ((with_reducible refine idp (p := AIn _ _ .ret _) ?_); refine awp_in_ret ?_)
        | ((with_reducible refine idp (p := AIn _ _ (.exit _) _) ?_); first | refine awp_in_eq ?_ | refine awp_in_ne (by decide) ?_)
        | ((with_reducible refine idp (p := awp _ .ret _ _) ?_); refine awp_ret ?_)
        | ((with_reducible refine idp (p := awp _ (.cond _ _ _) _ _) ?_); (refine awp_cond rfl (fun hc => ?_) (fun hc => ?_) <;> (try simp at hc) <;> (try (exfalso; omega))))
        | ((with_reducible refine idp (p := awp _ (.block _ _) _ _) ?_); refine awp_block ?_)
        | ((with_reducible refine idp (p := awp _ (.exit _) _ _) ?_); refine awp_exit ?_)
        | ((with_reducible refine idp (p := awp _ .skip _ _) ?_); refine awp_skip ?_))
      all_goals (try (refine ⟨.inr rfl, ?_⟩; simp [Hands, Try.results59]))
      all_goals (repeat clear hK K)

end Go.Proofs.Ytbbefoefjmgnoaa
