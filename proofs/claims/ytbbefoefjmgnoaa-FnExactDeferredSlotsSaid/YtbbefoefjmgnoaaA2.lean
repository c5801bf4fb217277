/-
  Proved here: contracts of sz, to and eq at tokens, nodes, slots, modules and policies.
  No condition beyond what each statement spells out.
-/
import Derived.Test.YtbbefoefjmgnoaaA1
set_option linter.all false
set_option linter.unusedSimpArgs false
set_option linter.unusedVariables false
set_option maxRecDepth 4000
set_option maxHeartbeats 4000000
namespace Go.Proofs.Ytbbefoefjmgnoaa
open Go.Aw
theorem toToken_ok (a : DToken) (hs : szToken a ≤ 1048576) : Ok Try.prog 77 [.agg (eToken .view a)] (.agg (eToken .own a)) := by
  simp only [szToken] at hs
  refine ok_of_awp Try.mix Try.func77 rfl ?_
  simp only [Try.ntmps77, List.length_cons, List.length_nil, Nat.reduceSub, Nat.reduceAdd, List.replicate_succ, List.replicate_zero, List.cons_append, List.nil_append]
  repeat' (first
    | ((with_reducible refine idp (p := awpL _ _ (_ :: _) _ _) ?_); refine awpL_cons rfl fun K hK => ?_; simp [-Bool.exists_bool, aop]; first | (refine ⟨_, (toAttrS_ok a.attrs (by omega)), hK _ ?_⟩; clear hK K; (try simp only [absorb_eq, absorbc_eq, absV, absVc, absO, absOc, absN, absNc, List.append_nil, List.nil_append, List.cons_append, List.length_cons, List.length_nil, Nat.add_zero, Nat.zero_add, Nat.reduceAdd])) | ((try simp (disch := omega) only [wrap64]); refine hK _ ?_; clear hK K))
    | ((with_reducible refine idp (p := awpL _ _ (_ :: _) _ _) ?_); refine awpL_take rfl ?_ ?_; (focus (simp [guardA]; done)); intro K hK; simp [-Bool.exists_bool, aop]; first | (refine ⟨_, (toAttrS_ok a.attrs (by omega)), hK _ ?_⟩; clear hK K; (try simp only [absorb_eq, absorbc_eq, absV, absVc, absO, absOc, absN, absNc, List.append_nil, List.nil_append, List.cons_append, List.length_cons, List.length_nil, Nat.add_zero, Nat.zero_add, Nat.reduceAdd])) | ((try simp (disch := omega) only [wrap64]); refine hK _ ?_; clear hK K))
    | ((with_reducible refine idp (p := awpL _ _ (_ :: _) _ _) ?_); refine awpL_skip rfl ?_ ?_; (focus (simp [guardA]; done)); simp only [AS.put, List.set_cons_succ, List.set_cons_zero])
    | ((with_reducible refine idp (p := awpL _ _ (_ :: _) _ _) ?_); refine awpL_split rfl rfl rfl (fun hc => ?_) (fun hc => ?_) <;> simp only [List.set_cons_succ, List.set_cons_zero])
    | ((with_reducible refine idp (p := dwalk _ _ _ _ _ _ (_ :: _) _ _) ?_); refine dwalk_cons rfl rfl (by simp [Region.binds]; rfl) (by decide) (by simp [Region.binds]; rfl) (by simp; rfl) fun K hK => ?_; simp [-Bool.exists_bool, aop]; first | (refine ⟨_, (toAttrS_ok a.attrs (by omega)), hK _ (by simp) ?_⟩; clear hK K; simp only [dval, absorb_eq, absorbc_eq, absV, absVc, absO, absOc, absN, absNc, List.append_nil, Nat.add_zero, Nat.zero_add, Nat.reduceAdd, List.length_cons, List.length_nil, List.cons_append, List.nil_append]) | ((try simp (disch := omega) only [wrap64]); refine hK _ (by simp) ?_; clear hK K; simp))
    | ((with_reducible refine idp (p := awpL _ _ [] _ _) ?_); refine awpL_nil ?_)
    | ((with_reducible refine idp (p := awp _ (.region _ _ true) _ _) ?_); refine awp_drawn (by decide) ?_)
    | ((with_reducible refine idp (p := dwalk _ _ _ _ _ _ [] _ _) ?_); refine dwalk_nil (by simp; rfl) (by simp; rfl) ?_)
    | ((with_reducible refine idp (p := awp _ (.seq _ _) _ _) ?_); refine awp_seq fun K hK => ?_)
    | ((with_reducible refine idp (p := awp _ (.region _ _ false) _ _) ?_); refine awp_region ?_)
    | ((with_reducible refine idp (p := AThen _ _ .normal _) ?_); refine awp_then (by assumption) ?_)
    | ((with_reducible refine idp (p := AThen _ _ .ret _) ?_); refine awp_then_ret ?_)
    | ((with_reducible refine idp (p := AThen _ _ (.exit _) _) ?_); refine awp_then_exit ?_)
    | ((with_reducible refine idp (p := AIn _ _ .normal _) ?_); refine awp_in_normal ?_)
    | ((with_reducible refine idp (p := AIn _ _ .ret _) ?_); refine awp_in_ret ?_)
    | ((with_reducible refine idp (p := AIn _ _ (.exit _) _) ?_); first | refine awp_in_eq ?_ | refine awp_in_ne (by decide) ?_)
    | ((with_reducible refine idp (p := awp _ .ret _ _) ?_); refine awp_ret ?_)
    | ((with_reducible refine idp (p := awp _ (.cond _ _ _) _ _) ?_); (refine awp_cond rfl (fun hc => ?_) (fun hc => ?_) <;> (try simp at hc) <;> (try (exfalso; omega))))
    | ((with_reducible refine idp (p := awp _ (.block _ _) _ _) ?_); refine awp_block ?_)
    | ((with_reducible refine idp (p := awp _ (.exit _) _ _) ?_); refine awp_exit ?_)
    | ((with_reducible refine idp (p := awp _ .skip _ _) ?_); refine awp_skip ?_))
  all_goals (try (refine ⟨.inr rfl, ?_⟩; simp [Hands, Try.results77]))
  all_goals (repeat clear hK K)

theorem szToken_ok (a : DToken) (n : Int) (h0 : 0 ≤ n) (h1 : n ≤ 1048576) (hw : wfToken a) : Ok Try.prog 72 [.agg (eToken .view a), .int .i64 n] (.int .i64 (sub n (szToken a))) := by
  simp only [wfToken] at hw
  obtain ⟨wname, wattrs, wtext⟩ := hw
  refine ok_of_awp Try.mix Try.func72 rfl ?_
  simp only [Try.ntmps72, List.length_cons, List.length_nil, Nat.reduceSub, Nat.reduceAdd, List.replicate_succ, List.replicate_zero, List.cons_append, List.nil_append]
  repeat' (first
    | ((with_reducible refine idp (p := awpL _ _ (_ :: _) _ _) ?_); refine awpL_cons rfl fun K hK => ?_; simp [-Bool.exists_bool, aop]; first | (refine ⟨_, (szAttrS_ok a.attrs _ (by omega) (by repeat' (first | omega | apply purse_le | apply purse_len)) wattrs), hK _ ?_⟩; clear hK K; (try simp only [absorb_eq, absorbc_eq, absV, absVc, absO, absOc, absN, absNc, List.append_nil, List.nil_append, List.cons_append, List.length_cons, List.length_nil, Nat.add_zero, Nat.zero_add, Nat.reduceAdd])) | ((try simp (disch := omega) only [wrap64]); refine hK _ ?_; clear hK K))
    | ((with_reducible refine idp (p := awpL _ _ (_ :: _) _ _) ?_); refine awpL_take rfl ?_ ?_; (focus (simp [guardA]; done)); intro K hK; simp [-Bool.exists_bool, aop]; first | (refine ⟨_, (szAttrS_ok a.attrs _ (by omega) (by repeat' (first | omega | apply purse_le | apply purse_len)) wattrs), hK _ ?_⟩; clear hK K; (try simp only [absorb_eq, absorbc_eq, absV, absVc, absO, absOc, absN, absNc, List.append_nil, List.nil_append, List.cons_append, List.length_cons, List.length_nil, Nat.add_zero, Nat.zero_add, Nat.reduceAdd])) | ((try simp (disch := omega) only [wrap64]); refine hK _ ?_; clear hK K))
    | ((with_reducible refine idp (p := awpL _ _ (_ :: _) _ _) ?_); refine awpL_skip rfl ?_ ?_; (focus (simp [guardA]; done)); simp only [AS.put, List.set_cons_succ, List.set_cons_zero])
    | ((with_reducible refine idp (p := awpL _ _ (_ :: _) _ _) ?_); refine awpL_split rfl rfl rfl (fun hc => ?_) (fun hc => ?_) <;> simp only [List.set_cons_succ, List.set_cons_zero])
    | ((with_reducible refine idp (p := dwalk _ _ _ _ _ _ (_ :: _) _ _) ?_); refine dwalk_cons rfl rfl (by simp [Region.binds]; rfl) (by decide) (by simp [Region.binds]; rfl) (by simp; rfl) fun K hK => ?_; simp [-Bool.exists_bool, aop]; first | (refine ⟨_, (szAttrS_ok a.attrs _ (by omega) (by repeat' (first | omega | apply purse_le | apply purse_len)) wattrs), hK _ (by simp) ?_⟩; clear hK K; simp only [dval, absorb_eq, absorbc_eq, absV, absVc, absO, absOc, absN, absNc, List.append_nil, Nat.add_zero, Nat.zero_add, Nat.reduceAdd, List.length_cons, List.length_nil, List.cons_append, List.nil_append]) | ((try simp (disch := omega) only [wrap64]); refine hK _ (by simp) ?_; clear hK K; simp))
    | ((with_reducible refine idp (p := awpL _ _ [] _ _) ?_); refine awpL_nil ?_)
    | ((with_reducible refine idp (p := awp _ (.region _ _ true) _ _) ?_); refine awp_drawn (by decide) ?_)
    | ((with_reducible refine idp (p := dwalk _ _ _ _ _ _ [] _ _) ?_); refine dwalk_nil (by simp; rfl) (by simp; rfl) ?_)
    | ((with_reducible refine idp (p := awp _ (.seq _ _) _ _) ?_); refine awp_seq fun K hK => ?_)
    | ((with_reducible refine idp (p := awp _ (.region _ _ false) _ _) ?_); refine awp_region ?_)
    | ((with_reducible refine idp (p := AThen _ _ .normal _) ?_); refine awp_then (by assumption) ?_)
    | ((with_reducible refine idp (p := AThen _ _ .ret _) ?_); refine awp_then_ret ?_)
    | ((with_reducible refine idp (p := AThen _ _ (.exit _) _) ?_); refine awp_then_exit ?_)
    | ((with_reducible refine idp (p := AIn _ _ .normal _) ?_); refine awp_in_normal ?_)
    | ((with_reducible refine idp (p := AIn _ _ .ret _) ?_); refine awp_in_ret ?_)
    | ((with_reducible refine idp (p := AIn _ _ (.exit _) _) ?_); first | refine awp_in_eq ?_ | refine awp_in_ne (by decide) ?_)
    | ((with_reducible refine idp (p := awp _ .ret _ _) ?_); refine awp_ret ?_)
    | ((with_reducible refine idp (p := awp _ (.cond _ _ _) _ _) ?_); (refine awp_cond rfl (fun hc => ?_) (fun hc => ?_) <;> (try simp at hc) <;> (try (exfalso; omega))))
    | ((with_reducible refine idp (p := awp _ (.block _ _) _ _) ?_); refine awp_block ?_)
    | ((with_reducible refine idp (p := awp _ (.exit _) _ _) ?_); refine awp_exit ?_)
    | ((with_reducible refine idp (p := awp _ .skip _ _) ?_); refine awp_skip ?_))
  all_goals (try (refine ⟨.inr rfl, ?_⟩; simp [Hands, Try.results72, szToken]))
  all_goals (repeat clear hK K)
  all_goals (
    (try generalize e0 : sub (n - (a.name.length : Int)) (szL szAttr a.attrs) = m0 at *)
    (try (first | have f0 := purse_ok e0 (by omega) | have f0 := purse_bad e0 (by omega) (by omega)))
    repeat (simp (disch := omega) only [wrap64] at *)
    (try simp only [sub]); (try split); all_goals omega)

theorem eqToken_ok (a b : DToken) (hs : szToken a ≤ 1048576) : Ok Try.prog 82 [.agg (eToken .view a), .agg (eToken .view b)] (.bool (decide (a = b))) := by
  simp only [szToken] at hs
  refine ok_of_awp Try.mix Try.func82 rfl ?_
  simp only [Try.ntmps82, List.length_cons, List.length_nil, Nat.reduceSub, Nat.reduceAdd, List.replicate_succ, List.replicate_zero, List.cons_append, List.nil_append]
  repeat' (first
    | ((with_reducible refine idp (p := awpL _ _ (_ :: _) _ _) ?_); refine awpL_cons rfl fun K hK => ?_; simp [-Bool.exists_bool, aop]; first | (refine ⟨_, (eqAttrS_ok a.attrs b.attrs (by omega)), hK _ ?_⟩; clear hK K; (try simp only [absorb_eq, absorbc_eq, absV, absVc, absO, absOc, absN, absNc, List.append_nil, List.nil_append, List.cons_append, List.length_cons, List.length_nil, Nat.add_zero, Nat.zero_add, Nat.reduceAdd])) | ((try simp (disch := omega) only [wrap64]); refine hK _ ?_; clear hK K))
    | ((with_reducible refine idp (p := awpL _ _ (_ :: _) _ _) ?_); refine awpL_take rfl ?_ ?_; (focus (simp [guardA]; done)); intro K hK; simp [-Bool.exists_bool, aop]; first | (refine ⟨_, (eqAttrS_ok a.attrs b.attrs (by omega)), hK _ ?_⟩; clear hK K; (try simp only [absorb_eq, absorbc_eq, absV, absVc, absO, absOc, absN, absNc, List.append_nil, List.nil_append, List.cons_append, List.length_cons, List.length_nil, Nat.add_zero, Nat.zero_add, Nat.reduceAdd])) | ((try simp (disch := omega) only [wrap64]); refine hK _ ?_; clear hK K))
    | ((with_reducible refine idp (p := awpL _ _ (_ :: _) _ _) ?_); refine awpL_skip rfl ?_ ?_; (focus (simp [guardA]; done)); simp only [AS.put, List.set_cons_succ, List.set_cons_zero])
    | ((with_reducible refine idp (p := awpL _ _ (_ :: _) _ _) ?_); refine awpL_split rfl rfl rfl (fun hc => ?_) (fun hc => ?_) <;> simp only [List.set_cons_succ, List.set_cons_zero])
    | ((with_reducible refine idp (p := dwalk _ _ _ _ _ _ (_ :: _) _ _) ?_); refine dwalk_cons rfl rfl (by simp [Region.binds]; rfl) (by decide) (by simp [Region.binds]; rfl) (by simp; rfl) fun K hK => ?_; simp [-Bool.exists_bool, aop]; first | (refine ⟨_, (eqAttrS_ok a.attrs b.attrs (by omega)), hK _ (by simp) ?_⟩; clear hK K; simp only [dval, absorb_eq, absorbc_eq, absV, absVc, absO, absOc, absN, absNc, List.append_nil, Nat.add_zero, Nat.zero_add, Nat.reduceAdd, List.length_cons, List.length_nil, List.cons_append, List.nil_append]) | ((try simp (disch := omega) only [wrap64]); refine hK _ (by simp) ?_; clear hK K; simp))
    | ((with_reducible refine idp (p := awpL _ _ [] _ _) ?_); refine awpL_nil ?_)
    | ((with_reducible refine idp (p := awp _ (.region _ _ true) _ _) ?_); refine awp_drawn (by decide) ?_)
    | ((with_reducible refine idp (p := dwalk _ _ _ _ _ _ [] _ _) ?_); refine dwalk_nil (by simp; rfl) (by simp; rfl) ?_)
    | ((with_reducible refine idp (p := awp _ (.seq _ _) _ _) ?_); refine awp_seq fun K hK => ?_)
    | ((with_reducible refine idp (p := awp _ (.region _ _ false) _ _) ?_); refine awp_region ?_)
    | ((with_reducible refine idp (p := AThen _ _ .normal _) ?_); refine awp_then (by assumption) ?_)
    | ((with_reducible refine idp (p := AThen _ _ .ret _) ?_); refine awp_then_ret ?_)
    | ((with_reducible refine idp (p := AThen _ _ (.exit _) _) ?_); refine awp_then_exit ?_)
    | ((with_reducible refine idp (p := AIn _ _ .normal _) ?_); refine awp_in_normal ?_)
    | ((with_reducible refine idp (p := AIn _ _ .ret _) ?_); refine awp_in_ret ?_)
    | ((with_reducible refine idp (p := AIn _ _ (.exit _) _) ?_); first | refine awp_in_eq ?_ | refine awp_in_ne (by decide) ?_)
    | ((with_reducible refine idp (p := awp _ .ret _ _) ?_); refine awp_ret ?_)
    | ((with_reducible refine idp (p := awp _ (.cond _ _ _) _ _) ?_); (refine awp_cond rfl (fun hc => ?_) (fun hc => ?_) <;> (try simp at hc) <;> (try (exfalso; omega))))
    | ((with_reducible refine idp (p := awp _ (.block _ _) _ _) ?_); refine awp_block ?_)
    | ((with_reducible refine idp (p := awp _ (.exit _) _ _) ?_); refine awp_exit ?_)
    | ((with_reducible refine idp (p := awp _ .skip _ _) ?_); refine awp_skip ?_))
  all_goals (try (refine ⟨.inr rfl, ?_⟩; simp [Hands, Try.results82]))
  all_goals (repeat clear hK K)
  all_goals ((repeat clear hK K); cases a; cases b; simp_all)

theorem toNode_ok (a : DNode) (hs : szNode a ≤ 1048576) : Ok Try.prog 95 [.agg (eNode .view a)] (.agg (eNode .own a)) := by
  simp only [szNode] at hs
  refine ok_of_awp Try.mix Try.func95 rfl ?_
  simp only [Try.ntmps95, List.length_cons, List.length_nil, Nat.reduceSub, Nat.reduceAdd, List.replicate_succ, List.replicate_zero, List.cons_append, List.nil_append]
  repeat' (first
    | ((with_reducible refine idp (p := awpL _ _ (_ :: _) _ _) ?_); refine awpL_cons rfl fun K hK => ?_; simp [-Bool.exists_bool, aop]; first | (refine ⟨_, (toAttrS_ok a.attrs (by omega)), hK _ ?_⟩; clear hK K; (try simp only [absorb_eq, absorbc_eq, absV, absVc, absO, absOc, absN, absNc, List.append_nil, List.nil_append, List.cons_append, List.length_cons, List.length_nil, Nat.add_zero, Nat.zero_add, Nat.reduceAdd])) | ((try simp (disch := omega) only [wrap64]); refine hK _ ?_; clear hK K))
    | ((with_reducible refine idp (p := awpL _ _ (_ :: _) _ _) ?_); refine awpL_take rfl ?_ ?_; (focus (simp [guardA]; done)); intro K hK; simp [-Bool.exists_bool, aop]; first | (refine ⟨_, (toAttrS_ok a.attrs (by omega)), hK _ ?_⟩; clear hK K; (try simp only [absorb_eq, absorbc_eq, absV, absVc, absO, absOc, absN, absNc, List.append_nil, List.nil_append, List.cons_append, List.length_cons, List.length_nil, Nat.add_zero, Nat.zero_add, Nat.reduceAdd])) | ((try simp (disch := omega) only [wrap64]); refine hK _ ?_; clear hK K))
    | ((with_reducible refine idp (p := awpL _ _ (_ :: _) _ _) ?_); refine awpL_skip rfl ?_ ?_; (focus (simp [guardA]; done)); simp only [AS.put, List.set_cons_succ, List.set_cons_zero])
    | ((with_reducible refine idp (p := awpL _ _ (_ :: _) _ _) ?_); refine awpL_split rfl rfl rfl (fun hc => ?_) (fun hc => ?_) <;> simp only [List.set_cons_succ, List.set_cons_zero])
    | ((with_reducible refine idp (p := dwalk _ _ _ _ _ _ (_ :: _) _ _) ?_); refine dwalk_cons rfl rfl (by simp [Region.binds]; rfl) (by decide) (by simp [Region.binds]; rfl) (by simp; rfl) fun K hK => ?_; simp [-Bool.exists_bool, aop]; first | (refine ⟨_, (toAttrS_ok a.attrs (by omega)), hK _ (by simp) ?_⟩; clear hK K; simp only [dval, absorb_eq, absorbc_eq, absV, absVc, absO, absOc, absN, absNc, List.append_nil, Nat.add_zero, Nat.zero_add, Nat.reduceAdd, List.length_cons, List.length_nil, List.cons_append, List.nil_append]) | ((try simp (disch := omega) only [wrap64]); refine hK _ (by simp) ?_; clear hK K; simp))
    | ((with_reducible refine idp (p := awpL _ _ [] _ _) ?_); refine awpL_nil ?_)
    | ((with_reducible refine idp (p := awp _ (.region _ _ true) _ _) ?_); refine awp_drawn (by decide) ?_)
    | ((with_reducible refine idp (p := dwalk _ _ _ _ _ _ [] _ _) ?_); refine dwalk_nil (by simp; rfl) (by simp; rfl) ?_)
    | ((with_reducible refine idp (p := awp _ (.seq _ _) _ _) ?_); refine awp_seq fun K hK => ?_)
    | ((with_reducible refine idp (p := awp _ (.region _ _ false) _ _) ?_); refine awp_region ?_)
    | ((with_reducible refine idp (p := AThen _ _ .normal _) ?_); refine awp_then (by assumption) ?_)
    | ((with_reducible refine idp (p := AThen _ _ .ret _) ?_); refine awp_then_ret ?_)
    | ((with_reducible refine idp (p := AThen _ _ (.exit _) _) ?_); refine awp_then_exit ?_)
    | ((with_reducible refine idp (p := AIn _ _ .normal _) ?_); refine awp_in_normal ?_)
    | ((with_reducible refine idp (p := AIn _ _ .ret _) ?_); refine awp_in_ret ?_)
    | ((with_reducible refine idp (p := AIn _ _ (.exit _) _) ?_); first | refine awp_in_eq ?_ | refine awp_in_ne (by decide) ?_)
    | ((with_reducible refine idp (p := awp _ .ret _ _) ?_); refine awp_ret ?_)
    | ((with_reducible refine idp (p := awp _ (.cond _ _ _) _ _) ?_); (refine awp_cond rfl (fun hc => ?_) (fun hc => ?_) <;> (try simp at hc) <;> (try (exfalso; omega))))
    | ((with_reducible refine idp (p := awp _ (.block _ _) _ _) ?_); refine awp_block ?_)
    | ((with_reducible refine idp (p := awp _ (.exit _) _ _) ?_); refine awp_exit ?_)
    | ((with_reducible refine idp (p := awp _ .skip _ _) ?_); refine awp_skip ?_))
  all_goals (try (refine ⟨.inr rfl, ?_⟩; simp [Hands, Try.results95]))
  all_goals (repeat clear hK K)

theorem szNode_ok (a : DNode) (n : Int) (h0 : 0 ≤ n) (h1 : n ≤ 1048576) (hw : wfNode a) : Ok Try.prog 93 [.agg (eNode .view a), .int .i64 n] (.int .i64 (sub n (szNode a))) := by
  simp only [wfNode] at hw
  obtain ⟨wname, wtext, wattrs⟩ := hw
  refine ok_of_awp Try.mix Try.func93 rfl ?_
  simp only [Try.ntmps93, List.length_cons, List.length_nil, Nat.reduceSub, Nat.reduceAdd, List.replicate_succ, List.replicate_zero, List.cons_append, List.nil_append]
  repeat' (first
    | ((with_reducible refine idp (p := awpL _ _ (_ :: _) _ _) ?_); refine awpL_cons rfl fun K hK => ?_; simp [-Bool.exists_bool, aop]; first | (refine ⟨_, (szAttrS_ok a.attrs _ (by omega) (by repeat' (first | omega | apply purse_le | apply purse_len)) wattrs), hK _ ?_⟩; clear hK K; (try simp only [absorb_eq, absorbc_eq, absV, absVc, absO, absOc, absN, absNc, List.append_nil, List.nil_append, List.cons_append, List.length_cons, List.length_nil, Nat.add_zero, Nat.zero_add, Nat.reduceAdd])) | ((try simp (disch := omega) only [wrap64]); refine hK _ ?_; clear hK K))
    | ((with_reducible refine idp (p := awpL _ _ (_ :: _) _ _) ?_); refine awpL_take rfl ?_ ?_; (focus (simp [guardA]; done)); intro K hK; simp [-Bool.exists_bool, aop]; first | (refine ⟨_, (szAttrS_ok a.attrs _ (by omega) (by repeat' (first | omega | apply purse_le | apply purse_len)) wattrs), hK _ ?_⟩; clear hK K; (try simp only [absorb_eq, absorbc_eq, absV, absVc, absO, absOc, absN, absNc, List.append_nil, List.nil_append, List.cons_append, List.length_cons, List.length_nil, Nat.add_zero, Nat.zero_add, Nat.reduceAdd])) | ((try simp (disch := omega) only [wrap64]); refine hK _ ?_; clear hK K))
    | ((with_reducible refine idp (p := awpL _ _ (_ :: _) _ _) ?_); refine awpL_skip rfl ?_ ?_; (focus (simp [guardA]; done)); simp only [AS.put, List.set_cons_succ, List.set_cons_zero])
    | ((with_reducible refine idp (p := awpL _ _ (_ :: _) _ _) ?_); refine awpL_split rfl rfl rfl (fun hc => ?_) (fun hc => ?_) <;> simp only [List.set_cons_succ, List.set_cons_zero])
    | ((with_reducible refine idp (p := dwalk _ _ _ _ _ _ (_ :: _) _ _) ?_); refine dwalk_cons rfl rfl (by simp [Region.binds]; rfl) (by decide) (by simp [Region.binds]; rfl) (by simp; rfl) fun K hK => ?_; simp [-Bool.exists_bool, aop]; first | (refine ⟨_, (szAttrS_ok a.attrs _ (by omega) (by repeat' (first | omega | apply purse_le | apply purse_len)) wattrs), hK _ (by simp) ?_⟩; clear hK K; simp only [dval, absorb_eq, absorbc_eq, absV, absVc, absO, absOc, absN, absNc, List.append_nil, Nat.add_zero, Nat.zero_add, Nat.reduceAdd, List.length_cons, List.length_nil, List.cons_append, List.nil_append]) | ((try simp (disch := omega) only [wrap64]); refine hK _ (by simp) ?_; clear hK K; simp))
    | ((with_reducible refine idp (p := awpL _ _ [] _ _) ?_); refine awpL_nil ?_)
    | ((with_reducible refine idp (p := awp _ (.region _ _ true) _ _) ?_); refine awp_drawn (by decide) ?_)
    | ((with_reducible refine idp (p := dwalk _ _ _ _ _ _ [] _ _) ?_); refine dwalk_nil (by simp; rfl) (by simp; rfl) ?_)
    | ((with_reducible refine idp (p := awp _ (.seq _ _) _ _) ?_); refine awp_seq fun K hK => ?_)
    | ((with_reducible refine idp (p := awp _ (.region _ _ false) _ _) ?_); refine awp_region ?_)
    | ((with_reducible refine idp (p := AThen _ _ .normal _) ?_); refine awp_then (by assumption) ?_)
    | ((with_reducible refine idp (p := AThen _ _ .ret _) ?_); refine awp_then_ret ?_)
    | ((with_reducible refine idp (p := AThen _ _ (.exit _) _) ?_); refine awp_then_exit ?_)
    | ((with_reducible refine idp (p := AIn _ _ .normal _) ?_); refine awp_in_normal ?_)
    | ((with_reducible refine idp (p := AIn _ _ .ret _) ?_); refine awp_in_ret ?_)
    | ((with_reducible refine idp (p := AIn _ _ (.exit _) _) ?_); first | refine awp_in_eq ?_ | refine awp_in_ne (by decide) ?_)
    | ((with_reducible refine idp (p := awp _ .ret _ _) ?_); refine awp_ret ?_)
    | ((with_reducible refine idp (p := awp _ (.cond _ _ _) _ _) ?_); (refine awp_cond rfl (fun hc => ?_) (fun hc => ?_) <;> (try simp at hc) <;> (try (exfalso; omega))))
    | ((with_reducible refine idp (p := awp _ (.block _ _) _ _) ?_); refine awp_block ?_)
    | ((with_reducible refine idp (p := awp _ (.exit _) _ _) ?_); refine awp_exit ?_)
    | ((with_reducible refine idp (p := awp _ .skip _ _) ?_); refine awp_skip ?_))
  all_goals (try (refine ⟨.inr rfl, ?_⟩; simp [Hands, Try.results93, szNode]))
  all_goals (repeat clear hK K)
  all_goals (
    (try generalize e0 : sub (n - (a.name.length : Int) - (a.text.length : Int)) (szL szAttr a.attrs) = m0 at *)
    (try (first | have f0 := purse_ok e0 (by omega) | have f0 := purse_bad e0 (by omega) (by omega)))
    repeat (simp (disch := omega) only [wrap64] at *)
    (try simp only [sub]); (try split); all_goals omega)

theorem eqNode_ok (a b : DNode) (hs : szNode a ≤ 1048576) : Ok Try.prog 97 [.agg (eNode .view a), .agg (eNode .view b)] (.bool (decide (a = b))) := by
  simp only [szNode] at hs
  refine ok_of_awp Try.mix Try.func97 rfl ?_
  simp only [Try.ntmps97, List.length_cons, List.length_nil, Nat.reduceSub, Nat.reduceAdd, List.replicate_succ, List.replicate_zero, List.cons_append, List.nil_append]
  repeat' (first
    | ((with_reducible refine idp (p := awpL _ _ (_ :: _) _ _) ?_); refine awpL_cons rfl fun K hK => ?_; simp [-Bool.exists_bool, aop]; first | (refine ⟨_, (eqAttrS_ok a.attrs b.attrs (by omega)), hK _ ?_⟩; clear hK K; (try simp only [absorb_eq, absorbc_eq, absV, absVc, absO, absOc, absN, absNc, List.append_nil, List.nil_append, List.cons_append, List.length_cons, List.length_nil, Nat.add_zero, Nat.zero_add, Nat.reduceAdd])) | ((try simp (disch := omega) only [wrap64]); refine hK _ ?_; clear hK K))
    | ((with_reducible refine idp (p := awpL _ _ (_ :: _) _ _) ?_); refine awpL_take rfl ?_ ?_; (focus (simp [guardA]; done)); intro K hK; simp [-Bool.exists_bool, aop]; first | (refine ⟨_, (eqAttrS_ok a.attrs b.attrs (by omega)), hK _ ?_⟩; clear hK K; (try simp only [absorb_eq, absorbc_eq, absV, absVc, absO, absOc, absN, absNc, List.append_nil, List.nil_append, List.cons_append, List.length_cons, List.length_nil, Nat.add_zero, Nat.zero_add, Nat.reduceAdd])) | ((try simp (disch := omega) only [wrap64]); refine hK _ ?_; clear hK K))
    | ((with_reducible refine idp (p := awpL _ _ (_ :: _) _ _) ?_); refine awpL_skip rfl ?_ ?_; (focus (simp [guardA]; done)); simp only [AS.put, List.set_cons_succ, List.set_cons_zero])
    | ((with_reducible refine idp (p := awpL _ _ (_ :: _) _ _) ?_); refine awpL_split rfl rfl rfl (fun hc => ?_) (fun hc => ?_) <;> simp only [List.set_cons_succ, List.set_cons_zero])
    | ((with_reducible refine idp (p := dwalk _ _ _ _ _ _ (_ :: _) _ _) ?_); refine dwalk_cons rfl rfl (by simp [Region.binds]; rfl) (by decide) (by simp [Region.binds]; rfl) (by simp; rfl) fun K hK => ?_; simp [-Bool.exists_bool, aop]; first | (refine ⟨_, (eqAttrS_ok a.attrs b.attrs (by omega)), hK _ (by simp) ?_⟩; clear hK K; simp only [dval, absorb_eq, absorbc_eq, absV, absVc, absO, absOc, absN, absNc, List.append_nil, Nat.add_zero, Nat.zero_add, Nat.reduceAdd, List.length_cons, List.length_nil, List.cons_append, List.nil_append]) | ((try simp (disch := omega) only [wrap64]); refine hK _ (by simp) ?_; clear hK K; simp))
    | ((with_reducible refine idp (p := awpL _ _ [] _ _) ?_); refine awpL_nil ?_)
    | ((with_reducible refine idp (p := awp _ (.region _ _ true) _ _) ?_); refine awp_drawn (by decide) ?_)
    | ((with_reducible refine idp (p := dwalk _ _ _ _ _ _ [] _ _) ?_); refine dwalk_nil (by simp; rfl) (by simp; rfl) ?_)
    | ((with_reducible refine idp (p := awp _ (.seq _ _) _ _) ?_); refine awp_seq fun K hK => ?_)
    | ((with_reducible refine idp (p := awp _ (.region _ _ false) _ _) ?_); refine awp_region ?_)
    | ((with_reducible refine idp (p := AThen _ _ .normal _) ?_); refine awp_then (by assumption) ?_)
    | ((with_reducible refine idp (p := AThen _ _ .ret _) ?_); refine awp_then_ret ?_)
    | ((with_reducible refine idp (p := AThen _ _ (.exit _) _) ?_); refine awp_then_exit ?_)
    | ((with_reducible refine idp (p := AIn _ _ .normal _) ?_); refine awp_in_normal ?_)
    | ((with_reducible refine idp (p := AIn _ _ .ret _) ?_); refine awp_in_ret ?_)
    | ((with_reducible refine idp (p := AIn _ _ (.exit _) _) ?_); first | refine awp_in_eq ?_ | refine awp_in_ne (by decide) ?_)
    | ((with_reducible refine idp (p := awp _ .ret _ _) ?_); refine awp_ret ?_)
    | ((with_reducible refine idp (p := awp _ (.cond _ _ _) _ _) ?_); (refine awp_cond rfl (fun hc => ?_) (fun hc => ?_) <;> (try simp at hc) <;> (try (exfalso; omega))))
    | ((with_reducible refine idp (p := awp _ (.block _ _) _ _) ?_); refine awp_block ?_)
    | ((with_reducible refine idp (p := awp _ (.exit _) _ _) ?_); refine awp_exit ?_)
    | ((with_reducible refine idp (p := awp _ .skip _ _) ?_); refine awp_skip ?_))
  all_goals (try (refine ⟨.inr rfl, ?_⟩; simp [Hands, Try.results97]))
  all_goals (repeat clear hK K)
  all_goals ((repeat clear hK K); cases a; cases b; simp_all)

theorem toSlot_ok (a : DSlot) (hs : szSlot a ≤ 1048576) : Ok Try.prog 80 [.agg (eSlot a)] (.agg (eSlot a)) := by
  simp only [szSlot] at hs
  refine ok_of_awp Try.mix Try.func80 rfl ?_
  simp only [Try.ntmps80, List.length_cons, List.length_nil, Nat.reduceSub, Nat.reduceAdd, List.replicate_succ, List.replicate_zero, List.cons_append, List.nil_append]
  repeat' (first
    | ((with_reducible refine idp (p := awpL _ _ (_ :: _) _ _) ?_); refine awpL_cons rfl fun K hK => ?_; simp [-Bool.exists_bool, aop]; first | (refine ⟨_, (toAddr_ok a.to (by omega)), hK _ ?_⟩; clear hK K; (try simp only [absorb_eq, absorbc_eq, absV, absVc, absO, absOc, absN, absNc, List.append_nil, List.nil_append, List.cons_append, List.length_cons, List.length_nil, Nat.add_zero, Nat.zero_add, Nat.reduceAdd])) | ((try simp (disch := omega) only [wrap64]); refine hK _ ?_; clear hK K))
    | ((with_reducible refine idp (p := awpL _ _ (_ :: _) _ _) ?_); refine awpL_take rfl ?_ ?_; (focus (simp [guardA]; done)); intro K hK; simp [-Bool.exists_bool, aop]; first | (refine ⟨_, (toAddr_ok a.to (by omega)), hK _ ?_⟩; clear hK K; (try simp only [absorb_eq, absorbc_eq, absV, absVc, absO, absOc, absN, absNc, List.append_nil, List.nil_append, List.cons_append, List.length_cons, List.length_nil, Nat.add_zero, Nat.zero_add, Nat.reduceAdd])) | ((try simp (disch := omega) only [wrap64]); refine hK _ ?_; clear hK K))
    | ((with_reducible refine idp (p := awpL _ _ (_ :: _) _ _) ?_); refine awpL_skip rfl ?_ ?_; (focus (simp [guardA]; done)); simp only [AS.put, List.set_cons_succ, List.set_cons_zero])
    | ((with_reducible refine idp (p := awpL _ _ (_ :: _) _ _) ?_); refine awpL_split rfl rfl rfl (fun hc => ?_) (fun hc => ?_) <;> simp only [List.set_cons_succ, List.set_cons_zero])
    | ((with_reducible refine idp (p := dwalk _ _ _ _ _ _ (_ :: _) _ _) ?_); refine dwalk_cons rfl rfl (by simp [Region.binds]; rfl) (by decide) (by simp [Region.binds]; rfl) (by simp; rfl) fun K hK => ?_; simp [-Bool.exists_bool, aop]; first | (refine ⟨_, (toAddr_ok a.to (by omega)), hK _ (by simp) ?_⟩; clear hK K; simp only [dval, absorb_eq, absorbc_eq, absV, absVc, absO, absOc, absN, absNc, List.append_nil, Nat.add_zero, Nat.zero_add, Nat.reduceAdd, List.length_cons, List.length_nil, List.cons_append, List.nil_append]) | ((try simp (disch := omega) only [wrap64]); refine hK _ (by simp) ?_; clear hK K; simp))
    | ((with_reducible refine idp (p := awpL _ _ [] _ _) ?_); refine awpL_nil ?_)
    | ((with_reducible refine idp (p := awp _ (.region _ _ true) _ _) ?_); refine awp_drawn (by decide) ?_)
    | ((with_reducible refine idp (p := dwalk _ _ _ _ _ _ [] _ _) ?_); refine dwalk_nil (by simp; rfl) (by simp; rfl) ?_)
    | ((with_reducible refine idp (p := awp _ (.seq _ _) _ _) ?_); refine awp_seq fun K hK => ?_)
    | ((with_reducible refine idp (p := awp _ (.region _ _ false) _ _) ?_); refine awp_region ?_)
    | ((with_reducible refine idp (p := AThen _ _ .normal _) ?_); refine awp_then (by assumption) ?_)
    | ((with_reducible refine idp (p := AThen _ _ .ret _) ?_); refine awp_then_ret ?_)
    | ((with_reducible refine idp (p := AThen _ _ (.exit _) _) ?_); refine awp_then_exit ?_)
    | ((with_reducible refine idp (p := AIn _ _ .normal _) ?_); refine awp_in_normal ?_)
    | ((with_reducible refine idp (p := AIn _ _ .ret _) ?_); refine awp_in_ret ?_)
    | ((with_reducible refine idp (p := AIn _ _ (.exit _) _) ?_); first | refine awp_in_eq ?_ | refine awp_in_ne (by decide) ?_)
    | ((with_reducible refine idp (p := awp _ .ret _ _) ?_); refine awp_ret ?_)
    | ((with_reducible refine idp (p := awp _ (.cond _ _ _) _ _) ?_); (refine awp_cond rfl (fun hc => ?_) (fun hc => ?_) <;> (try simp at hc) <;> (try (exfalso; omega))))
    | ((with_reducible refine idp (p := awp _ (.block _ _) _ _) ?_); refine awp_block ?_)
    | ((with_reducible refine idp (p := awp _ (.exit _) _ _) ?_); refine awp_exit ?_)
    | ((with_reducible refine idp (p := awp _ .skip _ _) ?_); refine awp_skip ?_))
  all_goals (try (refine ⟨.inr rfl, ?_⟩; simp [Hands, Try.results80]))
  all_goals (repeat clear hK K)

theorem szSlot_ok (a : DSlot) (n : Int) (h0 : 0 ≤ n) (h1 : n ≤ 1048576) (hw : wfSlot a) : Ok Try.prog 75 [.agg (eSlot a), .int .i64 n] (.int .i64 (sub n (szSlot a))) := by
  simp only [wfSlot] at hw
  obtain ⟨wto, wdigest, wbody⟩ := hw
  refine ok_of_awp Try.mix Try.func75 rfl ?_
  simp only [Try.ntmps75, List.length_cons, List.length_nil, Nat.reduceSub, Nat.reduceAdd, List.replicate_succ, List.replicate_zero, List.cons_append, List.nil_append]
  repeat' (first
    | ((with_reducible refine idp (p := awpL _ _ (_ :: _) _ _) ?_); refine awpL_cons rfl fun K hK => ?_; simp [-Bool.exists_bool, aop]; first | (refine ⟨_, (szAddr_ok a.to _ (by omega) (by repeat' (first | omega | apply purse_le | apply purse_len)) wto), hK _ ?_⟩; clear hK K; (try simp only [absorb_eq, absorbc_eq, absV, absVc, absO, absOc, absN, absNc, List.append_nil, List.nil_append, List.cons_append, List.length_cons, List.length_nil, Nat.add_zero, Nat.zero_add, Nat.reduceAdd])) | ((try simp (disch := omega) only [wrap64]); refine hK _ ?_; clear hK K))
    | ((with_reducible refine idp (p := awpL _ _ (_ :: _) _ _) ?_); refine awpL_take rfl ?_ ?_; (focus (simp [guardA]; done)); intro K hK; simp [-Bool.exists_bool, aop]; first | (refine ⟨_, (szAddr_ok a.to _ (by omega) (by repeat' (first | omega | apply purse_le | apply purse_len)) wto), hK _ ?_⟩; clear hK K; (try simp only [absorb_eq, absorbc_eq, absV, absVc, absO, absOc, absN, absNc, List.append_nil, List.nil_append, List.cons_append, List.length_cons, List.length_nil, Nat.add_zero, Nat.zero_add, Nat.reduceAdd])) | ((try simp (disch := omega) only [wrap64]); refine hK _ ?_; clear hK K))
    | ((with_reducible refine idp (p := awpL _ _ (_ :: _) _ _) ?_); refine awpL_skip rfl ?_ ?_; (focus (simp [guardA]; done)); simp only [AS.put, List.set_cons_succ, List.set_cons_zero])
    | ((with_reducible refine idp (p := awpL _ _ (_ :: _) _ _) ?_); refine awpL_split rfl rfl rfl (fun hc => ?_) (fun hc => ?_) <;> simp only [List.set_cons_succ, List.set_cons_zero])
    | ((with_reducible refine idp (p := dwalk _ _ _ _ _ _ (_ :: _) _ _) ?_); refine dwalk_cons rfl rfl (by simp [Region.binds]; rfl) (by decide) (by simp [Region.binds]; rfl) (by simp; rfl) fun K hK => ?_; simp [-Bool.exists_bool, aop]; first | (refine ⟨_, (szAddr_ok a.to _ (by omega) (by repeat' (first | omega | apply purse_le | apply purse_len)) wto), hK _ (by simp) ?_⟩; clear hK K; simp only [dval, absorb_eq, absorbc_eq, absV, absVc, absO, absOc, absN, absNc, List.append_nil, Nat.add_zero, Nat.zero_add, Nat.reduceAdd, List.length_cons, List.length_nil, List.cons_append, List.nil_append]) | ((try simp (disch := omega) only [wrap64]); refine hK _ (by simp) ?_; clear hK K; simp))
    | ((with_reducible refine idp (p := awpL _ _ [] _ _) ?_); refine awpL_nil ?_)
    | ((with_reducible refine idp (p := awp _ (.region _ _ true) _ _) ?_); refine awp_drawn (by decide) ?_)
    | ((with_reducible refine idp (p := dwalk _ _ _ _ _ _ [] _ _) ?_); refine dwalk_nil (by simp; rfl) (by simp; rfl) ?_)
    | ((with_reducible refine idp (p := awp _ (.seq _ _) _ _) ?_); refine awp_seq fun K hK => ?_)
    | ((with_reducible refine idp (p := awp _ (.region _ _ false) _ _) ?_); refine awp_region ?_)
    | ((with_reducible refine idp (p := AThen _ _ .normal _) ?_); refine awp_then (by assumption) ?_)
    | ((with_reducible refine idp (p := AThen _ _ .ret _) ?_); refine awp_then_ret ?_)
    | ((with_reducible refine idp (p := AThen _ _ (.exit _) _) ?_); refine awp_then_exit ?_)
    | ((with_reducible refine idp (p := AIn _ _ .normal _) ?_); refine awp_in_normal ?_)
    | ((with_reducible refine idp (p := AIn _ _ .ret _) ?_); refine awp_in_ret ?_)
    | ((with_reducible refine idp (p := AIn _ _ (.exit _) _) ?_); first | refine awp_in_eq ?_ | refine awp_in_ne (by decide) ?_)
    | ((with_reducible refine idp (p := awp _ .ret _ _) ?_); refine awp_ret ?_)
    | ((with_reducible refine idp (p := awp _ (.cond _ _ _) _ _) ?_); (refine awp_cond rfl (fun hc => ?_) (fun hc => ?_) <;> (try simp at hc) <;> (try (exfalso; omega))))
    | ((with_reducible refine idp (p := awp _ (.block _ _) _ _) ?_); refine awp_block ?_)
    | ((with_reducible refine idp (p := awp _ (.exit _) _ _) ?_); refine awp_exit ?_)
    | ((with_reducible refine idp (p := awp _ .skip _ _) ?_); refine awp_skip ?_))
  all_goals (try (refine ⟨.inr rfl, ?_⟩; simp [Hands, Try.results75, szSlot]))
  all_goals (repeat clear hK K)
  all_goals (
    (try generalize e0 : sub n (szAddr a.to) = m0 at *)
    (try (first | have f0 := purse_ok e0 (by omega) | have f0 := purse_bad e0 (by omega) (by omega)))
    repeat (simp (disch := omega) only [wrap64] at *)
    (try simp only [sub]); (try split); all_goals omega)

theorem eqSlot_ok (a b : DSlot) (hs : szSlot a ≤ 1048576) : Ok Try.prog 84 [.agg (eSlot a), .agg (eSlot b)] (.bool (decide (a = b))) := by
  simp only [szSlot] at hs
  refine ok_of_awp Try.mix Try.func84 rfl ?_
  simp only [Try.ntmps84, List.length_cons, List.length_nil, Nat.reduceSub, Nat.reduceAdd, List.replicate_succ, List.replicate_zero, List.cons_append, List.nil_append]
  repeat' (first
    | ((with_reducible refine idp (p := awpL _ _ (_ :: _) _ _) ?_); refine awpL_cons rfl fun K hK => ?_; simp [-Bool.exists_bool, aop]; first | (refine ⟨_, (eqAddr_ok a.to b.to (by omega)), hK _ ?_⟩; clear hK K; (try simp only [absorb_eq, absorbc_eq, absV, absVc, absO, absOc, absN, absNc, List.append_nil, List.nil_append, List.cons_append, List.length_cons, List.length_nil, Nat.add_zero, Nat.zero_add, Nat.reduceAdd])) | ((try simp (disch := omega) only [wrap64]); refine hK _ ?_; clear hK K))
    | ((with_reducible refine idp (p := awpL _ _ (_ :: _) _ _) ?_); refine awpL_take rfl ?_ ?_; (focus (simp [guardA]; done)); intro K hK; simp [-Bool.exists_bool, aop]; first | (refine ⟨_, (eqAddr_ok a.to b.to (by omega)), hK _ ?_⟩; clear hK K; (try simp only [absorb_eq, absorbc_eq, absV, absVc, absO, absOc, absN, absNc, List.append_nil, List.nil_append, List.cons_append, List.length_cons, List.length_nil, Nat.add_zero, Nat.zero_add, Nat.reduceAdd])) | ((try simp (disch := omega) only [wrap64]); refine hK _ ?_; clear hK K))
    | ((with_reducible refine idp (p := awpL _ _ (_ :: _) _ _) ?_); refine awpL_skip rfl ?_ ?_; (focus (simp [guardA]; done)); simp only [AS.put, List.set_cons_succ, List.set_cons_zero])
    | ((with_reducible refine idp (p := awpL _ _ (_ :: _) _ _) ?_); refine awpL_split rfl rfl rfl (fun hc => ?_) (fun hc => ?_) <;> simp only [List.set_cons_succ, List.set_cons_zero])
    | ((with_reducible refine idp (p := dwalk _ _ _ _ _ _ (_ :: _) _ _) ?_); refine dwalk_cons rfl rfl (by simp [Region.binds]; rfl) (by decide) (by simp [Region.binds]; rfl) (by simp; rfl) fun K hK => ?_; simp [-Bool.exists_bool, aop]; first | (refine ⟨_, (eqAddr_ok a.to b.to (by omega)), hK _ (by simp) ?_⟩; clear hK K; simp only [dval, absorb_eq, absorbc_eq, absV, absVc, absO, absOc, absN, absNc, List.append_nil, Nat.add_zero, Nat.zero_add, Nat.reduceAdd, List.length_cons, List.length_nil, List.cons_append, List.nil_append]) | ((try simp (disch := omega) only [wrap64]); refine hK _ (by simp) ?_; clear hK K; simp))
    | ((with_reducible refine idp (p := awpL _ _ [] _ _) ?_); refine awpL_nil ?_)
    | ((with_reducible refine idp (p := awp _ (.region _ _ true) _ _) ?_); refine awp_drawn (by decide) ?_)
    | ((with_reducible refine idp (p := dwalk _ _ _ _ _ _ [] _ _) ?_); refine dwalk_nil (by simp; rfl) (by simp; rfl) ?_)
    | ((with_reducible refine idp (p := awp _ (.seq _ _) _ _) ?_); refine awp_seq fun K hK => ?_)
    | ((with_reducible refine idp (p := awp _ (.region _ _ false) _ _) ?_); refine awp_region ?_)
    | ((with_reducible refine idp (p := AThen _ _ .normal _) ?_); refine awp_then (by assumption) ?_)
    | ((with_reducible refine idp (p := AThen _ _ .ret _) ?_); refine awp_then_ret ?_)
    | ((with_reducible refine idp (p := AThen _ _ (.exit _) _) ?_); refine awp_then_exit ?_)
    | ((with_reducible refine idp (p := AIn _ _ .normal _) ?_); refine awp_in_normal ?_)
    | ((with_reducible refine idp (p := AIn _ _ .ret _) ?_); refine awp_in_ret ?_)
    | ((with_reducible refine idp (p := AIn _ _ (.exit _) _) ?_); first | refine awp_in_eq ?_ | refine awp_in_ne (by decide) ?_)
    | ((with_reducible refine idp (p := awp _ .ret _ _) ?_); refine awp_ret ?_)
    | ((with_reducible refine idp (p := awp _ (.cond _ _ _) _ _) ?_); (refine awp_cond rfl (fun hc => ?_) (fun hc => ?_) <;> (try simp at hc) <;> (try (exfalso; omega))))
    | ((with_reducible refine idp (p := awp _ (.block _ _) _ _) ?_); refine awp_block ?_)
    | ((with_reducible refine idp (p := awp _ (.exit _) _ _) ?_); refine awp_exit ?_)
    | ((with_reducible refine idp (p := awp _ .skip _ _) ?_); refine awp_skip ?_))
  all_goals (try (refine ⟨.inr rfl, ?_⟩; simp [Hands, Try.results84]))
  all_goals (repeat clear hK K)
  all_goals ((repeat clear hK K); cases a; cases b; simp_all)

theorem toModule_ok (a : DModule) (hs : szModule a ≤ 1048576) : Ok Try.prog 81 [.agg (eModule a)] (.agg (eModule a)) := by
  simp only [szModule] at hs
  refine ok_of_awp Try.mix Try.func81 rfl ?_
  simp only [Try.ntmps81, List.length_cons, List.length_nil, Nat.reduceSub, Nat.reduceAdd, List.replicate_succ, List.replicate_zero, List.cons_append, List.nil_append]
  repeat' (first
    | ((with_reducible refine idp (p := awpL _ _ (_ :: _) _ _) ?_); refine awpL_cons rfl fun K hK => ?_; simp [-Bool.exists_bool, aop]; first | (refine ⟨_, (toAddr_ok a.to (by omega)), hK _ ?_⟩; clear hK K; (try simp only [absorb_eq, absorbc_eq, absV, absVc, absO, absOc, absN, absNc, List.append_nil, List.nil_append, List.cons_append, List.length_cons, List.length_nil, Nat.add_zero, Nat.zero_add, Nat.reduceAdd])) | ((try simp (disch := omega) only [wrap64]); refine hK _ ?_; clear hK K))
    | ((with_reducible refine idp (p := awpL _ _ (_ :: _) _ _) ?_); refine awpL_take rfl ?_ ?_; (focus (simp [guardA]; done)); intro K hK; simp [-Bool.exists_bool, aop]; first | (refine ⟨_, (toAddr_ok a.to (by omega)), hK _ ?_⟩; clear hK K; (try simp only [absorb_eq, absorbc_eq, absV, absVc, absO, absOc, absN, absNc, List.append_nil, List.nil_append, List.cons_append, List.length_cons, List.length_nil, Nat.add_zero, Nat.zero_add, Nat.reduceAdd])) | ((try simp (disch := omega) only [wrap64]); refine hK _ ?_; clear hK K))
    | ((with_reducible refine idp (p := awpL _ _ (_ :: _) _ _) ?_); refine awpL_skip rfl ?_ ?_; (focus (simp [guardA]; done)); simp only [AS.put, List.set_cons_succ, List.set_cons_zero])
    | ((with_reducible refine idp (p := awpL _ _ (_ :: _) _ _) ?_); refine awpL_split rfl rfl rfl (fun hc => ?_) (fun hc => ?_) <;> simp only [List.set_cons_succ, List.set_cons_zero])
    | ((with_reducible refine idp (p := dwalk _ _ _ _ _ _ (_ :: _) _ _) ?_); refine dwalk_cons rfl rfl (by simp [Region.binds]; rfl) (by decide) (by simp [Region.binds]; rfl) (by simp; rfl) fun K hK => ?_; simp [-Bool.exists_bool, aop]; first | (refine ⟨_, (toAddr_ok a.to (by omega)), hK _ (by simp) ?_⟩; clear hK K; simp only [dval, absorb_eq, absorbc_eq, absV, absVc, absO, absOc, absN, absNc, List.append_nil, Nat.add_zero, Nat.zero_add, Nat.reduceAdd, List.length_cons, List.length_nil, List.cons_append, List.nil_append]) | ((try simp (disch := omega) only [wrap64]); refine hK _ (by simp) ?_; clear hK K; simp))
    | ((with_reducible refine idp (p := awpL _ _ [] _ _) ?_); refine awpL_nil ?_)
    | ((with_reducible refine idp (p := awp _ (.region _ _ true) _ _) ?_); refine awp_drawn (by decide) ?_)
    | ((with_reducible refine idp (p := dwalk _ _ _ _ _ _ [] _ _) ?_); refine dwalk_nil (by simp; rfl) (by simp; rfl) ?_)
    | ((with_reducible refine idp (p := awp _ (.seq _ _) _ _) ?_); refine awp_seq fun K hK => ?_)
    | ((with_reducible refine idp (p := awp _ (.region _ _ false) _ _) ?_); refine awp_region ?_)
    | ((with_reducible refine idp (p := AThen _ _ .normal _) ?_); refine awp_then (by assumption) ?_)
    | ((with_reducible refine idp (p := AThen _ _ .ret _) ?_); refine awp_then_ret ?_)
    | ((with_reducible refine idp (p := AThen _ _ (.exit _) _) ?_); refine awp_then_exit ?_)
    | ((with_reducible refine idp (p := AIn _ _ .normal _) ?_); refine awp_in_normal ?_)
    | ((with_reducible refine idp (p := AIn _ _ .ret _) ?_); refine awp_in_ret ?_)
    | ((with_reducible refine idp (p := AIn _ _ (.exit _) _) ?_); first | refine awp_in_eq ?_ | refine awp_in_ne (by decide) ?_)
    | ((with_reducible refine idp (p := awp _ .ret _ _) ?_); refine awp_ret ?_)
    | ((with_reducible refine idp (p := awp _ (.cond _ _ _) _ _) ?_); (refine awp_cond rfl (fun hc => ?_) (fun hc => ?_) <;> (try simp at hc) <;> (try (exfalso; omega))))
    | ((with_reducible refine idp (p := awp _ (.block _ _) _ _) ?_); refine awp_block ?_)
    | ((with_reducible refine idp (p := awp _ (.exit _) _ _) ?_); refine awp_exit ?_)
    | ((with_reducible refine idp (p := awp _ .skip _ _) ?_); refine awp_skip ?_))
  all_goals (try (refine ⟨.inr rfl, ?_⟩; simp [Hands, Try.results81]))
  all_goals (repeat clear hK K)

theorem szModule_ok (a : DModule) (n : Int) (h0 : 0 ≤ n) (h1 : n ≤ 1048576) (hw : wfModule a) : Ok Try.prog 76 [.agg (eModule a), .int .i64 n] (.int .i64 (sub n (szModule a))) := by
  simp only [wfModule] at hw
  obtain ⟨wto, wbody⟩ := hw
  refine ok_of_awp Try.mix Try.func76 rfl ?_
  simp only [Try.ntmps76, List.length_cons, List.length_nil, Nat.reduceSub, Nat.reduceAdd, List.replicate_succ, List.replicate_zero, List.cons_append, List.nil_append]
  repeat' (first
    | ((with_reducible refine idp (p := awpL _ _ (_ :: _) _ _) ?_); refine awpL_cons rfl fun K hK => ?_; simp [-Bool.exists_bool, aop]; first | (refine ⟨_, (szAddr_ok a.to _ (by omega) (by repeat' (first | omega | apply purse_le | apply purse_len)) wto), hK _ ?_⟩; clear hK K; (try simp only [absorb_eq, absorbc_eq, absV, absVc, absO, absOc, absN, absNc, List.append_nil, List.nil_append, List.cons_append, List.length_cons, List.length_nil, Nat.add_zero, Nat.zero_add, Nat.reduceAdd])) | ((try simp (disch := omega) only [wrap64]); refine hK _ ?_; clear hK K))
    | ((with_reducible refine idp (p := awpL _ _ (_ :: _) _ _) ?_); refine awpL_take rfl ?_ ?_; (focus (simp [guardA]; done)); intro K hK; simp [-Bool.exists_bool, aop]; first | (refine ⟨_, (szAddr_ok a.to _ (by omega) (by repeat' (first | omega | apply purse_le | apply purse_len)) wto), hK _ ?_⟩; clear hK K; (try simp only [absorb_eq, absorbc_eq, absV, absVc, absO, absOc, absN, absNc, List.append_nil, List.nil_append, List.cons_append, List.length_cons, List.length_nil, Nat.add_zero, Nat.zero_add, Nat.reduceAdd])) | ((try simp (disch := omega) only [wrap64]); refine hK _ ?_; clear hK K))
    | ((with_reducible refine idp (p := awpL _ _ (_ :: _) _ _) ?_); refine awpL_skip rfl ?_ ?_; (focus (simp [guardA]; done)); simp only [AS.put, List.set_cons_succ, List.set_cons_zero])
    | ((with_reducible refine idp (p := awpL _ _ (_ :: _) _ _) ?_); refine awpL_split rfl rfl rfl (fun hc => ?_) (fun hc => ?_) <;> simp only [List.set_cons_succ, List.set_cons_zero])
    | ((with_reducible refine idp (p := dwalk _ _ _ _ _ _ (_ :: _) _ _) ?_); refine dwalk_cons rfl rfl (by simp [Region.binds]; rfl) (by decide) (by simp [Region.binds]; rfl) (by simp; rfl) fun K hK => ?_; simp [-Bool.exists_bool, aop]; first | (refine ⟨_, (szAddr_ok a.to _ (by omega) (by repeat' (first | omega | apply purse_le | apply purse_len)) wto), hK _ (by simp) ?_⟩; clear hK K; simp only [dval, absorb_eq, absorbc_eq, absV, absVc, absO, absOc, absN, absNc, List.append_nil, Nat.add_zero, Nat.zero_add, Nat.reduceAdd, List.length_cons, List.length_nil, List.cons_append, List.nil_append]) | ((try simp (disch := omega) only [wrap64]); refine hK _ (by simp) ?_; clear hK K; simp))
    | ((with_reducible refine idp (p := awpL _ _ [] _ _) ?_); refine awpL_nil ?_)
    | ((with_reducible refine idp (p := awp _ (.region _ _ true) _ _) ?_); refine awp_drawn (by decide) ?_)
    | ((with_reducible refine idp (p := dwalk _ _ _ _ _ _ [] _ _) ?_); refine dwalk_nil (by simp; rfl) (by simp; rfl) ?_)
    | ((with_reducible refine idp (p := awp _ (.seq _ _) _ _) ?_); refine awp_seq fun K hK => ?_)
    | ((with_reducible refine idp (p := awp _ (.region _ _ false) _ _) ?_); refine awp_region ?_)
    | ((with_reducible refine idp (p := AThen _ _ .normal _) ?_); refine awp_then (by assumption) ?_)
    | ((with_reducible refine idp (p := AThen _ _ .ret _) ?_); refine awp_then_ret ?_)
    | ((with_reducible refine idp (p := AThen _ _ (.exit _) _) ?_); refine awp_then_exit ?_)
    | ((with_reducible refine idp (p := AIn _ _ .normal _) ?_); refine awp_in_normal ?_)
    | ((with_reducible refine idp (p := AIn _ _ .ret _) ?_); refine awp_in_ret ?_)
    | ((with_reducible refine idp (p := AIn _ _ (.exit _) _) ?_); first | refine awp_in_eq ?_ | refine awp_in_ne (by decide) ?_)
    | ((with_reducible refine idp (p := awp _ .ret _ _) ?_); refine awp_ret ?_)
    | ((with_reducible refine idp (p := awp _ (.cond _ _ _) _ _) ?_); (refine awp_cond rfl (fun hc => ?_) (fun hc => ?_) <;> (try simp at hc) <;> (try (exfalso; omega))))
    | ((with_reducible refine idp (p := awp _ (.block _ _) _ _) ?_); refine awp_block ?_)
    | ((with_reducible refine idp (p := awp _ (.exit _) _ _) ?_); refine awp_exit ?_)
    | ((with_reducible refine idp (p := awp _ .skip _ _) ?_); refine awp_skip ?_))
  all_goals (try (refine ⟨.inr rfl, ?_⟩; simp [Hands, Try.results76, szModule]))
  all_goals (repeat clear hK K)
  all_goals (
    (try generalize e0 : sub n (szAddr a.to) = m0 at *)
    (try (first | have f0 := purse_ok e0 (by omega) | have f0 := purse_bad e0 (by omega) (by omega)))
    repeat (simp (disch := omega) only [wrap64] at *)
    (try simp only [sub]); (try split); all_goals omega)

theorem eqModule_ok (a b : DModule) (hs : szModule a ≤ 1048576) : Ok Try.prog 85 [.agg (eModule a), .agg (eModule b)] (.bool (decide (a = b))) := by
  simp only [szModule] at hs
  refine ok_of_awp Try.mix Try.func85 rfl ?_
  simp only [Try.ntmps85, List.length_cons, List.length_nil, Nat.reduceSub, Nat.reduceAdd, List.replicate_succ, List.replicate_zero, List.cons_append, List.nil_append]
  repeat' (first
    | ((with_reducible refine idp (p := awpL _ _ (_ :: _) _ _) ?_); refine awpL_cons rfl fun K hK => ?_; simp [-Bool.exists_bool, aop]; first | (refine ⟨_, (eqAddr_ok a.to b.to (by omega)), hK _ ?_⟩; clear hK K; (try simp only [absorb_eq, absorbc_eq, absV, absVc, absO, absOc, absN, absNc, List.append_nil, List.nil_append, List.cons_append, List.length_cons, List.length_nil, Nat.add_zero, Nat.zero_add, Nat.reduceAdd])) | ((try simp (disch := omega) only [wrap64]); refine hK _ ?_; clear hK K))
    | ((with_reducible refine idp (p := awpL _ _ (_ :: _) _ _) ?_); refine awpL_take rfl ?_ ?_; (focus (simp [guardA]; done)); intro K hK; simp [-Bool.exists_bool, aop]; first | (refine ⟨_, (eqAddr_ok a.to b.to (by omega)), hK _ ?_⟩; clear hK K; (try simp only [absorb_eq, absorbc_eq, absV, absVc, absO, absOc, absN, absNc, List.append_nil, List.nil_append, List.cons_append, List.length_cons, List.length_nil, Nat.add_zero, Nat.zero_add, Nat.reduceAdd])) | ((try simp (disch := omega) only [wrap64]); refine hK _ ?_; clear hK K))
    | ((with_reducible refine idp (p := awpL _ _ (_ :: _) _ _) ?_); refine awpL_skip rfl ?_ ?_; (focus (simp [guardA]; done)); simp only [AS.put, List.set_cons_succ, List.set_cons_zero])
    | ((with_reducible refine idp (p := awpL _ _ (_ :: _) _ _) ?_); refine awpL_split rfl rfl rfl (fun hc => ?_) (fun hc => ?_) <;> simp only [List.set_cons_succ, List.set_cons_zero])
    | ((with_reducible refine idp (p := dwalk _ _ _ _ _ _ (_ :: _) _ _) ?_); refine dwalk_cons rfl rfl (by simp [Region.binds]; rfl) (by decide) (by simp [Region.binds]; rfl) (by simp; rfl) fun K hK => ?_; simp [-Bool.exists_bool, aop]; first | (refine ⟨_, (eqAddr_ok a.to b.to (by omega)), hK _ (by simp) ?_⟩; clear hK K; simp only [dval, absorb_eq, absorbc_eq, absV, absVc, absO, absOc, absN, absNc, List.append_nil, Nat.add_zero, Nat.zero_add, Nat.reduceAdd, List.length_cons, List.length_nil, List.cons_append, List.nil_append]) | ((try simp (disch := omega) only [wrap64]); refine hK _ (by simp) ?_; clear hK K; simp))
    | ((with_reducible refine idp (p := awpL _ _ [] _ _) ?_); refine awpL_nil ?_)
    | ((with_reducible refine idp (p := awp _ (.region _ _ true) _ _) ?_); refine awp_drawn (by decide) ?_)
    | ((with_reducible refine idp (p := dwalk _ _ _ _ _ _ [] _ _) ?_); refine dwalk_nil (by simp; rfl) (by simp; rfl) ?_)
    | ((with_reducible refine idp (p := awp _ (.seq _ _) _ _) ?_); refine awp_seq fun K hK => ?_)
    | ((with_reducible refine idp (p := awp _ (.region _ _ false) _ _) ?_); refine awp_region ?_)
    | ((with_reducible refine idp (p := AThen _ _ .normal _) ?_); refine awp_then (by assumption) ?_)
    | ((with_reducible refine idp (p := AThen _ _ .ret _) ?_); refine awp_then_ret ?_)
    | ((with_reducible refine idp (p := AThen _ _ (.exit _) _) ?_); refine awp_then_exit ?_)
    | ((with_reducible refine idp (p := AIn _ _ .normal _) ?_); refine awp_in_normal ?_)
    | ((with_reducible refine idp (p := AIn _ _ .ret _) ?_); refine awp_in_ret ?_)
    | ((with_reducible refine idp (p := AIn _ _ (.exit _) _) ?_); first | refine awp_in_eq ?_ | refine awp_in_ne (by decide) ?_)
    | ((with_reducible refine idp (p := awp _ .ret _ _) ?_); refine awp_ret ?_)
    | ((with_reducible refine idp (p := awp _ (.cond _ _ _) _ _) ?_); (refine awp_cond rfl (fun hc => ?_) (fun hc => ?_) <;> (try simp at hc) <;> (try (exfalso; omega))))
    | ((with_reducible refine idp (p := awp _ (.block _ _) _ _) ?_); refine awp_block ?_)
    | ((with_reducible refine idp (p := awp _ (.exit _) _ _) ?_); refine awp_exit ?_)
    | ((with_reducible refine idp (p := awp _ .skip _ _) ?_); refine awp_skip ?_))
  all_goals (try (refine ⟨.inr rfl, ?_⟩; simp [Hands, Try.results85]))
  all_goals (repeat clear hK K)
  all_goals ((repeat clear hK K); cases a; cases b; simp_all)

theorem toPolicy_ok (a : DPolicy) (hs : szPolicy a ≤ 1048576) : Ok Try.prog 44 [.agg (ePolicy .view a)] (.agg (ePolicy .own a)) := by
  simp only [szPolicy] at hs
  refine ok_of_awp Try.mix Try.func44 rfl ?_
  simp only [Try.ntmps44, List.length_cons, List.length_nil, Nat.reduceSub, Nat.reduceAdd, List.replicate_succ, List.replicate_zero, List.cons_append, List.nil_append]
  repeat' (first
    | ((with_reducible refine idp (p := awpL _ _ (_ :: _) _ _) ?_); refine awpL_cons rfl fun K hK => ?_; simp [-Bool.exists_bool, aop]; first | (refine ⟨_, (toStringS_ok a.scripts (by omega)), hK _ ?_⟩; clear hK K; (try simp only [absorb_eq, absorbc_eq, absV, absVc, absO, absOc, absN, absNc, List.append_nil, List.nil_append, List.cons_append, List.length_cons, List.length_nil, Nat.add_zero, Nat.zero_add, Nat.reduceAdd])) | (refine ⟨_, (toStringS_ok a.styles (by omega)), hK _ ?_⟩; clear hK K; (try simp only [absorb_eq, absorbc_eq, absV, absVc, absO, absOc, absN, absNc, List.append_nil, List.nil_append, List.cons_append, List.length_cons, List.length_nil, Nat.add_zero, Nat.zero_add, Nat.reduceAdd])) | (refine ⟨_, (toStringS_ok a.images (by omega)), hK _ ?_⟩; clear hK K; (try simp only [absorb_eq, absorbc_eq, absV, absVc, absO, absOc, absN, absNc, List.append_nil, List.nil_append, List.cons_append, List.length_cons, List.length_nil, Nat.add_zero, Nat.zero_add, Nat.reduceAdd])) | ((try simp (disch := omega) only [wrap64]); refine hK _ ?_; clear hK K))
    | ((with_reducible refine idp (p := awpL _ _ (_ :: _) _ _) ?_); refine awpL_take rfl ?_ ?_; (focus (simp [guardA]; done)); intro K hK; simp [-Bool.exists_bool, aop]; first | (refine ⟨_, (toStringS_ok a.scripts (by omega)), hK _ ?_⟩; clear hK K; (try simp only [absorb_eq, absorbc_eq, absV, absVc, absO, absOc, absN, absNc, List.append_nil, List.nil_append, List.cons_append, List.length_cons, List.length_nil, Nat.add_zero, Nat.zero_add, Nat.reduceAdd])) | (refine ⟨_, (toStringS_ok a.styles (by omega)), hK _ ?_⟩; clear hK K; (try simp only [absorb_eq, absorbc_eq, absV, absVc, absO, absOc, absN, absNc, List.append_nil, List.nil_append, List.cons_append, List.length_cons, List.length_nil, Nat.add_zero, Nat.zero_add, Nat.reduceAdd])) | (refine ⟨_, (toStringS_ok a.images (by omega)), hK _ ?_⟩; clear hK K; (try simp only [absorb_eq, absorbc_eq, absV, absVc, absO, absOc, absN, absNc, List.append_nil, List.nil_append, List.cons_append, List.length_cons, List.length_nil, Nat.add_zero, Nat.zero_add, Nat.reduceAdd])) | ((try simp (disch := omega) only [wrap64]); refine hK _ ?_; clear hK K))
    | ((with_reducible refine idp (p := awpL _ _ (_ :: _) _ _) ?_); refine awpL_skip rfl ?_ ?_; (focus (simp [guardA]; done)); simp only [AS.put, List.set_cons_succ, List.set_cons_zero])
    | ((with_reducible refine idp (p := awpL _ _ (_ :: _) _ _) ?_); refine awpL_split rfl rfl rfl (fun hc => ?_) (fun hc => ?_) <;> simp only [List.set_cons_succ, List.set_cons_zero])
    | ((with_reducible refine idp (p := dwalk _ _ _ _ _ _ (_ :: _) _ _) ?_); refine dwalk_cons rfl rfl (by simp [Region.binds]; rfl) (by decide) (by simp [Region.binds]; rfl) (by simp; rfl) fun K hK => ?_; simp [-Bool.exists_bool, aop]; first | (refine ⟨_, (toStringS_ok a.scripts (by omega)), hK _ (by simp) ?_⟩; clear hK K; simp only [dval, absorb_eq, absorbc_eq, absV, absVc, absO, absOc, absN, absNc, List.append_nil, Nat.add_zero, Nat.zero_add, Nat.reduceAdd, List.length_cons, List.length_nil, List.cons_append, List.nil_append]) | (refine ⟨_, (toStringS_ok a.styles (by omega)), hK _ (by simp) ?_⟩; clear hK K; simp only [dval, absorb_eq, absorbc_eq, absV, absVc, absO, absOc, absN, absNc, List.append_nil, Nat.add_zero, Nat.zero_add, Nat.reduceAdd, List.length_cons, List.length_nil, List.cons_append, List.nil_append]) | (refine ⟨_, (toStringS_ok a.images (by omega)), hK _ (by simp) ?_⟩; clear hK K; simp only [dval, absorb_eq, absorbc_eq, absV, absVc, absO, absOc, absN, absNc, List.append_nil, Nat.add_zero, Nat.zero_add, Nat.reduceAdd, List.length_cons, List.length_nil, List.cons_append, List.nil_append]) | ((try simp (disch := omega) only [wrap64]); refine hK _ (by simp) ?_; clear hK K; simp))
    | ((with_reducible refine idp (p := awpL _ _ [] _ _) ?_); refine awpL_nil ?_)
    | ((with_reducible refine idp (p := awp _ (.region _ _ true) _ _) ?_); refine awp_drawn (by decide) ?_)
    | ((with_reducible refine idp (p := dwalk _ _ _ _ _ _ [] _ _) ?_); refine dwalk_nil (by simp; rfl) (by simp; rfl) ?_)
    | ((with_reducible refine idp (p := awp _ (.seq _ _) _ _) ?_); refine awp_seq fun K hK => ?_)
    | ((with_reducible refine idp (p := awp _ (.region _ _ false) _ _) ?_); refine awp_region ?_)
    | ((with_reducible refine idp (p := AThen _ _ .normal _) ?_); refine awp_then (by assumption) ?_)
    | ((with_reducible refine idp (p := AThen _ _ .ret _) ?_); refine awp_then_ret ?_)
    | ((with_reducible refine idp (p := AThen _ _ (.exit _) _) ?_); refine awp_then_exit ?_)
    | ((with_reducible refine idp (p := AIn _ _ .normal _) ?_); refine awp_in_normal ?_)
    | ((with_reducible refine idp (p := AIn _ _ .ret _) ?_); refine awp_in_ret ?_)
    | ((with_reducible refine idp (p := AIn _ _ (.exit _) _) ?_); first | refine awp_in_eq ?_ | refine awp_in_ne (by decide) ?_)
    | ((with_reducible refine idp (p := awp _ .ret _ _) ?_); refine awp_ret ?_)
    | ((with_reducible refine idp (p := awp _ (.cond _ _ _) _ _) ?_); (refine awp_cond rfl (fun hc => ?_) (fun hc => ?_) <;> (try simp at hc) <;> (try (exfalso; omega))))
    | ((with_reducible refine idp (p := awp _ (.block _ _) _ _) ?_); refine awp_block ?_)
    | ((with_reducible refine idp (p := awp _ (.exit _) _ _) ?_); refine awp_exit ?_)
    | ((with_reducible refine idp (p := awp _ .skip _ _) ?_); refine awp_skip ?_))
  all_goals (try (refine ⟨.inr rfl, ?_⟩; simp [Hands, Try.results44]))
  all_goals (repeat clear hK K)

theorem szPolicy_ok (a : DPolicy) (n : Int) (h0 : 0 ≤ n) (h1 : n ≤ 1048576) (hw : wfPolicy a) : Ok Try.prog 36 [.agg (ePolicy .view a), .int .i64 n] (.int .i64 (sub n (szPolicy a))) := by
  simp only [wfPolicy] at hw
  obtain ⟨wscripts, wstyles, wimages, wnonce⟩ := hw
  refine ok_of_awp Try.mix Try.func36 rfl ?_
  simp only [Try.ntmps36, List.length_cons, List.length_nil, Nat.reduceSub, Nat.reduceAdd, List.replicate_succ, List.replicate_zero, List.cons_append, List.nil_append]
  repeat' (first
    | ((with_reducible refine idp (p := awpL _ _ (_ :: _) _ _) ?_); refine awpL_cons rfl fun K hK => ?_; simp [-Bool.exists_bool, aop]; first | (refine ⟨_, (szStringS_ok a.scripts _ (by omega) (by repeat' (first | omega | apply purse_le | apply purse_len)) wscripts), hK _ ?_⟩; clear hK K; (try simp only [absorb_eq, absorbc_eq, absV, absVc, absO, absOc, absN, absNc, List.append_nil, List.nil_append, List.cons_append, List.length_cons, List.length_nil, Nat.add_zero, Nat.zero_add, Nat.reduceAdd])) | (refine ⟨_, (szStringS_ok a.styles _ (by omega) (by repeat' (first | omega | apply purse_le | apply purse_len)) wstyles), hK _ ?_⟩; clear hK K; (try simp only [absorb_eq, absorbc_eq, absV, absVc, absO, absOc, absN, absNc, List.append_nil, List.nil_append, List.cons_append, List.length_cons, List.length_nil, Nat.add_zero, Nat.zero_add, Nat.reduceAdd])) | (refine ⟨_, (szStringS_ok a.images _ (by omega) (by repeat' (first | omega | apply purse_le | apply purse_len)) wimages), hK _ ?_⟩; clear hK K; (try simp only [absorb_eq, absorbc_eq, absV, absVc, absO, absOc, absN, absNc, List.append_nil, List.nil_append, List.cons_append, List.length_cons, List.length_nil, Nat.add_zero, Nat.zero_add, Nat.reduceAdd])) | ((try simp (disch := omega) only [wrap64]); refine hK _ ?_; clear hK K))
    | ((with_reducible refine idp (p := awpL _ _ (_ :: _) _ _) ?_); refine awpL_take rfl ?_ ?_; (focus (simp [guardA]; done)); intro K hK; simp [-Bool.exists_bool, aop]; first | (refine ⟨_, (szStringS_ok a.scripts _ (by omega) (by repeat' (first | omega | apply purse_le | apply purse_len)) wscripts), hK _ ?_⟩; clear hK K; (try simp only [absorb_eq, absorbc_eq, absV, absVc, absO, absOc, absN, absNc, List.append_nil, List.nil_append, List.cons_append, List.length_cons, List.length_nil, Nat.add_zero, Nat.zero_add, Nat.reduceAdd])) | (refine ⟨_, (szStringS_ok a.styles _ (by omega) (by repeat' (first | omega | apply purse_le | apply purse_len)) wstyles), hK _ ?_⟩; clear hK K; (try simp only [absorb_eq, absorbc_eq, absV, absVc, absO, absOc, absN, absNc, List.append_nil, List.nil_append, List.cons_append, List.length_cons, List.length_nil, Nat.add_zero, Nat.zero_add, Nat.reduceAdd])) | (refine ⟨_, (szStringS_ok a.images _ (by omega) (by repeat' (first | omega | apply purse_le | apply purse_len)) wimages), hK _ ?_⟩; clear hK K; (try simp only [absorb_eq, absorbc_eq, absV, absVc, absO, absOc, absN, absNc, List.append_nil, List.nil_append, List.cons_append, List.length_cons, List.length_nil, Nat.add_zero, Nat.zero_add, Nat.reduceAdd])) | ((try simp (disch := omega) only [wrap64]); refine hK _ ?_; clear hK K))
    | ((with_reducible refine idp (p := awpL _ _ (_ :: _) _ _) ?_); refine awpL_skip rfl ?_ ?_; (focus (simp [guardA]; done)); simp only [AS.put, List.set_cons_succ, List.set_cons_zero])
    | ((with_reducible refine idp (p := awpL _ _ (_ :: _) _ _) ?_); refine awpL_split rfl rfl rfl (fun hc => ?_) (fun hc => ?_) <;> simp only [List.set_cons_succ, List.set_cons_zero])
    | ((with_reducible refine idp (p := dwalk _ _ _ _ _ _ (_ :: _) _ _) ?_); refine dwalk_cons rfl rfl (by simp [Region.binds]; rfl) (by decide) (by simp [Region.binds]; rfl) (by simp; rfl) fun K hK => ?_; simp [-Bool.exists_bool, aop]; first | (refine ⟨_, (szStringS_ok a.scripts _ (by omega) (by repeat' (first | omega | apply purse_le | apply purse_len)) wscripts), hK _ (by simp) ?_⟩; clear hK K; simp only [dval, absorb_eq, absorbc_eq, absV, absVc, absO, absOc, absN, absNc, List.append_nil, Nat.add_zero, Nat.zero_add, Nat.reduceAdd, List.length_cons, List.length_nil, List.cons_append, List.nil_append]) | (refine ⟨_, (szStringS_ok a.styles _ (by omega) (by repeat' (first | omega | apply purse_le | apply purse_len)) wstyles), hK _ (by simp) ?_⟩; clear hK K; simp only [dval, absorb_eq, absorbc_eq, absV, absVc, absO, absOc, absN, absNc, List.append_nil, Nat.add_zero, Nat.zero_add, Nat.reduceAdd, List.length_cons, List.length_nil, List.cons_append, List.nil_append]) | (refine ⟨_, (szStringS_ok a.images _ (by omega) (by repeat' (first | omega | apply purse_le | apply purse_len)) wimages), hK _ (by simp) ?_⟩; clear hK K; simp only [dval, absorb_eq, absorbc_eq, absV, absVc, absO, absOc, absN, absNc, List.append_nil, Nat.add_zero, Nat.zero_add, Nat.reduceAdd, List.length_cons, List.length_nil, List.cons_append, List.nil_append]) | ((try simp (disch := omega) only [wrap64]); refine hK _ (by simp) ?_; clear hK K; simp))
    | ((with_reducible refine idp (p := awpL _ _ [] _ _) ?_); refine awpL_nil ?_)
    | ((with_reducible refine idp (p := awp _ (.region _ _ true) _ _) ?_); refine awp_drawn (by decide) ?_)
    | ((with_reducible refine idp (p := dwalk _ _ _ _ _ _ [] _ _) ?_); refine dwalk_nil (by simp; rfl) (by simp; rfl) ?_)
    | ((with_reducible refine idp (p := awp _ (.seq _ _) _ _) ?_); refine awp_seq fun K hK => ?_)
    | ((with_reducible refine idp (p := awp _ (.region _ _ false) _ _) ?_); refine awp_region ?_)
    | ((with_reducible refine idp (p := AThen _ _ .normal _) ?_); refine awp_then (by assumption) ?_)
    | ((with_reducible refine idp (p := AThen _ _ .ret _) ?_); refine awp_then_ret ?_)
    | ((with_reducible refine idp (p := AThen _ _ (.exit _) _) ?_); refine awp_then_exit ?_)
    | ((with_reducible refine idp (p := AIn _ _ .normal _) ?_); refine awp_in_normal ?_)
    | ((with_reducible refine idp (p := AIn _ _ .ret _) ?_); refine awp_in_ret ?_)
    | ((with_reducible refine idp (p := AIn _ _ (.exit _) _) ?_); first | refine awp_in_eq ?_ | refine awp_in_ne (by decide) ?_)
    | ((with_reducible refine idp (p := awp _ .ret _ _) ?_); refine awp_ret ?_)
    | ((with_reducible refine idp (p := awp _ (.cond _ _ _) _ _) ?_); (refine awp_cond rfl (fun hc => ?_) (fun hc => ?_) <;> (try simp at hc) <;> (try (exfalso; omega))))
    | ((with_reducible refine idp (p := awp _ (.block _ _) _ _) ?_); refine awp_block ?_)
    | ((with_reducible refine idp (p := awp _ (.exit _) _ _) ?_); refine awp_exit ?_)
    | ((with_reducible refine idp (p := awp _ .skip _ _) ?_); refine awp_skip ?_))
  all_goals (try (refine ⟨.inr rfl, ?_⟩; simp [Hands, Try.results36, szPolicy]))
  all_goals (repeat clear hK K)
  all_goals (
    (try generalize e0 : sub n (szL szStr a.scripts) = m0 at *)
    (try (first | have f0 := purse_ok e0 (by omega) | have f0 := purse_bad e0 (by omega) (by omega)))
    (try generalize e1 : sub m0 (szL szStr a.styles) = m1 at *)
    (try (first | have f1 := purse_ok e1 (by omega) | have f1 := purse_bad e1 (by omega) (by omega)))
    (try generalize e2 : sub m1 (szL szStr a.images) = m2 at *)
    (try (first | have f2 := purse_ok e2 (by omega) | have f2 := purse_bad e2 (by omega) (by omega)))
    repeat (simp (disch := omega) only [wrap64] at *)
    (try simp only [sub]); (try split); all_goals omega)

theorem eqPolicy_ok (a b : DPolicy) (hs : szPolicy a ≤ 1048576) : Ok Try.prog 53 [.agg (ePolicy .view a), .agg (ePolicy .view b)] (.bool (decide (a = b))) := by
  simp only [szPolicy] at hs
  refine ok_of_awp Try.mix Try.func53 rfl ?_
  simp only [Try.ntmps53, List.length_cons, List.length_nil, Nat.reduceSub, Nat.reduceAdd, List.replicate_succ, List.replicate_zero, List.cons_append, List.nil_append]
  repeat' (first
    | ((with_reducible refine idp (p := awpL _ _ (_ :: _) _ _) ?_); refine awpL_cons rfl fun K hK => ?_; simp [-Bool.exists_bool, aop]; first | (refine ⟨_, (eqStringS_ok a.scripts b.scripts (by omega)), hK _ ?_⟩; clear hK K; (try simp only [absorb_eq, absorbc_eq, absV, absVc, absO, absOc, absN, absNc, List.append_nil, List.nil_append, List.cons_append, List.length_cons, List.length_nil, Nat.add_zero, Nat.zero_add, Nat.reduceAdd])) | (refine ⟨_, (eqStringS_ok a.styles b.styles (by omega)), hK _ ?_⟩; clear hK K; (try simp only [absorb_eq, absorbc_eq, absV, absVc, absO, absOc, absN, absNc, List.append_nil, List.nil_append, List.cons_append, List.length_cons, List.length_nil, Nat.add_zero, Nat.zero_add, Nat.reduceAdd])) | (refine ⟨_, (eqStringS_ok a.images b.images (by omega)), hK _ ?_⟩; clear hK K; (try simp only [absorb_eq, absorbc_eq, absV, absVc, absO, absOc, absN, absNc, List.append_nil, List.nil_append, List.cons_append, List.length_cons, List.length_nil, Nat.add_zero, Nat.zero_add, Nat.reduceAdd])) | ((try simp (disch := omega) only [wrap64]); refine hK _ ?_; clear hK K))
    | ((with_reducible refine idp (p := awpL _ _ (_ :: _) _ _) ?_); refine awpL_take rfl ?_ ?_; (focus (simp [guardA]; done)); intro K hK; simp [-Bool.exists_bool, aop]; first | (refine ⟨_, (eqStringS_ok a.scripts b.scripts (by omega)), hK _ ?_⟩; clear hK K; (try simp only [absorb_eq, absorbc_eq, absV, absVc, absO, absOc, absN, absNc, List.append_nil, List.nil_append, List.cons_append, List.length_cons, List.length_nil, Nat.add_zero, Nat.zero_add, Nat.reduceAdd])) | (refine ⟨_, (eqStringS_ok a.styles b.styles (by omega)), hK _ ?_⟩; clear hK K; (try simp only [absorb_eq, absorbc_eq, absV, absVc, absO, absOc, absN, absNc, List.append_nil, List.nil_append, List.cons_append, List.length_cons, List.length_nil, Nat.add_zero, Nat.zero_add, Nat.reduceAdd])) | (refine ⟨_, (eqStringS_ok a.images b.images (by omega)), hK _ ?_⟩; clear hK K; (try simp only [absorb_eq, absorbc_eq, absV, absVc, absO, absOc, absN, absNc, List.append_nil, List.nil_append, List.cons_append, List.length_cons, List.length_nil, Nat.add_zero, Nat.zero_add, Nat.reduceAdd])) | ((try simp (disch := omega) only [wrap64]); refine hK _ ?_; clear hK K))
    | ((with_reducible refine idp (p := awpL _ _ (_ :: _) _ _) ?_); refine awpL_skip rfl ?_ ?_; (focus (simp [guardA]; done)); simp only [AS.put, List.set_cons_succ, List.set_cons_zero])
    | ((with_reducible refine idp (p := awpL _ _ (_ :: _) _ _) ?_); refine awpL_split rfl rfl rfl (fun hc => ?_) (fun hc => ?_) <;> simp only [List.set_cons_succ, List.set_cons_zero])
    | ((with_reducible refine idp (p := dwalk _ _ _ _ _ _ (_ :: _) _ _) ?_); refine dwalk_cons rfl rfl (by simp [Region.binds]; rfl) (by decide) (by simp [Region.binds]; rfl) (by simp; rfl) fun K hK => ?_; simp [-Bool.exists_bool, aop]; first | (refine ⟨_, (eqStringS_ok a.scripts b.scripts (by omega)), hK _ (by simp) ?_⟩; clear hK K; simp only [dval, absorb_eq, absorbc_eq, absV, absVc, absO, absOc, absN, absNc, List.append_nil, Nat.add_zero, Nat.zero_add, Nat.reduceAdd, List.length_cons, List.length_nil, List.cons_append, List.nil_append]) | (refine ⟨_, (eqStringS_ok a.styles b.styles (by omega)), hK _ (by simp) ?_⟩; clear hK K; simp only [dval, absorb_eq, absorbc_eq, absV, absVc, absO, absOc, absN, absNc, List.append_nil, Nat.add_zero, Nat.zero_add, Nat.reduceAdd, List.length_cons, List.length_nil, List.cons_append, List.nil_append]) | (refine ⟨_, (eqStringS_ok a.images b.images (by omega)), hK _ (by simp) ?_⟩; clear hK K; simp only [dval, absorb_eq, absorbc_eq, absV, absVc, absO, absOc, absN, absNc, List.append_nil, Nat.add_zero, Nat.zero_add, Nat.reduceAdd, List.length_cons, List.length_nil, List.cons_append, List.nil_append]) | ((try simp (disch := omega) only [wrap64]); refine hK _ (by simp) ?_; clear hK K; simp))
    | ((with_reducible refine idp (p := awpL _ _ [] _ _) ?_); refine awpL_nil ?_)
    | ((with_reducible refine idp (p := awp _ (.region _ _ true) _ _) ?_); refine awp_drawn (by decide) ?_)
    | ((with_reducible refine idp (p := dwalk _ _ _ _ _ _ [] _ _) ?_); refine dwalk_nil (by simp; rfl) (by simp; rfl) ?_)
    | ((with_reducible refine idp (p := awp _ (.seq _ _) _ _) ?_); refine awp_seq fun K hK => ?_)
    | ((with_reducible refine idp (p := awp _ (.region _ _ false) _ _) ?_); refine awp_region ?_)
    | ((with_reducible refine idp (p := AThen _ _ .normal _) ?_); refine awp_then (by assumption) ?_)
    | ((with_reducible refine idp (p := AThen _ _ .ret _) ?_); refine awp_then_ret ?_)
    | ((with_reducible refine idp (p := AThen _ _ (.exit _) _) ?_); refine awp_then_exit ?_)
    | ((with_reducible refine idp (p := AIn _ _ .normal _) ?_); refine awp_in_normal ?_)
    | ((with_reducible refine idp (p := AIn _ _ .ret _) ?_); refine awp_in_ret ?_)
    | ((with_reducible refine idp (p := AIn _ _ (.exit _) _) ?_); first | refine awp_in_eq ?_ | refine awp_in_ne (by decide) ?_)
    | ((with_reducible refine idp (p := awp _ .ret _ _) ?_); refine awp_ret ?_)
    | ((with_reducible refine idp (p := awp _ (.cond _ _ _) _ _) ?_); (refine awp_cond rfl (fun hc => ?_) (fun hc => ?_) <;> (try simp at hc) <;> (try (exfalso; omega))))
    | ((with_reducible refine idp (p := awp _ (.block _ _) _ _) ?_); refine awp_block ?_)
    | ((with_reducible refine idp (p := awp _ (.exit _) _ _) ?_); refine awp_exit ?_)
    | ((with_reducible refine idp (p := awp _ .skip _ _) ?_); refine awp_skip ?_))
  all_goals (try (refine ⟨.inr rfl, ?_⟩; simp [Hands, Try.results53]))
  all_goals (repeat clear hK K)
  all_goals ((repeat clear hK K); cases a; cases b; simp_all)

end Go.Proofs.Ytbbefoefjmgnoaa
