/-
  Proved here: contracts of sz, to and eq at builders.
  No condition beyond what each statement spells out.
-/
import Derived.Test.YtbbefoefjmgnoaaA3
set_option linter.all false
set_option linter.unusedSimpArgs false
set_option linter.unusedVariables false
set_option maxRecDepth 4000
set_option maxHeartbeats 4000000
namespace Go.Proofs.Ytbbefoefjmgnoaa
open Go.Aw
theorem toBuilder_ok (a : DBuilder) (hs : szBuilder a ≤ 1048576) : Ok Try.prog 47 [.agg (eBuilder .view a)] (.agg (eBuilder .own a)) := by
  simp only [szBuilder] at hs
  refine ok_of_awp Try.mix Try.func47 rfl ?_
  simp only [Try.ntmps47, List.length_cons, List.length_nil, Nat.reduceSub, Nat.reduceAdd, List.replicate_succ, List.replicate_zero, List.cons_append, List.nil_append]
  repeat' (first
    | ((with_reducible refine idp (p := awpL _ _ (_ :: _) _ _) ?_); refine awpL_cons rfl fun K hK => ?_; simp [-Bool.exists_bool, aop]; first | (refine ⟨_, (toNodeS_ok a.nodes (by omega)), hK _ ?_⟩; clear hK K; (try simp only [absorb_eq, absorbc_eq, absV, absVc, absO, absOc, absN, absNc, List.append_nil, List.nil_append, List.cons_append, List.length_cons, List.length_nil, Nat.add_zero, Nat.zero_add, Nat.reduceAdd])) | (refine ⟨_, (toIntS_ok a.opens (by omega)), hK _ ?_⟩; clear hK K; (try simp only [absorb_eq, absorbc_eq, absV, absVc, absO, absOc, absN, absNc, List.append_nil, List.nil_append, List.cons_append, List.length_cons, List.length_nil, Nat.add_zero, Nat.zero_add, Nat.reduceAdd])) | ((try simp (disch := omega) only [wrap64]); refine hK _ ?_; clear hK K))
    | ((with_reducible refine idp (p := awpL _ _ (_ :: _) _ _) ?_); refine awpL_take rfl ?_ ?_; (focus (simp [guardA]; done)); intro K hK; simp [-Bool.exists_bool, aop]; first | (refine ⟨_, (toNodeS_ok a.nodes (by omega)), hK _ ?_⟩; clear hK K; (try simp only [absorb_eq, absorbc_eq, absV, absVc, absO, absOc, absN, absNc, List.append_nil, List.nil_append, List.cons_append, List.length_cons, List.length_nil, Nat.add_zero, Nat.zero_add, Nat.reduceAdd])) | (refine ⟨_, (toIntS_ok a.opens (by omega)), hK _ ?_⟩; clear hK K; (try simp only [absorb_eq, absorbc_eq, absV, absVc, absO, absOc, absN, absNc, List.append_nil, List.nil_append, List.cons_append, List.length_cons, List.length_nil, Nat.add_zero, Nat.zero_add, Nat.reduceAdd])) | ((try simp (disch := omega) only [wrap64]); refine hK _ ?_; clear hK K))
    | ((with_reducible refine idp (p := awpL _ _ (_ :: _) _ _) ?_); refine awpL_skip rfl ?_ ?_; (focus (simp [guardA]; done)); simp only [AS.put, List.set_cons_succ, List.set_cons_zero])
    | ((with_reducible refine idp (p := awpL _ _ (_ :: _) _ _) ?_); refine awpL_split rfl rfl rfl (fun hc => ?_) (fun hc => ?_) <;> simp only [List.set_cons_succ, List.set_cons_zero])
    | ((with_reducible refine idp (p := dwalk _ _ _ _ _ _ (_ :: _) _ _) ?_); refine dwalk_cons rfl rfl (by simp [Region.binds]; rfl) (by decide) (by simp [Region.binds]; rfl) (by simp; rfl) fun K hK => ?_; simp [-Bool.exists_bool, aop]; first | (refine ⟨_, (toNodeS_ok a.nodes (by omega)), hK _ (by simp) ?_⟩; clear hK K; simp only [dval, absorb_eq, absorbc_eq, absV, absVc, absO, absOc, absN, absNc, List.append_nil, Nat.add_zero, Nat.zero_add, Nat.reduceAdd, List.length_cons, List.length_nil, List.cons_append, List.nil_append]) | (refine ⟨_, (toIntS_ok a.opens (by omega)), hK _ (by simp) ?_⟩; clear hK K; simp only [dval, absorb_eq, absorbc_eq, absV, absVc, absO, absOc, absN, absNc, List.append_nil, Nat.add_zero, Nat.zero_add, Nat.reduceAdd, List.length_cons, List.length_nil, List.cons_append, List.nil_append]) | ((try simp (disch := omega) only [wrap64]); refine hK _ (by simp) ?_; clear hK K; simp))
    | ((with_reducible refine idp (p := awpL _ _ [] _ _) ?_); refine awpL_nil ?_)
    | ((with_reducible refine idp (p := awp _ (.region _ _ true) _ _) ?_); refine awp_drawn (by decide) ?_)
    | ((with_reducible refine idp (p := dwalk _ _ _ _ _ _ [] _ _) ?_); refine dwalk_nil (by simp; rfl) (by simp; rfl) ?_)
    | ((with_reducible refine idp (p := awp _ (.seq _ _) _ _) ?_); refine awp_seq fun K hK => ?_)
    | ((with_reducible refine idp (p := awp _ (.region _ _ false) _ _) ?_); refine awp_region ?_)
    | ((with_reducible refine idp (p := AThen _ _ .normal _) ?_); refine awp_then (by assumption) ?_)
    | ((with_reducible refine idp (p := AThen _ _ .ret _) ?_); refine awp_then_ret ?_)
    | ((with_reducible refine idp (p := AThen _ _ (.exit _) _) ?_); refine awp_then_exit ?_)
    | ((with_reducible refine idp (p := AIn _ _ .normal _) ?_); refine awp_in_normal ?_)
    | ((with_reducible refine idp (p := AIn _ _ .ret _) ?_); refine awp_in_ret ?_)
    | ((with_reducible refine idp (p := AIn _ _ (.exit _) _) ?_); first | refine awp_in_eq ?_ | refine awp_in_ne (by decide) ?_)
    | ((with_reducible refine idp (p := awp _ .ret _ _) ?_); refine awp_ret ?_)
    | ((with_reducible refine idp (p := awp _ (.cond _ _ _) _ _) ?_); (refine awp_cond rfl (fun hc => ?_) (fun hc => ?_) <;> (try simp at hc) <;> (try (exfalso; omega))))
    | ((with_reducible refine idp (p := awp _ (.block _ _) _ _) ?_); refine awp_block ?_)
    | ((with_reducible refine idp (p := awp _ (.exit _) _ _) ?_); refine awp_exit ?_)
    | ((with_reducible refine idp (p := awp _ .skip _ _) ?_); refine awp_skip ?_))
  all_goals (try (refine ⟨.inr rfl, ?_⟩; simp [Hands, Try.results47]))
  all_goals (repeat clear hK K)

theorem szBuilder_ok (a : DBuilder) (n : Int) (h0 : 0 ≤ n) (h1 : n ≤ 1048576) (hw : wfBuilder a) : Ok Try.prog 39 [.agg (eBuilder .view a), .int .i64 n] (.int .i64 (sub n (szBuilder a))) := by
  simp only [wfBuilder] at hw
  obtain ⟨wnodes, wopens⟩ := hw
  refine ok_of_awp Try.mix Try.func39 rfl ?_
  simp only [Try.ntmps39, List.length_cons, List.length_nil, Nat.reduceSub, Nat.reduceAdd, List.replicate_succ, List.replicate_zero, List.cons_append, List.nil_append]
  repeat' (first
    | ((with_reducible refine idp (p := awpL _ _ (_ :: _) _ _) ?_); refine awpL_cons rfl fun K hK => ?_; simp [-Bool.exists_bool, aop]; first | (refine ⟨_, (szNodeS_ok a.nodes _ (by omega) (by repeat' (first | omega | apply purse_le | apply purse_len)) wnodes), hK _ ?_⟩; clear hK K; (try simp only [absorb_eq, absorbc_eq, absV, absVc, absO, absOc, absN, absNc, List.append_nil, List.nil_append, List.cons_append, List.length_cons, List.length_nil, Nat.add_zero, Nat.zero_add, Nat.reduceAdd])) | (refine ⟨_, (szIntS_ok a.opens _ (by omega) (by repeat' (first | omega | apply purse_le | apply purse_len)) wopens), hK _ ?_⟩; clear hK K; (try simp only [absorb_eq, absorbc_eq, absV, absVc, absO, absOc, absN, absNc, List.append_nil, List.nil_append, List.cons_append, List.length_cons, List.length_nil, Nat.add_zero, Nat.zero_add, Nat.reduceAdd])) | ((try simp (disch := omega) only [wrap64]); refine hK _ ?_; clear hK K))
    | ((with_reducible refine idp (p := awpL _ _ (_ :: _) _ _) ?_); refine awpL_take rfl ?_ ?_; (focus (simp [guardA]; done)); intro K hK; simp [-Bool.exists_bool, aop]; first | (refine ⟨_, (szNodeS_ok a.nodes _ (by omega) (by repeat' (first | omega | apply purse_le | apply purse_len)) wnodes), hK _ ?_⟩; clear hK K; (try simp only [absorb_eq, absorbc_eq, absV, absVc, absO, absOc, absN, absNc, List.append_nil, List.nil_append, List.cons_append, List.length_cons, List.length_nil, Nat.add_zero, Nat.zero_add, Nat.reduceAdd])) | (refine ⟨_, (szIntS_ok a.opens _ (by omega) (by repeat' (first | omega | apply purse_le | apply purse_len)) wopens), hK _ ?_⟩; clear hK K; (try simp only [absorb_eq, absorbc_eq, absV, absVc, absO, absOc, absN, absNc, List.append_nil, List.nil_append, List.cons_append, List.length_cons, List.length_nil, Nat.add_zero, Nat.zero_add, Nat.reduceAdd])) | ((try simp (disch := omega) only [wrap64]); refine hK _ ?_; clear hK K))
    | ((with_reducible refine idp (p := awpL _ _ (_ :: _) _ _) ?_); refine awpL_skip rfl ?_ ?_; (focus (simp [guardA]; done)); simp only [AS.put, List.set_cons_succ, List.set_cons_zero])
    | ((with_reducible refine idp (p := awpL _ _ (_ :: _) _ _) ?_); refine awpL_split rfl rfl rfl (fun hc => ?_) (fun hc => ?_) <;> simp only [List.set_cons_succ, List.set_cons_zero])
    | ((with_reducible refine idp (p := dwalk _ _ _ _ _ _ (_ :: _) _ _) ?_); refine dwalk_cons rfl rfl (by simp [Region.binds]; rfl) (by decide) (by simp [Region.binds]; rfl) (by simp; rfl) fun K hK => ?_; simp [-Bool.exists_bool, aop]; first | (refine ⟨_, (szNodeS_ok a.nodes _ (by omega) (by repeat' (first | omega | apply purse_le | apply purse_len)) wnodes), hK _ (by simp) ?_⟩; clear hK K; simp only [dval, absorb_eq, absorbc_eq, absV, absVc, absO, absOc, absN, absNc, List.append_nil, Nat.add_zero, Nat.zero_add, Nat.reduceAdd, List.length_cons, List.length_nil, List.cons_append, List.nil_append]) | (refine ⟨_, (szIntS_ok a.opens _ (by omega) (by repeat' (first | omega | apply purse_le | apply purse_len)) wopens), hK _ (by simp) ?_⟩; clear hK K; simp only [dval, absorb_eq, absorbc_eq, absV, absVc, absO, absOc, absN, absNc, List.append_nil, Nat.add_zero, Nat.zero_add, Nat.reduceAdd, List.length_cons, List.length_nil, List.cons_append, List.nil_append]) | ((try simp (disch := omega) only [wrap64]); refine hK _ (by simp) ?_; clear hK K; simp))
    | ((with_reducible refine idp (p := awpL _ _ [] _ _) ?_); refine awpL_nil ?_)
    | ((with_reducible refine idp (p := awp _ (.region _ _ true) _ _) ?_); refine awp_drawn (by decide) ?_)
    | ((with_reducible refine idp (p := dwalk _ _ _ _ _ _ [] _ _) ?_); refine dwalk_nil (by simp; rfl) (by simp; rfl) ?_)
    | ((with_reducible refine idp (p := awp _ (.seq _ _) _ _) ?_); refine awp_seq fun K hK => ?_)
    | ((with_reducible refine idp (p := awp _ (.region _ _ false) _ _) ?_); refine awp_region ?_)
    | ((with_reducible refine idp (p := AThen _ _ .normal _) ?_); refine awp_then (by assumption) ?_)
    | ((with_reducible refine idp (p := AThen _ _ .ret _) ?_); refine awp_then_ret ?_)
    | ((with_reducible refine idp (p := AThen _ _ (.exit _) _) ?_); refine awp_then_exit ?_)
    | ((with_reducible refine idp (p := AIn _ _ .normal _) ?_); refine awp_in_normal ?_)
    | ((with_reducible refine idp (p := AIn _ _ .ret _) ?_); refine awp_in_ret ?_)
    | ((with_reducible refine idp (p := AIn _ _ (.exit _) _) ?_); first | refine awp_in_eq ?_ | refine awp_in_ne (by decide) ?_)
    | ((with_reducible refine idp (p := awp _ .ret _ _) ?_); refine awp_ret ?_)
    | ((with_reducible refine idp (p := awp _ (.cond _ _ _) _ _) ?_); (refine awp_cond rfl (fun hc => ?_) (fun hc => ?_) <;> (try simp at hc) <;> (try (exfalso; omega))))
    | ((with_reducible refine idp (p := awp _ (.block _ _) _ _) ?_); refine awp_block ?_)
    | ((with_reducible refine idp (p := awp _ (.exit _) _ _) ?_); refine awp_exit ?_)
    | ((with_reducible refine idp (p := awp _ .skip _ _) ?_); refine awp_skip ?_))
  all_goals (try (refine ⟨.inr rfl, ?_⟩; simp [Hands, Try.results39, szBuilder]))
  all_goals (repeat clear hK K)
  all_goals (
    (try generalize e0 : sub n (szL szNode a.nodes) = m0 at *)
    (try (first | have f0 := purse_ok e0 (by omega) | have f0 := purse_bad e0 (by omega) (by omega)))
    (try generalize e1 : sub m0 (a.opens.length) = m1 at *)
    (try (first | have f1 := purse_ok e1 (by omega) | have f1 := purse_bad e1 (by omega) (by omega)))
    repeat (simp (disch := omega) only [wrap64] at *)
    (try simp only [sub]); (try split); all_goals omega)

theorem eqBuilder_ok (a b : DBuilder) (hs : szBuilder a ≤ 1048576) : Ok Try.prog 56 [.agg (eBuilder .view a), .agg (eBuilder .view b)] (.bool (decide (a = b))) := by
  simp only [szBuilder] at hs
  refine ok_of_awp Try.mix Try.func56 rfl ?_
  simp only [Try.ntmps56, List.length_cons, List.length_nil, Nat.reduceSub, Nat.reduceAdd, List.replicate_succ, List.replicate_zero, List.cons_append, List.nil_append]
  repeat' (first
    | ((with_reducible refine idp (p := awpL _ _ (_ :: _) _ _) ?_); refine awpL_cons rfl fun K hK => ?_; simp [-Bool.exists_bool, aop]; first | (refine ⟨_, (eqNodeS_ok a.nodes b.nodes (by omega)), hK _ ?_⟩; clear hK K; (try simp only [absorb_eq, absorbc_eq, absV, absVc, absO, absOc, absN, absNc, List.append_nil, List.nil_append, List.cons_append, List.length_cons, List.length_nil, Nat.add_zero, Nat.zero_add, Nat.reduceAdd])) | (refine ⟨_, (eqIntS_ok a.opens b.opens (by omega)), hK _ ?_⟩; clear hK K; (try simp only [absorb_eq, absorbc_eq, absV, absVc, absO, absOc, absN, absNc, List.append_nil, List.nil_append, List.cons_append, List.length_cons, List.length_nil, Nat.add_zero, Nat.zero_add, Nat.reduceAdd])) | ((try simp (disch := omega) only [wrap64]); refine hK _ ?_; clear hK K))
    | ((with_reducible refine idp (p := awpL _ _ (_ :: _) _ _) ?_); refine awpL_take rfl ?_ ?_; (focus (simp [guardA]; done)); intro K hK; simp [-Bool.exists_bool, aop]; first | (refine ⟨_, (eqNodeS_ok a.nodes b.nodes (by omega)), hK _ ?_⟩; clear hK K; (try simp only [absorb_eq, absorbc_eq, absV, absVc, absO, absOc, absN, absNc, List.append_nil, List.nil_append, List.cons_append, List.length_cons, List.length_nil, Nat.add_zero, Nat.zero_add, Nat.reduceAdd])) | (refine ⟨_, (eqIntS_ok a.opens b.opens (by omega)), hK _ ?_⟩; clear hK K; (try simp only [absorb_eq, absorbc_eq, absV, absVc, absO, absOc, absN, absNc, List.append_nil, List.nil_append, List.cons_append, List.length_cons, List.length_nil, Nat.add_zero, Nat.zero_add, Nat.reduceAdd])) | ((try simp (disch := omega) only [wrap64]); refine hK _ ?_; clear hK K))
    | ((with_reducible refine idp (p := awpL _ _ (_ :: _) _ _) ?_); refine awpL_skip rfl ?_ ?_; (focus (simp [guardA]; done)); simp only [AS.put, List.set_cons_succ, List.set_cons_zero])
    | ((with_reducible refine idp (p := awpL _ _ (_ :: _) _ _) ?_); refine awpL_split rfl rfl rfl (fun hc => ?_) (fun hc => ?_) <;> simp only [List.set_cons_succ, List.set_cons_zero])
    | ((with_reducible refine idp (p := dwalk _ _ _ _ _ _ (_ :: _) _ _) ?_); refine dwalk_cons rfl rfl (by simp [Region.binds]; rfl) (by decide) (by simp [Region.binds]; rfl) (by simp; rfl) fun K hK => ?_; simp [-Bool.exists_bool, aop]; first | (refine ⟨_, (eqNodeS_ok a.nodes b.nodes (by omega)), hK _ (by simp) ?_⟩; clear hK K; simp only [dval, absorb_eq, absorbc_eq, absV, absVc, absO, absOc, absN, absNc, List.append_nil, Nat.add_zero, Nat.zero_add, Nat.reduceAdd, List.length_cons, List.length_nil, List.cons_append, List.nil_append]) | (refine ⟨_, (eqIntS_ok a.opens b.opens (by omega)), hK _ (by simp) ?_⟩; clear hK K; simp only [dval, absorb_eq, absorbc_eq, absV, absVc, absO, absOc, absN, absNc, List.append_nil, Nat.add_zero, Nat.zero_add, Nat.reduceAdd, List.length_cons, List.length_nil, List.cons_append, List.nil_append]) | ((try simp (disch := omega) only [wrap64]); refine hK _ (by simp) ?_; clear hK K; simp))
    | ((with_reducible refine idp (p := awpL _ _ [] _ _) ?_); refine awpL_nil ?_)
    | ((with_reducible refine idp (p := awp _ (.region _ _ true) _ _) ?_); refine awp_drawn (by decide) ?_)
    | ((with_reducible refine idp (p := dwalk _ _ _ _ _ _ [] _ _) ?_); refine dwalk_nil (by simp; rfl) (by simp; rfl) ?_)
    | ((with_reducible refine idp (p := awp _ (.seq _ _) _ _) ?_); refine awp_seq fun K hK => ?_)
    | ((with_reducible refine idp (p := awp _ (.region _ _ false) _ _) ?_); refine awp_region ?_)
    | ((with_reducible refine idp (p := AThen _ _ .normal _) ?_); refine awp_then (by assumption) ?_)
    | ((with_reducible refine idp (p := AThen _ _ .ret _) ?_); refine awp_then_ret ?_)
    | ((with_reducible refine idp (p := AThen _ _ (.exit _) _) ?_); refine awp_then_exit ?_)
    | ((with_reducible refine idp (p := AIn _ _ .normal _) ?_); refine awp_in_normal ?_)
    | ((with_reducible refine idp (p := AIn _ _ .ret _) ?_); refine awp_in_ret ?_)
    | ((with_reducible refine idp (p := AIn _ _ (.exit _) _) ?_); first | refine awp_in_eq ?_ | refine awp_in_ne (by decide) ?_)
    | ((with_reducible refine idp (p := awp _ .ret _ _) ?_); refine awp_ret ?_)
    | ((with_reducible refine idp (p := awp _ (.cond _ _ _) _ _) ?_); (refine awp_cond rfl (fun hc => ?_) (fun hc => ?_) <;> (try simp at hc) <;> (try (exfalso; omega))))
    | ((with_reducible refine idp (p := awp _ (.block _ _) _ _) ?_); refine awp_block ?_)
    | ((with_reducible refine idp (p := awp _ (.exit _) _ _) ?_); refine awp_exit ?_)
    | ((with_reducible refine idp (p := awp _ .skip _ _) ?_); refine awp_skip ?_))
  all_goals (try (refine ⟨.inr rfl, ?_⟩; simp [Hands, Try.results56]))
  all_goals (repeat clear hK K)
  all_goals ((repeat clear hK K); cases a; cases b; simp_all)

end Go.Proofs.Ytbbefoefjmgnoaa
