/-
  Proved here: contracts of the marks of policies and builders.
  No condition beyond what each statement spells out.
-/
import Derived.Test.YtbbefoefjmgnoaaM6
import Derived.Test.YtbbefoefjmgnoaaAwMk2
set_option linter.all false
set_option linter.unusedSimpArgs false
set_option linter.unusedVariables false
set_option maxRecDepth 4000
set_option maxHeartbeats 4000000
namespace Go.Proofs.Ytbbefoefjmgnoaa
open Go.Aw

theorem markPolicy_ok (a : DPolicy) (k : Int) (h0 : 0 ≤ k) (hl : k + (cPolicy a : Nat) ≤ 4611686018427387000) : OkM Try.prog 65 (.agg (ePolicy .own a)) (.agg (ePolicy .own (mkPolicy k a))) [.int .i64 k] (.int .i64 (k + (cPolicy a : Nat))) := by
  simp only [cPolicy] at hl
  have l1 := sumN_const 1 a.scripts
  have l2 := sumN_const 1 a.styles
  have l3 := sumN_const 1 a.images
  refine okM_of_awp Try.mix Try.func65 rfl (by simp [rigid, rigidc]) ?_
  simp only [absorb_eq, absorbc_eq, absV, absVc, absO, absOc, absN, absNc, Try.ntmps65, List.length_cons, List.length_nil, Nat.reduceSub, Nat.reduceAdd, Nat.add_zero, Nat.zero_add, List.replicate_succ, List.replicate_zero, List.cons_append, List.nil_append, List.append_nil]
  repeat' (first
    | ((with_reducible refine idp (p := awpL _ _ (_ :: _) _ _) ?_); refine awpL_mut rfl fun K hK => ?_; simp [-Bool.exists_bool, amut]; refine ⟨_, _, (markStringS_ok a.scripts _ (by omega) (by omega) (by omega)), ?_⟩; simp [-Bool.exists_bool, AS.mutated, ageO, AObj.aged, AObj.forget, newRows, newRowsc, Go.Aw.mt, Go.Aw.mtc]; refine hK _ ?_; clear hK K)
    | ((with_reducible refine idp (p := awpL _ _ (_ :: _) _ _) ?_); refine awpL_mut rfl fun K hK => ?_; simp [-Bool.exists_bool, amut]; refine ⟨_, _, (markStringS_ok a.styles _ (by omega) (by omega) (by omega)), ?_⟩; simp [-Bool.exists_bool, AS.mutated, ageO, AObj.aged, AObj.forget, newRows, newRowsc, Go.Aw.mt, Go.Aw.mtc]; refine hK _ ?_; clear hK K)
    | ((with_reducible refine idp (p := awpL _ _ (_ :: _) _ _) ?_); refine awpL_mut rfl fun K hK => ?_; simp [-Bool.exists_bool, amut]; refine ⟨_, _, (markStringS_ok a.images _ (by omega) (by omega) (by omega)), ?_⟩; simp [-Bool.exists_bool, AS.mutated, ageO, AObj.aged, AObj.forget, newRows, newRowsc, Go.Aw.mt, Go.Aw.mtc]; refine hK _ ?_; clear hK K)
    | ((with_reducible refine idp (p := awpL _ _ (_ :: _) _ _) ?_); refine awpL_cons rfl fun K hK => ?_; simp [-Bool.exists_bool, aop]; first | ((try simp (disch := omega) only [wrap64]); refine hK _ ?_; clear hK K))
    | ((with_reducible refine idp (p := awpL _ _ (_ :: _) _ _) ?_); refine awpL_take rfl ?_ ?_; (focus (simp [guardA]; done)); intro K hK; simp [-Bool.exists_bool, aop]; first | ((try simp (disch := omega) only [wrap64]); refine hK _ ?_; clear hK K))
    | ((with_reducible refine idp (p := awpL _ _ (_ :: _) _ _) ?_); refine awpL_skip rfl ?_ ?_; (focus (simp [guardA]; done)); simp only [AS.put, List.set_cons_succ, List.set_cons_zero])
    | ((with_reducible refine idp (p := awpL _ _ (_ :: _) _ _) ?_); refine awpL_split rfl rfl rfl (fun hc => ?_) (fun hc => ?_) <;> simp only [List.set_cons_succ, List.set_cons_zero])
    | ((with_reducible refine idp (p := dwalk _ _ _ _ _ _ (_ :: _) _ _) ?_); refine dwalk_cons rfl rfl (by simp [Region.binds]; rfl) (by decide) (by simp [Region.binds]; rfl) (by simp; rfl) fun K hK => ?_; simp [-Bool.exists_bool, aop]; first | ((try simp (disch := omega) only [wrap64]); refine hK _ (by simp) ?_; clear hK K; simp))
    | ((with_reducible refine idp (p := awpL _ _ [] _ _) ?_); refine awpL_nil ?_)
    | ((with_reducible refine idp (p := awp _ (.region _ _ true) _ _) ?_); refine awp_drawn (by decide) ?_)
    | ((with_reducible refine idp (p := dwalk _ _ _ _ _ _ [] _ _) ?_); refine dwalk_nil (by simp; rfl) (by simp; rfl) ?_)
    | ((with_reducible refine idp (p := awp _ (.seq _ _) _ _) ?_); refine awp_seq fun K hK => ?_)
    | ((with_reducible refine idp (p := awp _ (.region _ _ false) _ _) ?_); refine awp_region ?_)
    | ((with_reducible refine idp (p := AThen _ _ .normal _) ?_); refine awp_then (by assumption) ?_)
    | ((with_reducible refine idp (p := AThen _ _ .ret _) ?_); refine awp_then_ret ?_)
    | ((with_reducible refine idp (p := AThen _ _ (.exit _) _) ?_); refine awp_then_exit ?_)
    | ((with_reducible refine idp (p := AIn _ _ .normal _) ?_); refine awp_in_normal ?_)
    | ((with_reducible refine idp (p := AIn _ _ .ret _) ?_); refine awp_in_ret ?_)
    | ((with_reducible refine idp (p := AIn _ _ (.exit _) _) ?_); first | refine awp_in_eq ?_ | refine awp_in_ne (by decide) ?_)
    | ((with_reducible refine idp (p := awp _ .ret _ _) ?_); refine awp_ret ?_)
    | ((with_reducible refine idp (p := awp _ (.cond _ _ _) _ _) ?_); (refine awp_cond rfl (fun hc => ?_) (fun hc => ?_) <;> (try simp at hc) <;> (try (exfalso; omega))))
    | ((with_reducible refine idp (p := awp _ (.block _ _) _ _) ?_); refine awp_block ?_)
    | ((with_reducible refine idp (p := awp _ (.exit _) _ _) ?_); refine awp_exit ?_)
    | ((with_reducible refine idp (p := awp _ .skip _ _) ?_); refine awp_skip ?_))
  all_goals (try (refine ⟨.inr rfl, ?_⟩; simp [HandsM, Try.results65, mkPolicy, cPolicy]))
  all_goals (repeat clear hK K)
  all_goals (try omega)

theorem markBuilder_ok (a : DBuilder) (k : Int) (h0 : 0 ≤ k) (hl : k + (cBuilder a : Nat) ≤ 4611686018427387000) (hll : a.nodes.length ≤ 4611686018427387904) (hla : ∀ x ∈ a.nodes, x.attrs.length ≤ 4611686018427387904) : OkM Try.prog 67 (.agg (eBuilder .own a)) (.agg (eBuilder .own (mkBuilder k a))) [.int .i64 k] (.int .i64 (k + (cBuilder a : Nat))) := by
  simp only [cBuilder] at hl
  have l2 := sumN_const 1 a.opens
  refine okM_of_awp Try.mix Try.func67 rfl (by simp [rigid, rigidc]) ?_
  simp only [absorb_eq, absorbc_eq, absV, absVc, absO, absOc, absN, absNc, Try.ntmps67, List.length_cons, List.length_nil, Nat.reduceSub, Nat.reduceAdd, Nat.add_zero, Nat.zero_add, List.replicate_succ, List.replicate_zero, List.cons_append, List.nil_append, List.append_nil]
  repeat' (first
    | ((with_reducible refine idp (p := awpL _ _ (_ :: _) _ _) ?_); refine awpL_mut rfl fun K hK => ?_; simp [-Bool.exists_bool, amut]; refine ⟨_, _, (markNodeS_ok a.nodes _ (by omega) (by omega) hll hla), ?_⟩; simp [-Bool.exists_bool, AS.mutated, ageO, AObj.aged, AObj.forget, newRows, newRowsc, Go.Aw.mt, Go.Aw.mtc]; refine hK _ ?_; clear hK K)
    | ((with_reducible refine idp (p := awpL _ _ (_ :: _) _ _) ?_); refine awpL_mut rfl fun K hK => ?_; simp [-Bool.exists_bool, amut]; refine ⟨_, _, (markIntS_ok a.opens _ (by omega) (by omega) (by omega)), ?_⟩; simp [-Bool.exists_bool, AS.mutated, ageO, AObj.aged, AObj.forget, newRows, newRowsc, Go.Aw.mt, Go.Aw.mtc]; refine hK _ ?_; clear hK K)
    | ((with_reducible refine idp (p := awpL _ _ (_ :: _) _ _) ?_); refine awpL_cons rfl fun K hK => ?_; simp [-Bool.exists_bool, aop]; first | ((try simp (disch := omega) only [wrap64]); refine hK _ ?_; clear hK K))
    | ((with_reducible refine idp (p := awpL _ _ (_ :: _) _ _) ?_); refine awpL_take rfl ?_ ?_; (focus (simp [guardA]; done)); intro K hK; simp [-Bool.exists_bool, aop]; first | ((try simp (disch := omega) only [wrap64]); refine hK _ ?_; clear hK K))
    | ((with_reducible refine idp (p := awpL _ _ (_ :: _) _ _) ?_); refine awpL_skip rfl ?_ ?_; (focus (simp [guardA]; done)); simp only [AS.put, List.set_cons_succ, List.set_cons_zero])
    | ((with_reducible refine idp (p := awpL _ _ (_ :: _) _ _) ?_); refine awpL_split rfl rfl rfl (fun hc => ?_) (fun hc => ?_) <;> simp only [List.set_cons_succ, List.set_cons_zero])
    | ((with_reducible refine idp (p := dwalk _ _ _ _ _ _ (_ :: _) _ _) ?_); refine dwalk_cons rfl rfl (by simp [Region.binds]; rfl) (by decide) (by simp [Region.binds]; rfl) (by simp; rfl) fun K hK => ?_; simp [-Bool.exists_bool, aop]; first | ((try simp (disch := omega) only [wrap64]); refine hK _ (by simp) ?_; clear hK K; simp))
    | ((with_reducible refine idp (p := awpL _ _ [] _ _) ?_); refine awpL_nil ?_)
    | ((with_reducible refine idp (p := awp _ (.region _ _ true) _ _) ?_); refine awp_drawn (by decide) ?_)
    | ((with_reducible refine idp (p := dwalk _ _ _ _ _ _ [] _ _) ?_); refine dwalk_nil (by simp; rfl) (by simp; rfl) ?_)
    | ((with_reducible refine idp (p := awp _ (.seq _ _) _ _) ?_); refine awp_seq fun K hK => ?_)
    | ((with_reducible refine idp (p := awp _ (.region _ _ false) _ _) ?_); refine awp_region ?_)
    | ((with_reducible refine idp (p := AThen _ _ .normal _) ?_); refine awp_then (by assumption) ?_)
    | ((with_reducible refine idp (p := AThen _ _ .ret _) ?_); refine awp_then_ret ?_)
    | ((with_reducible refine idp (p := AThen _ _ (.exit _) _) ?_); refine awp_then_exit ?_)
    | ((with_reducible refine idp (p := AIn _ _ .normal _) ?_); refine awp_in_normal ?_)
    | ((with_reducible refine idp (p := AIn _ _ .ret _) ?_); refine awp_in_ret ?_)
    | ((with_reducible refine idp (p := AIn _ _ (.exit _) _) ?_); first | refine awp_in_eq ?_ | refine awp_in_ne (by decide) ?_)
    | ((with_reducible refine idp (p := awp _ .ret _ _) ?_); refine awp_ret ?_)
    | ((with_reducible refine idp (p := awp _ (.cond _ _ _) _ _) ?_); (refine awp_cond rfl (fun hc => ?_) (fun hc => ?_) <;> (try simp at hc) <;> (try (exfalso; omega))))
    | ((with_reducible refine idp (p := awp _ (.block _ _) _ _) ?_); refine awp_block ?_)
    | ((with_reducible refine idp (p := awp _ (.exit _) _ _) ?_); refine awp_exit ?_)
    | ((with_reducible refine idp (p := awp _ .skip _ _) ?_); refine awp_skip ?_))
  all_goals (try (refine ⟨.inr rfl, ?_⟩; simp [HandsM, Try.results67, mkBuilder, cBuilder]))
  all_goals (repeat clear hK K)
  all_goals (try omega)
end Go.Proofs.Ytbbefoefjmgnoaa
