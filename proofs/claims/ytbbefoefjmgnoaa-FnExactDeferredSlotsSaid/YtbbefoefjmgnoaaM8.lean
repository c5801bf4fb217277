/-
  Proved here: the contract of the marks of a page.
  No condition beyond what each statement spells out.
-/
import Derived.Test.YtbbefoefjmgnoaaM7
import Derived.Test.YtbbefoefjmgnoaaM4
set_option linter.all false
set_option linter.unusedSimpArgs false
set_option linter.unusedVariables false
set_option maxRecDepth 8000
set_option maxHeartbeats 8000000
namespace Go.Proofs.Ytbbefoefjmgnoaa
open Go.Aw

theorem markPage_ok (a : DPage) (k : Int) (h0 : 0 ≤ k) (hl : k + (cPage a : Nat) ≤ 4611686018427387000) (hq : a.queue.length ≤ 4611686018427387904) (hqa : ∀ x ∈ a.queue, x.attrs.length ≤ 4611686018427387904)
    (hb : a.builder.nodes.length ≤ 4611686018427387904) (hba : ∀ x ∈ a.builder.nodes, x.attrs.length ≤ 4611686018427387904) :
    OkM Try.prog 29 (.agg (ePage .own a)) (.agg (ePage .own (mkPage k a))) [.int .i64 k] (.int .i64 (k + (cPage a : Nat))) := by
  simp only [cPage] at hl
  have l1 := sumN_const 8 a.slots
  have l2 := sumN_const 5 a.mods
  have l3 := sumN_const 2 a.entries
  have l4 := sumN_const 2 a.ran
  have l5 := sumN_const 1 a.log
  refine okM_of_awp Try.mix Try.func29 rfl (by simp [rigid, rigidc]) ?_
  simp only [absorb_eq, absorbc_eq, absV, absVc, absO, absOc, absN, absNc, Try.ntmps29, List.length_cons, List.length_nil, Nat.reduceSub, Nat.reduceAdd, Nat.add_zero, Nat.zero_add, List.replicate_succ, List.replicate_zero, List.cons_append, List.nil_append, List.append_nil]
  repeat' (first
    | ((with_reducible refine idp (p := awpL _ _ (_ :: _) _ _) ?_); refine awpL_mut rfl fun K hK => ?_; simp [-Bool.exists_bool, amut]; refine ⟨_, _, (markPolicy_ok a.policy _ (by omega) (by omega)), ?_⟩; simp [-Bool.exists_bool, AS.mutated, ageO, AObj.aged, AObj.forget, newRows, newRowsc, Go.Aw.mt, Go.Aw.mtc]; refine hK _ ?_; clear hK K)
    | ((with_reducible refine idp (p := awpL _ _ (_ :: _) _ _) ?_); refine awpL_mut rfl fun K hK => ?_; simp [-Bool.exists_bool, amut]; refine ⟨_, _, (markTokenS_ok a.queue _ (by omega) (by omega) hq hqa), ?_⟩; simp [-Bool.exists_bool, AS.mutated, ageO, AObj.aged, AObj.forget, newRows, newRowsc, Go.Aw.mt, Go.Aw.mtc]; refine hK _ ?_; clear hK K)
    | ((with_reducible refine idp (p := awpL _ _ (_ :: _) _ _) ?_); refine awpL_mut rfl fun K hK => ?_; simp [-Bool.exists_bool, amut]; refine ⟨_, _, (markBuilder_ok a.builder _ (by omega) (by omega) hb hba), ?_⟩; simp [-Bool.exists_bool, AS.mutated, ageO, AObj.aged, AObj.forget, newRows, newRowsc, Go.Aw.mt, Go.Aw.mtc]; refine hK _ ?_; clear hK K)
    | ((with_reducible refine idp (p := awpL _ _ (_ :: _) _ _) ?_); refine awpL_mut rfl fun K hK => ?_; simp [-Bool.exists_bool, amut]; refine ⟨_, _, (markSlotS_ok a.slots _ (by omega) (by omega) (by omega)), ?_⟩; simp [-Bool.exists_bool, AS.mutated, ageO, AObj.aged, AObj.forget, newRows, newRowsc, Go.Aw.mt, Go.Aw.mtc]; refine hK _ ?_; clear hK K)
    | ((with_reducible refine idp (p := awpL _ _ (_ :: _) _ _) ?_); refine awpL_mut rfl fun K hK => ?_; simp [-Bool.exists_bool, amut]; refine ⟨_, _, (markModuleS_ok a.mods _ (by omega) (by omega) (by omega)), ?_⟩; simp [-Bool.exists_bool, AS.mutated, ageO, AObj.aged, AObj.forget, newRows, newRowsc, Go.Aw.mt, Go.Aw.mtc]; refine hK _ ?_; clear hK K)
    | ((with_reducible refine idp (p := awpL _ _ (_ :: _) _ _) ?_); refine awpL_mut rfl fun K hK => ?_; simp [-Bool.exists_bool, amut]; refine ⟨_, _, (markAddrS_ok a.entries _ (by omega) (by omega) (by omega)), ?_⟩; simp [-Bool.exists_bool, AS.mutated, ageO, AObj.aged, AObj.forget, newRows, newRowsc, Go.Aw.mt, Go.Aw.mtc]; refine hK _ ?_; clear hK K)
    | ((with_reducible refine idp (p := awpL _ _ (_ :: _) _ _) ?_); refine awpL_mut rfl fun K hK => ?_; simp [-Bool.exists_bool, amut]; refine ⟨_, _, (markAddrS_ok a.ran _ (by omega) (by omega) (by omega)), ?_⟩; simp [-Bool.exists_bool, AS.mutated, ageO, AObj.aged, AObj.forget, newRows, newRowsc, Go.Aw.mt, Go.Aw.mtc]; refine hK _ ?_; clear hK K)
    | ((with_reducible refine idp (p := awpL _ _ (_ :: _) _ _) ?_); refine awpL_mut rfl fun K hK => ?_; simp [-Bool.exists_bool, amut]; refine ⟨_, _, (markStringS_ok a.log _ (by omega) (by omega) (by omega)), ?_⟩; simp [-Bool.exists_bool, AS.mutated, ageO, AObj.aged, AObj.forget, newRows, newRowsc, Go.Aw.mt, Go.Aw.mtc]; refine hK _ ?_; clear hK K)
    | ((with_reducible refine idp (p := awpL _ _ (_ :: _) _ _) ?_); refine awpL_cons rfl fun K hK => ?_; simp [-Bool.exists_bool, aop]; first | ((try simp (disch := omega) only [wrap64]); refine hK _ ?_; clear hK K))
    | ((with_reducible refine idp (p := awpL _ _ (_ :: _) _ _) ?_); refine awpL_take rfl ?_ ?_; (focus (simp [guardA]; done)); intro K hK; simp [-Bool.exists_bool, aop]; first | ((try simp (disch := omega) only [wrap64]); refine hK _ ?_; clear hK K))
    | ((with_reducible refine idp (p := awpL _ _ (_ :: _) _ _) ?_); refine awpL_skip rfl ?_ ?_; (focus (simp [guardA]; done)); simp only [AS.put, List.set_cons_succ, List.set_cons_zero])
    | ((with_reducible refine idp (p := awpL _ _ (_ :: _) _ _) ?_); refine awpL_split rfl rfl rfl (fun hc => ?_) (fun hc => ?_) <;> simp only [List.set_cons_succ, List.set_cons_zero])
    | ((with_reducible refine idp (p := dwalk _ _ _ _ _ _ (_ :: _) _ _) ?_); refine dwalk_cons rfl rfl (by simp [Region.binds]; rfl) (by decide) (by simp [Region.binds]; rfl) (by simp; rfl) fun K hK => ?_; simp [-Bool.exists_bool, aop]; first | ((try simp (disch := omega) only [wrap64]); refine hK _ (by simp) ?_; clear hK K; simp))
    | ((with_reducible refine idp (p := awpL _ _ [] _ _) ?_); refine awpL_nil ?_)
    | ((with_reducible refine idp (p := awp _ (.region _ _ true) _ _) ?_); refine awp_drawn (by decide) ?_)
    | ((with_reducible refine idp (p := dwalk _ _ _ _ _ _ [] _ _) ?_); refine dwalk_nil (by simp; rfl) (by simp; rfl) ?_)
    | ((with_reducible refine idp (p := awp _ (.seq _ _) _ _) ?_); refine awp_seq fun K hK => ?_)
    | ((with_reducible refine idp (p := awp _ (.region _ _ false) _ _) ?_); refine awp_region ?_)
    | ((with_reducible refine idp (p := AThen _ _ .normal _) ?_); refine awp_then (by assumption) ?_)
    | ((with_reducible refine idp (p := AThen _ _ .ret _) ?_); refine awp_then_ret ?_)
    | ((with_reducible refine idp (p := AThen _ _ (.exit _) _) ?_); refine awp_then_exit ?_)
    | ((with_reducible refine idp (p := AIn _ _ .normal _) ?_); refine awp_in_normal ?_)
    | ((with_reducible refine idp (p := AIn _ _ .ret _) ?_); refine awp_in_ret ?_)
    | ((with_reducible refine idp (p := AIn _ _ (.exit _) _) ?_); first | refine awp_in_eq ?_ | refine awp_in_ne (by decide) ?_)
    | ((with_reducible refine idp (p := awp _ .ret _ _) ?_); refine awp_ret ?_)
    | ((with_reducible refine idp (p := awp _ (.cond _ _ _) _ _) ?_); (refine awp_cond rfl (fun hc => ?_) (fun hc => ?_) <;> (try simp at hc) <;> (try (exfalso; omega))))
    | ((with_reducible refine idp (p := awp _ (.block _ _) _ _) ?_); refine awp_block ?_)
    | ((with_reducible refine idp (p := awp _ (.exit _) _ _) ?_); refine awp_exit ?_)
    | ((with_reducible refine idp (p := awp _ .skip _ _) ?_); refine awp_skip ?_))
  all_goals (try (refine ⟨.inr rfl, ?_⟩; simp [HandsM, Try.results29, mkPage, cPage, mkPolicy, mkBuilder]))
  all_goals (repeat clear hK K)
  all_goals (try omega)
end Go.Proofs.Ytbbefoefjmgnoaa
