/-
  Proved here: the contract of heldIntS.
  No condition beyond what each statement spells out.
-/
import Derived.Test.YtbbefoefjmgnoaaA0
import Derived.Test.YtbbefoefjmgnoaaAwMk2
set_option linter.all false
set_option linter.unusedSimpArgs false
set_option linter.unusedVariables false
set_option maxRecDepth 4000
set_option maxHeartbeats 4000000
namespace Go.Proofs.Ytbbefoefjmgnoaa
open Go.Aw
theorem heldIntS_ok (l0 : List Int) (k : Int) (h0 : 0 ≤ k) (hl : k + (sumN (fun _ => 1) l0 : Nat) ≤ 4611686018427387000) : Ok Try.prog 31 [.sl .view 1 ((mkL mkint (fun _ => 1) k l0).map eInt), .int .i64 k] (.int .i64 (k + (sumN (fun _ => 1) l0 : Nat))) := by
  have hs := sumN_const 1 l0
  rw [hs, Nat.one_mul] at hl ⊢
  generalize hu : mkL mkint (fun _ => 1) k l0 = l
  generalize hn : l0.length = n at *
  have hlen : l.length = n := by rw [← hu, mkL_length, hn]
  refine ok_of_awp Try.mix Try.func31 rfl ?_
  simp only [Try.ntmps31, List.length_cons, List.length_nil, Nat.reduceSub, Nat.reduceAdd, List.replicate_succ, List.replicate_zero, List.cons_append, List.nil_append]
  repeat' (first
    | ((with_reducible refine idp (p := awpL _ _ (_ :: _) _ _) ?_); refine awpL_cons rfl fun K hK => ?_; simp [-Bool.exists_bool, aop]; first | ((try simp (disch := omega) only [wrap64]); refine hK _ ?_; clear hK K))
    | ((with_reducible refine idp (p := awpL _ _ (_ :: _) _ _) ?_); refine awpL_take rfl ?_ ?_; (focus (simp [guardA]; done)); intro K hK; simp [-Bool.exists_bool, aop]; first | ((try simp (disch := omega) only [wrap64]); refine hK _ ?_; clear hK K))
    | ((with_reducible refine idp (p := awpL _ _ (_ :: _) _ _) ?_); refine awpL_skip rfl ?_ ?_; (focus (simp [guardA]; done)); simp only [AS.put, List.set_cons_succ, List.set_cons_zero])
    | ((with_reducible refine idp (p := awpL _ _ (_ :: _) _ _) ?_); refine awpL_split rfl rfl rfl (fun hc => ?_) (fun hc => ?_) <;> simp only [List.set_cons_succ, List.set_cons_zero])
    | ((with_reducible refine idp (p := dwalk _ _ _ _ _ _ (_ :: _) _ _) ?_); refine dwalk_cons rfl rfl (by simp [Region.binds]; rfl) (by decide) (by simp [Region.binds]; rfl) (by simp; rfl) fun K hK => ?_; simp [-Bool.exists_bool, aop]; first | ((try simp (disch := omega) only [wrap64]); refine hK _ (by simp) ?_; clear hK K; simp))
    | ((with_reducible refine idp (p := awpL _ _ [] _ _) ?_); refine awpL_nil ?_)
    | ((with_reducible refine idp (p := awp _ (.region _ _ true) _ _) ?_); refine awp_drawn (by decide) ?_)
    | ((with_reducible refine idp (p := dwalk _ _ _ _ _ _ [] _ _) ?_); refine dwalk_nil (by simp; rfl) (by simp; rfl) ?_)
    | ((with_reducible refine idp (p := awp _ (.seq _ _) _ _) ?_); refine awp_seq fun K hK => ?_)
    | ((with_reducible refine idp (p := awp _ (.region _ _ false) _ _) ?_); refine awp_region ?_)
    | ((with_reducible refine idp (p := AThen _ _ .normal _) ?_); refine awp_then (by assumption) ?_)
    | ((with_reducible refine idp (p := AThen _ _ .ret _) ?_); refine awp_then_ret ?_)
    | ((with_reducible refine idp (p := AThen _ _ (.exit _) _) ?_); refine awp_then_exit ?_)
    | ((with_reducible refine idp (p := AIn _ _ .normal _) ?_); refine awp_in_normal ?_)
    | ((with_reducible refine idp (p := AIn _ _ .ret _) ?_); refine awp_in_ret ?_)
    | ((with_reducible refine idp (p := AIn _ _ (.exit _) _) ?_); first | refine awp_in_eq ?_ | refine awp_in_ne (by decide) ?_)
    | ((with_reducible refine idp (p := awp _ .ret _ _) ?_); refine awp_ret ?_)
    | ((with_reducible refine idp (p := awp _ (.cond _ _ _) _ _) ?_); (refine awp_cond rfl (fun hc => ?_) (fun hc => ?_) <;> (try simp at hc) <;> (try (exfalso; omega))))
    | ((with_reducible refine idp (p := awp _ (.block _ _) _ _) ?_); refine awp_block ?_)
    | ((with_reducible refine idp (p := awp _ (.exit _) _ _) ?_); refine awp_exit ?_)
    | ((with_reducible refine idp (p := awp _ .skip _ _) ?_); refine awp_skip ?_))
  refine awp_loop' (ι := { j : Nat // j ≤ n }) (fun t o i => ⟨upds t [(1, .int .i64 (k + i.1)), (5, .int .i64 i.1)], o⟩)
    (fun i => n - i.1) ⟨0, by simp⟩ (weak_o (by simp) (by simp)) ?_
  rintro ⟨j, hj⟩ K1 hK1
  simp only [upds, List.set_cons_succ, List.set_cons_zero] at hK1 ⊢
  have hj1 : IntKind.i64.wrap ((j : Int) + 1) = ((j + 1 : Nat) : Int) := by rw [wrap64] <;> omega
  have hk1 : IntKind.i64.wrap (k + (j : Int) + 1) = k + ((j + 1 : Nat) : Int) := by rw [wrap64] <;> omega
  by_cases hlt : j < n
  · have hg : l[j]? = some (k + j) := by rw [← hu]; exact mkint_get l0 k j (by omega)
    repeat' (first
      | ((with_reducible refine idp (p := awpL _ _ (_ :: _) _ _) ?_); refine awpL_cons rfl fun K hK => ?_; simp [-Bool.exists_bool, aop, hg, hj1, hk1, hlen]; first | ((try simp (disch := omega) only [wrap64]); refine hK _ ?_; clear hK K))
      | ((with_reducible refine idp (p := awpL _ _ (_ :: _) _ _) ?_); refine awpL_cons rfl fun K hK => ?_; simp [-Bool.exists_bool, aop, hlen, hj1, hk1, hlt]; first | ((try simp (disch := omega) only [wrap64]); refine hK _ ?_; clear hK K))
      | ((with_reducible refine idp (p := awpL _ _ (_ :: _) _ _) ?_); refine awpL_take rfl ?_ ?_; (focus (simp [guardA, hg, hj1, hk1, hlen]; done)); intro K hK; simp [-Bool.exists_bool, aop, hg, hj1, hk1, hlen]; first | ((try simp (disch := omega) only [wrap64]); refine hK _ ?_; clear hK K))
      | ((with_reducible refine idp (p := awpL _ _ (_ :: _) _ _) ?_); refine awpL_take rfl ?_ ?_; (focus (simp [guardA, hlen, hj1, hk1, hlt]; done)); intro K hK; simp [-Bool.exists_bool, aop, hlen, hj1, hk1, hlt]; first | ((try simp (disch := omega) only [wrap64]); refine hK _ ?_; clear hK K))
      | ((with_reducible refine idp (p := awpL _ _ (_ :: _) _ _) ?_); refine awpL_skip rfl ?_ ?_; (focus (simp [guardA, hlen, hj1, hk1, hlt]; done)); simp only [AS.put, List.set_cons_succ, List.set_cons_zero])
      | ((with_reducible refine idp (p := awpL _ _ (_ :: _) _ _) ?_); refine awpL_split rfl rfl rfl (fun hc => ?_) (fun hc => ?_) <;> simp only [List.set_cons_succ, List.set_cons_zero])
      | ((with_reducible refine idp (p := dwalk _ _ _ _ _ _ (_ :: _) _ _) ?_); refine dwalk_cons rfl rfl (by simp [Region.binds]; rfl) (by decide) (by simp [Region.binds]; rfl) (by simp; rfl) fun K hK => ?_; simp [-Bool.exists_bool, aop, hg, hj1, hk1, hlen]; first | ((try simp (disch := omega) only [wrap64]); refine hK _ (by simp) ?_; clear hK K; simp))
      | ((with_reducible refine idp (p := dwalk _ _ _ _ _ _ (_ :: _) _ _) ?_); refine dwalk_cons rfl rfl (by simp [Region.binds]; rfl) (by decide) (by simp [Region.binds]; rfl) (by simp; rfl) fun K hK => ?_; simp [-Bool.exists_bool, aop, hlen, hj1, hk1, hlt]; first | ((try simp (disch := omega) only [wrap64]); refine hK _ (by simp) ?_; clear hK K; simp))
      | ((with_reducible refine idp (p := awpL _ _ [] _ _) ?_); refine awpL_nil ?_)
      | ((with_reducible refine idp (p := awp _ (.region _ _ true) _ _) ?_); refine awp_drawn (by decide) ?_)
      | ((with_reducible refine idp (p := dwalk _ _ _ _ _ _ [] _ _) ?_); refine dwalk_nil (by simp; rfl) (by simp; rfl) ?_)
      | ((with_reducible refine idp (p := awp _ (.seq _ _) _ _) ?_); refine awp_seq fun K hK => ?_)
      | ((with_reducible refine idp (p := awp _ (.region _ _ false) _ _) ?_); refine awp_region ?_)
      | ((with_reducible refine idp (p := AThen _ _ .normal _) ?_); refine awp_then (by assumption) ?_)
      | ((with_reducible refine idp (p := AThen _ _ .ret _) ?_); refine awp_then_ret ?_)
      | ((with_reducible refine idp (p := AThen _ _ (.exit _) _) ?_); refine awp_then_exit ?_)
      | ((with_reducible refine idp (p := AIn _ _ .normal _) ?_); refine awp_in_normal ?_)
      | ((with_reducible refine idp (p := AIn _ _ .ret _) ?_); refine awp_in_ret ?_)
      | ((with_reducible refine idp (p := AIn _ _ (.exit _) _) ?_); first | refine awp_in_eq ?_ | refine awp_in_ne (by decide) ?_)
      | ((with_reducible refine idp (p := awp _ .ret _ _) ?_); refine awp_ret ?_)
      | ((with_reducible refine idp (p := awp _ (.cond _ _ _) _ _) ?_); (refine awp_cond rfl (fun hc => ?_) (fun hc => ?_) <;> (try simp at hc) <;> (try (exfalso; omega))))
      | ((with_reducible refine idp (p := awp _ (.block _ _) _ _) ?_); refine awp_block ?_)
      | ((with_reducible refine idp (p := awp _ (.exit _) _ _) ?_); refine awp_exit ?_)
      | ((with_reducible refine idp (p := awp _ .skip _ _) ?_); refine awp_skip ?_))
    refine hK1 _ ⟨j + 1, by omega⟩ (weak_o (by simp) (by simp)) (by simp only; omega)
  · have hjl : j = n := by omega
    repeat' (first
      | ((with_reducible refine idp (p := awpL _ _ (_ :: _) _ _) ?_); refine awpL_cons rfl fun K hK => ?_; simp [-Bool.exists_bool, aop, hlen, hj1]; first | ((try simp (disch := omega) only [wrap64]); refine hK _ ?_; clear hK K))
      | ((with_reducible refine idp (p := awpL _ _ (_ :: _) _ _) ?_); refine awpL_take rfl ?_ ?_; (focus (simp [guardA, hlen, hj1]; done)); intro K hK; simp [-Bool.exists_bool, aop, hlen, hj1]; first | ((try simp (disch := omega) only [wrap64]); refine hK _ ?_; clear hK K))
      | ((with_reducible refine idp (p := awpL _ _ (_ :: _) _ _) ?_); refine awpL_skip rfl ?_ ?_; (focus (simp [guardA, hlen, hj1]; done)); simp only [AS.put, List.set_cons_succ, List.set_cons_zero])
      | ((with_reducible refine idp (p := awpL _ _ (_ :: _) _ _) ?_); refine awpL_split rfl rfl rfl (fun hc => ?_) (fun hc => ?_) <;> simp only [List.set_cons_succ, List.set_cons_zero])
      | ((with_reducible refine idp (p := dwalk _ _ _ _ _ _ (_ :: _) _ _) ?_); refine dwalk_cons rfl rfl (by simp [Region.binds]; rfl) (by decide) (by simp [Region.binds]; rfl) (by simp; rfl) fun K hK => ?_; simp [-Bool.exists_bool, aop, hlen, hj1]; first | ((try simp (disch := omega) only [wrap64]); refine hK _ (by simp) ?_; clear hK K; simp))
      | ((with_reducible refine idp (p := awpL _ _ [] _ _) ?_); refine awpL_nil ?_)
      | ((with_reducible refine idp (p := awp _ (.region _ _ true) _ _) ?_); refine awp_drawn (by decide) ?_)
      | ((with_reducible refine idp (p := dwalk _ _ _ _ _ _ [] _ _) ?_); refine dwalk_nil (by simp; rfl) (by simp; rfl) ?_)
      | ((with_reducible refine idp (p := awp _ (.seq _ _) _ _) ?_); refine awp_seq fun K hK => ?_)
      | ((with_reducible refine idp (p := awp _ (.region _ _ false) _ _) ?_); refine awp_region ?_)
      | ((with_reducible refine idp (p := AThen _ _ .normal _) ?_); refine awp_then (by assumption) ?_)
      | ((with_reducible refine idp (p := AThen _ _ .ret _) ?_); refine awp_then_ret ?_)
      | ((with_reducible refine idp (p := AThen _ _ (.exit _) _) ?_); refine awp_then_exit ?_)
      | ((with_reducible refine idp (p := AIn _ _ .normal _) ?_); refine awp_in_normal ?_)
      | ((with_reducible refine idp (p := AIn _ _ .ret _) ?_); refine awp_in_ret ?_)
      | ((with_reducible refine idp (p := AIn _ _ (.exit _) _) ?_); first | refine awp_in_eq ?_ | refine awp_in_ne (by decide) ?_)
      | ((with_reducible refine idp (p := awp _ .ret _ _) ?_); refine awp_ret ?_)
      | ((with_reducible refine idp (p := awp _ (.cond _ _ _) _ _) ?_); (refine awp_cond rfl (fun hc => ?_) (fun hc => ?_) <;> (try simp at hc) <;> (try (exfalso; omega))))
      | ((with_reducible refine idp (p := awp _ (.block _ _) _ _) ?_); refine awp_block ?_)
      | ((with_reducible refine idp (p := awp _ (.exit _) _ _) ?_); refine awp_exit ?_)
      | ((with_reducible refine idp (p := awp _ .skip _ _) ?_); refine awp_skip ?_))
    all_goals (try (refine ⟨.inr rfl, ?_⟩; simp [Hands, Try.results31, hjl]))
    all_goals (repeat clear hK K)
end Go.Proofs.Ytbbefoefjmgnoaa
