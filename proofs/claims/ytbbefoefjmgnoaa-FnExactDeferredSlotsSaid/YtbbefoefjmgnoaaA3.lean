/-
  Proved here: contracts of sz, to and eq at slices of tokens, nodes, slots and modules.
  No condition beyond what each statement spells out.
-/
import Derived.Test.YtbbefoefjmgnoaaA2
set_option linter.all false
set_option linter.unusedSimpArgs false
set_option linter.unusedVariables false
set_option maxRecDepth 4000
set_option maxHeartbeats 4000000
namespace Go.Proofs.Ytbbefoefjmgnoaa
open Go.Aw
theorem toTokenS_ok (l : List DToken) (hs : szL szToken l ≤ 1048576) : Ok Try.prog 46 [.sl .view 4 (l.map (eToken .view))] (.sl .own 4 (l.map (eToken .own))) := by
  have hl : l.length ≤ 1048576 := by (try simp only [szL] at hs); omega
  have hb : (64 : Int) * (l.length : Int) ≤ 281474976710656 := by omega
  have hb2 : (l.length : Int) ≤ 9223372036854775807 := by omega
  generalize hz : ([.int .i64 0, .str [], .sl .own 0 [], .str []] : List AV) = z
  have hz0 := fillL_zero z (l.map (eToken .own))
  rw [List.length_map] at hz0
  refine ok_of_awp Try.mix Try.func46 rfl ?_
  simp only [Try.ntmps46, List.length_cons, List.length_nil, Nat.reduceSub, Nat.reduceAdd, List.replicate_succ, List.replicate_zero, List.cons_append, List.nil_append]
  repeat' (first
    | ((with_reducible refine idp (p := awpL _ _ (_ :: _) _ _) ?_); refine awpL_cons rfl fun K hK => ?_; simp [-Bool.exists_bool, aop, hb, hb2]; first | ((try simp (disch := omega) only [wrap64]); refine hK _ ?_; clear hK K))
    | ((with_reducible refine idp (p := awpL _ _ (_ :: _) _ _) ?_); refine awpL_take rfl ?_ ?_; (focus (simp [guardA, hb, hb2]; done)); intro K hK; simp [-Bool.exists_bool, aop, hb, hb2]; first | ((try simp (disch := omega) only [wrap64]); refine hK _ ?_; clear hK K))
    | ((with_reducible refine idp (p := awpL _ _ (_ :: _) _ _) ?_); refine awpL_skip rfl ?_ ?_; (focus (simp [guardA, hb, hb2]; done)); simp only [AS.put, List.set_cons_succ, List.set_cons_zero])
    | ((with_reducible refine idp (p := awpL _ _ (_ :: _) _ _) ?_); refine awpL_split rfl rfl rfl (fun hc => ?_) (fun hc => ?_) <;> simp only [List.set_cons_succ, List.set_cons_zero])
    | ((with_reducible refine idp (p := dwalk _ _ _ _ _ _ (_ :: _) _ _) ?_); refine dwalk_cons rfl rfl (by simp [Region.binds]; rfl) (by decide) (by simp [Region.binds]; rfl) (by simp; rfl) fun K hK => ?_; simp [-Bool.exists_bool, aop, hb, hb2]; first | ((try simp (disch := omega) only [wrap64]); refine hK _ (by simp) ?_; clear hK K; simp))
    | ((with_reducible refine idp (p := awpL _ _ [] _ _) ?_); refine awpL_nil ?_)
    | ((with_reducible refine idp (p := awp _ (.region _ _ true) _ _) ?_); refine awp_drawn (by decide) ?_)
    | ((with_reducible refine idp (p := dwalk _ _ _ _ _ _ [] _ _) ?_); refine dwalk_nil (by simp; rfl) (by simp; rfl) ?_)
    | ((with_reducible refine idp (p := awp _ (.seq _ _) _ _) ?_); refine awp_seq fun K hK => ?_)
    | ((with_reducible refine idp (p := awp _ (.region _ _ false) _ _) ?_); refine awp_region ?_)
    | ((with_reducible refine idp (p := AThen _ _ .normal _) ?_); refine awp_then (by assumption) ?_)
    | ((with_reducible refine idp (p := AThen _ _ .ret _) ?_); refine awp_then_ret ?_)
    | ((with_reducible refine idp (p := AThen _ _ (.exit _) _) ?_); refine awp_then_exit ?_)
    | ((with_reducible refine idp (p := AIn _ _ .normal _) ?_); refine awp_in_normal ?_)
    | ((with_reducible refine idp (p := AIn _ _ .ret _) ?_); refine awp_in_ret ?_)
    | ((with_reducible refine idp (p := AIn _ _ (.exit _) _) ?_); first | refine awp_in_eq ?_ | refine awp_in_ne (by decide) ?_)
    | ((with_reducible refine idp (p := awp _ .ret _ _) ?_); refine awp_ret ?_)
    | ((with_reducible refine idp (p := awp _ (.cond _ _ _) _ _) ?_); (refine awp_cond rfl (fun hc => ?_) (fun hc => ?_) <;> (try simp at hc) <;> (try (exfalso; omega))))
    | ((with_reducible refine idp (p := awp _ (.block _ _) _ _) ?_); refine awp_block ?_)
    | ((with_reducible refine idp (p := awp _ (.exit _) _ _) ?_); refine awp_exit ?_)
    | ((with_reducible refine idp (p := awp _ .skip _ _) ?_); refine awp_skip ?_))
  refine awp_loop' (ι := { k : Nat // k ≤ l.length }) (fun t o i => ⟨upds t [(4, .int .i64 i.1)], [⟨true, false, 4, 1, fillL z (l.map (eToken .own)) i.1⟩]⟩)
    (fun i => l.length - i.1) ⟨0, by simp⟩ (weak_o (by simp [hz, hz0]) (by simp)) ?_
  rintro ⟨k, hk⟩ K1 hK1
  simp only [upds, List.set_cons_succ, List.set_cons_zero] at hK1 ⊢
  have hk1 : IntKind.i64.wrap ((k : Int) + 1) = ((k + 1 : Nat) : Int) := by rw [wrap64] <;> omega
  by_cases hlt : k < l.length
  · have hg := List.getElem?_eq_getElem hlt
    have hfg := fillL_get z (l.map (eToken .own)) k (by simpa using hlt)
    have hfs := fillL_set z (l.map (eToken .own)) k (by simpa using hlt)
    rw [List.getElem_map] at hfs
    simp only [eToken] at hfs
    have hzl : z.length = 4 := by rw [← hz]; rfl
    have hzd : z.drop 4 = [] := by rw [← hz]; rfl
    repeat' (first
      | ((with_reducible refine idp (p := awpL _ _ (_ :: _) _ _) ?_); refine awpL_cons rfl fun K hK => ?_; simp [-Bool.exists_bool, aop, hk1, hg, hfg, hzl, hzd, hfs]; first | (refine ⟨_, (toToken_ok l[k] (by have := sumN_get_le szToken l k hlt; (try simp only [szL] at hs); omega)), hK _ ?_⟩; clear hK K; (try simp only [absorb_eq, absorbc_eq, absV, absVc, absO, absOc, absN, absNc, List.append_nil, List.nil_append, List.cons_append, List.length_cons, List.length_nil, Nat.add_zero, Nat.zero_add, Nat.reduceAdd])) | ((try simp (disch := omega) only [wrap64]); refine hK _ ?_; clear hK K))
      | ((with_reducible refine idp (p := awpL _ _ (_ :: _) _ _) ?_); refine awpL_cons rfl fun K hK => ?_; simp [-Bool.exists_bool, aop, hk1, hg, hlt]; first | (refine ⟨_, (toToken_ok l[k] (by have := sumN_get_le szToken l k hlt; (try simp only [szL] at hs); omega)), hK _ ?_⟩; clear hK K; (try simp only [absorb_eq, absorbc_eq, absV, absVc, absO, absOc, absN, absNc, List.append_nil, List.nil_append, List.cons_append, List.length_cons, List.length_nil, Nat.add_zero, Nat.zero_add, Nat.reduceAdd])) | ((try simp (disch := omega) only [wrap64]); refine hK _ ?_; clear hK K))
      | ((with_reducible refine idp (p := awpL _ _ (_ :: _) _ _) ?_); refine awpL_take rfl ?_ ?_; (focus (simp [guardA, hk1, hg, hfg, hzl, hzd, hfs]; done)); intro K hK; simp [-Bool.exists_bool, aop, hk1, hg, hfg, hzl, hzd, hfs]; first | (refine ⟨_, (toToken_ok l[k] (by have := sumN_get_le szToken l k hlt; (try simp only [szL] at hs); omega)), hK _ ?_⟩; clear hK K; (try simp only [absorb_eq, absorbc_eq, absV, absVc, absO, absOc, absN, absNc, List.append_nil, List.nil_append, List.cons_append, List.length_cons, List.length_nil, Nat.add_zero, Nat.zero_add, Nat.reduceAdd])) | ((try simp (disch := omega) only [wrap64]); refine hK _ ?_; clear hK K))
      | ((with_reducible refine idp (p := awpL _ _ (_ :: _) _ _) ?_); refine awpL_take rfl ?_ ?_; (focus (simp [guardA, hk1, hg, hlt]; done)); intro K hK; simp [-Bool.exists_bool, aop, hk1, hg, hlt]; first | (refine ⟨_, (toToken_ok l[k] (by have := sumN_get_le szToken l k hlt; (try simp only [szL] at hs); omega)), hK _ ?_⟩; clear hK K; (try simp only [absorb_eq, absorbc_eq, absV, absVc, absO, absOc, absN, absNc, List.append_nil, List.nil_append, List.cons_append, List.length_cons, List.length_nil, Nat.add_zero, Nat.zero_add, Nat.reduceAdd])) | ((try simp (disch := omega) only [wrap64]); refine hK _ ?_; clear hK K))
      | ((with_reducible refine idp (p := awpL _ _ (_ :: _) _ _) ?_); refine awpL_skip rfl ?_ ?_; (focus (simp [guardA, hk1, hg, hlt]; done)); simp only [AS.put, List.set_cons_succ, List.set_cons_zero])
      | ((with_reducible refine idp (p := awpL _ _ (_ :: _) _ _) ?_); refine awpL_split rfl rfl rfl (fun hc => ?_) (fun hc => ?_) <;> simp only [List.set_cons_succ, List.set_cons_zero])
      | ((with_reducible refine idp (p := dwalk _ _ _ _ _ _ (_ :: _) _ _) ?_); refine dwalk_cons rfl rfl (by simp [Region.binds]; rfl) (by decide) (by simp [Region.binds]; rfl) (by simp; rfl) fun K hK => ?_; simp [-Bool.exists_bool, aop, hk1, hg, hfg, hzl, hzd, hfs]; first | (refine ⟨_, (toToken_ok l[k] (by have := sumN_get_le szToken l k hlt; (try simp only [szL] at hs); omega)), hK _ (by simp) ?_⟩; clear hK K; simp only [dval, absorb_eq, absorbc_eq, absV, absVc, absO, absOc, absN, absNc, List.append_nil, Nat.add_zero, Nat.zero_add, Nat.reduceAdd, List.length_cons, List.length_nil, List.cons_append, List.nil_append]) | ((try simp (disch := omega) only [wrap64]); refine hK _ (by simp) ?_; clear hK K; simp))
      | ((with_reducible refine idp (p := dwalk _ _ _ _ _ _ (_ :: _) _ _) ?_); refine dwalk_cons rfl rfl (by simp [Region.binds]; rfl) (by decide) (by simp [Region.binds]; rfl) (by simp; rfl) fun K hK => ?_; simp [-Bool.exists_bool, aop, hk1, hg, hlt]; first | (refine ⟨_, (toToken_ok l[k] (by have := sumN_get_le szToken l k hlt; (try simp only [szL] at hs); omega)), hK _ (by simp) ?_⟩; clear hK K; simp only [dval, absorb_eq, absorbc_eq, absV, absVc, absO, absOc, absN, absNc, List.append_nil, Nat.add_zero, Nat.zero_add, Nat.reduceAdd, List.length_cons, List.length_nil, List.cons_append, List.nil_append]) | ((try simp (disch := omega) only [wrap64]); refine hK _ (by simp) ?_; clear hK K; simp))
      | ((with_reducible refine idp (p := awpL _ _ [] _ _) ?_); refine awpL_nil ?_)
      | ((with_reducible refine idp (p := awp _ (.region _ _ true) _ _) ?_); refine awp_drawn (by decide) ?_)
      | ((with_reducible refine idp (p := dwalk _ _ _ _ _ _ [] _ _) ?_); refine dwalk_nil (by simp; rfl) (by simp; rfl) ?_)
      | ((with_reducible refine idp (p := awp _ (.seq _ _) _ _) ?_); refine awp_seq fun K hK => ?_)
      | ((with_reducible refine idp (p := awp _ (.region _ _ false) _ _) ?_); refine awp_region ?_)
      | ((with_reducible refine idp (p := AThen _ _ .normal _) ?_); refine awp_then (by assumption) ?_)
      | ((with_reducible refine idp (p := AThen _ _ .ret _) ?_); refine awp_then_ret ?_)
      | ((with_reducible refine idp (p := AThen _ _ (.exit _) _) ?_); refine awp_then_exit ?_)
      | ((with_reducible refine idp (p := AIn _ _ .normal _) ?_); refine awp_in_normal ?_)
      | ((with_reducible refine idp (p := AIn _ _ .ret _) ?_); refine awp_in_ret ?_)
      | ((with_reducible refine idp (p := AIn _ _ (.exit _) _) ?_); first | refine awp_in_eq ?_ | refine awp_in_ne (by decide) ?_)
      | ((with_reducible refine idp (p := awp _ .ret _ _) ?_); refine awp_ret ?_)
      | ((with_reducible refine idp (p := awp _ (.cond _ _ _) _ _) ?_); (refine awp_cond rfl (fun hc => ?_) (fun hc => ?_) <;> (try simp at hc) <;> (try (exfalso; omega))))
      | ((with_reducible refine idp (p := awp _ (.block _ _) _ _) ?_); refine awp_block ?_)
      | ((with_reducible refine idp (p := awp _ (.exit _) _ _) ?_); refine awp_exit ?_)
      | ((with_reducible refine idp (p := awp _ .skip _ _) ?_); refine awp_skip ?_))
    refine hK1 _ ⟨k + 1, by omega⟩ (weak_take 1 rfl ?_ (by simp) (by simp)) (by simp only; omega)
    simp
  · repeat' (first
      | ((with_reducible refine idp (p := awpL _ _ (_ :: _) _ _) ?_); refine awpL_cons rfl fun K hK => ?_; simp [-Bool.exists_bool, aop, hk1]; first | ((try simp (disch := omega) only [wrap64]); refine hK _ ?_; clear hK K))
      | ((with_reducible refine idp (p := awpL _ _ (_ :: _) _ _) ?_); refine awpL_take rfl ?_ ?_; (focus (simp [guardA, hk1]; done)); intro K hK; simp [-Bool.exists_bool, aop, hk1]; first | ((try simp (disch := omega) only [wrap64]); refine hK _ ?_; clear hK K))
      | ((with_reducible refine idp (p := awpL _ _ (_ :: _) _ _) ?_); refine awpL_skip rfl ?_ ?_; (focus (simp [guardA, hk1]; done)); simp only [AS.put, List.set_cons_succ, List.set_cons_zero])
      | ((with_reducible refine idp (p := awpL _ _ (_ :: _) _ _) ?_); refine awpL_split rfl rfl rfl (fun hc => ?_) (fun hc => ?_) <;> simp only [List.set_cons_succ, List.set_cons_zero])
      | ((with_reducible refine idp (p := dwalk _ _ _ _ _ _ (_ :: _) _ _) ?_); refine dwalk_cons rfl rfl (by simp [Region.binds]; rfl) (by decide) (by simp [Region.binds]; rfl) (by simp; rfl) fun K hK => ?_; simp [-Bool.exists_bool, aop, hk1]; first | ((try simp (disch := omega) only [wrap64]); refine hK _ (by simp) ?_; clear hK K; simp))
      | ((with_reducible refine idp (p := awpL _ _ [] _ _) ?_); refine awpL_nil ?_)
      | ((with_reducible refine idp (p := awp _ (.region _ _ true) _ _) ?_); refine awp_drawn (by decide) ?_)
      | ((with_reducible refine idp (p := dwalk _ _ _ _ _ _ [] _ _) ?_); refine dwalk_nil (by simp; rfl) (by simp; rfl) ?_)
      | ((with_reducible refine idp (p := awp _ (.seq _ _) _ _) ?_); refine awp_seq fun K hK => ?_)
      | ((with_reducible refine idp (p := awp _ (.region _ _ false) _ _) ?_); refine awp_region ?_)
      | ((with_reducible refine idp (p := AThen _ _ .normal _) ?_); refine awp_then (by assumption) ?_)
      | ((with_reducible refine idp (p := AThen _ _ .ret _) ?_); refine awp_then_ret ?_)
      | ((with_reducible refine idp (p := AThen _ _ (.exit _) _) ?_); refine awp_then_exit ?_)
      | ((with_reducible refine idp (p := AIn _ _ .normal _) ?_); refine awp_in_normal ?_)
      | ((with_reducible refine idp (p := AIn _ _ .ret _) ?_); refine awp_in_ret ?_)
      | ((with_reducible refine idp (p := AIn _ _ (.exit _) _) ?_); first | refine awp_in_eq ?_ | refine awp_in_ne (by decide) ?_)
      | ((with_reducible refine idp (p := awp _ .ret _ _) ?_); refine awp_ret ?_)
      | ((with_reducible refine idp (p := awp _ (.cond _ _ _) _ _) ?_); (refine awp_cond rfl (fun hc => ?_) (fun hc => ?_) <;> (try simp at hc) <;> (try (exfalso; omega))))
      | ((with_reducible refine idp (p := awp _ (.block _ _) _ _) ?_); refine awp_block ?_)
      | ((with_reducible refine idp (p := awp _ (.exit _) _ _) ?_); refine awp_exit ?_)
      | ((with_reducible refine idp (p := awp _ .skip _ _) ?_); refine awp_skip ?_))
    have hfa := fillL_all z (l.map (eToken .own)) k (by simpa using hlt)
    all_goals (try (refine ⟨.inr rfl, ?_⟩; simp [Hands, Try.results46, hfa]))
    all_goals (repeat clear hK K)

theorem szTokenS_ok (l : List DToken) (n : Int) (h0 : 0 ≤ n) (h1 : n ≤ 1048576) (hw : l.length ≤ 9223372036854775807 ∧ ∀ y ∈ l, wfToken y) : Ok Try.prog 38 [.sl .view 4 (l.map (eToken .view)), .int .i64 n] (.int .i64 (sub n (szL szToken l))) := by
  obtain ⟨hl, hw⟩ := hw
  refine ok_of_awp Try.mix Try.func38 rfl ?_
  simp only [Try.ntmps38, List.length_cons, List.length_nil, Nat.reduceSub, Nat.reduceAdd, List.replicate_succ, List.replicate_zero, List.cons_append, List.nil_append]
  repeat' (first
    | ((with_reducible refine idp (p := awpL _ _ (_ :: _) _ _) ?_); refine awpL_cons rfl fun K hK => ?_; simp [-Bool.exists_bool, aop]; first | ((try simp (disch := omega) only [wrap64]); refine hK _ ?_; clear hK K))
    | ((with_reducible refine idp (p := awpL _ _ (_ :: _) _ _) ?_); refine awpL_take rfl ?_ ?_; (focus (simp [guardA]; done)); intro K hK; simp [-Bool.exists_bool, aop]; first | ((try simp (disch := omega) only [wrap64]); refine hK _ ?_; clear hK K))
    | ((with_reducible refine idp (p := awpL _ _ (_ :: _) _ _) ?_); refine awpL_skip rfl ?_ ?_; (focus (simp [guardA]; done)); simp only [AS.put, List.set_cons_succ, List.set_cons_zero])
    | ((with_reducible refine idp (p := awpL _ _ (_ :: _) _ _) ?_); refine awpL_split rfl rfl rfl (fun hc => ?_) (fun hc => ?_) <;> simp only [List.set_cons_succ, List.set_cons_zero])
    | ((with_reducible refine idp (p := dwalk _ _ _ _ _ _ (_ :: _) _ _) ?_); refine dwalk_cons rfl rfl (by simp [Region.binds]; rfl) (by decide) (by simp [Region.binds]; rfl) (by simp; rfl) fun K hK => ?_; simp [-Bool.exists_bool, aop]; first | ((try simp (disch := omega) only [wrap64]); refine hK _ (by simp) ?_; clear hK K; simp))
    | ((with_reducible refine idp (p := awpL _ _ [] _ _) ?_); refine awpL_nil ?_)
    | ((with_reducible refine idp (p := awp _ (.region _ _ true) _ _) ?_); refine awp_drawn (by decide) ?_)
    | ((with_reducible refine idp (p := dwalk _ _ _ _ _ _ [] _ _) ?_); refine dwalk_nil (by simp; rfl) (by simp; rfl) ?_)
    | ((with_reducible refine idp (p := awp _ (.seq _ _) _ _) ?_); refine awp_seq fun K hK => ?_)
    | ((with_reducible refine idp (p := awp _ (.region _ _ false) _ _) ?_); refine awp_region ?_)
    | ((with_reducible refine idp (p := AThen _ _ .normal _) ?_); refine awp_then (by assumption) ?_)
    | ((with_reducible refine idp (p := AThen _ _ .ret _) ?_); refine awp_then_ret ?_)
    | ((with_reducible refine idp (p := AThen _ _ (.exit _) _) ?_); refine awp_then_exit ?_)
    | ((with_reducible refine idp (p := AIn _ _ .normal _) ?_); refine awp_in_normal ?_)
    | ((with_reducible refine idp (p := AIn _ _ .ret _) ?_); refine awp_in_ret ?_)
    | ((with_reducible refine idp (p := AIn _ _ (.exit _) _) ?_); first | refine awp_in_eq ?_ | refine awp_in_ne (by decide) ?_)
    | ((with_reducible refine idp (p := awp _ .ret _ _) ?_); refine awp_ret ?_)
    | ((with_reducible refine idp (p := awp _ (.cond _ _ _) _ _) ?_); (refine awp_cond rfl (fun hc => ?_) (fun hc => ?_) <;> (try simp at hc) <;> (try (exfalso; omega))))
    | ((with_reducible refine idp (p := awp _ (.block _ _) _ _) ?_); refine awp_block ?_)
    | ((with_reducible refine idp (p := awp _ (.exit _) _ _) ?_); refine awp_exit ?_)
    | ((with_reducible refine idp (p := awp _ .skip _ _) ?_); refine awp_skip ?_))
  · refine ⟨.inr rfl, ?_⟩; simp [Hands, Try.results38, sub, szL]; omega
  · refine awp_loop' (ι := { k : Nat // k ≤ l.length ∧ l.length + sumN szToken (l.take k) ≤ n }) (fun t o i => ⟨upds t [(1, .int .i64 (n - (l.length + sumN szToken (l.take i.1) : Nat))), (5, .int .i64 i.1)], []⟩)
      (fun i => l.length - i.1) ⟨0, by simp, by simp [sumN]; omega⟩ (weak_o (by simp) (by simp [sumN])) ?_
    rintro ⟨k, hk, hs⟩ K1 hK1
    simp only [upds, List.set_cons_succ, List.set_cons_zero] at hK1 ⊢
    have hk1 : IntKind.i64.wrap ((k : Int) + 1) = ((k + 1 : Nat) : Int) := by rw [wrap64] <;> omega
    by_cases hlt : k < l.length
    · have hg := List.getElem?_eq_getElem hlt
      have hts := sumN_take_succ szToken l k hlt
      have htl := sumN_take_le szToken l (k + 1)
      have hwg := hw _ (List.getElem_mem hlt)
      repeat' (first
        | ((with_reducible refine idp (p := awpL _ _ (_ :: _) _ _) ?_); refine awpL_cons rfl fun K hK => ?_; simp [-Bool.exists_bool, aop, hk1, hg]; first | (refine ⟨_, (szToken_ok _ _ (by omega) (by omega) hwg), hK _ ?_⟩; clear hK K; (try simp only [absorb_eq, absorbc_eq, absV, absVc, absO, absOc, absN, absNc, List.append_nil, List.nil_append, List.cons_append, List.length_cons, List.length_nil, Nat.add_zero, Nat.zero_add, Nat.reduceAdd])) | ((try simp (disch := omega) only [wrap64]); refine hK _ ?_; clear hK K))
        | ((with_reducible refine idp (p := awpL _ _ (_ :: _) _ _) ?_); refine awpL_take rfl ?_ ?_; (focus (simp [guardA, hk1, hg]; done)); intro K hK; simp [-Bool.exists_bool, aop, hk1, hg]; first | (refine ⟨_, (szToken_ok _ _ (by omega) (by omega) hwg), hK _ ?_⟩; clear hK K; (try simp only [absorb_eq, absorbc_eq, absV, absVc, absO, absOc, absN, absNc, List.append_nil, List.nil_append, List.cons_append, List.length_cons, List.length_nil, Nat.add_zero, Nat.zero_add, Nat.reduceAdd])) | ((try simp (disch := omega) only [wrap64]); refine hK _ ?_; clear hK K))
        | ((with_reducible refine idp (p := awpL _ _ (_ :: _) _ _) ?_); refine awpL_skip rfl ?_ ?_; (focus (simp [guardA, hk1, hg]; done)); simp only [AS.put, List.set_cons_succ, List.set_cons_zero])
        | ((with_reducible refine idp (p := awpL _ _ (_ :: _) _ _) ?_); refine awpL_split rfl rfl rfl (fun hc => ?_) (fun hc => ?_) <;> simp only [List.set_cons_succ, List.set_cons_zero])
        | ((with_reducible refine idp (p := dwalk _ _ _ _ _ _ (_ :: _) _ _) ?_); refine dwalk_cons rfl rfl (by simp [Region.binds]; rfl) (by decide) (by simp [Region.binds]; rfl) (by simp; rfl) fun K hK => ?_; simp [-Bool.exists_bool, aop, hk1, hg]; first | (refine ⟨_, (szToken_ok _ _ (by omega) (by omega) hwg), hK _ (by simp) ?_⟩; clear hK K; simp only [dval, absorb_eq, absorbc_eq, absV, absVc, absO, absOc, absN, absNc, List.append_nil, Nat.add_zero, Nat.zero_add, Nat.reduceAdd, List.length_cons, List.length_nil, List.cons_append, List.nil_append]) | ((try simp (disch := omega) only [wrap64]); refine hK _ (by simp) ?_; clear hK K; simp))
        | ((with_reducible refine idp (p := awpL _ _ [] _ _) ?_); refine awpL_nil ?_)
        | ((with_reducible refine idp (p := awp _ (.region _ _ true) _ _) ?_); refine awp_drawn (by decide) ?_)
        | ((with_reducible refine idp (p := dwalk _ _ _ _ _ _ [] _ _) ?_); refine dwalk_nil (by simp; rfl) (by simp; rfl) ?_)
        | ((with_reducible refine idp (p := awp _ (.seq _ _) _ _) ?_); refine awp_seq fun K hK => ?_)
        | ((with_reducible refine idp (p := awp _ (.region _ _ false) _ _) ?_); refine awp_region ?_)
        | ((with_reducible refine idp (p := AThen _ _ .normal _) ?_); refine awp_then (by assumption) ?_)
        | ((with_reducible refine idp (p := AThen _ _ .ret _) ?_); refine awp_then_ret ?_)
        | ((with_reducible refine idp (p := AThen _ _ (.exit _) _) ?_); refine awp_then_exit ?_)
        | ((with_reducible refine idp (p := AIn _ _ .normal _) ?_); refine awp_in_normal ?_)
        | ((with_reducible refine idp (p := AIn _ _ .ret _) ?_); refine awp_in_ret ?_)
        | ((with_reducible refine idp (p := AIn _ _ (.exit _) _) ?_); first | refine awp_in_eq ?_ | refine awp_in_ne (by decide) ?_)
        | ((with_reducible refine idp (p := awp _ .ret _ _) ?_); refine awp_ret ?_)
        | ((with_reducible refine idp (p := awp _ (.cond _ _ _) _ _) ?_); (refine awp_cond rfl (fun hc => ?_) (fun hc => ?_) <;> (try simp at hc) <;> (try (exfalso; omega))))
        | ((with_reducible refine idp (p := awp _ (.block _ _) _ _) ?_); refine awp_block ?_)
        | ((with_reducible refine idp (p := awp _ (.exit _) _ _) ?_); refine awp_exit ?_)
        | ((with_reducible refine idp (p := awp _ .skip _ _) ?_); refine awp_skip ?_))
      · refine ⟨.inr rfl, ?_⟩
        simp [Hands, Try.results38, szL]
        (repeat clear hK K); simp only [sub] at *; grind
      · refine hK1 _ ⟨k + 1, by omega, by (repeat clear hK K); simp only [sub] at *; grind⟩ (weak_o (by simp) ?_) (by simp only; omega)
        simp
        (repeat clear hK K); simp only [sub] at *; grind
    · repeat' (first
        | ((with_reducible refine idp (p := awpL _ _ (_ :: _) _ _) ?_); refine awpL_cons rfl fun K hK => ?_; simp [-Bool.exists_bool, aop, hk1]; first | ((try simp (disch := omega) only [wrap64]); refine hK _ ?_; clear hK K))
        | ((with_reducible refine idp (p := awpL _ _ (_ :: _) _ _) ?_); refine awpL_take rfl ?_ ?_; (focus (simp [guardA, hk1]; done)); intro K hK; simp [-Bool.exists_bool, aop, hk1]; first | ((try simp (disch := omega) only [wrap64]); refine hK _ ?_; clear hK K))
        | ((with_reducible refine idp (p := awpL _ _ (_ :: _) _ _) ?_); refine awpL_skip rfl ?_ ?_; (focus (simp [guardA, hk1]; done)); simp only [AS.put, List.set_cons_succ, List.set_cons_zero])
        | ((with_reducible refine idp (p := awpL _ _ (_ :: _) _ _) ?_); refine awpL_split rfl rfl rfl (fun hc => ?_) (fun hc => ?_) <;> simp only [List.set_cons_succ, List.set_cons_zero])
        | ((with_reducible refine idp (p := dwalk _ _ _ _ _ _ (_ :: _) _ _) ?_); refine dwalk_cons rfl rfl (by simp [Region.binds]; rfl) (by decide) (by simp [Region.binds]; rfl) (by simp; rfl) fun K hK => ?_; simp [-Bool.exists_bool, aop, hk1]; first | ((try simp (disch := omega) only [wrap64]); refine hK _ (by simp) ?_; clear hK K; simp))
        | ((with_reducible refine idp (p := awpL _ _ [] _ _) ?_); refine awpL_nil ?_)
        | ((with_reducible refine idp (p := awp _ (.region _ _ true) _ _) ?_); refine awp_drawn (by decide) ?_)
        | ((with_reducible refine idp (p := dwalk _ _ _ _ _ _ [] _ _) ?_); refine dwalk_nil (by simp; rfl) (by simp; rfl) ?_)
        | ((with_reducible refine idp (p := awp _ (.seq _ _) _ _) ?_); refine awp_seq fun K hK => ?_)
        | ((with_reducible refine idp (p := awp _ (.region _ _ false) _ _) ?_); refine awp_region ?_)
        | ((with_reducible refine idp (p := AThen _ _ .normal _) ?_); refine awp_then (by assumption) ?_)
        | ((with_reducible refine idp (p := AThen _ _ .ret _) ?_); refine awp_then_ret ?_)
        | ((with_reducible refine idp (p := AThen _ _ (.exit _) _) ?_); refine awp_then_exit ?_)
        | ((with_reducible refine idp (p := AIn _ _ .normal _) ?_); refine awp_in_normal ?_)
        | ((with_reducible refine idp (p := AIn _ _ .ret _) ?_); refine awp_in_ret ?_)
        | ((with_reducible refine idp (p := AIn _ _ (.exit _) _) ?_); first | refine awp_in_eq ?_ | refine awp_in_ne (by decide) ?_)
        | ((with_reducible refine idp (p := awp _ .ret _ _) ?_); refine awp_ret ?_)
        | ((with_reducible refine idp (p := awp _ (.cond _ _ _) _ _) ?_); (refine awp_cond rfl (fun hc => ?_) (fun hc => ?_) <;> (try simp at hc) <;> (try (exfalso; omega))))
        | ((with_reducible refine idp (p := awp _ (.block _ _) _ _) ?_); refine awp_block ?_)
        | ((with_reducible refine idp (p := awp _ (.exit _) _ _) ?_); refine awp_exit ?_)
        | ((with_reducible refine idp (p := awp _ .skip _ _) ?_); refine awp_skip ?_))
      all_goals (try (refine ⟨.inr rfl, ?_⟩; simp [Hands, Try.results38, szL]))
      all_goals (repeat clear hK K)
      have : k = l.length := by omega
      subst this
      rw [List.take_length] at *
      rw [sub_pos (by omega)]
      omega

theorem eqTokenS_ok (a b : List DToken) (hs : szL szToken a ≤ 1048576) : Ok Try.prog 55 [.sl .view 4 (a.map (eToken .view)), .sl .view 4 (b.map (eToken .view))] (.bool (decide (a = b))) := by
  have hl : a.length ≤ 1048576 := by (try simp only [szL] at hs); omega
  refine ok_of_awp Try.mix Try.func55 rfl ?_
  simp only [Try.ntmps55, List.length_cons, List.length_nil, Nat.reduceSub, Nat.reduceAdd, List.replicate_succ, List.replicate_zero, List.cons_append, List.nil_append]
  repeat' (first
    | ((with_reducible refine idp (p := awpL _ _ (_ :: _) _ _) ?_); refine awpL_cons rfl fun K hK => ?_; simp [-Bool.exists_bool, aop]; first | ((try simp (disch := omega) only [wrap64]); refine hK _ ?_; clear hK K))
    | ((with_reducible refine idp (p := awpL _ _ (_ :: _) _ _) ?_); refine awpL_take rfl ?_ ?_; (focus (simp [guardA]; done)); intro K hK; simp [-Bool.exists_bool, aop]; first | ((try simp (disch := omega) only [wrap64]); refine hK _ ?_; clear hK K))
    | ((with_reducible refine idp (p := awpL _ _ (_ :: _) _ _) ?_); refine awpL_skip rfl ?_ ?_; (focus (simp [guardA]; done)); simp only [AS.put, List.set_cons_succ, List.set_cons_zero])
    | ((with_reducible refine idp (p := awpL _ _ (_ :: _) _ _) ?_); refine awpL_split rfl rfl rfl (fun hc => ?_) (fun hc => ?_) <;> simp only [List.set_cons_succ, List.set_cons_zero])
    | ((with_reducible refine idp (p := dwalk _ _ _ _ _ _ (_ :: _) _ _) ?_); refine dwalk_cons rfl rfl (by simp [Region.binds]; rfl) (by decide) (by simp [Region.binds]; rfl) (by simp; rfl) fun K hK => ?_; simp [-Bool.exists_bool, aop]; first | ((try simp (disch := omega) only [wrap64]); refine hK _ (by simp) ?_; clear hK K; simp))
    | ((with_reducible refine idp (p := awpL _ _ [] _ _) ?_); refine awpL_nil ?_)
    | ((with_reducible refine idp (p := awp _ (.region _ _ true) _ _) ?_); refine awp_drawn (by decide) ?_)
    | ((with_reducible refine idp (p := dwalk _ _ _ _ _ _ [] _ _) ?_); refine dwalk_nil (by simp; rfl) (by simp; rfl) ?_)
    | ((with_reducible refine idp (p := awp _ (.seq _ _) _ _) ?_); refine awp_seq fun K hK => ?_)
    | ((with_reducible refine idp (p := awp _ (.region _ _ false) _ _) ?_); refine awp_region ?_)
    | ((with_reducible refine idp (p := AThen _ _ .normal _) ?_); refine awp_then (by assumption) ?_)
    | ((with_reducible refine idp (p := AThen _ _ .ret _) ?_); refine awp_then_ret ?_)
    | ((with_reducible refine idp (p := AThen _ _ (.exit _) _) ?_); refine awp_then_exit ?_)
    | ((with_reducible refine idp (p := AIn _ _ .normal _) ?_); refine awp_in_normal ?_)
    | ((with_reducible refine idp (p := AIn _ _ .ret _) ?_); refine awp_in_ret ?_)
    | ((with_reducible refine idp (p := AIn _ _ (.exit _) _) ?_); first | refine awp_in_eq ?_ | refine awp_in_ne (by decide) ?_)
    | ((with_reducible refine idp (p := awp _ .ret _ _) ?_); refine awp_ret ?_)
    | ((with_reducible refine idp (p := awp _ (.cond _ _ _) _ _) ?_); (refine awp_cond rfl (fun hc => ?_) (fun hc => ?_) <;> (try simp at hc) <;> (try (exfalso; omega))))
    | ((with_reducible refine idp (p := awp _ (.block _ _) _ _) ?_); refine awp_block ?_)
    | ((with_reducible refine idp (p := awp _ (.exit _) _ _) ?_); refine awp_exit ?_)
    | ((with_reducible refine idp (p := awp _ .skip _ _) ?_); refine awp_skip ?_))
  · all_goals (try (refine ⟨.inr rfl, ?_⟩; simp [Hands, Try.results55]))
    all_goals (repeat clear hK K)
    intro h; subst h; exact absurd rfl hc
  · have hlen : a.length = b.length := by omega
    refine awp_loop' (ι := { k : Nat // k ≤ a.length ∧ a.take k = b.take k }) (fun t o i => ⟨upds t [(5, .int .i64 i.1)], []⟩)
      (fun i => a.length - i.1) ⟨0, by simp⟩ (weak_o (by simp) (by simp)) ?_
    rintro ⟨k, hk, hpre⟩ K1 hK1
    simp only [upds, List.set_cons_succ, List.set_cons_zero] at hK1 ⊢
    have hk1 : IntKind.i64.wrap ((k : Int) + 1) = ((k + 1 : Nat) : Int) := by rw [wrap64] <;> omega
    by_cases hlt : k < a.length
    · have hg := List.getElem?_eq_getElem hlt
      have hltb : k < b.length := by omega
      have hgb := List.getElem?_eq_getElem hltb
      repeat' (first
        | ((with_reducible refine idp (p := awpL _ _ (_ :: _) _ _) ?_); refine awpL_cons rfl fun K hK => ?_; simp [-Bool.exists_bool, aop, hk1, hg, hlt, hgb, hltb]; first | (refine ⟨_, (eqToken_ok a[k] b[k] (by have := sumN_get_le szToken a k hlt; (try simp only [szL] at hs); omega)), hK _ ?_⟩; clear hK K; (try simp only [absorb_eq, absorbc_eq, absV, absVc, absO, absOc, absN, absNc, List.append_nil, List.nil_append, List.cons_append, List.length_cons, List.length_nil, Nat.add_zero, Nat.zero_add, Nat.reduceAdd])) | ((try simp (disch := omega) only [wrap64]); refine hK _ ?_; clear hK K))
        | ((with_reducible refine idp (p := awpL _ _ (_ :: _) _ _) ?_); refine awpL_take rfl ?_ ?_; (focus (simp [guardA, hk1, hg, hlt, hgb, hltb]; done)); intro K hK; simp [-Bool.exists_bool, aop, hk1, hg, hlt, hgb, hltb]; first | (refine ⟨_, (eqToken_ok a[k] b[k] (by have := sumN_get_le szToken a k hlt; (try simp only [szL] at hs); omega)), hK _ ?_⟩; clear hK K; (try simp only [absorb_eq, absorbc_eq, absV, absVc, absO, absOc, absN, absNc, List.append_nil, List.nil_append, List.cons_append, List.length_cons, List.length_nil, Nat.add_zero, Nat.zero_add, Nat.reduceAdd])) | ((try simp (disch := omega) only [wrap64]); refine hK _ ?_; clear hK K))
        | ((with_reducible refine idp (p := awpL _ _ (_ :: _) _ _) ?_); refine awpL_skip rfl ?_ ?_; (focus (simp [guardA, hk1, hg, hlt, hgb, hltb]; done)); simp only [AS.put, List.set_cons_succ, List.set_cons_zero])
        | ((with_reducible refine idp (p := awpL _ _ (_ :: _) _ _) ?_); refine awpL_split rfl rfl rfl (fun hc => ?_) (fun hc => ?_) <;> simp only [List.set_cons_succ, List.set_cons_zero])
        | ((with_reducible refine idp (p := dwalk _ _ _ _ _ _ (_ :: _) _ _) ?_); refine dwalk_cons rfl rfl (by simp [Region.binds]; rfl) (by decide) (by simp [Region.binds]; rfl) (by simp; rfl) fun K hK => ?_; simp [-Bool.exists_bool, aop, hk1, hg, hlt, hgb, hltb]; first | (refine ⟨_, (eqToken_ok a[k] b[k] (by have := sumN_get_le szToken a k hlt; (try simp only [szL] at hs); omega)), hK _ (by simp) ?_⟩; clear hK K; simp only [dval, absorb_eq, absorbc_eq, absV, absVc, absO, absOc, absN, absNc, List.append_nil, Nat.add_zero, Nat.zero_add, Nat.reduceAdd, List.length_cons, List.length_nil, List.cons_append, List.nil_append]) | ((try simp (disch := omega) only [wrap64]); refine hK _ (by simp) ?_; clear hK K; simp))
        | ((with_reducible refine idp (p := awpL _ _ [] _ _) ?_); refine awpL_nil ?_)
        | ((with_reducible refine idp (p := awp _ (.region _ _ true) _ _) ?_); refine awp_drawn (by decide) ?_)
        | ((with_reducible refine idp (p := dwalk _ _ _ _ _ _ [] _ _) ?_); refine dwalk_nil (by simp; rfl) (by simp; rfl) ?_)
        | ((with_reducible refine idp (p := awp _ (.seq _ _) _ _) ?_); refine awp_seq fun K hK => ?_)
        | ((with_reducible refine idp (p := awp _ (.region _ _ false) _ _) ?_); refine awp_region ?_)
        | ((with_reducible refine idp (p := AThen _ _ .normal _) ?_); refine awp_then (by assumption) ?_)
        | ((with_reducible refine idp (p := AThen _ _ .ret _) ?_); refine awp_then_ret ?_)
        | ((with_reducible refine idp (p := AThen _ _ (.exit _) _) ?_); refine awp_then_exit ?_)
        | ((with_reducible refine idp (p := AIn _ _ .normal _) ?_); refine awp_in_normal ?_)
        | ((with_reducible refine idp (p := AIn _ _ .ret _) ?_); refine awp_in_ret ?_)
        | ((with_reducible refine idp (p := AIn _ _ (.exit _) _) ?_); first | refine awp_in_eq ?_ | refine awp_in_ne (by decide) ?_)
        | ((with_reducible refine idp (p := awp _ .ret _ _) ?_); refine awp_ret ?_)
        | ((with_reducible refine idp (p := awp _ (.cond _ _ _) _ _) ?_); (refine awp_cond rfl (fun hc => ?_) (fun hc => ?_) <;> (try simp at hc) <;> (try (exfalso; omega))))
        | ((with_reducible refine idp (p := awp _ (.block _ _) _ _) ?_); refine awp_block ?_)
        | ((with_reducible refine idp (p := awp _ (.exit _) _ _) ?_); refine awp_exit ?_)
        | ((with_reducible refine idp (p := awp _ .skip _ _) ?_); refine awp_skip ?_))
      · all_goals (try (refine ⟨.inr rfl, ?_⟩; simp [Hands, Try.results55]))
        all_goals (repeat clear hK K)
        intro h; subst h; exact hc rfl
      · have hts : a.take (k + 1) = b.take (k + 1) := by
          rw [List.take_succ_eq_append_getElem hlt, List.take_succ_eq_append_getElem hltb, hpre, hc]
        refine hK1 _ ⟨k + 1, by omega, hts⟩ (weak_o (by simp) (by simp)) (by simp only; omega)
    · have hka : a.length ≤ k := by omega
      rw [List.take_of_length_le hka, List.take_of_length_le (by omega)] at hpre
      subst hpre
      repeat' (first
        | ((with_reducible refine idp (p := awpL _ _ (_ :: _) _ _) ?_); refine awpL_cons rfl fun K hK => ?_; simp [-Bool.exists_bool, aop, hk1]; first | ((try simp (disch := omega) only [wrap64]); refine hK _ ?_; clear hK K))
        | ((with_reducible refine idp (p := awpL _ _ (_ :: _) _ _) ?_); refine awpL_take rfl ?_ ?_; (focus (simp [guardA, hk1]; done)); intro K hK; simp [-Bool.exists_bool, aop, hk1]; first | ((try simp (disch := omega) only [wrap64]); refine hK _ ?_; clear hK K))
        | ((with_reducible refine idp (p := awpL _ _ (_ :: _) _ _) ?_); refine awpL_skip rfl ?_ ?_; (focus (simp [guardA, hk1]; done)); simp only [AS.put, List.set_cons_succ, List.set_cons_zero])
        | ((with_reducible refine idp (p := awpL _ _ (_ :: _) _ _) ?_); refine awpL_split rfl rfl rfl (fun hc => ?_) (fun hc => ?_) <;> simp only [List.set_cons_succ, List.set_cons_zero])
        | ((with_reducible refine idp (p := dwalk _ _ _ _ _ _ (_ :: _) _ _) ?_); refine dwalk_cons rfl rfl (by simp [Region.binds]; rfl) (by decide) (by simp [Region.binds]; rfl) (by simp; rfl) fun K hK => ?_; simp [-Bool.exists_bool, aop, hk1]; first | ((try simp (disch := omega) only [wrap64]); refine hK _ (by simp) ?_; clear hK K; simp))
        | ((with_reducible refine idp (p := awpL _ _ [] _ _) ?_); refine awpL_nil ?_)
        | ((with_reducible refine idp (p := awp _ (.region _ _ true) _ _) ?_); refine awp_drawn (by decide) ?_)
        | ((with_reducible refine idp (p := dwalk _ _ _ _ _ _ [] _ _) ?_); refine dwalk_nil (by simp; rfl) (by simp; rfl) ?_)
        | ((with_reducible refine idp (p := awp _ (.seq _ _) _ _) ?_); refine awp_seq fun K hK => ?_)
        | ((with_reducible refine idp (p := awp _ (.region _ _ false) _ _) ?_); refine awp_region ?_)
        | ((with_reducible refine idp (p := AThen _ _ .normal _) ?_); refine awp_then (by assumption) ?_)
        | ((with_reducible refine idp (p := AThen _ _ .ret _) ?_); refine awp_then_ret ?_)
        | ((with_reducible refine idp (p := AThen _ _ (.exit _) _) ?_); refine awp_then_exit ?_)
        | ((with_reducible refine idp (p := AIn _ _ .normal _) ?_); refine awp_in_normal ?_)
        | ((with_reducible refine idp (p := AIn _ _ .ret _) ?_); refine awp_in_ret ?_)
        | ((with_reducible refine idp (p := AIn _ _ (.exit _) _) ?_); first | refine awp_in_eq ?_ | refine awp_in_ne (by decide) ?_)
        | ((with_reducible refine idp (p := awp _ .ret _ _) ?_); refine awp_ret ?_)
        | ((with_reducible refine idp (p := awp _ (.cond _ _ _) _ _) ?_); (refine awp_cond rfl (fun hc => ?_) (fun hc => ?_) <;> (try simp at hc) <;> (try (exfalso; omega))))
        | ((with_reducible refine idp (p := awp _ (.block _ _) _ _) ?_); refine awp_block ?_)
        | ((with_reducible refine idp (p := awp _ (.exit _) _ _) ?_); refine awp_exit ?_)
        | ((with_reducible refine idp (p := awp _ .skip _ _) ?_); refine awp_skip ?_))
      all_goals (try (refine ⟨.inr rfl, ?_⟩; simp [Hands, Try.results55]))
      all_goals (repeat clear hK K)

theorem toNodeS_ok (l : List DNode) (hs : szL szNode l ≤ 1048576) : Ok Try.prog 78 [.sl .view 4 (l.map (eNode .view))] (.sl .own 4 (l.map (eNode .own))) := by
  have hl : l.length ≤ 1048576 := by (try simp only [szL] at hs); omega
  have hb : (64 : Int) * (l.length : Int) ≤ 281474976710656 := by omega
  have hb2 : (l.length : Int) ≤ 9223372036854775807 := by omega
  generalize hz : ([.str [], .str [], .int .i64 0, .sl .own 0 []] : List AV) = z
  have hz0 := fillL_zero z (l.map (eNode .own))
  rw [List.length_map] at hz0
  refine ok_of_awp Try.mix Try.func78 rfl ?_
  simp only [Try.ntmps78, List.length_cons, List.length_nil, Nat.reduceSub, Nat.reduceAdd, List.replicate_succ, List.replicate_zero, List.cons_append, List.nil_append]
  repeat' (first
    | ((with_reducible refine idp (p := awpL _ _ (_ :: _) _ _) ?_); refine awpL_cons rfl fun K hK => ?_; simp [-Bool.exists_bool, aop, hb, hb2]; first | ((try simp (disch := omega) only [wrap64]); refine hK _ ?_; clear hK K))
    | ((with_reducible refine idp (p := awpL _ _ (_ :: _) _ _) ?_); refine awpL_take rfl ?_ ?_; (focus (simp [guardA, hb, hb2]; done)); intro K hK; simp [-Bool.exists_bool, aop, hb, hb2]; first | ((try simp (disch := omega) only [wrap64]); refine hK _ ?_; clear hK K))
    | ((with_reducible refine idp (p := awpL _ _ (_ :: _) _ _) ?_); refine awpL_skip rfl ?_ ?_; (focus (simp [guardA, hb, hb2]; done)); simp only [AS.put, List.set_cons_succ, List.set_cons_zero])
    | ((with_reducible refine idp (p := awpL _ _ (_ :: _) _ _) ?_); refine awpL_split rfl rfl rfl (fun hc => ?_) (fun hc => ?_) <;> simp only [List.set_cons_succ, List.set_cons_zero])
    | ((with_reducible refine idp (p := dwalk _ _ _ _ _ _ (_ :: _) _ _) ?_); refine dwalk_cons rfl rfl (by simp [Region.binds]; rfl) (by decide) (by simp [Region.binds]; rfl) (by simp; rfl) fun K hK => ?_; simp [-Bool.exists_bool, aop, hb, hb2]; first | ((try simp (disch := omega) only [wrap64]); refine hK _ (by simp) ?_; clear hK K; simp))
    | ((with_reducible refine idp (p := awpL _ _ [] _ _) ?_); refine awpL_nil ?_)
    | ((with_reducible refine idp (p := awp _ (.region _ _ true) _ _) ?_); refine awp_drawn (by decide) ?_)
    | ((with_reducible refine idp (p := dwalk _ _ _ _ _ _ [] _ _) ?_); refine dwalk_nil (by simp; rfl) (by simp; rfl) ?_)
    | ((with_reducible refine idp (p := awp _ (.seq _ _) _ _) ?_); refine awp_seq fun K hK => ?_)
    | ((with_reducible refine idp (p := awp _ (.region _ _ false) _ _) ?_); refine awp_region ?_)
    | ((with_reducible refine idp (p := AThen _ _ .normal _) ?_); refine awp_then (by assumption) ?_)
    | ((with_reducible refine idp (p := AThen _ _ .ret _) ?_); refine awp_then_ret ?_)
    | ((with_reducible refine idp (p := AThen _ _ (.exit _) _) ?_); refine awp_then_exit ?_)
    | ((with_reducible refine idp (p := AIn _ _ .normal _) ?_); refine awp_in_normal ?_)
    | ((with_reducible refine idp (p := AIn _ _ .ret _) ?_); refine awp_in_ret ?_)
    | ((with_reducible refine idp (p := AIn _ _ (.exit _) _) ?_); first | refine awp_in_eq ?_ | refine awp_in_ne (by decide) ?_)
    | ((with_reducible refine idp (p := awp _ .ret _ _) ?_); refine awp_ret ?_)
    | ((with_reducible refine idp (p := awp _ (.cond _ _ _) _ _) ?_); (refine awp_cond rfl (fun hc => ?_) (fun hc => ?_) <;> (try simp at hc) <;> (try (exfalso; omega))))
    | ((with_reducible refine idp (p := awp _ (.block _ _) _ _) ?_); refine awp_block ?_)
    | ((with_reducible refine idp (p := awp _ (.exit _) _ _) ?_); refine awp_exit ?_)
    | ((with_reducible refine idp (p := awp _ .skip _ _) ?_); refine awp_skip ?_))
  refine awp_loop' (ι := { k : Nat // k ≤ l.length }) (fun t o i => ⟨upds t [(4, .int .i64 i.1)], [⟨true, false, 4, 1, fillL z (l.map (eNode .own)) i.1⟩]⟩)
    (fun i => l.length - i.1) ⟨0, by simp⟩ (weak_o (by simp [hz, hz0]) (by simp)) ?_
  rintro ⟨k, hk⟩ K1 hK1
  simp only [upds, List.set_cons_succ, List.set_cons_zero] at hK1 ⊢
  have hk1 : IntKind.i64.wrap ((k : Int) + 1) = ((k + 1 : Nat) : Int) := by rw [wrap64] <;> omega
  by_cases hlt : k < l.length
  · have hg := List.getElem?_eq_getElem hlt
    have hfg := fillL_get z (l.map (eNode .own)) k (by simpa using hlt)
    have hfs := fillL_set z (l.map (eNode .own)) k (by simpa using hlt)
    rw [List.getElem_map] at hfs
    simp only [eNode] at hfs
    have hzl : z.length = 4 := by rw [← hz]; rfl
    have hzd : z.drop 4 = [] := by rw [← hz]; rfl
    repeat' (first
      | ((with_reducible refine idp (p := awpL _ _ (_ :: _) _ _) ?_); refine awpL_cons rfl fun K hK => ?_; simp [-Bool.exists_bool, aop, hk1, hg, hfg, hzl, hzd, hfs]; first | (refine ⟨_, (toNode_ok l[k] (by have := sumN_get_le szNode l k hlt; (try simp only [szL] at hs); omega)), hK _ ?_⟩; clear hK K; (try simp only [absorb_eq, absorbc_eq, absV, absVc, absO, absOc, absN, absNc, List.append_nil, List.nil_append, List.cons_append, List.length_cons, List.length_nil, Nat.add_zero, Nat.zero_add, Nat.reduceAdd])) | ((try simp (disch := omega) only [wrap64]); refine hK _ ?_; clear hK K))
      | ((with_reducible refine idp (p := awpL _ _ (_ :: _) _ _) ?_); refine awpL_cons rfl fun K hK => ?_; simp [-Bool.exists_bool, aop, hk1, hg, hlt]; first | (refine ⟨_, (toNode_ok l[k] (by have := sumN_get_le szNode l k hlt; (try simp only [szL] at hs); omega)), hK _ ?_⟩; clear hK K; (try simp only [absorb_eq, absorbc_eq, absV, absVc, absO, absOc, absN, absNc, List.append_nil, List.nil_append, List.cons_append, List.length_cons, List.length_nil, Nat.add_zero, Nat.zero_add, Nat.reduceAdd])) | ((try simp (disch := omega) only [wrap64]); refine hK _ ?_; clear hK K))
      | ((with_reducible refine idp (p := awpL _ _ (_ :: _) _ _) ?_); refine awpL_take rfl ?_ ?_; (focus (simp [guardA, hk1, hg, hfg, hzl, hzd, hfs]; done)); intro K hK; simp [-Bool.exists_bool, aop, hk1, hg, hfg, hzl, hzd, hfs]; first | (refine ⟨_, (toNode_ok l[k] (by have := sumN_get_le szNode l k hlt; (try simp only [szL] at hs); omega)), hK _ ?_⟩; clear hK K; (try simp only [absorb_eq, absorbc_eq, absV, absVc, absO, absOc, absN, absNc, List.append_nil, List.nil_append, List.cons_append, List.length_cons, List.length_nil, Nat.add_zero, Nat.zero_add, Nat.reduceAdd])) | ((try simp (disch := omega) only [wrap64]); refine hK _ ?_; clear hK K))
      | ((with_reducible refine idp (p := awpL _ _ (_ :: _) _ _) ?_); refine awpL_take rfl ?_ ?_; (focus (simp [guardA, hk1, hg, hlt]; done)); intro K hK; simp [-Bool.exists_bool, aop, hk1, hg, hlt]; first | (refine ⟨_, (toNode_ok l[k] (by have := sumN_get_le szNode l k hlt; (try simp only [szL] at hs); omega)), hK _ ?_⟩; clear hK K; (try simp only [absorb_eq, absorbc_eq, absV, absVc, absO, absOc, absN, absNc, List.append_nil, List.nil_append, List.cons_append, List.length_cons, List.length_nil, Nat.add_zero, Nat.zero_add, Nat.reduceAdd])) | ((try simp (disch := omega) only [wrap64]); refine hK _ ?_; clear hK K))
      | ((with_reducible refine idp (p := awpL _ _ (_ :: _) _ _) ?_); refine awpL_skip rfl ?_ ?_; (focus (simp [guardA, hk1, hg, hlt]; done)); simp only [AS.put, List.set_cons_succ, List.set_cons_zero])
      | ((with_reducible refine idp (p := awpL _ _ (_ :: _) _ _) ?_); refine awpL_split rfl rfl rfl (fun hc => ?_) (fun hc => ?_) <;> simp only [List.set_cons_succ, List.set_cons_zero])
      | ((with_reducible refine idp (p := dwalk _ _ _ _ _ _ (_ :: _) _ _) ?_); refine dwalk_cons rfl rfl (by simp [Region.binds]; rfl) (by decide) (by simp [Region.binds]; rfl) (by simp; rfl) fun K hK => ?_; simp [-Bool.exists_bool, aop, hk1, hg, hfg, hzl, hzd, hfs]; first | (refine ⟨_, (toNode_ok l[k] (by have := sumN_get_le szNode l k hlt; (try simp only [szL] at hs); omega)), hK _ (by simp) ?_⟩; clear hK K; simp only [dval, absorb_eq, absorbc_eq, absV, absVc, absO, absOc, absN, absNc, List.append_nil, Nat.add_zero, Nat.zero_add, Nat.reduceAdd, List.length_cons, List.length_nil, List.cons_append, List.nil_append]) | ((try simp (disch := omega) only [wrap64]); refine hK _ (by simp) ?_; clear hK K; simp))
      | ((with_reducible refine idp (p := dwalk _ _ _ _ _ _ (_ :: _) _ _) ?_); refine dwalk_cons rfl rfl (by simp [Region.binds]; rfl) (by decide) (by simp [Region.binds]; rfl) (by simp; rfl) fun K hK => ?_; simp [-Bool.exists_bool, aop, hk1, hg, hlt]; first | (refine ⟨_, (toNode_ok l[k] (by have := sumN_get_le szNode l k hlt; (try simp only [szL] at hs); omega)), hK _ (by simp) ?_⟩; clear hK K; simp only [dval, absorb_eq, absorbc_eq, absV, absVc, absO, absOc, absN, absNc, List.append_nil, Nat.add_zero, Nat.zero_add, Nat.reduceAdd, List.length_cons, List.length_nil, List.cons_append, List.nil_append]) | ((try simp (disch := omega) only [wrap64]); refine hK _ (by simp) ?_; clear hK K; simp))
      | ((with_reducible refine idp (p := awpL _ _ [] _ _) ?_); refine awpL_nil ?_)
      | ((with_reducible refine idp (p := awp _ (.region _ _ true) _ _) ?_); refine awp_drawn (by decide) ?_)
      | ((with_reducible refine idp (p := dwalk _ _ _ _ _ _ [] _ _) ?_); refine dwalk_nil (by simp; rfl) (by simp; rfl) ?_)
      | ((with_reducible refine idp (p := awp _ (.seq _ _) _ _) ?_); refine awp_seq fun K hK => ?_)
      | ((with_reducible refine idp (p := awp _ (.region _ _ false) _ _) ?_); refine awp_region ?_)
      | ((with_reducible refine idp (p := AThen _ _ .normal _) ?_); refine awp_then (by assumption) ?_)
      | ((with_reducible refine idp (p := AThen _ _ .ret _) ?_); refine awp_then_ret ?_)
      | ((with_reducible refine idp (p := AThen _ _ (.exit _) _) ?_); refine awp_then_exit ?_)
      | ((with_reducible refine idp (p := AIn _ _ .normal _) ?_); refine awp_in_normal ?_)
      | ((with_reducible refine idp (p := AIn _ _ .ret _) ?_); refine awp_in_ret ?_)
      | ((with_reducible refine idp (p := AIn _ _ (.exit _) _) ?_); first | refine awp_in_eq ?_ | refine awp_in_ne (by decide) ?_)
      | ((with_reducible refine idp (p := awp _ .ret _ _) ?_); refine awp_ret ?_)
      | ((with_reducible refine idp (p := awp _ (.cond _ _ _) _ _) ?_); (refine awp_cond rfl (fun hc => ?_) (fun hc => ?_) <;> (try simp at hc) <;> (try (exfalso; omega))))
      | ((with_reducible refine idp (p := awp _ (.block _ _) _ _) ?_); refine awp_block ?_)
      | ((with_reducible refine idp (p := awp _ (.exit _) _ _) ?_); refine awp_exit ?_)
      | ((with_reducible refine idp (p := awp _ .skip _ _) ?_); refine awp_skip ?_))
    refine hK1 _ ⟨k + 1, by omega⟩ (weak_take 1 rfl ?_ (by simp) (by simp)) (by simp only; omega)
    simp
  · repeat' (first
      | ((with_reducible refine idp (p := awpL _ _ (_ :: _) _ _) ?_); refine awpL_cons rfl fun K hK => ?_; simp [-Bool.exists_bool, aop, hk1]; first | ((try simp (disch := omega) only [wrap64]); refine hK _ ?_; clear hK K))
      | ((with_reducible refine idp (p := awpL _ _ (_ :: _) _ _) ?_); refine awpL_take rfl ?_ ?_; (focus (simp [guardA, hk1]; done)); intro K hK; simp [-Bool.exists_bool, aop, hk1]; first | ((try simp (disch := omega) only [wrap64]); refine hK _ ?_; clear hK K))
      | ((with_reducible refine idp (p := awpL _ _ (_ :: _) _ _) ?_); refine awpL_skip rfl ?_ ?_; (focus (simp [guardA, hk1]; done)); simp only [AS.put, List.set_cons_succ, List.set_cons_zero])
      | ((with_reducible refine idp (p := awpL _ _ (_ :: _) _ _) ?_); refine awpL_split rfl rfl rfl (fun hc => ?_) (fun hc => ?_) <;> simp only [List.set_cons_succ, List.set_cons_zero])
      | ((with_reducible refine idp (p := dwalk _ _ _ _ _ _ (_ :: _) _ _) ?_); refine dwalk_cons rfl rfl (by simp [Region.binds]; rfl) (by decide) (by simp [Region.binds]; rfl) (by simp; rfl) fun K hK => ?_; simp [-Bool.exists_bool, aop, hk1]; first | ((try simp (disch := omega) only [wrap64]); refine hK _ (by simp) ?_; clear hK K; simp))
      | ((with_reducible refine idp (p := awpL _ _ [] _ _) ?_); refine awpL_nil ?_)
      | ((with_reducible refine idp (p := awp _ (.region _ _ true) _ _) ?_); refine awp_drawn (by decide) ?_)
      | ((with_reducible refine idp (p := dwalk _ _ _ _ _ _ [] _ _) ?_); refine dwalk_nil (by simp; rfl) (by simp; rfl) ?_)
      | ((with_reducible refine idp (p := awp _ (.seq _ _) _ _) ?_); refine awp_seq fun K hK => ?_)
      | ((with_reducible refine idp (p := awp _ (.region _ _ false) _ _) ?_); refine awp_region ?_)
      | ((with_reducible refine idp (p := AThen _ _ .normal _) ?_); refine awp_then (by assumption) ?_)
      | ((with_reducible refine idp (p := AThen _ _ .ret _) ?_); refine awp_then_ret ?_)
      | ((with_reducible refine idp (p := AThen _ _ (.exit _) _) ?_); refine awp_then_exit ?_)
      | ((with_reducible refine idp (p := AIn _ _ .normal _) ?_); refine awp_in_normal ?_)
      | ((with_reducible refine idp (p := AIn _ _ .ret _) ?_); refine awp_in_ret ?_)
      | ((with_reducible refine idp (p := AIn _ _ (.exit _) _) ?_); first | refine awp_in_eq ?_ | refine awp_in_ne (by decide) ?_)
      | ((with_reducible refine idp (p := awp _ .ret _ _) ?_); refine awp_ret ?_)
      | ((with_reducible refine idp (p := awp _ (.cond _ _ _) _ _) ?_); (refine awp_cond rfl (fun hc => ?_) (fun hc => ?_) <;> (try simp at hc) <;> (try (exfalso; omega))))
      | ((with_reducible refine idp (p := awp _ (.block _ _) _ _) ?_); refine awp_block ?_)
      | ((with_reducible refine idp (p := awp _ (.exit _) _ _) ?_); refine awp_exit ?_)
      | ((with_reducible refine idp (p := awp _ .skip _ _) ?_); refine awp_skip ?_))
    have hfa := fillL_all z (l.map (eNode .own)) k (by simpa using hlt)
    all_goals (try (refine ⟨.inr rfl, ?_⟩; simp [Hands, Try.results78, hfa]))
    all_goals (repeat clear hK K)

theorem szNodeS_ok (l : List DNode) (n : Int) (h0 : 0 ≤ n) (h1 : n ≤ 1048576) (hw : l.length ≤ 9223372036854775807 ∧ ∀ y ∈ l, wfNode y) : Ok Try.prog 73 [.sl .view 4 (l.map (eNode .view)), .int .i64 n] (.int .i64 (sub n (szL szNode l))) := by
  obtain ⟨hl, hw⟩ := hw
  refine ok_of_awp Try.mix Try.func73 rfl ?_
  simp only [Try.ntmps73, List.length_cons, List.length_nil, Nat.reduceSub, Nat.reduceAdd, List.replicate_succ, List.replicate_zero, List.cons_append, List.nil_append]
  repeat' (first
    | ((with_reducible refine idp (p := awpL _ _ (_ :: _) _ _) ?_); refine awpL_cons rfl fun K hK => ?_; simp [-Bool.exists_bool, aop]; first | ((try simp (disch := omega) only [wrap64]); refine hK _ ?_; clear hK K))
    | ((with_reducible refine idp (p := awpL _ _ (_ :: _) _ _) ?_); refine awpL_take rfl ?_ ?_; (focus (simp [guardA]; done)); intro K hK; simp [-Bool.exists_bool, aop]; first | ((try simp (disch := omega) only [wrap64]); refine hK _ ?_; clear hK K))
    | ((with_reducible refine idp (p := awpL _ _ (_ :: _) _ _) ?_); refine awpL_skip rfl ?_ ?_; (focus (simp [guardA]; done)); simp only [AS.put, List.set_cons_succ, List.set_cons_zero])
    | ((with_reducible refine idp (p := awpL _ _ (_ :: _) _ _) ?_); refine awpL_split rfl rfl rfl (fun hc => ?_) (fun hc => ?_) <;> simp only [List.set_cons_succ, List.set_cons_zero])
    | ((with_reducible refine idp (p := dwalk _ _ _ _ _ _ (_ :: _) _ _) ?_); refine dwalk_cons rfl rfl (by simp [Region.binds]; rfl) (by decide) (by simp [Region.binds]; rfl) (by simp; rfl) fun K hK => ?_; simp [-Bool.exists_bool, aop]; first | ((try simp (disch := omega) only [wrap64]); refine hK _ (by simp) ?_; clear hK K; simp))
    | ((with_reducible refine idp (p := awpL _ _ [] _ _) ?_); refine awpL_nil ?_)
    | ((with_reducible refine idp (p := awp _ (.region _ _ true) _ _) ?_); refine awp_drawn (by decide) ?_)
    | ((with_reducible refine idp (p := dwalk _ _ _ _ _ _ [] _ _) ?_); refine dwalk_nil (by simp; rfl) (by simp; rfl) ?_)
    | ((with_reducible refine idp (p := awp _ (.seq _ _) _ _) ?_); refine awp_seq fun K hK => ?_)
    | ((with_reducible refine idp (p := awp _ (.region _ _ false) _ _) ?_); refine awp_region ?_)
    | ((with_reducible refine idp (p := AThen _ _ .normal _) ?_); refine awp_then (by assumption) ?_)
    | ((with_reducible refine idp (p := AThen _ _ .ret _) ?_); refine awp_then_ret ?_)
    | ((with_reducible refine idp (p := AThen _ _ (.exit _) _) ?_); refine awp_then_exit ?_)
    | ((with_reducible refine idp (p := AIn _ _ .normal _) ?_); refine awp_in_normal ?_)
    | ((with_reducible refine idp (p := AIn _ _ .ret _) ?_); refine awp_in_ret ?_)
    | ((with_reducible refine idp (p := AIn _ _ (.exit _) _) ?_); first | refine awp_in_eq ?_ | refine awp_in_ne (by decide) ?_)
    | ((with_reducible refine idp (p := awp _ .ret _ _) ?_); refine awp_ret ?_)
    | ((with_reducible refine idp (p := awp _ (.cond _ _ _) _ _) ?_); (refine awp_cond rfl (fun hc => ?_) (fun hc => ?_) <;> (try simp at hc) <;> (try (exfalso; omega))))
    | ((with_reducible refine idp (p := awp _ (.block _ _) _ _) ?_); refine awp_block ?_)
    | ((with_reducible refine idp (p := awp _ (.exit _) _ _) ?_); refine awp_exit ?_)
    | ((with_reducible refine idp (p := awp _ .skip _ _) ?_); refine awp_skip ?_))
  · refine ⟨.inr rfl, ?_⟩; simp [Hands, Try.results73, sub, szL]; omega
  · refine awp_loop' (ι := { k : Nat // k ≤ l.length ∧ l.length + sumN szNode (l.take k) ≤ n }) (fun t o i => ⟨upds t [(1, .int .i64 (n - (l.length + sumN szNode (l.take i.1) : Nat))), (5, .int .i64 i.1)], []⟩)
      (fun i => l.length - i.1) ⟨0, by simp, by simp [sumN]; omega⟩ (weak_o (by simp) (by simp [sumN])) ?_
    rintro ⟨k, hk, hs⟩ K1 hK1
    simp only [upds, List.set_cons_succ, List.set_cons_zero] at hK1 ⊢
    have hk1 : IntKind.i64.wrap ((k : Int) + 1) = ((k + 1 : Nat) : Int) := by rw [wrap64] <;> omega
    by_cases hlt : k < l.length
    · have hg := List.getElem?_eq_getElem hlt
      have hts := sumN_take_succ szNode l k hlt
      have htl := sumN_take_le szNode l (k + 1)
      have hwg := hw _ (List.getElem_mem hlt)
      repeat' (first
        | ((with_reducible refine idp (p := awpL _ _ (_ :: _) _ _) ?_); refine awpL_cons rfl fun K hK => ?_; simp [-Bool.exists_bool, aop, hk1, hg]; first | (refine ⟨_, (szNode_ok _ _ (by omega) (by omega) hwg), hK _ ?_⟩; clear hK K; (try simp only [absorb_eq, absorbc_eq, absV, absVc, absO, absOc, absN, absNc, List.append_nil, List.nil_append, List.cons_append, List.length_cons, List.length_nil, Nat.add_zero, Nat.zero_add, Nat.reduceAdd])) | ((try simp (disch := omega) only [wrap64]); refine hK _ ?_; clear hK K))
        | ((with_reducible refine idp (p := awpL _ _ (_ :: _) _ _) ?_); refine awpL_take rfl ?_ ?_; (focus (simp [guardA, hk1, hg]; done)); intro K hK; simp [-Bool.exists_bool, aop, hk1, hg]; first | (refine ⟨_, (szNode_ok _ _ (by omega) (by omega) hwg), hK _ ?_⟩; clear hK K; (try simp only [absorb_eq, absorbc_eq, absV, absVc, absO, absOc, absN, absNc, List.append_nil, List.nil_append, List.cons_append, List.length_cons, List.length_nil, Nat.add_zero, Nat.zero_add, Nat.reduceAdd])) | ((try simp (disch := omega) only [wrap64]); refine hK _ ?_; clear hK K))
        | ((with_reducible refine idp (p := awpL _ _ (_ :: _) _ _) ?_); refine awpL_skip rfl ?_ ?_; (focus (simp [guardA, hk1, hg]; done)); simp only [AS.put, List.set_cons_succ, List.set_cons_zero])
        | ((with_reducible refine idp (p := awpL _ _ (_ :: _) _ _) ?_); refine awpL_split rfl rfl rfl (fun hc => ?_) (fun hc => ?_) <;> simp only [List.set_cons_succ, List.set_cons_zero])
        | ((with_reducible refine idp (p := dwalk _ _ _ _ _ _ (_ :: _) _ _) ?_); refine dwalk_cons rfl rfl (by simp [Region.binds]; rfl) (by decide) (by simp [Region.binds]; rfl) (by simp; rfl) fun K hK => ?_; simp [-Bool.exists_bool, aop, hk1, hg]; first | (refine ⟨_, (szNode_ok _ _ (by omega) (by omega) hwg), hK _ (by simp) ?_⟩; clear hK K; simp only [dval, absorb_eq, absorbc_eq, absV, absVc, absO, absOc, absN, absNc, List.append_nil, Nat.add_zero, Nat.zero_add, Nat.reduceAdd, List.length_cons, List.length_nil, List.cons_append, List.nil_append]) | ((try simp (disch := omega) only [wrap64]); refine hK _ (by simp) ?_; clear hK K; simp))
        | ((with_reducible refine idp (p := awpL _ _ [] _ _) ?_); refine awpL_nil ?_)
        | ((with_reducible refine idp (p := awp _ (.region _ _ true) _ _) ?_); refine awp_drawn (by decide) ?_)
        | ((with_reducible refine idp (p := dwalk _ _ _ _ _ _ [] _ _) ?_); refine dwalk_nil (by simp; rfl) (by simp; rfl) ?_)
        | ((with_reducible refine idp (p := awp _ (.seq _ _) _ _) ?_); refine awp_seq fun K hK => ?_)
        | ((with_reducible refine idp (p := awp _ (.region _ _ false) _ _) ?_); refine awp_region ?_)
        | ((with_reducible refine idp (p := AThen _ _ .normal _) ?_); refine awp_then (by assumption) ?_)
        | ((with_reducible refine idp (p := AThen _ _ .ret _) ?_); refine awp_then_ret ?_)
        | ((with_reducible refine idp (p := AThen _ _ (.exit _) _) ?_); refine awp_then_exit ?_)
        | ((with_reducible refine idp (p := AIn _ _ .normal _) ?_); refine awp_in_normal ?_)
        | ((with_reducible refine idp (p := AIn _ _ .ret _) ?_); refine awp_in_ret ?_)
        | ((with_reducible refine idp (p := AIn _ _ (.exit _) _) ?_); first | refine awp_in_eq ?_ | refine awp_in_ne (by decide) ?_)
        | ((with_reducible refine idp (p := awp _ .ret _ _) ?_); refine awp_ret ?_)
        | ((with_reducible refine idp (p := awp _ (.cond _ _ _) _ _) ?_); (refine awp_cond rfl (fun hc => ?_) (fun hc => ?_) <;> (try simp at hc) <;> (try (exfalso; omega))))
        | ((with_reducible refine idp (p := awp _ (.block _ _) _ _) ?_); refine awp_block ?_)
        | ((with_reducible refine idp (p := awp _ (.exit _) _ _) ?_); refine awp_exit ?_)
        | ((with_reducible refine idp (p := awp _ .skip _ _) ?_); refine awp_skip ?_))
      · refine ⟨.inr rfl, ?_⟩
        simp [Hands, Try.results73, szL]
        (repeat clear hK K); simp only [sub] at *; grind
      · refine hK1 _ ⟨k + 1, by omega, by (repeat clear hK K); simp only [sub] at *; grind⟩ (weak_o (by simp) ?_) (by simp only; omega)
        simp
        (repeat clear hK K); simp only [sub] at *; grind
    · repeat' (first
        | ((with_reducible refine idp (p := awpL _ _ (_ :: _) _ _) ?_); refine awpL_cons rfl fun K hK => ?_; simp [-Bool.exists_bool, aop, hk1]; first | ((try simp (disch := omega) only [wrap64]); refine hK _ ?_; clear hK K))
        | ((with_reducible refine idp (p := awpL _ _ (_ :: _) _ _) ?_); refine awpL_take rfl ?_ ?_; (focus (simp [guardA, hk1]; done)); intro K hK; simp [-Bool.exists_bool, aop, hk1]; first | ((try simp (disch := omega) only [wrap64]); refine hK _ ?_; clear hK K))
        | ((with_reducible refine idp (p := awpL _ _ (_ :: _) _ _) ?_); refine awpL_skip rfl ?_ ?_; (focus (simp [guardA, hk1]; done)); simp only [AS.put, List.set_cons_succ, List.set_cons_zero])
        | ((with_reducible refine idp (p := awpL _ _ (_ :: _) _ _) ?_); refine awpL_split rfl rfl rfl (fun hc => ?_) (fun hc => ?_) <;> simp only [List.set_cons_succ, List.set_cons_zero])
        | ((with_reducible refine idp (p := dwalk _ _ _ _ _ _ (_ :: _) _ _) ?_); refine dwalk_cons rfl rfl (by simp [Region.binds]; rfl) (by decide) (by simp [Region.binds]; rfl) (by simp; rfl) fun K hK => ?_; simp [-Bool.exists_bool, aop, hk1]; first | ((try simp (disch := omega) only [wrap64]); refine hK _ (by simp) ?_; clear hK K; simp))
        | ((with_reducible refine idp (p := awpL _ _ [] _ _) ?_); refine awpL_nil ?_)
        | ((with_reducible refine idp (p := awp _ (.region _ _ true) _ _) ?_); refine awp_drawn (by decide) ?_)
        | ((with_reducible refine idp (p := dwalk _ _ _ _ _ _ [] _ _) ?_); refine dwalk_nil (by simp; rfl) (by simp; rfl) ?_)
        | ((with_reducible refine idp (p := awp _ (.seq _ _) _ _) ?_); refine awp_seq fun K hK => ?_)
        | ((with_reducible refine idp (p := awp _ (.region _ _ false) _ _) ?_); refine awp_region ?_)
        | ((with_reducible refine idp (p := AThen _ _ .normal _) ?_); refine awp_then (by assumption) ?_)
        | ((with_reducible refine idp (p := AThen _ _ .ret _) ?_); refine awp_then_ret ?_)
        | ((with_reducible refine idp (p := AThen _ _ (.exit _) _) ?_); refine awp_then_exit ?_)
        | ((with_reducible refine idp (p := AIn _ _ .normal _) ?_); refine awp_in_normal ?_)
        | ((with_reducible refine idp (p := AIn _ _ .ret _) ?_); refine awp_in_ret ?_)
        | ((with_reducible refine idp (p := AIn _ _ (.exit _) _) ?_); first | refine awp_in_eq ?_ | refine awp_in_ne (by decide) ?_)
        | ((with_reducible refine idp (p := awp _ .ret _ _) ?_); refine awp_ret ?_)
        | ((with_reducible refine idp (p := awp _ (.cond _ _ _) _ _) ?_); (refine awp_cond rfl (fun hc => ?_) (fun hc => ?_) <;> (try simp at hc) <;> (try (exfalso; omega))))
        | ((with_reducible refine idp (p := awp _ (.block _ _) _ _) ?_); refine awp_block ?_)
        | ((with_reducible refine idp (p := awp _ (.exit _) _ _) ?_); refine awp_exit ?_)
        | ((with_reducible refine idp (p := awp _ .skip _ _) ?_); refine awp_skip ?_))
      all_goals (try (refine ⟨.inr rfl, ?_⟩; simp [Hands, Try.results73, szL]))
      all_goals (repeat clear hK K)
      have : k = l.length := by omega
      subst this
      rw [List.take_length] at *
      rw [sub_pos (by omega)]
      omega

theorem eqNodeS_ok (a b : List DNode) (hs : szL szNode a ≤ 1048576) : Ok Try.prog 83 [.sl .view 4 (a.map (eNode .view)), .sl .view 4 (b.map (eNode .view))] (.bool (decide (a = b))) := by
  have hl : a.length ≤ 1048576 := by (try simp only [szL] at hs); omega
  refine ok_of_awp Try.mix Try.func83 rfl ?_
  simp only [Try.ntmps83, List.length_cons, List.length_nil, Nat.reduceSub, Nat.reduceAdd, List.replicate_succ, List.replicate_zero, List.cons_append, List.nil_append]
  repeat' (first
    | ((with_reducible refine idp (p := awpL _ _ (_ :: _) _ _) ?_); refine awpL_cons rfl fun K hK => ?_; simp [-Bool.exists_bool, aop]; first | ((try simp (disch := omega) only [wrap64]); refine hK _ ?_; clear hK K))
    | ((with_reducible refine idp (p := awpL _ _ (_ :: _) _ _) ?_); refine awpL_take rfl ?_ ?_; (focus (simp [guardA]; done)); intro K hK; simp [-Bool.exists_bool, aop]; first | ((try simp (disch := omega) only [wrap64]); refine hK _ ?_; clear hK K))
    | ((with_reducible refine idp (p := awpL _ _ (_ :: _) _ _) ?_); refine awpL_skip rfl ?_ ?_; (focus (simp [guardA]; done)); simp only [AS.put, List.set_cons_succ, List.set_cons_zero])
    | ((with_reducible refine idp (p := awpL _ _ (_ :: _) _ _) ?_); refine awpL_split rfl rfl rfl (fun hc => ?_) (fun hc => ?_) <;> simp only [List.set_cons_succ, List.set_cons_zero])
    | ((with_reducible refine idp (p := dwalk _ _ _ _ _ _ (_ :: _) _ _) ?_); refine dwalk_cons rfl rfl (by simp [Region.binds]; rfl) (by decide) (by simp [Region.binds]; rfl) (by simp; rfl) fun K hK => ?_; simp [-Bool.exists_bool, aop]; first | ((try simp (disch := omega) only [wrap64]); refine hK _ (by simp) ?_; clear hK K; simp))
    | ((with_reducible refine idp (p := awpL _ _ [] _ _) ?_); refine awpL_nil ?_)
    | ((with_reducible refine idp (p := awp _ (.region _ _ true) _ _) ?_); refine awp_drawn (by decide) ?_)
    | ((with_reducible refine idp (p := dwalk _ _ _ _ _ _ [] _ _) ?_); refine dwalk_nil (by simp; rfl) (by simp; rfl) ?_)
    | ((with_reducible refine idp (p := awp _ (.seq _ _) _ _) ?_); refine awp_seq fun K hK => ?_)
    | ((with_reducible refine idp (p := awp _ (.region _ _ false) _ _) ?_); refine awp_region ?_)
    | ((with_reducible refine idp (p := AThen _ _ .normal _) ?_); refine awp_then (by assumption) ?_)
    | ((with_reducible refine idp (p := AThen _ _ .ret _) ?_); refine awp_then_ret ?_)
    | ((with_reducible refine idp (p := AThen _ _ (.exit _) _) ?_); refine awp_then_exit ?_)
    | ((with_reducible refine idp (p := AIn _ _ .normal _) ?_); refine awp_in_normal ?_)
    | ((with_reducible refine idp (p := AIn _ _ .ret _) ?_); refine awp_in_ret ?_)
    | ((with_reducible refine idp (p := AIn _ _ (.exit _) _) ?_); first | refine awp_in_eq ?_ | refine awp_in_ne (by decide) ?_)
    | ((with_reducible refine idp (p := awp _ .ret _ _) ?_); refine awp_ret ?_)
    | ((with_reducible refine idp (p := awp _ (.cond _ _ _) _ _) ?_); (refine awp_cond rfl (fun hc => ?_) (fun hc => ?_) <;> (try simp at hc) <;> (try (exfalso; omega))))
    | ((with_reducible refine idp (p := awp _ (.block _ _) _ _) ?_); refine awp_block ?_)
    | ((with_reducible refine idp (p := awp _ (.exit _) _ _) ?_); refine awp_exit ?_)
    | ((with_reducible refine idp (p := awp _ .skip _ _) ?_); refine awp_skip ?_))
  · all_goals (try (refine ⟨.inr rfl, ?_⟩; simp [Hands, Try.results83]))
    all_goals (repeat clear hK K)
    intro h; subst h; exact absurd rfl hc
  · have hlen : a.length = b.length := by omega
    refine awp_loop' (ι := { k : Nat // k ≤ a.length ∧ a.take k = b.take k }) (fun t o i => ⟨upds t [(5, .int .i64 i.1)], []⟩)
      (fun i => a.length - i.1) ⟨0, by simp⟩ (weak_o (by simp) (by simp)) ?_
    rintro ⟨k, hk, hpre⟩ K1 hK1
    simp only [upds, List.set_cons_succ, List.set_cons_zero] at hK1 ⊢
    have hk1 : IntKind.i64.wrap ((k : Int) + 1) = ((k + 1 : Nat) : Int) := by rw [wrap64] <;> omega
    by_cases hlt : k < a.length
    · have hg := List.getElem?_eq_getElem hlt
      have hltb : k < b.length := by omega
      have hgb := List.getElem?_eq_getElem hltb
      repeat' (first
        | ((with_reducible refine idp (p := awpL _ _ (_ :: _) _ _) ?_); refine awpL_cons rfl fun K hK => ?_; simp [-Bool.exists_bool, aop, hk1, hg, hlt, hgb, hltb]; first | (refine ⟨_, (eqNode_ok a[k] b[k] (by have := sumN_get_le szNode a k hlt; (try simp only [szL] at hs); omega)), hK _ ?_⟩; clear hK K; (try simp only [absorb_eq, absorbc_eq, absV, absVc, absO, absOc, absN, absNc, List.append_nil, List.nil_append, List.cons_append, List.length_cons, List.length_nil, Nat.add_zero, Nat.zero_add, Nat.reduceAdd])) | ((try simp (disch := omega) only [wrap64]); refine hK _ ?_; clear hK K))
        | ((with_reducible refine idp (p := awpL _ _ (_ :: _) _ _) ?_); refine awpL_take rfl ?_ ?_; (focus (simp [guardA, hk1, hg, hlt, hgb, hltb]; done)); intro K hK; simp [-Bool.exists_bool, aop, hk1, hg, hlt, hgb, hltb]; first | (refine ⟨_, (eqNode_ok a[k] b[k] (by have := sumN_get_le szNode a k hlt; (try simp only [szL] at hs); omega)), hK _ ?_⟩; clear hK K; (try simp only [absorb_eq, absorbc_eq, absV, absVc, absO, absOc, absN, absNc, List.append_nil, List.nil_append, List.cons_append, List.length_cons, List.length_nil, Nat.add_zero, Nat.zero_add, Nat.reduceAdd])) | ((try simp (disch := omega) only [wrap64]); refine hK _ ?_; clear hK K))
        | ((with_reducible refine idp (p := awpL _ _ (_ :: _) _ _) ?_); refine awpL_skip rfl ?_ ?_; (focus (simp [guardA, hk1, hg, hlt, hgb, hltb]; done)); simp only [AS.put, List.set_cons_succ, List.set_cons_zero])
        | ((with_reducible refine idp (p := awpL _ _ (_ :: _) _ _) ?_); refine awpL_split rfl rfl rfl (fun hc => ?_) (fun hc => ?_) <;> simp only [List.set_cons_succ, List.set_cons_zero])
        | ((with_reducible refine idp (p := dwalk _ _ _ _ _ _ (_ :: _) _ _) ?_); refine dwalk_cons rfl rfl (by simp [Region.binds]; rfl) (by decide) (by simp [Region.binds]; rfl) (by simp; rfl) fun K hK => ?_; simp [-Bool.exists_bool, aop, hk1, hg, hlt, hgb, hltb]; first | (refine ⟨_, (eqNode_ok a[k] b[k] (by have := sumN_get_le szNode a k hlt; (try simp only [szL] at hs); omega)), hK _ (by simp) ?_⟩; clear hK K; simp only [dval, absorb_eq, absorbc_eq, absV, absVc, absO, absOc, absN, absNc, List.append_nil, Nat.add_zero, Nat.zero_add, Nat.reduceAdd, List.length_cons, List.length_nil, List.cons_append, List.nil_append]) | ((try simp (disch := omega) only [wrap64]); refine hK _ (by simp) ?_; clear hK K; simp))
        | ((with_reducible refine idp (p := awpL _ _ [] _ _) ?_); refine awpL_nil ?_)
        | ((with_reducible refine idp (p := awp _ (.region _ _ true) _ _) ?_); refine awp_drawn (by decide) ?_)
        | ((with_reducible refine idp (p := dwalk _ _ _ _ _ _ [] _ _) ?_); refine dwalk_nil (by simp; rfl) (by simp; rfl) ?_)
        | ((with_reducible refine idp (p := awp _ (.seq _ _) _ _) ?_); refine awp_seq fun K hK => ?_)
        | ((with_reducible refine idp (p := awp _ (.region _ _ false) _ _) ?_); refine awp_region ?_)
        | ((with_reducible refine idp (p := AThen _ _ .normal _) ?_); refine awp_then (by assumption) ?_)
        | ((with_reducible refine idp (p := AThen _ _ .ret _) ?_); refine awp_then_ret ?_)
        | ((with_reducible refine idp (p := AThen _ _ (.exit _) _) ?_); refine awp_then_exit ?_)
        | ((with_reducible refine idp (p := AIn _ _ .normal _) ?_); refine awp_in_normal ?_)
        | ((with_reducible refine idp (p := AIn _ _ .ret _) ?_); refine awp_in_ret ?_)
        | ((with_reducible refine idp (p := AIn _ _ (.exit _) _) ?_); first | refine awp_in_eq ?_ | refine awp_in_ne (by decide) ?_)
        | ((with_reducible refine idp (p := awp _ .ret _ _) ?_); refine awp_ret ?_)
        | ((with_reducible refine idp (p := awp _ (.cond _ _ _) _ _) ?_); (refine awp_cond rfl (fun hc => ?_) (fun hc => ?_) <;> (try simp at hc) <;> (try (exfalso; omega))))
        | ((with_reducible refine idp (p := awp _ (.block _ _) _ _) ?_); refine awp_block ?_)
        | ((with_reducible refine idp (p := awp _ (.exit _) _ _) ?_); refine awp_exit ?_)
        | ((with_reducible refine idp (p := awp _ .skip _ _) ?_); refine awp_skip ?_))
      · all_goals (try (refine ⟨.inr rfl, ?_⟩; simp [Hands, Try.results83]))
        all_goals (repeat clear hK K)
        intro h; subst h; exact hc rfl
      · have hts : a.take (k + 1) = b.take (k + 1) := by
          rw [List.take_succ_eq_append_getElem hlt, List.take_succ_eq_append_getElem hltb, hpre, hc]
        refine hK1 _ ⟨k + 1, by omega, hts⟩ (weak_o (by simp) (by simp)) (by simp only; omega)
    · have hka : a.length ≤ k := by omega
      rw [List.take_of_length_le hka, List.take_of_length_le (by omega)] at hpre
      subst hpre
      repeat' (first
        | ((with_reducible refine idp (p := awpL _ _ (_ :: _) _ _) ?_); refine awpL_cons rfl fun K hK => ?_; simp [-Bool.exists_bool, aop, hk1]; first | ((try simp (disch := omega) only [wrap64]); refine hK _ ?_; clear hK K))
        | ((with_reducible refine idp (p := awpL _ _ (_ :: _) _ _) ?_); refine awpL_take rfl ?_ ?_; (focus (simp [guardA, hk1]; done)); intro K hK; simp [-Bool.exists_bool, aop, hk1]; first | ((try simp (disch := omega) only [wrap64]); refine hK _ ?_; clear hK K))
        | ((with_reducible refine idp (p := awpL _ _ (_ :: _) _ _) ?_); refine awpL_skip rfl ?_ ?_; (focus (simp [guardA, hk1]; done)); simp only [AS.put, List.set_cons_succ, List.set_cons_zero])
        | ((with_reducible refine idp (p := awpL _ _ (_ :: _) _ _) ?_); refine awpL_split rfl rfl rfl (fun hc => ?_) (fun hc => ?_) <;> simp only [List.set_cons_succ, List.set_cons_zero])
        | ((with_reducible refine idp (p := dwalk _ _ _ _ _ _ (_ :: _) _ _) ?_); refine dwalk_cons rfl rfl (by simp [Region.binds]; rfl) (by decide) (by simp [Region.binds]; rfl) (by simp; rfl) fun K hK => ?_; simp [-Bool.exists_bool, aop, hk1]; first | ((try simp (disch := omega) only [wrap64]); refine hK _ (by simp) ?_; clear hK K; simp))
        | ((with_reducible refine idp (p := awpL _ _ [] _ _) ?_); refine awpL_nil ?_)
        | ((with_reducible refine idp (p := awp _ (.region _ _ true) _ _) ?_); refine awp_drawn (by decide) ?_)
        | ((with_reducible refine idp (p := dwalk _ _ _ _ _ _ [] _ _) ?_); refine dwalk_nil (by simp; rfl) (by simp; rfl) ?_)
        | ((with_reducible refine idp (p := awp _ (.seq _ _) _ _) ?_); refine awp_seq fun K hK => ?_)
        | ((with_reducible refine idp (p := awp _ (.region _ _ false) _ _) ?_); refine awp_region ?_)
        | ((with_reducible refine idp (p := AThen _ _ .normal _) ?_); refine awp_then (by assumption) ?_)
        | ((with_reducible refine idp (p := AThen _ _ .ret _) ?_); refine awp_then_ret ?_)
        | ((with_reducible refine idp (p := AThen _ _ (.exit _) _) ?_); refine awp_then_exit ?_)
        | ((with_reducible refine idp (p := AIn _ _ .normal _) ?_); refine awp_in_normal ?_)
        | ((with_reducible refine idp (p := AIn _ _ .ret _) ?_); refine awp_in_ret ?_)
        | ((with_reducible refine idp (p := AIn _ _ (.exit _) _) ?_); first | refine awp_in_eq ?_ | refine awp_in_ne (by decide) ?_)
        | ((with_reducible refine idp (p := awp _ .ret _ _) ?_); refine awp_ret ?_)
        | ((with_reducible refine idp (p := awp _ (.cond _ _ _) _ _) ?_); (refine awp_cond rfl (fun hc => ?_) (fun hc => ?_) <;> (try simp at hc) <;> (try (exfalso; omega))))
        | ((with_reducible refine idp (p := awp _ (.block _ _) _ _) ?_); refine awp_block ?_)
        | ((with_reducible refine idp (p := awp _ (.exit _) _ _) ?_); refine awp_exit ?_)
        | ((with_reducible refine idp (p := awp _ .skip _ _) ?_); refine awp_skip ?_))
      all_goals (try (refine ⟨.inr rfl, ?_⟩; simp [Hands, Try.results83]))
      all_goals (repeat clear hK K)

theorem toSlotS_ok (l : List DSlot) (hs : szL szSlot l ≤ 1048576) : Ok Try.prog 48 [.sl .view 8 (l.map eSlot)] (.sl .own 8 (l.map eSlot)) := by
  have hl : l.length ≤ 1048576 := by (try simp only [szL] at hs); omega
  have hb : (96 : Int) * (l.length : Int) ≤ 281474976710656 := by omega
  have hb2 : (l.length : Int) ≤ 9223372036854775807 := by omega
  generalize hz : ([.int .i64 0, .str [], .str [], .str [], .int .i64 0, .bool false, .int .i64 0, .str []] : List AV) = z
  have hz0 := fillL_zero z (l.map eSlot)
  rw [List.length_map] at hz0
  refine ok_of_awp Try.mix Try.func48 rfl ?_
  simp only [Try.ntmps48, List.length_cons, List.length_nil, Nat.reduceSub, Nat.reduceAdd, List.replicate_succ, List.replicate_zero, List.cons_append, List.nil_append]
  repeat' (first
    | ((with_reducible refine idp (p := awpL _ _ (_ :: _) _ _) ?_); refine awpL_cons rfl fun K hK => ?_; simp [-Bool.exists_bool, aop, hb, hb2]; first | ((try simp (disch := omega) only [wrap64]); refine hK _ ?_; clear hK K))
    | ((with_reducible refine idp (p := awpL _ _ (_ :: _) _ _) ?_); refine awpL_take rfl ?_ ?_; (focus (simp [guardA, hb, hb2]; done)); intro K hK; simp [-Bool.exists_bool, aop, hb, hb2]; first | ((try simp (disch := omega) only [wrap64]); refine hK _ ?_; clear hK K))
    | ((with_reducible refine idp (p := awpL _ _ (_ :: _) _ _) ?_); refine awpL_skip rfl ?_ ?_; (focus (simp [guardA, hb, hb2]; done)); simp only [AS.put, List.set_cons_succ, List.set_cons_zero])
    | ((with_reducible refine idp (p := awpL _ _ (_ :: _) _ _) ?_); refine awpL_split rfl rfl rfl (fun hc => ?_) (fun hc => ?_) <;> simp only [List.set_cons_succ, List.set_cons_zero])
    | ((with_reducible refine idp (p := dwalk _ _ _ _ _ _ (_ :: _) _ _) ?_); refine dwalk_cons rfl rfl (by simp [Region.binds]; rfl) (by decide) (by simp [Region.binds]; rfl) (by simp; rfl) fun K hK => ?_; simp [-Bool.exists_bool, aop, hb, hb2]; first | ((try simp (disch := omega) only [wrap64]); refine hK _ (by simp) ?_; clear hK K; simp))
    | ((with_reducible refine idp (p := awpL _ _ [] _ _) ?_); refine awpL_nil ?_)
    | ((with_reducible refine idp (p := awp _ (.region _ _ true) _ _) ?_); refine awp_drawn (by decide) ?_)
    | ((with_reducible refine idp (p := dwalk _ _ _ _ _ _ [] _ _) ?_); refine dwalk_nil (by simp; rfl) (by simp; rfl) ?_)
    | ((with_reducible refine idp (p := awp _ (.seq _ _) _ _) ?_); refine awp_seq fun K hK => ?_)
    | ((with_reducible refine idp (p := awp _ (.region _ _ false) _ _) ?_); refine awp_region ?_)
    | ((with_reducible refine idp (p := AThen _ _ .normal _) ?_); refine awp_then (by assumption) ?_)
    | ((with_reducible refine idp (p := AThen _ _ .ret _) ?_); refine awp_then_ret ?_)
    | ((with_reducible refine idp (p := AThen _ _ (.exit _) _) ?_); refine awp_then_exit ?_)
    | ((with_reducible refine idp (p := AIn _ _ .normal _) ?_); refine awp_in_normal ?_)
    | ((with_reducible refine idp (p := AIn _ _ .ret _) ?_); refine awp_in_ret ?_)
    | ((with_reducible refine idp (p := AIn _ _ (.exit _) _) ?_); first | refine awp_in_eq ?_ | refine awp_in_ne (by decide) ?_)
    | ((with_reducible refine idp (p := awp _ .ret _ _) ?_); refine awp_ret ?_)
    | ((with_reducible refine idp (p := awp _ (.cond _ _ _) _ _) ?_); (refine awp_cond rfl (fun hc => ?_) (fun hc => ?_) <;> (try simp at hc) <;> (try (exfalso; omega))))
    | ((with_reducible refine idp (p := awp _ (.block _ _) _ _) ?_); refine awp_block ?_)
    | ((with_reducible refine idp (p := awp _ (.exit _) _ _) ?_); refine awp_exit ?_)
    | ((with_reducible refine idp (p := awp _ .skip _ _) ?_); refine awp_skip ?_))
  refine awp_loop' (ι := { k : Nat // k ≤ l.length }) (fun t o i => ⟨upds t [(4, .int .i64 i.1)], [⟨true, false, 8, 1, fillL z (l.map eSlot) i.1⟩]⟩)
    (fun i => l.length - i.1) ⟨0, by simp⟩ (weak_o (by simp [hz, hz0]) (by simp)) ?_
  rintro ⟨k, hk⟩ K1 hK1
  simp only [upds, List.set_cons_succ, List.set_cons_zero] at hK1 ⊢
  have hk1 : IntKind.i64.wrap ((k : Int) + 1) = ((k + 1 : Nat) : Int) := by rw [wrap64] <;> omega
  by_cases hlt : k < l.length
  · have hg := List.getElem?_eq_getElem hlt
    have hfg := fillL_get z (l.map eSlot) k (by simpa using hlt)
    have hfs := fillL_set z (l.map eSlot) k (by simpa using hlt)
    rw [List.getElem_map] at hfs
    simp only [eSlot] at hfs
    have hzl : z.length = 8 := by rw [← hz]; rfl
    have hzd : z.drop 8 = [] := by rw [← hz]; rfl
    repeat' (first
      | ((with_reducible refine idp (p := awpL _ _ (_ :: _) _ _) ?_); refine awpL_cons rfl fun K hK => ?_; simp [-Bool.exists_bool, aop, hk1, hg, hfg, hzl, hzd, hfs]; first | (refine ⟨_, (toSlot_ok l[k] (by have := sumN_get_le szSlot l k hlt; (try simp only [szL] at hs); omega)), hK _ ?_⟩; clear hK K; (try simp only [absorb_eq, absorbc_eq, absV, absVc, absO, absOc, absN, absNc, List.append_nil, List.nil_append, List.cons_append, List.length_cons, List.length_nil, Nat.add_zero, Nat.zero_add, Nat.reduceAdd])) | ((try simp (disch := omega) only [wrap64]); refine hK _ ?_; clear hK K))
      | ((with_reducible refine idp (p := awpL _ _ (_ :: _) _ _) ?_); refine awpL_cons rfl fun K hK => ?_; simp [-Bool.exists_bool, aop, hk1, hg, hlt]; first | (refine ⟨_, (toSlot_ok l[k] (by have := sumN_get_le szSlot l k hlt; (try simp only [szL] at hs); omega)), hK _ ?_⟩; clear hK K; (try simp only [absorb_eq, absorbc_eq, absV, absVc, absO, absOc, absN, absNc, List.append_nil, List.nil_append, List.cons_append, List.length_cons, List.length_nil, Nat.add_zero, Nat.zero_add, Nat.reduceAdd])) | ((try simp (disch := omega) only [wrap64]); refine hK _ ?_; clear hK K))
      | ((with_reducible refine idp (p := awpL _ _ (_ :: _) _ _) ?_); refine awpL_take rfl ?_ ?_; (focus (simp [guardA, hk1, hg, hfg, hzl, hzd, hfs]; done)); intro K hK; simp [-Bool.exists_bool, aop, hk1, hg, hfg, hzl, hzd, hfs]; first | (refine ⟨_, (toSlot_ok l[k] (by have := sumN_get_le szSlot l k hlt; (try simp only [szL] at hs); omega)), hK _ ?_⟩; clear hK K; (try simp only [absorb_eq, absorbc_eq, absV, absVc, absO, absOc, absN, absNc, List.append_nil, List.nil_append, List.cons_append, List.length_cons, List.length_nil, Nat.add_zero, Nat.zero_add, Nat.reduceAdd])) | ((try simp (disch := omega) only [wrap64]); refine hK _ ?_; clear hK K))
      | ((with_reducible refine idp (p := awpL _ _ (_ :: _) _ _) ?_); refine awpL_take rfl ?_ ?_; (focus (simp [guardA, hk1, hg, hlt]; done)); intro K hK; simp [-Bool.exists_bool, aop, hk1, hg, hlt]; first | (refine ⟨_, (toSlot_ok l[k] (by have := sumN_get_le szSlot l k hlt; (try simp only [szL] at hs); omega)), hK _ ?_⟩; clear hK K; (try simp only [absorb_eq, absorbc_eq, absV, absVc, absO, absOc, absN, absNc, List.append_nil, List.nil_append, List.cons_append, List.length_cons, List.length_nil, Nat.add_zero, Nat.zero_add, Nat.reduceAdd])) | ((try simp (disch := omega) only [wrap64]); refine hK _ ?_; clear hK K))
      | ((with_reducible refine idp (p := awpL _ _ (_ :: _) _ _) ?_); refine awpL_skip rfl ?_ ?_; (focus (simp [guardA, hk1, hg, hlt]; done)); simp only [AS.put, List.set_cons_succ, List.set_cons_zero])
      | ((with_reducible refine idp (p := awpL _ _ (_ :: _) _ _) ?_); refine awpL_split rfl rfl rfl (fun hc => ?_) (fun hc => ?_) <;> simp only [List.set_cons_succ, List.set_cons_zero])
      | ((with_reducible refine idp (p := dwalk _ _ _ _ _ _ (_ :: _) _ _) ?_); refine dwalk_cons rfl rfl (by simp [Region.binds]; rfl) (by decide) (by simp [Region.binds]; rfl) (by simp; rfl) fun K hK => ?_; simp [-Bool.exists_bool, aop, hk1, hg, hfg, hzl, hzd, hfs]; first | (refine ⟨_, (toSlot_ok l[k] (by have := sumN_get_le szSlot l k hlt; (try simp only [szL] at hs); omega)), hK _ (by simp) ?_⟩; clear hK K; simp only [dval, absorb_eq, absorbc_eq, absV, absVc, absO, absOc, absN, absNc, List.append_nil, Nat.add_zero, Nat.zero_add, Nat.reduceAdd, List.length_cons, List.length_nil, List.cons_append, List.nil_append]) | ((try simp (disch := omega) only [wrap64]); refine hK _ (by simp) ?_; clear hK K; simp))
      | ((with_reducible refine idp (p := dwalk _ _ _ _ _ _ (_ :: _) _ _) ?_); refine dwalk_cons rfl rfl (by simp [Region.binds]; rfl) (by decide) (by simp [Region.binds]; rfl) (by simp; rfl) fun K hK => ?_; simp [-Bool.exists_bool, aop, hk1, hg, hlt]; first | (refine ⟨_, (toSlot_ok l[k] (by have := sumN_get_le szSlot l k hlt; (try simp only [szL] at hs); omega)), hK _ (by simp) ?_⟩; clear hK K; simp only [dval, absorb_eq, absorbc_eq, absV, absVc, absO, absOc, absN, absNc, List.append_nil, Nat.add_zero, Nat.zero_add, Nat.reduceAdd, List.length_cons, List.length_nil, List.cons_append, List.nil_append]) | ((try simp (disch := omega) only [wrap64]); refine hK _ (by simp) ?_; clear hK K; simp))
      | ((with_reducible refine idp (p := awpL _ _ [] _ _) ?_); refine awpL_nil ?_)
      | ((with_reducible refine idp (p := awp _ (.region _ _ true) _ _) ?_); refine awp_drawn (by decide) ?_)
      | ((with_reducible refine idp (p := dwalk _ _ _ _ _ _ [] _ _) ?_); refine dwalk_nil (by simp; rfl) (by simp; rfl) ?_)
      | ((with_reducible refine idp (p := awp _ (.seq _ _) _ _) ?_); refine awp_seq fun K hK => ?_)
      | ((with_reducible refine idp (p := awp _ (.region _ _ false) _ _) ?_); refine awp_region ?_)
      | ((with_reducible refine idp (p := AThen _ _ .normal _) ?_); refine awp_then (by assumption) ?_)
      | ((with_reducible refine idp (p := AThen _ _ .ret _) ?_); refine awp_then_ret ?_)
      | ((with_reducible refine idp (p := AThen _ _ (.exit _) _) ?_); refine awp_then_exit ?_)
      | ((with_reducible refine idp (p := AIn _ _ .normal _) ?_); refine awp_in_normal ?_)
      | ((with_reducible refine idp (p := AIn _ _ .ret _) ?_); refine awp_in_ret ?_)
      | ((with_reducible refine idp (p := AIn _ _ (.exit _) _) ?_); first | refine awp_in_eq ?_ | refine awp_in_ne (by decide) ?_)
      | ((with_reducible refine idp (p := awp _ .ret _ _) ?_); refine awp_ret ?_)
      | ((with_reducible refine idp (p := awp _ (.cond _ _ _) _ _) ?_); (refine awp_cond rfl (fun hc => ?_) (fun hc => ?_) <;> (try simp at hc) <;> (try (exfalso; omega))))
      | ((with_reducible refine idp (p := awp _ (.block _ _) _ _) ?_); refine awp_block ?_)
      | ((with_reducible refine idp (p := awp _ (.exit _) _ _) ?_); refine awp_exit ?_)
      | ((with_reducible refine idp (p := awp _ .skip _ _) ?_); refine awp_skip ?_))
    refine hK1 _ ⟨k + 1, by omega⟩ (weak_take 1 rfl ?_ (by simp) (by simp)) (by simp only; omega)
    simp
  · repeat' (first
      | ((with_reducible refine idp (p := awpL _ _ (_ :: _) _ _) ?_); refine awpL_cons rfl fun K hK => ?_; simp [-Bool.exists_bool, aop, hk1]; first | ((try simp (disch := omega) only [wrap64]); refine hK _ ?_; clear hK K))
      | ((with_reducible refine idp (p := awpL _ _ (_ :: _) _ _) ?_); refine awpL_take rfl ?_ ?_; (focus (simp [guardA, hk1]; done)); intro K hK; simp [-Bool.exists_bool, aop, hk1]; first | ((try simp (disch := omega) only [wrap64]); refine hK _ ?_; clear hK K))
      | ((with_reducible refine idp (p := awpL _ _ (_ :: _) _ _) ?_); refine awpL_skip rfl ?_ ?_; (focus (simp [guardA, hk1]; done)); simp only [AS.put, List.set_cons_succ, List.set_cons_zero])
      | ((with_reducible refine idp (p := awpL _ _ (_ :: _) _ _) ?_); refine awpL_split rfl rfl rfl (fun hc => ?_) (fun hc => ?_) <;> simp only [List.set_cons_succ, List.set_cons_zero])
      | ((with_reducible refine idp (p := dwalk _ _ _ _ _ _ (_ :: _) _ _) ?_); refine dwalk_cons rfl rfl (by simp [Region.binds]; rfl) (by decide) (by simp [Region.binds]; rfl) (by simp; rfl) fun K hK => ?_; simp [-Bool.exists_bool, aop, hk1]; first | ((try simp (disch := omega) only [wrap64]); refine hK _ (by simp) ?_; clear hK K; simp))
      | ((with_reducible refine idp (p := awpL _ _ [] _ _) ?_); refine awpL_nil ?_)
      | ((with_reducible refine idp (p := awp _ (.region _ _ true) _ _) ?_); refine awp_drawn (by decide) ?_)
      | ((with_reducible refine idp (p := dwalk _ _ _ _ _ _ [] _ _) ?_); refine dwalk_nil (by simp; rfl) (by simp; rfl) ?_)
      | ((with_reducible refine idp (p := awp _ (.seq _ _) _ _) ?_); refine awp_seq fun K hK => ?_)
      | ((with_reducible refine idp (p := awp _ (.region _ _ false) _ _) ?_); refine awp_region ?_)
      | ((with_reducible refine idp (p := AThen _ _ .normal _) ?_); refine awp_then (by assumption) ?_)
      | ((with_reducible refine idp (p := AThen _ _ .ret _) ?_); refine awp_then_ret ?_)
      | ((with_reducible refine idp (p := AThen _ _ (.exit _) _) ?_); refine awp_then_exit ?_)
      | ((with_reducible refine idp (p := AIn _ _ .normal _) ?_); refine awp_in_normal ?_)
      | ((with_reducible refine idp (p := AIn _ _ .ret _) ?_); refine awp_in_ret ?_)
      | ((with_reducible refine idp (p := AIn _ _ (.exit _) _) ?_); first | refine awp_in_eq ?_ | refine awp_in_ne (by decide) ?_)
      | ((with_reducible refine idp (p := awp _ .ret _ _) ?_); refine awp_ret ?_)
      | ((with_reducible refine idp (p := awp _ (.cond _ _ _) _ _) ?_); (refine awp_cond rfl (fun hc => ?_) (fun hc => ?_) <;> (try simp at hc) <;> (try (exfalso; omega))))
      | ((with_reducible refine idp (p := awp _ (.block _ _) _ _) ?_); refine awp_block ?_)
      | ((with_reducible refine idp (p := awp _ (.exit _) _ _) ?_); refine awp_exit ?_)
      | ((with_reducible refine idp (p := awp _ .skip _ _) ?_); refine awp_skip ?_))
    have hfa := fillL_all z (l.map eSlot) k (by simpa using hlt)
    all_goals (try (refine ⟨.inr rfl, ?_⟩; simp [Hands, Try.results48, hfa]))
    all_goals (repeat clear hK K)

theorem szSlotS_ok (l : List DSlot) (n : Int) (h0 : 0 ≤ n) (h1 : n ≤ 1048576) (hw : l.length ≤ 9223372036854775807 ∧ ∀ y ∈ l, wfSlot y) : Ok Try.prog 40 [.sl .view 8 (l.map eSlot), .int .i64 n] (.int .i64 (sub n (szL szSlot l))) := by
  obtain ⟨hl, hw⟩ := hw
  refine ok_of_awp Try.mix Try.func40 rfl ?_
  simp only [Try.ntmps40, List.length_cons, List.length_nil, Nat.reduceSub, Nat.reduceAdd, List.replicate_succ, List.replicate_zero, List.cons_append, List.nil_append]
  repeat' (first
    | ((with_reducible refine idp (p := awpL _ _ (_ :: _) _ _) ?_); refine awpL_cons rfl fun K hK => ?_; simp [-Bool.exists_bool, aop]; first | ((try simp (disch := omega) only [wrap64]); refine hK _ ?_; clear hK K))
    | ((with_reducible refine idp (p := awpL _ _ (_ :: _) _ _) ?_); refine awpL_take rfl ?_ ?_; (focus (simp [guardA]; done)); intro K hK; simp [-Bool.exists_bool, aop]; first | ((try simp (disch := omega) only [wrap64]); refine hK _ ?_; clear hK K))
    | ((with_reducible refine idp (p := awpL _ _ (_ :: _) _ _) ?_); refine awpL_skip rfl ?_ ?_; (focus (simp [guardA]; done)); simp only [AS.put, List.set_cons_succ, List.set_cons_zero])
    | ((with_reducible refine idp (p := awpL _ _ (_ :: _) _ _) ?_); refine awpL_split rfl rfl rfl (fun hc => ?_) (fun hc => ?_) <;> simp only [List.set_cons_succ, List.set_cons_zero])
    | ((with_reducible refine idp (p := dwalk _ _ _ _ _ _ (_ :: _) _ _) ?_); refine dwalk_cons rfl rfl (by simp [Region.binds]; rfl) (by decide) (by simp [Region.binds]; rfl) (by simp; rfl) fun K hK => ?_; simp [-Bool.exists_bool, aop]; first | ((try simp (disch := omega) only [wrap64]); refine hK _ (by simp) ?_; clear hK K; simp))
    | ((with_reducible refine idp (p := awpL _ _ [] _ _) ?_); refine awpL_nil ?_)
    | ((with_reducible refine idp (p := awp _ (.region _ _ true) _ _) ?_); refine awp_drawn (by decide) ?_)
    | ((with_reducible refine idp (p := dwalk _ _ _ _ _ _ [] _ _) ?_); refine dwalk_nil (by simp; rfl) (by simp; rfl) ?_)
    | ((with_reducible refine idp (p := awp _ (.seq _ _) _ _) ?_); refine awp_seq fun K hK => ?_)
    | ((with_reducible refine idp (p := awp _ (.region _ _ false) _ _) ?_); refine awp_region ?_)
    | ((with_reducible refine idp (p := AThen _ _ .normal _) ?_); refine awp_then (by assumption) ?_)
    | ((with_reducible refine idp (p := AThen _ _ .ret _) ?_); refine awp_then_ret ?_)
    | ((with_reducible refine idp (p := AThen _ _ (.exit _) _) ?_); refine awp_then_exit ?_)
    | ((with_reducible refine idp (p := AIn _ _ .normal _) ?_); refine awp_in_normal ?_)
    | ((with_reducible refine idp (p := AIn _ _ .ret _) ?_); refine awp_in_ret ?_)
    | ((with_reducible refine idp (p := AIn _ _ (.exit _) _) ?_); first | refine awp_in_eq ?_ | refine awp_in_ne (by decide) ?_)
    | ((with_reducible refine idp (p := awp _ .ret _ _) ?_); refine awp_ret ?_)
    | ((with_reducible refine idp (p := awp _ (.cond _ _ _) _ _) ?_); (refine awp_cond rfl (fun hc => ?_) (fun hc => ?_) <;> (try simp at hc) <;> (try (exfalso; omega))))
    | ((with_reducible refine idp (p := awp _ (.block _ _) _ _) ?_); refine awp_block ?_)
    | ((with_reducible refine idp (p := awp _ (.exit _) _ _) ?_); refine awp_exit ?_)
    | ((with_reducible refine idp (p := awp _ .skip _ _) ?_); refine awp_skip ?_))
  · refine ⟨.inr rfl, ?_⟩; simp [Hands, Try.results40, sub, szL]; omega
  · refine awp_loop' (ι := { k : Nat // k ≤ l.length ∧ l.length + sumN szSlot (l.take k) ≤ n }) (fun t o i => ⟨upds t [(1, .int .i64 (n - (l.length + sumN szSlot (l.take i.1) : Nat))), (5, .int .i64 i.1)], []⟩)
      (fun i => l.length - i.1) ⟨0, by simp, by simp [sumN]; omega⟩ (weak_o (by simp) (by simp [sumN])) ?_
    rintro ⟨k, hk, hs⟩ K1 hK1
    simp only [upds, List.set_cons_succ, List.set_cons_zero] at hK1 ⊢
    have hk1 : IntKind.i64.wrap ((k : Int) + 1) = ((k + 1 : Nat) : Int) := by rw [wrap64] <;> omega
    by_cases hlt : k < l.length
    · have hg := List.getElem?_eq_getElem hlt
      have hts := sumN_take_succ szSlot l k hlt
      have htl := sumN_take_le szSlot l (k + 1)
      have hwg := hw _ (List.getElem_mem hlt)
      repeat' (first
        | ((with_reducible refine idp (p := awpL _ _ (_ :: _) _ _) ?_); refine awpL_cons rfl fun K hK => ?_; simp [-Bool.exists_bool, aop, hk1, hg]; first | (refine ⟨_, (szSlot_ok _ _ (by omega) (by omega) hwg), hK _ ?_⟩; clear hK K; (try simp only [absorb_eq, absorbc_eq, absV, absVc, absO, absOc, absN, absNc, List.append_nil, List.nil_append, List.cons_append, List.length_cons, List.length_nil, Nat.add_zero, Nat.zero_add, Nat.reduceAdd])) | ((try simp (disch := omega) only [wrap64]); refine hK _ ?_; clear hK K))
        | ((with_reducible refine idp (p := awpL _ _ (_ :: _) _ _) ?_); refine awpL_take rfl ?_ ?_; (focus (simp [guardA, hk1, hg]; done)); intro K hK; simp [-Bool.exists_bool, aop, hk1, hg]; first | (refine ⟨_, (szSlot_ok _ _ (by omega) (by omega) hwg), hK _ ?_⟩; clear hK K; (try simp only [absorb_eq, absorbc_eq, absV, absVc, absO, absOc, absN, absNc, List.append_nil, List.nil_append, List.cons_append, List.length_cons, List.length_nil, Nat.add_zero, Nat.zero_add, Nat.reduceAdd])) | ((try simp (disch := omega) only [wrap64]); refine hK _ ?_; clear hK K))
        | ((with_reducible refine idp (p := awpL _ _ (_ :: _) _ _) ?_); refine awpL_skip rfl ?_ ?_; (focus (simp [guardA, hk1, hg]; done)); simp only [AS.put, List.set_cons_succ, List.set_cons_zero])
        | ((with_reducible refine idp (p := awpL _ _ (_ :: _) _ _) ?_); refine awpL_split rfl rfl rfl (fun hc => ?_) (fun hc => ?_) <;> simp only [List.set_cons_succ, List.set_cons_zero])
        | ((with_reducible refine idp (p := dwalk _ _ _ _ _ _ (_ :: _) _ _) ?_); refine dwalk_cons rfl rfl (by simp [Region.binds]; rfl) (by decide) (by simp [Region.binds]; rfl) (by simp; rfl) fun K hK => ?_; simp [-Bool.exists_bool, aop, hk1, hg]; first | (refine ⟨_, (szSlot_ok _ _ (by omega) (by omega) hwg), hK _ (by simp) ?_⟩; clear hK K; simp only [dval, absorb_eq, absorbc_eq, absV, absVc, absO, absOc, absN, absNc, List.append_nil, Nat.add_zero, Nat.zero_add, Nat.reduceAdd, List.length_cons, List.length_nil, List.cons_append, List.nil_append]) | ((try simp (disch := omega) only [wrap64]); refine hK _ (by simp) ?_; clear hK K; simp))
        | ((with_reducible refine idp (p := awpL _ _ [] _ _) ?_); refine awpL_nil ?_)
        | ((with_reducible refine idp (p := awp _ (.region _ _ true) _ _) ?_); refine awp_drawn (by decide) ?_)
        | ((with_reducible refine idp (p := dwalk _ _ _ _ _ _ [] _ _) ?_); refine dwalk_nil (by simp; rfl) (by simp; rfl) ?_)
        | ((with_reducible refine idp (p := awp _ (.seq _ _) _ _) ?_); refine awp_seq fun K hK => ?_)
        | ((with_reducible refine idp (p := awp _ (.region _ _ false) _ _) ?_); refine awp_region ?_)
        | ((with_reducible refine idp (p := AThen _ _ .normal _) ?_); refine awp_then (by assumption) ?_)
        | ((with_reducible refine idp (p := AThen _ _ .ret _) ?_); refine awp_then_ret ?_)
        | ((with_reducible refine idp (p := AThen _ _ (.exit _) _) ?_); refine awp_then_exit ?_)
        | ((with_reducible refine idp (p := AIn _ _ .normal _) ?_); refine awp_in_normal ?_)
        | ((with_reducible refine idp (p := AIn _ _ .ret _) ?_); refine awp_in_ret ?_)
        | ((with_reducible refine idp (p := AIn _ _ (.exit _) _) ?_); first | refine awp_in_eq ?_ | refine awp_in_ne (by decide) ?_)
        | ((with_reducible refine idp (p := awp _ .ret _ _) ?_); refine awp_ret ?_)
        | ((with_reducible refine idp (p := awp _ (.cond _ _ _) _ _) ?_); (refine awp_cond rfl (fun hc => ?_) (fun hc => ?_) <;> (try simp at hc) <;> (try (exfalso; omega))))
        | ((with_reducible refine idp (p := awp _ (.block _ _) _ _) ?_); refine awp_block ?_)
        | ((with_reducible refine idp (p := awp _ (.exit _) _ _) ?_); refine awp_exit ?_)
        | ((with_reducible refine idp (p := awp _ .skip _ _) ?_); refine awp_skip ?_))
      · refine ⟨.inr rfl, ?_⟩
        simp [Hands, Try.results40, szL]
        (repeat clear hK K); simp only [sub] at *; grind
      · refine hK1 _ ⟨k + 1, by omega, by (repeat clear hK K); simp only [sub] at *; grind⟩ (weak_o (by simp) ?_) (by simp only; omega)
        simp
        (repeat clear hK K); simp only [sub] at *; grind
    · repeat' (first
        | ((with_reducible refine idp (p := awpL _ _ (_ :: _) _ _) ?_); refine awpL_cons rfl fun K hK => ?_; simp [-Bool.exists_bool, aop, hk1]; first | ((try simp (disch := omega) only [wrap64]); refine hK _ ?_; clear hK K))
        | ((with_reducible refine idp (p := awpL _ _ (_ :: _) _ _) ?_); refine awpL_take rfl ?_ ?_; (focus (simp [guardA, hk1]; done)); intro K hK; simp [-Bool.exists_bool, aop, hk1]; first | ((try simp (disch := omega) only [wrap64]); refine hK _ ?_; clear hK K))
        | ((with_reducible refine idp (p := awpL _ _ (_ :: _) _ _) ?_); refine awpL_skip rfl ?_ ?_; (focus (simp [guardA, hk1]; done)); simp only [AS.put, List.set_cons_succ, List.set_cons_zero])
        | ((with_reducible refine idp (p := awpL _ _ (_ :: _) _ _) ?_); refine awpL_split rfl rfl rfl (fun hc => ?_) (fun hc => ?_) <;> simp only [List.set_cons_succ, List.set_cons_zero])
        | ((with_reducible refine idp (p := dwalk _ _ _ _ _ _ (_ :: _) _ _) ?_); refine dwalk_cons rfl rfl (by simp [Region.binds]; rfl) (by decide) (by simp [Region.binds]; rfl) (by simp; rfl) fun K hK => ?_; simp [-Bool.exists_bool, aop, hk1]; first | ((try simp (disch := omega) only [wrap64]); refine hK _ (by simp) ?_; clear hK K; simp))
        | ((with_reducible refine idp (p := awpL _ _ [] _ _) ?_); refine awpL_nil ?_)
        | ((with_reducible refine idp (p := awp _ (.region _ _ true) _ _) ?_); refine awp_drawn (by decide) ?_)
        | ((with_reducible refine idp (p := dwalk _ _ _ _ _ _ [] _ _) ?_); refine dwalk_nil (by simp; rfl) (by simp; rfl) ?_)
        | ((with_reducible refine idp (p := awp _ (.seq _ _) _ _) ?_); refine awp_seq fun K hK => ?_)
        | ((with_reducible refine idp (p := awp _ (.region _ _ false) _ _) ?_); refine awp_region ?_)
        | ((with_reducible refine idp (p := AThen _ _ .normal _) ?_); refine awp_then (by assumption) ?_)
        | ((with_reducible refine idp (p := AThen _ _ .ret _) ?_); refine awp_then_ret ?_)
        | ((with_reducible refine idp (p := AThen _ _ (.exit _) _) ?_); refine awp_then_exit ?_)
        | ((with_reducible refine idp (p := AIn _ _ .normal _) ?_); refine awp_in_normal ?_)
        | ((with_reducible refine idp (p := AIn _ _ .ret _) ?_); refine awp_in_ret ?_)
        | ((with_reducible refine idp (p := AIn _ _ (.exit _) _) ?_); first | refine awp_in_eq ?_ | refine awp_in_ne (by decide) ?_)
        | ((with_reducible refine idp (p := awp _ .ret _ _) ?_); refine awp_ret ?_)
        | ((with_reducible refine idp (p := awp _ (.cond _ _ _) _ _) ?_); (refine awp_cond rfl (fun hc => ?_) (fun hc => ?_) <;> (try simp at hc) <;> (try (exfalso; omega))))
        | ((with_reducible refine idp (p := awp _ (.block _ _) _ _) ?_); refine awp_block ?_)
        | ((with_reducible refine idp (p := awp _ (.exit _) _ _) ?_); refine awp_exit ?_)
        | ((with_reducible refine idp (p := awp _ .skip _ _) ?_); refine awp_skip ?_))
      all_goals (try (refine ⟨.inr rfl, ?_⟩; simp [Hands, Try.results40, szL]))
      all_goals (repeat clear hK K)
      have : k = l.length := by omega
      subst this
      rw [List.take_length] at *
      rw [sub_pos (by omega)]
      omega

theorem eqSlotS_ok (a b : List DSlot) (hs : szL szSlot a ≤ 1048576) : Ok Try.prog 57 [.sl .view 8 (a.map eSlot), .sl .view 8 (b.map eSlot)] (.bool (decide (a = b))) := by
  have hl : a.length ≤ 1048576 := by (try simp only [szL] at hs); omega
  refine ok_of_awp Try.mix Try.func57 rfl ?_
  simp only [Try.ntmps57, List.length_cons, List.length_nil, Nat.reduceSub, Nat.reduceAdd, List.replicate_succ, List.replicate_zero, List.cons_append, List.nil_append]
  repeat' (first
    | ((with_reducible refine idp (p := awpL _ _ (_ :: _) _ _) ?_); refine awpL_cons rfl fun K hK => ?_; simp [-Bool.exists_bool, aop]; first | ((try simp (disch := omega) only [wrap64]); refine hK _ ?_; clear hK K))
    | ((with_reducible refine idp (p := awpL _ _ (_ :: _) _ _) ?_); refine awpL_take rfl ?_ ?_; (focus (simp [guardA]; done)); intro K hK; simp [-Bool.exists_bool, aop]; first | ((try simp (disch := omega) only [wrap64]); refine hK _ ?_; clear hK K))
    | ((with_reducible refine idp (p := awpL _ _ (_ :: _) _ _) ?_); refine awpL_skip rfl ?_ ?_; (focus (simp [guardA]; done)); simp only [AS.put, List.set_cons_succ, List.set_cons_zero])
    | ((with_reducible refine idp (p := awpL _ _ (_ :: _) _ _) ?_); refine awpL_split rfl rfl rfl (fun hc => ?_) (fun hc => ?_) <;> simp only [List.set_cons_succ, List.set_cons_zero])
    | ((with_reducible refine idp (p := dwalk _ _ _ _ _ _ (_ :: _) _ _) ?_); refine dwalk_cons rfl rfl (by simp [Region.binds]; rfl) (by decide) (by simp [Region.binds]; rfl) (by simp; rfl) fun K hK => ?_; simp [-Bool.exists_bool, aop]; first | ((try simp (disch := omega) only [wrap64]); refine hK _ (by simp) ?_; clear hK K; simp))
    | ((with_reducible refine idp (p := awpL _ _ [] _ _) ?_); refine awpL_nil ?_)
    | ((with_reducible refine idp (p := awp _ (.region _ _ true) _ _) ?_); refine awp_drawn (by decide) ?_)
    | ((with_reducible refine idp (p := dwalk _ _ _ _ _ _ [] _ _) ?_); refine dwalk_nil (by simp; rfl) (by simp; rfl) ?_)
    | ((with_reducible refine idp (p := awp _ (.seq _ _) _ _) ?_); refine awp_seq fun K hK => ?_)
    | ((with_reducible refine idp (p := awp _ (.region _ _ false) _ _) ?_); refine awp_region ?_)
    | ((with_reducible refine idp (p := AThen _ _ .normal _) ?_); refine awp_then (by assumption) ?_)
    | ((with_reducible refine idp (p := AThen _ _ .ret _) ?_); refine awp_then_ret ?_)
    | ((with_reducible refine idp (p := AThen _ _ (.exit _) _) ?_); refine awp_then_exit ?_)
    | ((with_reducible refine idp (p := AIn _ _ .normal _) ?_); refine awp_in_normal ?_)
    | ((with_reducible refine idp (p := AIn _ _ .ret _) ?_); refine awp_in_ret ?_)
    | ((with_reducible refine idp (p := AIn _ _ (.exit _) _) ?_); first | refine awp_in_eq ?_ | refine awp_in_ne (by decide) ?_)
    | ((with_reducible refine idp (p := awp _ .ret _ _) ?_); refine awp_ret ?_)
    | ((with_reducible refine idp (p := awp _ (.cond _ _ _) _ _) ?_); (refine awp_cond rfl (fun hc => ?_) (fun hc => ?_) <;> (try simp at hc) <;> (try (exfalso; omega))))
    | ((with_reducible refine idp (p := awp _ (.block _ _) _ _) ?_); refine awp_block ?_)
    | ((with_reducible refine idp (p := awp _ (.exit _) _ _) ?_); refine awp_exit ?_)
    | ((with_reducible refine idp (p := awp _ .skip _ _) ?_); refine awp_skip ?_))
  · all_goals (try (refine ⟨.inr rfl, ?_⟩; simp [Hands, Try.results57]))
    all_goals (repeat clear hK K)
    intro h; subst h; exact absurd rfl hc
  · have hlen : a.length = b.length := by omega
    refine awp_loop' (ι := { k : Nat // k ≤ a.length ∧ a.take k = b.take k }) (fun t o i => ⟨upds t [(5, .int .i64 i.1)], []⟩)
      (fun i => a.length - i.1) ⟨0, by simp⟩ (weak_o (by simp) (by simp)) ?_
    rintro ⟨k, hk, hpre⟩ K1 hK1
    simp only [upds, List.set_cons_succ, List.set_cons_zero] at hK1 ⊢
    have hk1 : IntKind.i64.wrap ((k : Int) + 1) = ((k + 1 : Nat) : Int) := by rw [wrap64] <;> omega
    by_cases hlt : k < a.length
    · have hg := List.getElem?_eq_getElem hlt
      have hltb : k < b.length := by omega
      have hgb := List.getElem?_eq_getElem hltb
      repeat' (first
        | ((with_reducible refine idp (p := awpL _ _ (_ :: _) _ _) ?_); refine awpL_cons rfl fun K hK => ?_; simp [-Bool.exists_bool, aop, hk1, hg, hlt, hgb, hltb]; first | (refine ⟨_, (eqSlot_ok a[k] b[k] (by have := sumN_get_le szSlot a k hlt; (try simp only [szL] at hs); omega)), hK _ ?_⟩; clear hK K; (try simp only [absorb_eq, absorbc_eq, absV, absVc, absO, absOc, absN, absNc, List.append_nil, List.nil_append, List.cons_append, List.length_cons, List.length_nil, Nat.add_zero, Nat.zero_add, Nat.reduceAdd])) | ((try simp (disch := omega) only [wrap64]); refine hK _ ?_; clear hK K))
        | ((with_reducible refine idp (p := awpL _ _ (_ :: _) _ _) ?_); refine awpL_take rfl ?_ ?_; (focus (simp [guardA, hk1, hg, hlt, hgb, hltb]; done)); intro K hK; simp [-Bool.exists_bool, aop, hk1, hg, hlt, hgb, hltb]; first | (refine ⟨_, (eqSlot_ok a[k] b[k] (by have := sumN_get_le szSlot a k hlt; (try simp only [szL] at hs); omega)), hK _ ?_⟩; clear hK K; (try simp only [absorb_eq, absorbc_eq, absV, absVc, absO, absOc, absN, absNc, List.append_nil, List.nil_append, List.cons_append, List.length_cons, List.length_nil, Nat.add_zero, Nat.zero_add, Nat.reduceAdd])) | ((try simp (disch := omega) only [wrap64]); refine hK _ ?_; clear hK K))
        | ((with_reducible refine idp (p := awpL _ _ (_ :: _) _ _) ?_); refine awpL_skip rfl ?_ ?_; (focus (simp [guardA, hk1, hg, hlt, hgb, hltb]; done)); simp only [AS.put, List.set_cons_succ, List.set_cons_zero])
        | ((with_reducible refine idp (p := awpL _ _ (_ :: _) _ _) ?_); refine awpL_split rfl rfl rfl (fun hc => ?_) (fun hc => ?_) <;> simp only [List.set_cons_succ, List.set_cons_zero])
        | ((with_reducible refine idp (p := dwalk _ _ _ _ _ _ (_ :: _) _ _) ?_); refine dwalk_cons rfl rfl (by simp [Region.binds]; rfl) (by decide) (by simp [Region.binds]; rfl) (by simp; rfl) fun K hK => ?_; simp [-Bool.exists_bool, aop, hk1, hg, hlt, hgb, hltb]; first | (refine ⟨_, (eqSlot_ok a[k] b[k] (by have := sumN_get_le szSlot a k hlt; (try simp only [szL] at hs); omega)), hK _ (by simp) ?_⟩; clear hK K; simp only [dval, absorb_eq, absorbc_eq, absV, absVc, absO, absOc, absN, absNc, List.append_nil, Nat.add_zero, Nat.zero_add, Nat.reduceAdd, List.length_cons, List.length_nil, List.cons_append, List.nil_append]) | ((try simp (disch := omega) only [wrap64]); refine hK _ (by simp) ?_; clear hK K; simp))
        | ((with_reducible refine idp (p := awpL _ _ [] _ _) ?_); refine awpL_nil ?_)
        | ((with_reducible refine idp (p := awp _ (.region _ _ true) _ _) ?_); refine awp_drawn (by decide) ?_)
        | ((with_reducible refine idp (p := dwalk _ _ _ _ _ _ [] _ _) ?_); refine dwalk_nil (by simp; rfl) (by simp; rfl) ?_)
        | ((with_reducible refine idp (p := awp _ (.seq _ _) _ _) ?_); refine awp_seq fun K hK => ?_)
        | ((with_reducible refine idp (p := awp _ (.region _ _ false) _ _) ?_); refine awp_region ?_)
        | ((with_reducible refine idp (p := AThen _ _ .normal _) ?_); refine awp_then (by assumption) ?_)
        | ((with_reducible refine idp (p := AThen _ _ .ret _) ?_); refine awp_then_ret ?_)
        | ((with_reducible refine idp (p := AThen _ _ (.exit _) _) ?_); refine awp_then_exit ?_)
        | ((with_reducible refine idp (p := AIn _ _ .normal _) ?_); refine awp_in_normal ?_)
        | ((with_reducible refine idp (p := AIn _ _ .ret _) ?_); refine awp_in_ret ?_)
        | ((with_reducible refine idp (p := AIn _ _ (.exit _) _) ?_); first | refine awp_in_eq ?_ | refine awp_in_ne (by decide) ?_)
        | ((with_reducible refine idp (p := awp _ .ret _ _) ?_); refine awp_ret ?_)
        | ((with_reducible refine idp (p := awp _ (.cond _ _ _) _ _) ?_); (refine awp_cond rfl (fun hc => ?_) (fun hc => ?_) <;> (try simp at hc) <;> (try (exfalso; omega))))
        | ((with_reducible refine idp (p := awp _ (.block _ _) _ _) ?_); refine awp_block ?_)
        | ((with_reducible refine idp (p := awp _ (.exit _) _ _) ?_); refine awp_exit ?_)
        | ((with_reducible refine idp (p := awp _ .skip _ _) ?_); refine awp_skip ?_))
      · all_goals (try (refine ⟨.inr rfl, ?_⟩; simp [Hands, Try.results57]))
        all_goals (repeat clear hK K)
        intro h; subst h; exact hc rfl
      · have hts : a.take (k + 1) = b.take (k + 1) := by
          rw [List.take_succ_eq_append_getElem hlt, List.take_succ_eq_append_getElem hltb, hpre, hc]
        refine hK1 _ ⟨k + 1, by omega, hts⟩ (weak_o (by simp) (by simp)) (by simp only; omega)
    · have hka : a.length ≤ k := by omega
      rw [List.take_of_length_le hka, List.take_of_length_le (by omega)] at hpre
      subst hpre
      repeat' (first
        | ((with_reducible refine idp (p := awpL _ _ (_ :: _) _ _) ?_); refine awpL_cons rfl fun K hK => ?_; simp [-Bool.exists_bool, aop, hk1]; first | ((try simp (disch := omega) only [wrap64]); refine hK _ ?_; clear hK K))
        | ((with_reducible refine idp (p := awpL _ _ (_ :: _) _ _) ?_); refine awpL_take rfl ?_ ?_; (focus (simp [guardA, hk1]; done)); intro K hK; simp [-Bool.exists_bool, aop, hk1]; first | ((try simp (disch := omega) only [wrap64]); refine hK _ ?_; clear hK K))
        | ((with_reducible refine idp (p := awpL _ _ (_ :: _) _ _) ?_); refine awpL_skip rfl ?_ ?_; (focus (simp [guardA, hk1]; done)); simp only [AS.put, List.set_cons_succ, List.set_cons_zero])
        | ((with_reducible refine idp (p := awpL _ _ (_ :: _) _ _) ?_); refine awpL_split rfl rfl rfl (fun hc => ?_) (fun hc => ?_) <;> simp only [List.set_cons_succ, List.set_cons_zero])
        | ((with_reducible refine idp (p := dwalk _ _ _ _ _ _ (_ :: _) _ _) ?_); refine dwalk_cons rfl rfl (by simp [Region.binds]; rfl) (by decide) (by simp [Region.binds]; rfl) (by simp; rfl) fun K hK => ?_; simp [-Bool.exists_bool, aop, hk1]; first | ((try simp (disch := omega) only [wrap64]); refine hK _ (by simp) ?_; clear hK K; simp))
        | ((with_reducible refine idp (p := awpL _ _ [] _ _) ?_); refine awpL_nil ?_)
        | ((with_reducible refine idp (p := awp _ (.region _ _ true) _ _) ?_); refine awp_drawn (by decide) ?_)
        | ((with_reducible refine idp (p := dwalk _ _ _ _ _ _ [] _ _) ?_); refine dwalk_nil (by simp; rfl) (by simp; rfl) ?_)
        | ((with_reducible refine idp (p := awp _ (.seq _ _) _ _) ?_); refine awp_seq fun K hK => ?_)
        | ((with_reducible refine idp (p := awp _ (.region _ _ false) _ _) ?_); refine awp_region ?_)
        | ((with_reducible refine idp (p := AThen _ _ .normal _) ?_); refine awp_then (by assumption) ?_)
        | ((with_reducible refine idp (p := AThen _ _ .ret _) ?_); refine awp_then_ret ?_)
        | ((with_reducible refine idp (p := AThen _ _ (.exit _) _) ?_); refine awp_then_exit ?_)
        | ((with_reducible refine idp (p := AIn _ _ .normal _) ?_); refine awp_in_normal ?_)
        | ((with_reducible refine idp (p := AIn _ _ .ret _) ?_); refine awp_in_ret ?_)
        | ((with_reducible refine idp (p := AIn _ _ (.exit _) _) ?_); first | refine awp_in_eq ?_ | refine awp_in_ne (by decide) ?_)
        | ((with_reducible refine idp (p := awp _ .ret _ _) ?_); refine awp_ret ?_)
        | ((with_reducible refine idp (p := awp _ (.cond _ _ _) _ _) ?_); (refine awp_cond rfl (fun hc => ?_) (fun hc => ?_) <;> (try simp at hc) <;> (try (exfalso; omega))))
        | ((with_reducible refine idp (p := awp _ (.block _ _) _ _) ?_); refine awp_block ?_)
        | ((with_reducible refine idp (p := awp _ (.exit _) _ _) ?_); refine awp_exit ?_)
        | ((with_reducible refine idp (p := awp _ .skip _ _) ?_); refine awp_skip ?_))
      all_goals (try (refine ⟨.inr rfl, ?_⟩; simp [Hands, Try.results57]))
      all_goals (repeat clear hK K)

theorem toModuleS_ok (l : List DModule) (hs : szL szModule l ≤ 1048576) : Ok Try.prog 49 [.sl .view 5 (l.map eModule)] (.sl .own 5 (l.map eModule)) := by
  have hl : l.length ≤ 1048576 := by (try simp only [szL] at hs); omega
  have hb : (64 : Int) * (l.length : Int) ≤ 281474976710656 := by omega
  have hb2 : (l.length : Int) ≤ 9223372036854775807 := by omega
  generalize hz : ([.str [], .str [], .bool false, .int .i64 0, .str []] : List AV) = z
  have hz0 := fillL_zero z (l.map eModule)
  rw [List.length_map] at hz0
  refine ok_of_awp Try.mix Try.func49 rfl ?_
  simp only [Try.ntmps49, List.length_cons, List.length_nil, Nat.reduceSub, Nat.reduceAdd, List.replicate_succ, List.replicate_zero, List.cons_append, List.nil_append]
  repeat' (first
    | ((with_reducible refine idp (p := awpL _ _ (_ :: _) _ _) ?_); refine awpL_cons rfl fun K hK => ?_; simp [-Bool.exists_bool, aop, hb, hb2]; first | ((try simp (disch := omega) only [wrap64]); refine hK _ ?_; clear hK K))
    | ((with_reducible refine idp (p := awpL _ _ (_ :: _) _ _) ?_); refine awpL_take rfl ?_ ?_; (focus (simp [guardA, hb, hb2]; done)); intro K hK; simp [-Bool.exists_bool, aop, hb, hb2]; first | ((try simp (disch := omega) only [wrap64]); refine hK _ ?_; clear hK K))
    | ((with_reducible refine idp (p := awpL _ _ (_ :: _) _ _) ?_); refine awpL_skip rfl ?_ ?_; (focus (simp [guardA, hb, hb2]; done)); simp only [AS.put, List.set_cons_succ, List.set_cons_zero])
    | ((with_reducible refine idp (p := awpL _ _ (_ :: _) _ _) ?_); refine awpL_split rfl rfl rfl (fun hc => ?_) (fun hc => ?_) <;> simp only [List.set_cons_succ, List.set_cons_zero])
    | ((with_reducible refine idp (p := dwalk _ _ _ _ _ _ (_ :: _) _ _) ?_); refine dwalk_cons rfl rfl (by simp [Region.binds]; rfl) (by decide) (by simp [Region.binds]; rfl) (by simp; rfl) fun K hK => ?_; simp [-Bool.exists_bool, aop, hb, hb2]; first | ((try simp (disch := omega) only [wrap64]); refine hK _ (by simp) ?_; clear hK K; simp))
    | ((with_reducible refine idp (p := awpL _ _ [] _ _) ?_); refine awpL_nil ?_)
    | ((with_reducible refine idp (p := awp _ (.region _ _ true) _ _) ?_); refine awp_drawn (by decide) ?_)
    | ((with_reducible refine idp (p := dwalk _ _ _ _ _ _ [] _ _) ?_); refine dwalk_nil (by simp; rfl) (by simp; rfl) ?_)
    | ((with_reducible refine idp (p := awp _ (.seq _ _) _ _) ?_); refine awp_seq fun K hK => ?_)
    | ((with_reducible refine idp (p := awp _ (.region _ _ false) _ _) ?_); refine awp_region ?_)
    | ((with_reducible refine idp (p := AThen _ _ .normal _) ?_); refine awp_then (by assumption) ?_)
    | ((with_reducible refine idp (p := AThen _ _ .ret _) ?_); refine awp_then_ret ?_)
    | ((with_reducible refine idp (p := AThen _ _ (.exit _) _) ?_); refine awp_then_exit ?_)
    | ((with_reducible refine idp (p := AIn _ _ .normal _) ?_); refine awp_in_normal ?_)
    | ((with_reducible refine idp (p := AIn _ _ .ret _) ?_); refine awp_in_ret ?_)
    | ((with_reducible refine idp (p := AIn _ _ (.exit _) _) ?_); first | refine awp_in_eq ?_ | refine awp_in_ne (by decide) ?_)
    | ((with_reducible refine idp (p := awp _ .ret _ _) ?_); refine awp_ret ?_)
    | ((with_reducible refine idp (p := awp _ (.cond _ _ _) _ _) ?_); (refine awp_cond rfl (fun hc => ?_) (fun hc => ?_) <;> (try simp at hc) <;> (try (exfalso; omega))))
    | ((with_reducible refine idp (p := awp _ (.block _ _) _ _) ?_); refine awp_block ?_)
    | ((with_reducible refine idp (p := awp _ (.exit _) _ _) ?_); refine awp_exit ?_)
    | ((with_reducible refine idp (p := awp _ .skip _ _) ?_); refine awp_skip ?_))
  refine awp_loop' (ι := { k : Nat // k ≤ l.length }) (fun t o i => ⟨upds t [(4, .int .i64 i.1)], [⟨true, false, 5, 1, fillL z (l.map eModule) i.1⟩]⟩)
    (fun i => l.length - i.1) ⟨0, by simp⟩ (weak_o (by simp [hz, hz0]) (by simp)) ?_
  rintro ⟨k, hk⟩ K1 hK1
  simp only [upds, List.set_cons_succ, List.set_cons_zero] at hK1 ⊢
  have hk1 : IntKind.i64.wrap ((k : Int) + 1) = ((k + 1 : Nat) : Int) := by rw [wrap64] <;> omega
  by_cases hlt : k < l.length
  · have hg := List.getElem?_eq_getElem hlt
    have hfg := fillL_get z (l.map eModule) k (by simpa using hlt)
    have hfs := fillL_set z (l.map eModule) k (by simpa using hlt)
    rw [List.getElem_map] at hfs
    simp only [eModule] at hfs
    have hzl : z.length = 5 := by rw [← hz]; rfl
    have hzd : z.drop 5 = [] := by rw [← hz]; rfl
    repeat' (first
      | ((with_reducible refine idp (p := awpL _ _ (_ :: _) _ _) ?_); refine awpL_cons rfl fun K hK => ?_; simp [-Bool.exists_bool, aop, hk1, hg, hfg, hzl, hzd, hfs]; first | (refine ⟨_, (toModule_ok l[k] (by have := sumN_get_le szModule l k hlt; (try simp only [szL] at hs); omega)), hK _ ?_⟩; clear hK K; (try simp only [absorb_eq, absorbc_eq, absV, absVc, absO, absOc, absN, absNc, List.append_nil, List.nil_append, List.cons_append, List.length_cons, List.length_nil, Nat.add_zero, Nat.zero_add, Nat.reduceAdd])) | ((try simp (disch := omega) only [wrap64]); refine hK _ ?_; clear hK K))
      | ((with_reducible refine idp (p := awpL _ _ (_ :: _) _ _) ?_); refine awpL_cons rfl fun K hK => ?_; simp [-Bool.exists_bool, aop, hk1, hg, hlt]; first | (refine ⟨_, (toModule_ok l[k] (by have := sumN_get_le szModule l k hlt; (try simp only [szL] at hs); omega)), hK _ ?_⟩; clear hK K; (try simp only [absorb_eq, absorbc_eq, absV, absVc, absO, absOc, absN, absNc, List.append_nil, List.nil_append, List.cons_append, List.length_cons, List.length_nil, Nat.add_zero, Nat.zero_add, Nat.reduceAdd])) | ((try simp (disch := omega) only [wrap64]); refine hK _ ?_; clear hK K))
      | ((with_reducible refine idp (p := awpL _ _ (_ :: _) _ _) ?_); refine awpL_take rfl ?_ ?_; (focus (simp [guardA, hk1, hg, hfg, hzl, hzd, hfs]; done)); intro K hK; simp [-Bool.exists_bool, aop, hk1, hg, hfg, hzl, hzd, hfs]; first | (refine ⟨_, (toModule_ok l[k] (by have := sumN_get_le szModule l k hlt; (try simp only [szL] at hs); omega)), hK _ ?_⟩; clear hK K; (try simp only [absorb_eq, absorbc_eq, absV, absVc, absO, absOc, absN, absNc, List.append_nil, List.nil_append, List.cons_append, List.length_cons, List.length_nil, Nat.add_zero, Nat.zero_add, Nat.reduceAdd])) | ((try simp (disch := omega) only [wrap64]); refine hK _ ?_; clear hK K))
      | ((with_reducible refine idp (p := awpL _ _ (_ :: _) _ _) ?_); refine awpL_take rfl ?_ ?_; (focus (simp [guardA, hk1, hg, hlt]; done)); intro K hK; simp [-Bool.exists_bool, aop, hk1, hg, hlt]; first | (refine ⟨_, (toModule_ok l[k] (by have := sumN_get_le szModule l k hlt; (try simp only [szL] at hs); omega)), hK _ ?_⟩; clear hK K; (try simp only [absorb_eq, absorbc_eq, absV, absVc, absO, absOc, absN, absNc, List.append_nil, List.nil_append, List.cons_append, List.length_cons, List.length_nil, Nat.add_zero, Nat.zero_add, Nat.reduceAdd])) | ((try simp (disch := omega) only [wrap64]); refine hK _ ?_; clear hK K))
      | ((with_reducible refine idp (p := awpL _ _ (_ :: _) _ _) ?_); refine awpL_skip rfl ?_ ?_; (focus (simp [guardA, hk1, hg, hlt]; done)); simp only [AS.put, List.set_cons_succ, List.set_cons_zero])
      | ((with_reducible refine idp (p := awpL _ _ (_ :: _) _ _) ?_); refine awpL_split rfl rfl rfl (fun hc => ?_) (fun hc => ?_) <;> simp only [List.set_cons_succ, List.set_cons_zero])
      | ((with_reducible refine idp (p := dwalk _ _ _ _ _ _ (_ :: _) _ _) ?_); refine dwalk_cons rfl rfl (by simp [Region.binds]; rfl) (by decide) (by simp [Region.binds]; rfl) (by simp; rfl) fun K hK => ?_; simp [-Bool.exists_bool, aop, hk1, hg, hfg, hzl, hzd, hfs]; first | (refine ⟨_, (toModule_ok l[k] (by have := sumN_get_le szModule l k hlt; (try simp only [szL] at hs); omega)), hK _ (by simp) ?_⟩; clear hK K; simp only [dval, absorb_eq, absorbc_eq, absV, absVc, absO, absOc, absN, absNc, List.append_nil, Nat.add_zero, Nat.zero_add, Nat.reduceAdd, List.length_cons, List.length_nil, List.cons_append, List.nil_append]) | ((try simp (disch := omega) only [wrap64]); refine hK _ (by simp) ?_; clear hK K; simp))
      | ((with_reducible refine idp (p := dwalk _ _ _ _ _ _ (_ :: _) _ _) ?_); refine dwalk_cons rfl rfl (by simp [Region.binds]; rfl) (by decide) (by simp [Region.binds]; rfl) (by simp; rfl) fun K hK => ?_; simp [-Bool.exists_bool, aop, hk1, hg, hlt]; first | (refine ⟨_, (toModule_ok l[k] (by have := sumN_get_le szModule l k hlt; (try simp only [szL] at hs); omega)), hK _ (by simp) ?_⟩; clear hK K; simp only [dval, absorb_eq, absorbc_eq, absV, absVc, absO, absOc, absN, absNc, List.append_nil, Nat.add_zero, Nat.zero_add, Nat.reduceAdd, List.length_cons, List.length_nil, List.cons_append, List.nil_append]) | ((try simp (disch := omega) only [wrap64]); refine hK _ (by simp) ?_; clear hK K; simp))
      | ((with_reducible refine idp (p := awpL _ _ [] _ _) ?_); refine awpL_nil ?_)
      | ((with_reducible refine idp (p := awp _ (.region _ _ true) _ _) ?_); refine awp_drawn (by decide) ?_)
      | ((with_reducible refine idp (p := dwalk _ _ _ _ _ _ [] _ _) ?_); refine dwalk_nil (by simp; rfl) (by simp; rfl) ?_)
      | ((with_reducible refine idp (p := awp _ (.seq _ _) _ _) ?_); refine awp_seq fun K hK => ?_)
      | ((with_reducible refine idp (p := awp _ (.region _ _ false) _ _) ?_); refine awp_region ?_)
      | ((with_reducible refine idp (p := AThen _ _ .normal _) ?_); refine awp_then (by assumption) ?_)
      | ((with_reducible refine idp (p := AThen _ _ .ret _) ?_); refine awp_then_ret ?_)
      | ((with_reducible refine idp (p := AThen _ _ (.exit _) _) ?_); refine awp_then_exit ?_)
      | ((with_reducible refine idp (p := AIn _ _ .normal _) ?_); refine awp_in_normal ?_)
      | ((with_reducible refine idp (p := AIn _ _ .ret _) ?_); refine awp_in_ret ?_)
      | ((with_reducible refine idp (p := AIn _ _ (.exit _) _) ?_); first | refine awp_in_eq ?_ | refine awp_in_ne (by decide) ?_)
      | ((with_reducible refine idp (p := awp _ .ret _ _) ?_); refine awp_ret ?_)
      | ((with_reducible refine idp (p := awp _ (.cond _ _ _) _ _) ?_); (refine awp_cond rfl (fun hc => ?_) (fun hc => ?_) <;> (try simp at hc) <;> (try (exfalso; omega))))
      | ((with_reducible refine idp (p := awp _ (.block _ _) _ _) ?_); refine awp_block ?_)
      | ((with_reducible refine idp (p := awp _ (.exit _) _ _) ?_); refine awp_exit ?_)
      | ((with_reducible refine idp (p := awp _ .skip _ _) ?_); refine awp_skip ?_))
    refine hK1 _ ⟨k + 1, by omega⟩ (weak_take 1 rfl ?_ (by simp) (by simp)) (by simp only; omega)
    simp
  · repeat' (first
      | ((with_reducible refine idp (p := awpL _ _ (_ :: _) _ _) ?_); refine awpL_cons rfl fun K hK => ?_; simp [-Bool.exists_bool, aop, hk1]; first | ((try simp (disch := omega) only [wrap64]); refine hK _ ?_; clear hK K))
      | ((with_reducible refine idp (p := awpL _ _ (_ :: _) _ _) ?_); refine awpL_take rfl ?_ ?_; (focus (simp [guardA, hk1]; done)); intro K hK; simp [-Bool.exists_bool, aop, hk1]; first | ((try simp (disch := omega) only [wrap64]); refine hK _ ?_; clear hK K))
      | ((with_reducible refine idp (p := awpL _ _ (_ :: _) _ _) ?_); refine awpL_skip rfl ?_ ?_; (focus (simp [guardA, hk1]; done)); simp only [AS.put, List.set_cons_succ, List.set_cons_zero])
      | ((with_reducible refine idp (p := awpL _ _ (_ :: _) _ _) ?_); refine awpL_split rfl rfl rfl (fun hc => ?_) (fun hc => ?_) <;> simp only [List.set_cons_succ, List.set_cons_zero])
      | ((with_reducible refine idp (p := dwalk _ _ _ _ _ _ (_ :: _) _ _) ?_); refine dwalk_cons rfl rfl (by simp [Region.binds]; rfl) (by decide) (by simp [Region.binds]; rfl) (by simp; rfl) fun K hK => ?_; simp [-Bool.exists_bool, aop, hk1]; first | ((try simp (disch := omega) only [wrap64]); refine hK _ (by simp) ?_; clear hK K; simp))
      | ((with_reducible refine idp (p := awpL _ _ [] _ _) ?_); refine awpL_nil ?_)
      | ((with_reducible refine idp (p := awp _ (.region _ _ true) _ _) ?_); refine awp_drawn (by decide) ?_)
      | ((with_reducible refine idp (p := dwalk _ _ _ _ _ _ [] _ _) ?_); refine dwalk_nil (by simp; rfl) (by simp; rfl) ?_)
      | ((with_reducible refine idp (p := awp _ (.seq _ _) _ _) ?_); refine awp_seq fun K hK => ?_)
      | ((with_reducible refine idp (p := awp _ (.region _ _ false) _ _) ?_); refine awp_region ?_)
      | ((with_reducible refine idp (p := AThen _ _ .normal _) ?_); refine awp_then (by assumption) ?_)
      | ((with_reducible refine idp (p := AThen _ _ .ret _) ?_); refine awp_then_ret ?_)
      | ((with_reducible refine idp (p := AThen _ _ (.exit _) _) ?_); refine awp_then_exit ?_)
      | ((with_reducible refine idp (p := AIn _ _ .normal _) ?_); refine awp_in_normal ?_)
      | ((with_reducible refine idp (p := AIn _ _ .ret _) ?_); refine awp_in_ret ?_)
      | ((with_reducible refine idp (p := AIn _ _ (.exit _) _) ?_); first | refine awp_in_eq ?_ | refine awp_in_ne (by decide) ?_)
      | ((with_reducible refine idp (p := awp _ .ret _ _) ?_); refine awp_ret ?_)
      | ((with_reducible refine idp (p := awp _ (.cond _ _ _) _ _) ?_); (refine awp_cond rfl (fun hc => ?_) (fun hc => ?_) <;> (try simp at hc) <;> (try (exfalso; omega))))
      | ((with_reducible refine idp (p := awp _ (.block _ _) _ _) ?_); refine awp_block ?_)
      | ((with_reducible refine idp (p := awp _ (.exit _) _ _) ?_); refine awp_exit ?_)
      | ((with_reducible refine idp (p := awp _ .skip _ _) ?_); refine awp_skip ?_))
    have hfa := fillL_all z (l.map eModule) k (by simpa using hlt)
    all_goals (try (refine ⟨.inr rfl, ?_⟩; simp [Hands, Try.results49, hfa]))
    all_goals (repeat clear hK K)

theorem szModuleS_ok (l : List DModule) (n : Int) (h0 : 0 ≤ n) (h1 : n ≤ 1048576) (hw : l.length ≤ 9223372036854775807 ∧ ∀ y ∈ l, wfModule y) : Ok Try.prog 41 [.sl .view 5 (l.map eModule), .int .i64 n] (.int .i64 (sub n (szL szModule l))) := by
  obtain ⟨hl, hw⟩ := hw
  refine ok_of_awp Try.mix Try.func41 rfl ?_
  simp only [Try.ntmps41, List.length_cons, List.length_nil, Nat.reduceSub, Nat.reduceAdd, List.replicate_succ, List.replicate_zero, List.cons_append, List.nil_append]
  repeat' (first
    | ((with_reducible refine idp (p := awpL _ _ (_ :: _) _ _) ?_); refine awpL_cons rfl fun K hK => ?_; simp [-Bool.exists_bool, aop]; first | ((try simp (disch := omega) only [wrap64]); refine hK _ ?_; clear hK K))
    | ((with_reducible refine idp (p := awpL _ _ (_ :: _) _ _) ?_); refine awpL_take rfl ?_ ?_; (focus (simp [guardA]; done)); intro K hK; simp [-Bool.exists_bool, aop]; first | ((try simp (disch := omega) only [wrap64]); refine hK _ ?_; clear hK K))
    | ((with_reducible refine idp (p := awpL _ _ (_ :: _) _ _) ?_); refine awpL_skip rfl ?_ ?_; (focus (simp [guardA]; done)); simp only [AS.put, List.set_cons_succ, List.set_cons_zero])
    | ((with_reducible refine idp (p := awpL _ _ (_ :: _) _ _) ?_); refine awpL_split rfl rfl rfl (fun hc => ?_) (fun hc => ?_) <;> simp only [List.set_cons_succ, List.set_cons_zero])
    | ((with_reducible refine idp (p := dwalk _ _ _ _ _ _ (_ :: _) _ _) ?_); refine dwalk_cons rfl rfl (by simp [Region.binds]; rfl) (by decide) (by simp [Region.binds]; rfl) (by simp; rfl) fun K hK => ?_; simp [-Bool.exists_bool, aop]; first | ((try simp (disch := omega) only [wrap64]); refine hK _ (by simp) ?_; clear hK K; simp))
    | ((with_reducible refine idp (p := awpL _ _ [] _ _) ?_); refine awpL_nil ?_)
    | ((with_reducible refine idp (p := awp _ (.region _ _ true) _ _) ?_); refine awp_drawn (by decide) ?_)
    | ((with_reducible refine idp (p := dwalk _ _ _ _ _ _ [] _ _) ?_); refine dwalk_nil (by simp; rfl) (by simp; rfl) ?_)
    | ((with_reducible refine idp (p := awp _ (.seq _ _) _ _) ?_); refine awp_seq fun K hK => ?_)
    | ((with_reducible refine idp (p := awp _ (.region _ _ false) _ _) ?_); refine awp_region ?_)
    | ((with_reducible refine idp (p := AThen _ _ .normal _) ?_); refine awp_then (by assumption) ?_)
    | ((with_reducible refine idp (p := AThen _ _ .ret _) ?_); refine awp_then_ret ?_)
    | ((with_reducible refine idp (p := AThen _ _ (.exit _) _) ?_); refine awp_then_exit ?_)
    | ((with_reducible refine idp (p := AIn _ _ .normal _) ?_); refine awp_in_normal ?_)
    | ((with_reducible refine idp (p := AIn _ _ .ret _) ?_); refine awp_in_ret ?_)
    | ((with_reducible refine idp (p := AIn _ _ (.exit _) _) ?_); first | refine awp_in_eq ?_ | refine awp_in_ne (by decide) ?_)
    | ((with_reducible refine idp (p := awp _ .ret _ _) ?_); refine awp_ret ?_)
    | ((with_reducible refine idp (p := awp _ (.cond _ _ _) _ _) ?_); (refine awp_cond rfl (fun hc => ?_) (fun hc => ?_) <;> (try simp at hc) <;> (try (exfalso; omega))))
    | ((with_reducible refine idp (p := awp _ (.block _ _) _ _) ?_); refine awp_block ?_)
    | ((with_reducible refine idp (p := awp _ (.exit _) _ _) ?_); refine awp_exit ?_)
    | ((with_reducible refine idp (p := awp _ .skip _ _) ?_); refine awp_skip ?_))
  · refine ⟨.inr rfl, ?_⟩; simp [Hands, Try.results41, sub, szL]; omega
  · refine awp_loop' (ι := { k : Nat // k ≤ l.length ∧ l.length + sumN szModule (l.take k) ≤ n }) (fun t o i => ⟨upds t [(1, .int .i64 (n - (l.length + sumN szModule (l.take i.1) : Nat))), (5, .int .i64 i.1)], []⟩)
      (fun i => l.length - i.1) ⟨0, by simp, by simp [sumN]; omega⟩ (weak_o (by simp) (by simp [sumN])) ?_
    rintro ⟨k, hk, hs⟩ K1 hK1
    simp only [upds, List.set_cons_succ, List.set_cons_zero] at hK1 ⊢
    have hk1 : IntKind.i64.wrap ((k : Int) + 1) = ((k + 1 : Nat) : Int) := by rw [wrap64] <;> omega
    by_cases hlt : k < l.length
    · have hg := List.getElem?_eq_getElem hlt
      have hts := sumN_take_succ szModule l k hlt
      have htl := sumN_take_le szModule l (k + 1)
      have hwg := hw _ (List.getElem_mem hlt)
      repeat' (first
        | ((with_reducible refine idp (p := awpL _ _ (_ :: _) _ _) ?_); refine awpL_cons rfl fun K hK => ?_; simp [-Bool.exists_bool, aop, hk1, hg]; first | (refine ⟨_, (szModule_ok _ _ (by omega) (by omega) hwg), hK _ ?_⟩; clear hK K; (try simp only [absorb_eq, absorbc_eq, absV, absVc, absO, absOc, absN, absNc, List.append_nil, List.nil_append, List.cons_append, List.length_cons, List.length_nil, Nat.add_zero, Nat.zero_add, Nat.reduceAdd])) | ((try simp (disch := omega) only [wrap64]); refine hK _ ?_; clear hK K))
        | ((with_reducible refine idp (p := awpL _ _ (_ :: _) _ _) ?_); refine awpL_take rfl ?_ ?_; (focus (simp [guardA, hk1, hg]; done)); intro K hK; simp [-Bool.exists_bool, aop, hk1, hg]; first | (refine ⟨_, (szModule_ok _ _ (by omega) (by omega) hwg), hK _ ?_⟩; clear hK K; (try simp only [absorb_eq, absorbc_eq, absV, absVc, absO, absOc, absN, absNc, List.append_nil, List.nil_append, List.cons_append, List.length_cons, List.length_nil, Nat.add_zero, Nat.zero_add, Nat.reduceAdd])) | ((try simp (disch := omega) only [wrap64]); refine hK _ ?_; clear hK K))
        | ((with_reducible refine idp (p := awpL _ _ (_ :: _) _ _) ?_); refine awpL_skip rfl ?_ ?_; (focus (simp [guardA, hk1, hg]; done)); simp only [AS.put, List.set_cons_succ, List.set_cons_zero])
        | ((with_reducible refine idp (p := awpL _ _ (_ :: _) _ _) ?_); refine awpL_split rfl rfl rfl (fun hc => ?_) (fun hc => ?_) <;> simp only [List.set_cons_succ, List.set_cons_zero])
        | ((with_reducible refine idp (p := dwalk _ _ _ _ _ _ (_ :: _) _ _) ?_); refine dwalk_cons rfl rfl (by simp [Region.binds]; rfl) (by decide) (by simp [Region.binds]; rfl) (by simp; rfl) fun K hK => ?_; simp [-Bool.exists_bool, aop, hk1, hg]; first | (refine ⟨_, (szModule_ok _ _ (by omega) (by omega) hwg), hK _ (by simp) ?_⟩; clear hK K; simp only [dval, absorb_eq, absorbc_eq, absV, absVc, absO, absOc, absN, absNc, List.append_nil, Nat.add_zero, Nat.zero_add, Nat.reduceAdd, List.length_cons, List.length_nil, List.cons_append, List.nil_append]) | ((try simp (disch := omega) only [wrap64]); refine hK _ (by simp) ?_; clear hK K; simp))
        | ((with_reducible refine idp (p := awpL _ _ [] _ _) ?_); refine awpL_nil ?_)
        | ((with_reducible refine idp (p := awp _ (.region _ _ true) _ _) ?_); refine awp_drawn (by decide) ?_)
        | ((with_reducible refine idp (p := dwalk _ _ _ _ _ _ [] _ _) ?_); refine dwalk_nil (by simp; rfl) (by simp; rfl) ?_)
        | ((with_reducible refine idp (p := awp _ (.seq _ _) _ _) ?_); refine awp_seq fun K hK => ?_)
        | ((with_reducible refine idp (p := awp _ (.region _ _ false) _ _) ?_); refine awp_region ?_)
        | ((with_reducible refine idp (p := AThen _ _ .normal _) ?_); refine awp_then (by assumption) ?_)
        | ((with_reducible refine idp (p := AThen _ _ .ret _) ?_); refine awp_then_ret ?_)
        | ((with_reducible refine idp (p := AThen _ _ (.exit _) _) ?_); refine awp_then_exit ?_)
        | ((with_reducible refine idp (p := AIn _ _ .normal _) ?_); refine awp_in_normal ?_)
        | ((with_reducible refine idp (p := AIn _ _ .ret _) ?_); refine awp_in_ret ?_)
        | ((with_reducible refine idp (p := AIn _ _ (.exit _) _) ?_); first | refine awp_in_eq ?_ | refine awp_in_ne (by decide) ?_)
        | ((with_reducible refine idp (p := awp _ .ret _ _) ?_); refine awp_ret ?_)
        | ((with_reducible refine idp (p := awp _ (.cond _ _ _) _ _) ?_); (refine awp_cond rfl (fun hc => ?_) (fun hc => ?_) <;> (try simp at hc) <;> (try (exfalso; omega))))
        | ((with_reducible refine idp (p := awp _ (.block _ _) _ _) ?_); refine awp_block ?_)
        | ((with_reducible refine idp (p := awp _ (.exit _) _ _) ?_); refine awp_exit ?_)
        | ((with_reducible refine idp (p := awp _ .skip _ _) ?_); refine awp_skip ?_))
      · refine ⟨.inr rfl, ?_⟩
        simp [Hands, Try.results41, szL]
        (repeat clear hK K); simp only [sub] at *; grind
      · refine hK1 _ ⟨k + 1, by omega, by (repeat clear hK K); simp only [sub] at *; grind⟩ (weak_o (by simp) ?_) (by simp only; omega)
        simp
        (repeat clear hK K); simp only [sub] at *; grind
    · repeat' (first
        | ((with_reducible refine idp (p := awpL _ _ (_ :: _) _ _) ?_); refine awpL_cons rfl fun K hK => ?_; simp [-Bool.exists_bool, aop, hk1]; first | ((try simp (disch := omega) only [wrap64]); refine hK _ ?_; clear hK K))
        | ((with_reducible refine idp (p := awpL _ _ (_ :: _) _ _) ?_); refine awpL_take rfl ?_ ?_; (focus (simp [guardA, hk1]; done)); intro K hK; simp [-Bool.exists_bool, aop, hk1]; first | ((try simp (disch := omega) only [wrap64]); refine hK _ ?_; clear hK K))
        | ((with_reducible refine idp (p := awpL _ _ (_ :: _) _ _) ?_); refine awpL_skip rfl ?_ ?_; (focus (simp [guardA, hk1]; done)); simp only [AS.put, List.set_cons_succ, List.set_cons_zero])
        | ((with_reducible refine idp (p := awpL _ _ (_ :: _) _ _) ?_); refine awpL_split rfl rfl rfl (fun hc => ?_) (fun hc => ?_) <;> simp only [List.set_cons_succ, List.set_cons_zero])
        | ((with_reducible refine idp (p := dwalk _ _ _ _ _ _ (_ :: _) _ _) ?_); refine dwalk_cons rfl rfl (by simp [Region.binds]; rfl) (by decide) (by simp [Region.binds]; rfl) (by simp; rfl) fun K hK => ?_; simp [-Bool.exists_bool, aop, hk1]; first | ((try simp (disch := omega) only [wrap64]); refine hK _ (by simp) ?_; clear hK K; simp))
        | ((with_reducible refine idp (p := awpL _ _ [] _ _) ?_); refine awpL_nil ?_)
        | ((with_reducible refine idp (p := awp _ (.region _ _ true) _ _) ?_); refine awp_drawn (by decide) ?_)
        | ((with_reducible refine idp (p := dwalk _ _ _ _ _ _ [] _ _) ?_); refine dwalk_nil (by simp; rfl) (by simp; rfl) ?_)
        | ((with_reducible refine idp (p := awp _ (.seq _ _) _ _) ?_); refine awp_seq fun K hK => ?_)
        | ((with_reducible refine idp (p := awp _ (.region _ _ false) _ _) ?_); refine awp_region ?_)
        | ((with_reducible refine idp (p := AThen _ _ .normal _) ?_); refine awp_then (by assumption) ?_)
        | ((with_reducible refine idp (p := AThen _ _ .ret _) ?_); refine awp_then_ret ?_)
        | ((with_reducible refine idp (p := AThen _ _ (.exit _) _) ?_); refine awp_then_exit ?_)
        | ((with_reducible refine idp (p := AIn _ _ .normal _) ?_); refine awp_in_normal ?_)
        | ((with_reducible refine idp (p := AIn _ _ .ret _) ?_); refine awp_in_ret ?_)
        | ((with_reducible refine idp (p := AIn _ _ (.exit _) _) ?_); first | refine awp_in_eq ?_ | refine awp_in_ne (by decide) ?_)
        | ((with_reducible refine idp (p := awp _ .ret _ _) ?_); refine awp_ret ?_)
        | ((with_reducible refine idp (p := awp _ (.cond _ _ _) _ _) ?_); (refine awp_cond rfl (fun hc => ?_) (fun hc => ?_) <;> (try simp at hc) <;> (try (exfalso; omega))))
        | ((with_reducible refine idp (p := awp _ (.block _ _) _ _) ?_); refine awp_block ?_)
        | ((with_reducible refine idp (p := awp _ (.exit _) _ _) ?_); refine awp_exit ?_)
        | ((with_reducible refine idp (p := awp _ .skip _ _) ?_); refine awp_skip ?_))
      all_goals (try (refine ⟨.inr rfl, ?_⟩; simp [Hands, Try.results41, szL]))
      all_goals (repeat clear hK K)
      have : k = l.length := by omega
      subst this
      rw [List.take_length] at *
      rw [sub_pos (by omega)]
      omega

theorem eqModuleS_ok (a b : List DModule) (hs : szL szModule a ≤ 1048576) : Ok Try.prog 58 [.sl .view 5 (a.map eModule), .sl .view 5 (b.map eModule)] (.bool (decide (a = b))) := by
  have hl : a.length ≤ 1048576 := by (try simp only [szL] at hs); omega
  refine ok_of_awp Try.mix Try.func58 rfl ?_
  simp only [Try.ntmps58, List.length_cons, List.length_nil, Nat.reduceSub, Nat.reduceAdd, List.replicate_succ, List.replicate_zero, List.cons_append, List.nil_append]
  repeat' (first
    | ((with_reducible refine idp (p := awpL _ _ (_ :: _) _ _) ?_); refine awpL_cons rfl fun K hK => ?_; simp [-Bool.exists_bool, aop]; first | ((try simp (disch := omega) only [wrap64]); refine hK _ ?_; clear hK K))
    | ((with_reducible refine idp (p := awpL _ _ (_ :: _) _ _) ?_); refine awpL_take rfl ?_ ?_; (focus (simp [guardA]; done)); intro K hK; simp [-Bool.exists_bool, aop]; first | ((try simp (disch := omega) only [wrap64]); refine hK _ ?_; clear hK K))
    | ((with_reducible refine idp (p := awpL _ _ (_ :: _) _ _) ?_); refine awpL_skip rfl ?_ ?_; (focus (simp [guardA]; done)); simp only [AS.put, List.set_cons_succ, List.set_cons_zero])
    | ((with_reducible refine idp (p := awpL _ _ (_ :: _) _ _) ?_); refine awpL_split rfl rfl rfl (fun hc => ?_) (fun hc => ?_) <;> simp only [List.set_cons_succ, List.set_cons_zero])
    | ((with_reducible refine idp (p := dwalk _ _ _ _ _ _ (_ :: _) _ _) ?_); refine dwalk_cons rfl rfl (by simp [Region.binds]; rfl) (by decide) (by simp [Region.binds]; rfl) (by simp; rfl) fun K hK => ?_; simp [-Bool.exists_bool, aop]; first | ((try simp (disch := omega) only [wrap64]); refine hK _ (by simp) ?_; clear hK K; simp))
    | ((with_reducible refine idp (p := awpL _ _ [] _ _) ?_); refine awpL_nil ?_)
    | ((with_reducible refine idp (p := awp _ (.region _ _ true) _ _) ?_); refine awp_drawn (by decide) ?_)
    | ((with_reducible refine idp (p := dwalk _ _ _ _ _ _ [] _ _) ?_); refine dwalk_nil (by simp; rfl) (by simp; rfl) ?_)
    | ((with_reducible refine idp (p := awp _ (.seq _ _) _ _) ?_); refine awp_seq fun K hK => ?_)
    | ((with_reducible refine idp (p := awp _ (.region _ _ false) _ _) ?_); refine awp_region ?_)
    | ((with_reducible refine idp (p := AThen _ _ .normal _) ?_); refine awp_then (by assumption) ?_)
    | ((with_reducible refine idp (p := AThen _ _ .ret _) ?_); refine awp_then_ret ?_)
    | ((with_reducible refine idp (p := AThen _ _ (.exit _) _) ?_); refine awp_then_exit ?_)
    | ((with_reducible refine idp (p := AIn _ _ .normal _) ?_); refine awp_in_normal ?_)
    | ((with_reducible refine idp (p := AIn _ _ .ret _) ?_); refine awp_in_ret ?_)
    | ((with_reducible refine idp (p := AIn _ _ (.exit _) _) ?_); first | refine awp_in_eq ?_ | refine awp_in_ne (by decide) ?_)
    | ((with_reducible refine idp (p := awp _ .ret _ _) ?_); refine awp_ret ?_)
    | ((with_reducible refine idp (p := awp _ (.cond _ _ _) _ _) ?_); (refine awp_cond rfl (fun hc => ?_) (fun hc => ?_) <;> (try simp at hc) <;> (try (exfalso; omega))))
    | ((with_reducible refine idp (p := awp _ (.block _ _) _ _) ?_); refine awp_block ?_)
    | ((with_reducible refine idp (p := awp _ (.exit _) _ _) ?_); refine awp_exit ?_)
    | ((with_reducible refine idp (p := awp _ .skip _ _) ?_); refine awp_skip ?_))
  · all_goals (try (refine ⟨.inr rfl, ?_⟩; simp [Hands, Try.results58]))
    all_goals (repeat clear hK K)
    intro h; subst h; exact absurd rfl hc
  · have hlen : a.length = b.length := by omega
    refine awp_loop' (ι := { k : Nat // k ≤ a.length ∧ a.take k = b.take k }) (fun t o i => ⟨upds t [(5, .int .i64 i.1)], []⟩)
      (fun i => a.length - i.1) ⟨0, by simp⟩ (weak_o (by simp) (by simp)) ?_
    rintro ⟨k, hk, hpre⟩ K1 hK1
    simp only [upds, List.set_cons_succ, List.set_cons_zero] at hK1 ⊢
    have hk1 : IntKind.i64.wrap ((k : Int) + 1) = ((k + 1 : Nat) : Int) := by rw [wrap64] <;> omega
    by_cases hlt : k < a.length
    · have hg := List.getElem?_eq_getElem hlt
      have hltb : k < b.length := by omega
      have hgb := List.getElem?_eq_getElem hltb
      repeat' (first
        | ((with_reducible refine idp (p := awpL _ _ (_ :: _) _ _) ?_); refine awpL_cons rfl fun K hK => ?_; simp [-Bool.exists_bool, aop, hk1, hg, hlt, hgb, hltb]; first | (refine ⟨_, (eqModule_ok a[k] b[k] (by have := sumN_get_le szModule a k hlt; (try simp only [szL] at hs); omega)), hK _ ?_⟩; clear hK K; (try simp only [absorb_eq, absorbc_eq, absV, absVc, absO, absOc, absN, absNc, List.append_nil, List.nil_append, List.cons_append, List.length_cons, List.length_nil, Nat.add_zero, Nat.zero_add, Nat.reduceAdd])) | ((try simp (disch := omega) only [wrap64]); refine hK _ ?_; clear hK K))
        | ((with_reducible refine idp (p := awpL _ _ (_ :: _) _ _) ?_); refine awpL_take rfl ?_ ?_; (focus (simp [guardA, hk1, hg, hlt, hgb, hltb]; done)); intro K hK; simp [-Bool.exists_bool, aop, hk1, hg, hlt, hgb, hltb]; first | (refine ⟨_, (eqModule_ok a[k] b[k] (by have := sumN_get_le szModule a k hlt; (try simp only [szL] at hs); omega)), hK _ ?_⟩; clear hK K; (try simp only [absorb_eq, absorbc_eq, absV, absVc, absO, absOc, absN, absNc, List.append_nil, List.nil_append, List.cons_append, List.length_cons, List.length_nil, Nat.add_zero, Nat.zero_add, Nat.reduceAdd])) | ((try simp (disch := omega) only [wrap64]); refine hK _ ?_; clear hK K))
        | ((with_reducible refine idp (p := awpL _ _ (_ :: _) _ _) ?_); refine awpL_skip rfl ?_ ?_; (focus (simp [guardA, hk1, hg, hlt, hgb, hltb]; done)); simp only [AS.put, List.set_cons_succ, List.set_cons_zero])
        | ((with_reducible refine idp (p := awpL _ _ (_ :: _) _ _) ?_); refine awpL_split rfl rfl rfl (fun hc => ?_) (fun hc => ?_) <;> simp only [List.set_cons_succ, List.set_cons_zero])
        | ((with_reducible refine idp (p := dwalk _ _ _ _ _ _ (_ :: _) _ _) ?_); refine dwalk_cons rfl rfl (by simp [Region.binds]; rfl) (by decide) (by simp [Region.binds]; rfl) (by simp; rfl) fun K hK => ?_; simp [-Bool.exists_bool, aop, hk1, hg, hlt, hgb, hltb]; first | (refine ⟨_, (eqModule_ok a[k] b[k] (by have := sumN_get_le szModule a k hlt; (try simp only [szL] at hs); omega)), hK _ (by simp) ?_⟩; clear hK K; simp only [dval, absorb_eq, absorbc_eq, absV, absVc, absO, absOc, absN, absNc, List.append_nil, Nat.add_zero, Nat.zero_add, Nat.reduceAdd, List.length_cons, List.length_nil, List.cons_append, List.nil_append]) | ((try simp (disch := omega) only [wrap64]); refine hK _ (by simp) ?_; clear hK K; simp))
        | ((with_reducible refine idp (p := awpL _ _ [] _ _) ?_); refine awpL_nil ?_)
        | ((with_reducible refine idp (p := awp _ (.region _ _ true) _ _) ?_); refine awp_drawn (by decide) ?_)
        | ((with_reducible refine idp (p := dwalk _ _ _ _ _ _ [] _ _) ?_); refine dwalk_nil (by simp; rfl) (by simp; rfl) ?_)
        | ((with_reducible refine idp (p := awp _ (.seq _ _) _ _) ?_); refine awp_seq fun K hK => ?_)
        | ((with_reducible refine idp (p := awp _ (.region _ _ false) _ _) ?_); refine awp_region ?_)
        | ((with_reducible refine idp (p := AThen _ _ .normal _) ?_); refine awp_then (by assumption) ?_)
        | ((with_reducible refine idp (p := AThen _ _ .ret _) ?_); refine awp_then_ret ?_)
        | ((with_reducible refine idp (p := AThen _ _ (.exit _) _) ?_); refine awp_then_exit ?_)
        | ((with_reducible refine idp (p := AIn _ _ .normal _) ?_); refine awp_in_normal ?_)
        | ((with_reducible refine idp (p := AIn _ _ .ret _) ?_); refine awp_in_ret ?_)
        | ((with_reducible refine idp (p := AIn _ _ (.exit _) _) ?_); first | refine awp_in_eq ?_ | refine awp_in_ne (by decide) ?_)
        | ((with_reducible refine idp (p := awp _ .ret _ _) ?_); refine awp_ret ?_)
        | ((with_reducible refine idp (p := awp _ (.cond _ _ _) _ _) ?_); (refine awp_cond rfl (fun hc => ?_) (fun hc => ?_) <;> (try simp at hc) <;> (try (exfalso; omega))))
        | ((with_reducible refine idp (p := awp _ (.block _ _) _ _) ?_); refine awp_block ?_)
        | ((with_reducible refine idp (p := awp _ (.exit _) _ _) ?_); refine awp_exit ?_)
        | ((with_reducible refine idp (p := awp _ .skip _ _) ?_); refine awp_skip ?_))
      · all_goals (try (refine ⟨.inr rfl, ?_⟩; simp [Hands, Try.results58]))
        all_goals (repeat clear hK K)
        intro h; subst h; exact hc rfl
      · have hts : a.take (k + 1) = b.take (k + 1) := by
          rw [List.take_succ_eq_append_getElem hlt, List.take_succ_eq_append_getElem hltb, hpre, hc]
        refine hK1 _ ⟨k + 1, by omega, hts⟩ (weak_o (by simp) (by simp)) (by simp only; omega)
    · have hka : a.length ≤ k := by omega
      rw [List.take_of_length_le hka, List.take_of_length_le (by omega)] at hpre
      subst hpre
      repeat' (first
        | ((with_reducible refine idp (p := awpL _ _ (_ :: _) _ _) ?_); refine awpL_cons rfl fun K hK => ?_; simp [-Bool.exists_bool, aop, hk1]; first | ((try simp (disch := omega) only [wrap64]); refine hK _ ?_; clear hK K))
        | ((with_reducible refine idp (p := awpL _ _ (_ :: _) _ _) ?_); refine awpL_take rfl ?_ ?_; (focus (simp [guardA, hk1]; done)); intro K hK; simp [-Bool.exists_bool, aop, hk1]; first | ((try simp (disch := omega) only [wrap64]); refine hK _ ?_; clear hK K))
        | ((with_reducible refine idp (p := awpL _ _ (_ :: _) _ _) ?_); refine awpL_skip rfl ?_ ?_; (focus (simp [guardA, hk1]; done)); simp only [AS.put, List.set_cons_succ, List.set_cons_zero])
        | ((with_reducible refine idp (p := awpL _ _ (_ :: _) _ _) ?_); refine awpL_split rfl rfl rfl (fun hc => ?_) (fun hc => ?_) <;> simp only [List.set_cons_succ, List.set_cons_zero])
        | ((with_reducible refine idp (p := dwalk _ _ _ _ _ _ (_ :: _) _ _) ?_); refine dwalk_cons rfl rfl (by simp [Region.binds]; rfl) (by decide) (by simp [Region.binds]; rfl) (by simp; rfl) fun K hK => ?_; simp [-Bool.exists_bool, aop, hk1]; first | ((try simp (disch := omega) only [wrap64]); refine hK _ (by simp) ?_; clear hK K; simp))
        | ((with_reducible refine idp (p := awpL _ _ [] _ _) ?_); refine awpL_nil ?_)
        | ((with_reducible refine idp (p := awp _ (.region _ _ true) _ _) ?_); refine awp_drawn (by decide) ?_)
        | ((with_reducible refine idp (p := dwalk _ _ _ _ _ _ [] _ _) ?_); refine dwalk_nil (by simp; rfl) (by simp; rfl) ?_)
        | ((with_reducible refine idp (p := awp _ (.seq _ _) _ _) ?_); refine awp_seq fun K hK => ?_)
        | ((with_reducible refine idp (p := awp _ (.region _ _ false) _ _) ?_); refine awp_region ?_)
        | ((with_reducible refine idp (p := AThen _ _ .normal _) ?_); refine awp_then (by assumption) ?_)
        | ((with_reducible refine idp (p := AThen _ _ .ret _) ?_); refine awp_then_ret ?_)
        | ((with_reducible refine idp (p := AThen _ _ (.exit _) _) ?_); refine awp_then_exit ?_)
        | ((with_reducible refine idp (p := AIn _ _ .normal _) ?_); refine awp_in_normal ?_)
        | ((with_reducible refine idp (p := AIn _ _ .ret _) ?_); refine awp_in_ret ?_)
        | ((with_reducible refine idp (p := AIn _ _ (.exit _) _) ?_); first | refine awp_in_eq ?_ | refine awp_in_ne (by decide) ?_)
        | ((with_reducible refine idp (p := awp _ .ret _ _) ?_); refine awp_ret ?_)
        | ((with_reducible refine idp (p := awp _ (.cond _ _ _) _ _) ?_); (refine awp_cond rfl (fun hc => ?_) (fun hc => ?_) <;> (try simp at hc) <;> (try (exfalso; omega))))
        | ((with_reducible refine idp (p := awp _ (.block _ _) _ _) ?_); refine awp_block ?_)
        | ((with_reducible refine idp (p := awp _ (.exit _) _ _) ?_); refine awp_exit ?_)
        | ((with_reducible refine idp (p := awp _ .skip _ _) ?_); refine awp_skip ?_))
      all_goals (try (refine ⟨.inr rfl, ?_⟩; simp [Hands, Try.results58]))
      all_goals (repeat clear hK K)

end Go.Proofs.Ytbbefoefjmgnoaa
