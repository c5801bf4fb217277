/-
  Proved here: for every input, the law FnExactDeferredSlots returns true and leaves its argument as it was.
  No condition beyond what each statement spells out.
-/
import Derived.Test.YtbbefoefjmgnoaaB3
import Derived.Test.YtbbefoefjmgnoaaA5
import Derived.Test.YtbbefoefjmgnoaaA6
import Derived.Test.YtbbefoefjmgnoaaA7
import Derived.Test.YtbbefoefjmgnoaaM8
import Derived.Test.YtbbefoefjmgnoaaM9
import Derived.Test.YtbbefoefjmgnoaaAwFits
import Derived.Test.YtbbefoefjmgnoaaRows
set_option linter.all false
set_option linter.unusedSimpArgs false
set_option linter.unusedVariables false
set_option maxRecDepth 8000
set_option maxHeartbeats 8000000
namespace Go.Proofs.Ytbbefoefjmgnoaa
open Go.Aw

theorem DeferredSlots_ok (p : DPage) (hw : wfPage p) : Ok Try.prog 8 [.agg (ePage .view p)] (.bool true) := by
  have hsz := szPage_ok p 1048576 (by omega) (by omega) hw
  by_cases hlt : sub 1048576 (szPage p) < 0
  · refine ok_of_awp Try.mix Try.func8 rfl ?_
    simp only [Try.ntmps8, List.length_cons, List.length_nil, Nat.reduceSub, Nat.reduceAdd, List.replicate_succ, List.replicate_zero, List.cons_append, List.nil_append]
    repeat' (first
      | ((with_reducible refine idp (p := awpL _ _ (_ :: _) _ _) ?_); refine awpL_cons rfl fun K hK => ?_; simp [-Bool.exists_bool, aop]; first | (refine ⟨_, (hsz), hK _ ?_⟩; clear hK K; (try simp only [absorb_eq, absorbc_eq, absV, absVc, absO, absOc, absN, absNc, List.append_nil, List.nil_append, List.cons_append, List.length_cons, List.length_nil, Nat.add_zero, Nat.zero_add, Nat.reduceAdd])) | ((try simp (disch := omega) only [wrap64]); refine hK _ ?_; clear hK K))
      | ((with_reducible refine idp (p := awpL _ _ (_ :: _) _ _) ?_); refine awpL_take rfl ?_ ?_; (focus (simp [guardA]; done)); intro K hK; simp [-Bool.exists_bool, aop]; first | (refine ⟨_, (hsz), hK _ ?_⟩; clear hK K; (try simp only [absorb_eq, absorbc_eq, absV, absVc, absO, absOc, absN, absNc, List.append_nil, List.nil_append, List.cons_append, List.length_cons, List.length_nil, Nat.add_zero, Nat.zero_add, Nat.reduceAdd])) | ((try simp (disch := omega) only [wrap64]); refine hK _ ?_; clear hK K))
      | ((with_reducible refine idp (p := awpL _ _ (_ :: _) _ _) ?_); refine awpL_skip rfl ?_ ?_; (focus (simp [guardA]; done)); simp only [AS.put, List.set_cons_succ, List.set_cons_zero])
      | ((with_reducible refine idp (p := awpL _ _ (_ :: _) _ _) ?_); refine awpL_split rfl rfl rfl (fun hc => ?_) (fun hc => ?_) <;> simp only [List.set_cons_succ, List.set_cons_zero])
      | ((with_reducible refine idp (p := dwalk _ _ _ _ _ _ (_ :: _) _ _) ?_); refine dwalk_cons rfl rfl (by simp [Region.binds]; rfl) (by decide) (by simp [Region.binds]; rfl) (by simp; rfl) fun K hK => ?_; simp [-Bool.exists_bool, aop]; first | (refine ⟨_, (hsz), hK _ (by simp) ?_⟩; clear hK K; simp only [dval, absorb_eq, absorbc_eq, absV, absVc, absO, absOc, absN, absNc, List.append_nil, Nat.add_zero, Nat.zero_add, Nat.reduceAdd, List.length_cons, List.length_nil, List.cons_append, List.nil_append]) | ((try simp (disch := omega) only [wrap64]); refine hK _ (by simp) ?_; clear hK K; simp))
      | ((with_reducible refine idp (p := awpL _ _ [] _ _) ?_); refine awpL_nil ?_)
      | ((with_reducible refine idp (p := awp _ (.region _ _ true) _ _) ?_); refine awp_drawn (by decide) ?_)
      | ((with_reducible refine idp (p := dwalk _ _ _ _ _ _ [] _ _) ?_); refine dwalk_nil (by simp; rfl) (by simp; rfl) ?_)
      | ((with_reducible refine idp (p := awp _ (.seq _ _) _ _) ?_); refine awp_seq fun K hK => ?_)
      | ((with_reducible refine idp (p := awp _ (.region _ _ false) _ _) ?_); refine awp_region ?_)
      | ((with_reducible refine idp (p := AThen _ _ .normal _) ?_); refine awp_then (by assumption) ?_)
      | ((with_reducible refine idp (p := AThen _ _ .ret _) ?_); refine awp_then_ret ?_)
      | ((with_reducible refine idp (p := AThen _ _ (.exit _) _) ?_); refine awp_then_exit ?_)
      | ((with_reducible refine idp (p := AIn _ _ .normal _) ?_); refine awp_in_normal ?_)
      | ((with_reducible refine idp (p := AIn _ _ .ret _) ?_); refine awp_in_ret ?_)
      | ((with_reducible refine idp (p := AIn _ _ (.exit _) _) ?_); first | refine awp_in_eq ?_ | refine awp_in_ne (by decide) ?_)
      | ((with_reducible refine idp (p := awp _ .ret _ _) ?_); refine awp_ret ?_)
      | ((with_reducible refine idp (p := awp _ (.cond _ _ _) _ _) ?_); (refine awp_cond rfl (fun hc => ?_) (fun hc => ?_) <;> (try simp at hc) <;> (try (exfalso; omega))))
      | ((with_reducible refine idp (p := awp _ (.block _ _) _ _) ?_); refine awp_block ?_)
      | ((with_reducible refine idp (p := awp _ (.exit _) _ _) ?_); refine awp_exit ?_)
      | ((with_reducible refine idp (p := awp _ .skip _ _) ?_); refine awp_skip ?_))
    all_goals (try (refine ⟨.inr rfl, ?_⟩; simp [Hands, Try.results8]))
    all_goals (repeat clear hK K)
  have h1 := sub_range (by omega) (by omega : 0 ≤ sub 1048576 (szPage p))
  have hs : szPage p ≤ 1048576 := by omega
  have hf : p.slots.length ≤ 1048576 := by simp only [szPage, szL] at hs; omega
  have hq : p.queue.length ≤ 4611686018427387904 := by simp only [szPage, szL] at hs; omega
  have hb : p.builder.nodes.length ≤ 4611686018427387904 := by simp only [szPage, szBuilder, szL] at hs; omega
  have hqa : ∀ x ∈ p.queue, x.attrs.length ≤ 4611686018427387904 := attrs_Token (by simp only [szPage, szL] at hs; omega)
  have hba : ∀ x ∈ p.builder.nodes, x.attrs.length ≤ 4611686018427387904 := attrs_Node (by simp only [szPage, szBuilder, szL] at hs; omega)
  have hc := cPage_le p hs
  have hgl : (places deferS 0 p.slots).length ≤ 1048576 := by have := places_length deferS p.slots 0; omega
  generalize hg : places deferS 0 p.slots = g at *
  have hsg := sumN_const 1 g
  have hspec := specDeferredSlots_ok p hf
  have himpl := implDeferredSlots_ok p hf
  rw [hg] at hspec himpl
  refine ok_of_awp Try.mix Try.func8 rfl ?_
  simp only [Try.ntmps8, List.length_cons, List.length_nil, Nat.reduceSub, Nat.reduceAdd, List.replicate_succ, List.replicate_zero, List.cons_append, List.nil_append]
  repeat' (first
    | ((with_reducible refine idp (p := awpL _ _ (_ :: _) _ _) ?_); refine awpL_mut rfl fun K hK => ?_; simp [-Bool.exists_bool, amut]; refine ⟨_, _, (markPage_ok p _ (by omega) (by omega) hq hqa hb hba), ?_⟩; simp [-Bool.exists_bool, AS.mutated, ageO, AObj.aged, AObj.forget, newRows, newRowsc, Go.Aw.mt, Go.Aw.mtc]; refine hK _ ?_; clear hK K)
    | ((with_reducible refine idp (p := awpL _ _ (_ :: _) _ _) ?_); refine awpL_mut rfl fun K hK => ?_; simp [-Bool.exists_bool, amut]; refine ⟨_, _, (markIntS_ok g _ (by omega) (by omega) (by omega)), ?_⟩; simp [-Bool.exists_bool, AS.mutated, ageO, AObj.aged, AObj.forget, newRows, newRowsc, Go.Aw.mt, Go.Aw.mtc]; refine hK _ ?_; clear hK K)
    | ((with_reducible refine idp (p := awpL _ _ (_ :: _) _ _) ?_); refine awpL_cons rfl fun K hK => ?_; simp [-Bool.exists_bool, aop]; first | (refine ⟨_, (hsz), hK _ ?_⟩; clear hK K; (try simp only [absorb_eq, absorbc_eq, absV, absVc, absO, absOc, absN, absNc, List.append_nil, List.nil_append, List.cons_append, List.length_cons, List.length_nil, Nat.add_zero, Nat.zero_add, Nat.reduceAdd])) | (refine ⟨_, (toPage_ok p hs), hK _ ?_⟩; clear hK K; (try simp only [absorb_eq, absorbc_eq, absV, absVc, absO, absOc, absN, absNc, List.append_nil, List.nil_append, List.cons_append, List.length_cons, List.length_nil, Nat.add_zero, Nat.zero_add, Nat.reduceAdd])) | (refine ⟨_, (hspec), hK _ ?_⟩; clear hK K; (try simp only [absorb_eq, absorbc_eq, absV, absVc, absO, absOc, absN, absNc, List.append_nil, List.nil_append, List.cons_append, List.length_cons, List.length_nil, Nat.add_zero, Nat.zero_add, Nat.reduceAdd])) | (refine ⟨_, (himpl), hK _ ?_⟩; clear hK K; (try simp only [absorb_eq, absorbc_eq, absV, absVc, absO, absOc, absN, absNc, List.append_nil, List.nil_append, List.cons_append, List.length_cons, List.length_nil, Nat.add_zero, Nat.zero_add, Nat.reduceAdd])) | (refine ⟨_, (eqIntS_ok g g hgl), hK _ ?_⟩; clear hK K; (try simp only [absorb_eq, absorbc_eq, absV, absVc, absO, absOc, absN, absNc, List.append_nil, List.nil_append, List.cons_append, List.length_cons, List.length_nil, Nat.add_zero, Nat.zero_add, Nat.reduceAdd])) | (refine ⟨_, (eqPage_ok p p hs), hK _ ?_⟩; clear hK K; (try simp only [absorb_eq, absorbc_eq, absV, absVc, absO, absOc, absN, absNc, List.append_nil, List.nil_append, List.cons_append, List.length_cons, List.length_nil, Nat.add_zero, Nat.zero_add, Nat.reduceAdd])) | (refine ⟨_, (heldIntS_ok g _ (by omega) (by omega)), hK _ ?_⟩; clear hK K; (try simp only [absorb_eq, absorbc_eq, absV, absVc, absO, absOc, absN, absNc, List.append_nil, List.nil_append, List.cons_append, List.length_cons, List.length_nil, Nat.add_zero, Nat.zero_add, Nat.reduceAdd])) | ((try simp (disch := omega) only [wrap64]); refine hK _ ?_; clear hK K))
    | ((with_reducible refine idp (p := awpL _ _ (_ :: _) _ _) ?_); refine awpL_take rfl ?_ ?_; (focus (simp [guardA]; done)); intro K hK; simp [-Bool.exists_bool, aop]; first | (refine ⟨_, (hsz), hK _ ?_⟩; clear hK K; (try simp only [absorb_eq, absorbc_eq, absV, absVc, absO, absOc, absN, absNc, List.append_nil, List.nil_append, List.cons_append, List.length_cons, List.length_nil, Nat.add_zero, Nat.zero_add, Nat.reduceAdd])) | (refine ⟨_, (toPage_ok p hs), hK _ ?_⟩; clear hK K; (try simp only [absorb_eq, absorbc_eq, absV, absVc, absO, absOc, absN, absNc, List.append_nil, List.nil_append, List.cons_append, List.length_cons, List.length_nil, Nat.add_zero, Nat.zero_add, Nat.reduceAdd])) | (refine ⟨_, (hspec), hK _ ?_⟩; clear hK K; (try simp only [absorb_eq, absorbc_eq, absV, absVc, absO, absOc, absN, absNc, List.append_nil, List.nil_append, List.cons_append, List.length_cons, List.length_nil, Nat.add_zero, Nat.zero_add, Nat.reduceAdd])) | (refine ⟨_, (himpl), hK _ ?_⟩; clear hK K; (try simp only [absorb_eq, absorbc_eq, absV, absVc, absO, absOc, absN, absNc, List.append_nil, List.nil_append, List.cons_append, List.length_cons, List.length_nil, Nat.add_zero, Nat.zero_add, Nat.reduceAdd])) | (refine ⟨_, (eqIntS_ok g g hgl), hK _ ?_⟩; clear hK K; (try simp only [absorb_eq, absorbc_eq, absV, absVc, absO, absOc, absN, absNc, List.append_nil, List.nil_append, List.cons_append, List.length_cons, List.length_nil, Nat.add_zero, Nat.zero_add, Nat.reduceAdd])) | (refine ⟨_, (eqPage_ok p p hs), hK _ ?_⟩; clear hK K; (try simp only [absorb_eq, absorbc_eq, absV, absVc, absO, absOc, absN, absNc, List.append_nil, List.nil_append, List.cons_append, List.length_cons, List.length_nil, Nat.add_zero, Nat.zero_add, Nat.reduceAdd])) | (refine ⟨_, (heldIntS_ok g _ (by omega) (by omega)), hK _ ?_⟩; clear hK K; (try simp only [absorb_eq, absorbc_eq, absV, absVc, absO, absOc, absN, absNc, List.append_nil, List.nil_append, List.cons_append, List.length_cons, List.length_nil, Nat.add_zero, Nat.zero_add, Nat.reduceAdd])) | ((try simp (disch := omega) only [wrap64]); refine hK _ ?_; clear hK K))
    | ((with_reducible refine idp (p := awpL _ _ (_ :: _) _ _) ?_); refine awpL_skip rfl ?_ ?_; (focus (simp [guardA]; done)); simp only [AS.put, List.set_cons_succ, List.set_cons_zero])
    | ((with_reducible refine idp (p := awpL _ _ (_ :: _) _ _) ?_); refine awpL_split rfl rfl rfl (fun hc => ?_) (fun hc => ?_) <;> simp only [List.set_cons_succ, List.set_cons_zero])
    | ((with_reducible refine idp (p := dwalk _ _ _ _ _ _ (_ :: _) _ _) ?_); refine dwalk_cons rfl rfl (by simp [Region.binds]; rfl) (by decide) (by simp [Region.binds]; rfl) (by simp; rfl) fun K hK => ?_; simp [-Bool.exists_bool, aop]; first | (refine ⟨_, (hsz), hK _ (by simp) ?_⟩; clear hK K; simp only [dval, absorb_eq, absorbc_eq, absV, absVc, absO, absOc, absN, absNc, List.append_nil, Nat.add_zero, Nat.zero_add, Nat.reduceAdd, List.length_cons, List.length_nil, List.cons_append, List.nil_append]) | (refine ⟨_, (toPage_ok p hs), hK _ (by simp) ?_⟩; clear hK K; simp only [dval, absorb_eq, absorbc_eq, absV, absVc, absO, absOc, absN, absNc, List.append_nil, Nat.add_zero, Nat.zero_add, Nat.reduceAdd, List.length_cons, List.length_nil, List.cons_append, List.nil_append]) | (refine ⟨_, (hspec), hK _ (by simp) ?_⟩; clear hK K; simp only [dval, absorb_eq, absorbc_eq, absV, absVc, absO, absOc, absN, absNc, List.append_nil, Nat.add_zero, Nat.zero_add, Nat.reduceAdd, List.length_cons, List.length_nil, List.cons_append, List.nil_append]) | (refine ⟨_, (himpl), hK _ (by simp) ?_⟩; clear hK K; simp only [dval, absorb_eq, absorbc_eq, absV, absVc, absO, absOc, absN, absNc, List.append_nil, Nat.add_zero, Nat.zero_add, Nat.reduceAdd, List.length_cons, List.length_nil, List.cons_append, List.nil_append]) | (refine ⟨_, (eqIntS_ok g g hgl), hK _ (by simp) ?_⟩; clear hK K; simp only [dval, absorb_eq, absorbc_eq, absV, absVc, absO, absOc, absN, absNc, List.append_nil, Nat.add_zero, Nat.zero_add, Nat.reduceAdd, List.length_cons, List.length_nil, List.cons_append, List.nil_append]) | (refine ⟨_, (eqPage_ok p p hs), hK _ (by simp) ?_⟩; clear hK K; simp only [dval, absorb_eq, absorbc_eq, absV, absVc, absO, absOc, absN, absNc, List.append_nil, Nat.add_zero, Nat.zero_add, Nat.reduceAdd, List.length_cons, List.length_nil, List.cons_append, List.nil_append]) | (refine ⟨_, (heldIntS_ok g _ (by omega) (by omega)), hK _ (by simp) ?_⟩; clear hK K; simp only [dval, absorb_eq, absorbc_eq, absV, absVc, absO, absOc, absN, absNc, List.append_nil, Nat.add_zero, Nat.zero_add, Nat.reduceAdd, List.length_cons, List.length_nil, List.cons_append, List.nil_append]) | ((try simp (disch := omega) only [wrap64]); refine hK _ (by simp) ?_; clear hK K; simp))
    | ((with_reducible refine idp (p := awpL _ _ [] _ _) ?_); refine awpL_nil ?_)
    | ((with_reducible refine idp (p := awp _ (.region _ _ true) _ _) ?_); refine awp_drawn (by decide) ?_)
    | ((with_reducible refine idp (p := dwalk _ _ _ _ _ _ [] _ _) ?_); refine dwalk_nil (by simp; rfl) (by simp; rfl) ?_)
    | ((with_reducible refine idp (p := awp _ (.seq _ _) _ _) ?_); refine awp_seq fun K hK => ?_)
    | ((with_reducible refine idp (p := awp _ (.region _ _ false) _ _) ?_); refine awp_region ?_)
    | ((with_reducible refine idp (p := AThen _ _ .normal _) ?_); refine awp_then (by assumption) ?_)
    | ((with_reducible refine idp (p := AThen _ _ .ret _) ?_); refine awp_then_ret ?_)
    | ((with_reducible refine idp (p := AThen _ _ (.exit _) _) ?_); refine awp_then_exit ?_)
    | ((with_reducible refine idp (p := AIn _ _ .normal _) ?_); refine awp_in_normal ?_)
    | ((with_reducible refine idp (p := AIn _ _ .ret _) ?_); refine awp_in_ret ?_)
    | ((with_reducible refine idp (p := AIn _ _ (.exit _) _) ?_); first | refine awp_in_eq ?_ | refine awp_in_ne (by decide) ?_)
    | ((with_reducible refine idp (p := awp _ .ret _ _) ?_); refine awp_ret ?_)
    | ((with_reducible refine idp (p := awp _ (.cond _ _ _) _ _) ?_); (refine awp_cond rfl (fun hc => ?_) (fun hc => ?_) <;> (try simp at hc) <;> (try (exfalso; omega))))
    | ((with_reducible refine idp (p := awp _ (.block _ _) _ _) ?_); refine awp_block ?_)
    | ((with_reducible refine idp (p := awp _ (.exit _) _ _) ?_); refine awp_exit ?_)
    | ((with_reducible refine idp (p := awp _ .skip _ _) ?_); refine awp_skip ?_))
  all_goals (try (refine ⟨.inr rfl, ?_⟩; simp [Hands, Try.results8]))
  all_goals (repeat clear hK K)
  all_goals (simp only [decide_eq_true_eq] at *; omega)

set_option maxRecDepth 100000 in
theorem law8_lifted (os : Os) (started : os.Started) (H : Type) (enc : TypeId × Value → H) :
    ReturnsInHanded {} Try.checked os 8 .any (Rows.fnExactDeferredSlotsSpec.pre6 enc Try.prog Try.f8 Rows.fnExactDeferredSlotsRow.domain false) (Rows.fnExactDeferredSlotsSpec.post enc Try.prog Try.f8 false true false false) := by
  refine returnsInHanded_of_change (C := Try.checked) (by kernel_rfl) started (by kernel_rfl) Try.func8
    (ChangeSpec.witness6 (enc := enc) (C := Try.checked) false ⟨#[], #[.agg #[.string ⟨#[]⟩, .string ⟨#[]⟩, .bool false, .slice none 0 0, .slice none 0 0, .slice none 0 0, .string ⟨#[]⟩, .string ⟨#[]⟩, .slice none 0 0, .bool false, .slice none 0 0, .slice none 0 0, .slice none 0 0, .slice none 0 0, .slice none 0 0, .int .i64 0, .int .i64 0, .int .i64 0, .int .i64 0, .slice none 0 0, .slice none 0 0, .bool false]], []⟩ 8 (by kernel_rfl) (by kernel_rfl) (by kernel_rfl) (by kernel_rfl)) ?_
  intro W base args ds gs before hval hW _ _
  exact row_true (C := Try.checked) (ss := [.agg shPage]) (fuel := 8) (tb := 4) (by kernel_rfl) (by decide +kernel) (by kernel_rfl) (by kernel_rfl) (by kernel_rfl) rfl
    (fun ds h => by
      match ds, h with
      | [d0], _ => rfl)
    (fun avs hf => by
      obtain ⟨c, r, rfl, hx, hf1⟩ := fitsV_agg hf
      obtain rfl := fitsV_nil hf1
      obtain ⟨p, rfl, hw, _⟩ := fits_Page c hx
      exact DeferredSlots_ok p hw) hval hW
/-- For every input the law returns true and its arguments read as they did. -/
theorem law8_holds : Rows.FnExactDeferredSlotsSaid :=
  OpenClaim.holds_of_wide 8 Try.f8 rfl rfl rfl rfl rfl rfl rfl ⟨rfl, rfl, rfl, rfl, rfl⟩ rfl rfl rfl rfl rfl (by kernel_rfl) Try.func8 (by kernel_rfl)
    (of_decide_eq_true (by kernel_rfl)) (by unfold Func.isWrapper; first | (rw [if_pos (by decide +kernel)]; kernel_rfl) | (rw [if_neg (by decide +kernel)]; exact ⟨rfl, rfl⟩))
    (fun os started H enc _ => law8_lifted os started H enc)
end Go.Proofs.Ytbbefoefjmgnoaa
