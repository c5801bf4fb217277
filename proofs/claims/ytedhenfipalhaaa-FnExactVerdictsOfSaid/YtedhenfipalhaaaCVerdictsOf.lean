/-
  Proved here: steps towards the statement of this claim, text CVerdictsOf.
  No condition beyond what each statement spells out.
-/
import Derived.Test.YtedhenfipalhaaaN4
import Derived.Test.YtedhenfipalhaaaV1
import Derived.Test.YtedhenfipalhaaaV2
import Derived.Test.YtedhenfipalhaaaV3
import Derived.Test.YtedhenfipalhaaaM8
import Derived.Test.YtedhenfipalhaaaW4
import Derived.Test.YtedhenfipalhaaaW5
import Derived.Test.YtedhenfipalhaaaW2
import Derived.Test.YtedhenfipalhaaaF4
import Derived.Test.YtedhenfipalhaaaRows
set_option linter.all false
set_option linter.unusedSimpArgs false
set_option linter.unusedVariables false
set_option maxRecDepth 8000
set_option maxHeartbeats 8000000
namespace Go.Proofs.Ytedhenfipalhaaa
open Go.Aw
theorem sum40 {α : Type} {f : α → Str} (h : ∀ x, (f x).length ≤ 40) : ∀ l : List α, sumN szStr (mapL f l) ≤ 40 * l.length
  | [] => by simp [mapL, sumN]
  | x :: l => by
    have h1 := h x
    have ih := sum40 h l
    simp only [mapL, List.map_cons, sumN, szStr, List.length_cons] at ih ⊢
    omega
theorem verdicts_sz (p : DPage) : sumN szStr (verdictsOf p) ≤ 40 * (p.slots.length + p.mods.length) ∧ (verdictsOf p).length = p.slots.length + p.mods.length := by
  have h1 := sum40 (f := vS) (fun s => verdictText_len _ _ _ _) p.slots
  have h2 := sum40 (f := vM) (fun s => verdictText_len _ _ _ _) p.mods
  have h3 : ∀ a b : List Str, sumN szStr (a ++ b) = sumN szStr a + sumN szStr b := by
    intro a b
    induction a with
    | nil => simp [sumN]
    | cons x xs ih => simp only [List.cons_append, sumN, ih]; omega
  refine ⟨?_, by simp [verdictsOf, mapL_length]⟩
  simp only [verdictsOf, h3]
  omega
theorem FnExactVerdictsOf_law [Tabs Try.prog] (p : DPage) (hwp : wfPage p) (hrp : rgPage p) : Ok Try.prog 4 [.agg (ePage .view p)] (.bool true) := by
  have hz0 := szPage_ok p 1048576 (by omega) (by omega) hwp
  by_cases qz0 : (szPage p) ≤ 1048576
  · rw [sub_pos (by omega)] at hz0
    have hs : szPage p ≤ 1048576 := by omega
    have hS : p.slots.length ≤ 1048576 ∧ sumN szSlot p.slots ≤ 1048576 := by simp only [szPage, szL] at hs; omega
    have hM : p.mods.length ≤ 1048576 ∧ sumN szModule p.mods ≤ 1048576 := by simp only [szPage, szL] at hs; omega
    have hA : szAddr p.addr ≤ 1048576 := by simp only [szPage] at hs; omega
    have hSM : p.slots.length + p.mods.length + sumN szSlot p.slots + sumN szModule p.mods ≤ 1048576 := by simp only [szPage, szL] at hs; omega
    have hq : p.queue.length ≤ 4611686018427387904 := by simp only [szPage, szL] at hs; omega
    have hb : p.builder.nodes.length ≤ 4611686018427387904 := by simp only [szPage, szBuilder, szL] at hs; omega
    have hqa : ∀ x ∈ p.queue, x.attrs.length ≤ 4611686018427387904 := attrs_Token (by simp only [szPage, szL] at hs; omega)
    have hba : ∀ x ∈ p.builder.nodes, x.attrs.length ≤ 4611686018427387904 := attrs_Node (by simp only [szPage, szBuilder, szL] at hs; omega)
    have hc := cPage_le p hs
    have t1 := toPage_ok p hs
    have t2 := specVerdictsOf_ok p hS hM
    have t3 := implVerdictsOf_ok p hS hM
    obtain ⟨z1, z2⟩ := verdicts_sz p
    generalize verdictsOf p = g at *
    have e1 := eqStringS_ok g g (by simp only [szL]; omega)
    have e2 := eqPage_ok p p (by omega)
    have hcg := sumN_const 1 g
    have m1 := markPage_ok p 1 (by omega) (by omega) hq hqa hb hba
    have m2 := markStringS_ok g 1 (by omega) (by omega) (by omega)
    have m3 := heldStringS_ok g 1 (by omega) (by omega) (by omega)
    refine ent Try.mix Try.func4 Try.ntmps4 ?_
    have W := trivial
    have c0 := hz0
    repeat' first|refine st ?_|(refine nx ?_;first|refine so ?_|refine sm (hc:=m1) (h:=?_)|refine sm (hc:=m2) (h:=?_))|(refine cx ?_;refine sc (fun hc=>?_) (fun hc=>?_)<;>try exact hc.elim)|(refine lx ?_;refine sp (fun hc=>?_) (fun hc=>?_)<;>try exact hc.elim)|refine sx ?_ ?_|refine sy ?_ ?_|fail
    all_goals (try (refine ⟨.inr rfl, ?_⟩; simp [Hands, Try.results4]))
    all_goals (try simp only [decide_eq_true_eq] at *); all_goals (first | omega | simp_all)
  · rw [sub_neg (by omega)] at hz0
    refine ent Try.mix Try.func4 Try.ntmps4 ?_
    have W := trivial
    have c0 := hz0
    repeat' first|refine st ?_|(refine nx ?_;refine so ?_)|(refine cx ?_;refine sc (fun hc=>?_) (fun hc=>?_)<;>try exact hc.elim)|(refine lx ?_;refine sp (fun hc=>?_) (fun hc=>?_)<;>try exact hc.elim)|refine sx ?_ ?_|refine sy ?_ ?_|fail
    all_goals (try (refine ⟨.inr rfl, ?_⟩; simp [Hands, Try.results4]))

set_option maxRecDepth 100000 in
theorem law4_lifted (os : Os) (started : os.Started) (H : Type) (enc : TypeId × Value → H) :
    ReturnsInHanded {} Try.checked os 4 .any (Rows.fnExactVerdictsOfSpec.pre6 enc Try.prog Try.f4 Rows.fnExactVerdictsOfRow.domain false) (Rows.fnExactVerdictsOfSpec.post enc Try.prog Try.f4 false true false false) := by
  refine returnsInHanded_of_change (C := Try.checked) (by kernel_rfl) started (by kernel_rfl) Try.func4
    (ChangeSpec.witness6 (enc := enc) (C := Try.checked) false ⟨#[], #[.agg #[.string ⟨#[]⟩, .string ⟨#[]⟩, .bool false, .slice none 0 0, .slice none 0 0, .slice none 0 0, .string ⟨#[]⟩, .string ⟨#[]⟩, .slice none 0 0, .bool false, .slice none 0 0, .slice none 0 0, .slice none 0 0, .slice none 0 0, .slice none 0 0, .int .i64 0, .int .i64 0, .int .i64 0, .int .i64 0, .slice none 0 0, .slice none 0 0, .bool false]], []⟩ 8 (by kernel_rfl) (by kernel_rfl) (by kernel_rfl) (by kernel_rfl)) ?_
  intro W base args ds gs before hval hW _ _
  letI T : Tabs Try.prog := { holds := fun _ => True, low := 0, low_le := fun _ _ => Nat.zero_le _, stable := fun _ _ _ _ => trivial }
  exact row_true (C := Try.checked) (T := T) (ss := [.agg shPage]) (fuel := 8) (tb := 4) (by kernel_rfl) (by decide +kernel) (by kernel_rfl) (by kernel_rfl) (by kernel_rfl) rfl
    (fun ds h => by
      match ds, h with
      | [d0], _ => rfl)
    (fun avs hf => by
      obtain ⟨c, r0, rfl, hx, hf1⟩ := fitsV_agg hf
      obtain ⟨p, rfl, hwp, hrp⟩ := fits_Page c hx
      obtain rfl := fitsV_nil hf1
      exact FnExactVerdictsOf_law p hwp hrp) trivial hval hW
/-- For every input the law returns true and its arguments read as they did. -/
theorem law4_holds : Rows.FnExactVerdictsOfSaid :=
  OpenClaim.holds_of_wide 4 Try.f4 rfl rfl rfl rfl rfl rfl rfl ⟨rfl, rfl, rfl, rfl, rfl⟩ rfl rfl rfl rfl rfl (by kernel_rfl) Try.func4 (by kernel_rfl)
    (of_decide_eq_true (by kernel_rfl)) (by unfold Func.isWrapper; first | (rw [if_pos (by decide +kernel)]; kernel_rfl) | (rw [if_neg (by decide +kernel)]; exact ⟨rfl, rfl⟩))
    (fun os started H enc _ => law4_lifted os started H enc)

end Go.Proofs.Ytedhenfipalhaaa
