/-
  Proved here: for every input, the law FnExactEndPage returns true and leaves its argument as it was.
  No condition beyond what each statement spells out.
-/
import Derived.Test.YtedhenfipalhaaaY5
import Derived.Test.YtedhenfipalhaaaV1
import Derived.Test.YtedhenfipalhaaaV2
import Derived.Test.YtedhenfipalhaaaV3
import Derived.Test.YtedhenfipalhaaaM8
import Derived.Test.YtedhenfipalhaaaX2
import Derived.Test.YtedhenfipalhaaaF4
import Derived.Test.YtedhenfipalhaaaRows
set_option linter.all false
set_option linter.unusedSimpArgs false
set_option linter.unusedVariables false
set_option maxRecDepth 8000
set_option maxHeartbeats 8000000
namespace Go.Proofs.Ytedhenfipalhaaa
open Go.Aw
theorem sumN_join {α : Type} (f : α → Nat) : ∀ a b : List α, sumN f (a ++ b) = sumN f a + sumN f b
  | [], b => by simp [sumN]
  | x :: xs, b => by simp only [List.cons_append, sumN, sumN_join f xs b]; omega
theorem endText_sz (t : DTokenizer) : szL szToken (endText t) ≤ 1 + szTokenizer t := by
  unfold endText
  split
  · simp [szL, sumN]
  · simp [szL, sumN, szToken, szTokenizer]
theorem endPage_sz (p : DPage) : szPage (endPage p) ≤ szPage p + 1 := by
  unfold endPage
  split
  · omega
  · have h := endText_sz p.tok
    simp only [szPage, szL, szTokenizer, List.length_append, sumN_join, List.length_nil] at h ⊢
    omega
theorem cPage_le1 (p : DPage) (h : szPage p ≤ 1048577) : cPage p ≤ 20971540 := by
  have h1 := sumN_le_c 3 cToken_le p.queue
  have h2 := sumN_le_c 3 cNode_le p.builder.nodes
  simp only [szPage, szPolicy, szBuilder, szL] at h
  simp only [cPage, cPolicy, cBuilder, sumN_const]
  omega
theorem FnExactEndPage_law [Tabs Try.prog] (p : DPage) (hwp : wfPage p) (hrp : rgPage p) : Ok Try.prog 6 [.agg (ePage .view p)] (.bool true) := by
  have hz0 := szPage_ok p 1048576 (by omega) (by omega) hwp
  by_cases qz0 : (szPage p) ≤ 1048576
  · rw [sub_pos (by omega)] at hz0
    have hs : szPage p ≤ 1048576 := by omega
    have hq : p.queue.length ≤ 4611686018427387904 := by simp only [szPage, szL] at hs; omega
    have hb : p.builder.nodes.length ≤ 4611686018427387904 := by simp only [szPage, szBuilder, szL] at hs; omega
    have hqa : ∀ x ∈ p.queue, x.attrs.length ≤ 4611686018427387904 := attrs_Token (by simp only [szPage, szL] at hs; omega)
    have hba : ∀ x ∈ p.builder.nodes, x.attrs.length ≤ 4611686018427387904 := attrs_Node (by simp only [szPage, szBuilder, szL] at hs; omega)
    have hc := cPage_le p hs
    have t1 := toPage_ok p hs
    have t2 := specEndPage_ok p hs
    have t3 := implEndPage_ok p hs
    have hgs := endPage_sz p
    generalize endPage p = g at *
    have hgs : szPage g ≤ 1048577 := by omega
    have gq : g.queue.length ≤ 4611686018427387904 := by simp only [szPage, szL] at hgs; omega
    have gb : g.builder.nodes.length ≤ 4611686018427387904 := by simp only [szPage, szBuilder, szL] at hgs; omega
    have gqa : ∀ x ∈ g.queue, x.attrs.length ≤ 4611686018427387904 := attrs_Token (by simp only [szPage, szL] at hgs; omega)
    have gba : ∀ x ∈ g.builder.nodes, x.attrs.length ≤ 4611686018427387904 := attrs_Node (by simp only [szPage, szBuilder, szL] at hgs; omega)
    have gc := cPage_le1 g hgs
    have e1 := eqPage_ok g g (by omega)
    have e2 := eqPage_ok p p (by omega)
    have m1 := markPage_ok p 1 (by omega) (by omega) hq hqa hb hba
    have m2 := markPage_ok g 1 (by omega) (by omega) gq gqa gb gba
    have m3 := heldPage_ok g 1 (by omega) (by omega) gq gqa gb gba
    refine ent Try.mix Try.func6 Try.ntmps6 ?_
    have W := trivial
    have c0 := hz0
    repeat' first|refine st ?_|(refine nx ?_;first|refine so ?_|refine sm (hc:=m1) (h:=?_)|refine sm (hc:=m2) (h:=?_))|(refine cx ?_;refine sc (fun hc=>?_) (fun hc=>?_)<;>try exact hc.elim)|(refine lx ?_;refine sp (fun hc=>?_) (fun hc=>?_)<;>try exact hc.elim)|refine sx ?_ ?_|refine sy ?_ ?_|fail
    all_goals (try (refine ⟨.inr rfl, ?_⟩; simp [Hands, Try.results6]))
    all_goals (try simp only [decide_eq_true_eq] at *); all_goals (first | omega | simp_all)
  · rw [sub_neg (by omega)] at hz0
    refine ent Try.mix Try.func6 Try.ntmps6 ?_
    have W := trivial
    have c0 := hz0
    repeat' first|refine st ?_|(refine nx ?_;refine so ?_)|(refine cx ?_;refine sc (fun hc=>?_) (fun hc=>?_)<;>try exact hc.elim)|(refine lx ?_;refine sp (fun hc=>?_) (fun hc=>?_)<;>try exact hc.elim)|refine sx ?_ ?_|refine sy ?_ ?_|fail
    all_goals (try (refine ⟨.inr rfl, ?_⟩; simp [Hands, Try.results6]))

set_option maxRecDepth 100000 in
theorem law6_lifted (os : Os) (started : os.Started) (H : Type) (enc : TypeId × Value → H) :
    ReturnsInHanded {} Try.checked os 6 .any (Rows.fnExactEndPageSpec.pre6 enc Try.prog Try.f6 Rows.fnExactEndPageRow.domain false) (Rows.fnExactEndPageSpec.post enc Try.prog Try.f6 false true false false) := by
  refine returnsInHanded_of_change (C := Try.checked) (by kernel_rfl) started (by kernel_rfl) Try.func6
    (ChangeSpec.witness6 (enc := enc) (C := Try.checked) false ⟨#[], #[.agg #[.string ⟨#[]⟩, .string ⟨#[]⟩, .bool false, .slice none 0 0, .slice none 0 0, .slice none 0 0, .string ⟨#[]⟩, .string ⟨#[]⟩, .slice none 0 0, .bool false, .slice none 0 0, .slice none 0 0, .slice none 0 0, .slice none 0 0, .slice none 0 0, .int .i64 0, .int .i64 0, .int .i64 0, .int .i64 0, .slice none 0 0, .slice none 0 0, .bool false]], []⟩ 8 (by kernel_rfl) (by kernel_rfl) (by kernel_rfl) (by kernel_rfl)) ?_
  intro W base args ds gs before hval hW _ _
  letI T : Tabs Try.prog := { holds := fun _ => True, low := 0, low_le := fun _ _ => Nat.zero_le _, stable := fun _ _ _ _ => trivial }
  exact row_true (C := Try.checked) (T := T) (ss := [.agg shPage]) (fuel := 8) (tb := 4) (by kernel_rfl) (by decide +kernel) (by kernel_rfl) (by kernel_rfl) (by kernel_rfl) rfl
    (fun ds h => by
      match ds, h with
      | [d0], _ => rfl)
    (fun avs hf => by
      obtain ⟨c, r0, rfl, hx, hf1⟩ := fitsV_agg hf
      obtain ⟨p, rfl, hwp, hrp⟩ := fits_Page c hx
      obtain rfl := fitsV_nil hf1
      exact FnExactEndPage_law p hwp hrp) trivial hval hW
/-- For every input the law returns true and its arguments read as they did. -/
theorem law6_holds : Rows.FnExactEndPageSaid :=
  OpenClaim.holds_of_wide 6 Try.f6 rfl rfl rfl rfl rfl rfl rfl ⟨rfl, rfl, rfl, rfl, rfl⟩ rfl rfl rfl rfl rfl (by kernel_rfl) Try.func6 (by kernel_rfl)
    (of_decide_eq_true (by kernel_rfl)) (by unfold Func.isWrapper; first | (rw [if_pos (by decide +kernel)]; kernel_rfl) | (rw [if_neg (by decide +kernel)]; exact ⟨rfl, rfl⟩))
    (fun os started H enc _ => law6_lifted os started H enc)

end Go.Proofs.Ytedhenfipalhaaa
