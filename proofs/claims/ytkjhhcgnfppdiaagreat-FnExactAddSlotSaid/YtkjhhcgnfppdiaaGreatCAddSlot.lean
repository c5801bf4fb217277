/-
  Proved here: steps towards the statement of this claim, text CAddSlot.
  No condition beyond what each statement spells out.
-/
import Derived.Test.YtkjhhcgnfppdiaaGreatQ4
import Derived.Test.YtkjhhcgnfppdiaaGreatPL
import Derived.Test.YtkjhhcgnfppdiaaGreatV1
import Derived.Test.YtkjhhcgnfppdiaaGreatV2
import Derived.Test.YtkjhhcgnfppdiaaGreatV3
import Derived.Test.YtkjhhcgnfppdiaaGreatM8
import Derived.Test.YtkjhhcgnfppdiaaGreatX2
import Derived.Test.YtkjhhcgnfppdiaaGreatF4
import Derived.Test.YtkjhhcgnfppdiaaGreatRows
set_option linter.all false
set_option linter.unusedSimpArgs false
set_option linter.unusedVariables false
set_option maxRecDepth 8000
set_option maxHeartbeats 8000000
namespace Go.Proofs.YtkjhhcgnfppdiaaGreat
open Go.Aw
theorem addSlot_sz (p : DPage) (md : Int) (to dg : Str) (nd : Int) : szPage (addSlot p md to dg nd).1 ≤ 2 * szPage p + to.length + dg.length + 1 := by
  have h := parseAddr_sz to p.addr.host
  have h2 : p.addr.host.length ≤ szPage p := by simp only [szPage, szAddr]; omega
  unfold addSlot
  split
  · simp only; omega
  · split
    · simp only [szPage, szL, List.length_append, sumN_join, sumN, szSlot, List.length_cons, List.length_nil] at h2 ⊢
      omega
    · simp only [szPage, szL, List.length_append, sumN_join, sumN, szSlot, List.length_cons, List.length_nil] at h2 ⊢
      omega
theorem addSlot_rg (p : DPage) (md : Int) (to dg : Str) (nd : Int) (h : p.slots.length ≤ 1048576) : -1 ≤ (addSlot p md to dg nd).2 ∧ (addSlot p md to dg nd).2 ≤ 1048576 := by
  unfold addSlot
  split
  · simp
  · split <;> simp only <;> omega
theorem FnExactAddSlot_law [Tabs Tryz.prog] (p : DPage) (hwp : wfPage p) (hrp : rgPage p) (md : Int) (hrmd : rgI md) (to : Str) (hwto : to.length ≤ 9223372036854775807) (dg : Str) (hwdg : dg.length ≤ 9223372036854775807) (nd : Int) (hrnd : rgI nd) : Ok Tryz.prog 5 [.agg (ePage .view p), .int .i64 md, .str to, .str dg, .int .i64 nd] (.bool true) := by
  by_cases qsto : to.length ≤ 1048576
  · skip
    by_cases qsdg : dg.length ≤ 1048576
    · skip
      have hz0 := szPage_ok p 1048576 (by omega) (by omega) hwp
      by_cases qz0 : (szPage p) ≤ 1048576
      · rw [sub_pos (by omega)] at hz0
        have hs : szPage p ≤ 1048576 := by omega
        obtain ⟨⟨hc, hq⟩, hqa, hb, hba⟩ := page_facts p (by omega)
        have t1 := toPage_ok p hs
        have t2 := specAddSlot_ok p md to dg nd (by omega) (by omega) (by omega)
        have t3 := implAddSlot_ok p md to dg nd (by omega) (by omega) (by omega)
        have hgs := addSlot_sz p md to dg nd
        generalize addSlot p md to dg nd = u at *
        obtain ⟨g, z⟩ := u
        simp only at hgs t2 t3
        obtain ⟨⟨gc, gq⟩, gqa, gb, gba⟩ := page_facts g (by omega)
        have e1 := eqPage_ok g g (by omega)
        have e2 := eqPage_ok p p (by omega)
        have m1 := markPage_ok p 1 (by omega) (by omega) hq hqa hb hba
        have m2 := markPage_ok g 1 (by omega) (by omega) gq gqa gb gba
        have m3 := heldPage_ok g 1 (by omega) (by omega) gq gqa gb gba
        refine ent Tryz.mix Tryz.func5 Tryz.ntmps5 ?_
        have W := trivial
        have c0 := hz0
        repeat' first|refine st ?_|(refine nx ?_;first|refine so ?_|refine sm (hc:=m1) (h:=?_)|refine sm (hc:=m2) (h:=?_))|(refine cx ?_;refine sc (fun hc=>?_) (fun hc=>?_)<;>try exact hc.elim)|(refine lx ?_;refine sp (fun hc=>?_) (fun hc=>?_)<;>try exact hc.elim)|refine sx ?_ ?_|refine sy ?_ ?_|fail
        all_goals (try (refine ⟨.inr rfl, ?_⟩; simp [Hands, Tryz.results5]))
        all_goals (try simp only [decide_eq_true_eq] at *); all_goals (first | omega | simp_all)
      · rw [sub_neg (by omega)] at hz0
        refine ent Tryz.mix Tryz.func5 Tryz.ntmps5 ?_
        have W := trivial
        have c0 := hz0
        repeat' first|refine st ?_|(refine nx ?_;refine so ?_)|(refine cx ?_;refine sc (fun hc=>?_) (fun hc=>?_)<;>try exact hc.elim)|(refine lx ?_;refine sp (fun hc=>?_) (fun hc=>?_)<;>try exact hc.elim)|refine sx ?_ ?_|refine sy ?_ ?_|fail
        all_goals (try (refine ⟨.inr rfl, ?_⟩; simp [Hands, Tryz.results5]))
    · refine ent Tryz.mix Tryz.func5 Tryz.ntmps5 ?_
      have W := trivial
      repeat' first|refine st ?_|(refine nx ?_;refine so ?_)|(refine cx ?_;refine sc (fun hc=>?_) (fun hc=>?_)<;>try exact hc.elim)|(refine lx ?_;refine sp (fun hc=>?_) (fun hc=>?_)<;>try exact hc.elim)|refine sx ?_ ?_|refine sy ?_ ?_|fail
      all_goals (try (refine ⟨.inr rfl, ?_⟩; simp [Hands, Tryz.results5]))
  · refine ent Tryz.mix Tryz.func5 Tryz.ntmps5 ?_
    have W := trivial
    repeat' first|refine st ?_|(refine nx ?_;refine so ?_)|(refine cx ?_;refine sc (fun hc=>?_) (fun hc=>?_)<;>try exact hc.elim)|(refine lx ?_;refine sp (fun hc=>?_) (fun hc=>?_)<;>try exact hc.elim)|refine sx ?_ ?_|refine sy ?_ ?_|fail
    all_goals (try (refine ⟨.inr rfl, ?_⟩; simp [Hands, Tryz.results5]))

set_option maxRecDepth 100000 in
theorem law5_lifted (os : Os) (started : os.Started) (H : Type) (enc : TypeId × Value → H) :
    ReturnsInHanded {} Tryz.checked os 5 .any (Rows.fnExactAddSlotSpec.pre6 enc Tryz.prog Tryz.f5 Rows.fnExactAddSlotRow.domain false) (Rows.fnExactAddSlotSpec.post enc Tryz.prog Tryz.f5 false true false false) := by
  refine returnsInHanded_of_change (C := Tryz.checked) (by kernel_rfl) started (by kernel_rfl) Tryz.func5
    (ChangeSpec.witness6 (enc := enc) (C := Tryz.checked) false ⟨#[], #[.agg #[.string ⟨#[]⟩, .string ⟨#[]⟩, .bool false, .slice none 0 0, .slice none 0 0, .slice none 0 0, .string ⟨#[]⟩, .string ⟨#[]⟩, .slice none 0 0, .bool false, .slice none 0 0, .slice none 0 0, .slice none 0 0, .slice none 0 0, .slice none 0 0, .int .i64 0, .int .i64 0, .int .i64 0, .int .i64 0, .slice none 0 0, .slice none 0 0, .bool false], .int .i64 0, .string ⟨#[]⟩, .string ⟨#[]⟩, .int .i64 0], []⟩ 8 (by kernel_rfl) (by kernel_rfl) (by kernel_rfl) (by kernel_rfl)) ?_
  intro W base args ds gs before hval hW _ _
  letI T : Tabs Tryz.prog := { holds := fun _ => True, low := 0, low_le := fun _ _ => Nat.zero_le _, stable := fun _ _ _ _ => trivial }
  exact row_true (C := Tryz.checked) (T := T) (ss := [.agg shPage, .one (.int .i64), .one .str, .one .str, .one (.int .i64)]) (fuel := 8) (tb := 4) (by kernel_rfl) (by decide +kernel) (by kernel_rfl) (by kernel_rfl) (by kernel_rfl) rfl
    (fun ds h => by
      match ds, h with
      | [d0, d1, d2, d3, d4], _ => rfl)
    (fun avs hf => by
      obtain ⟨c, r0, rfl, hx, hf1⟩ := fitsV_agg hf
      obtain ⟨p, rfl, hwp, hrp⟩ := fits_Page c hx
      obtain ⟨x, r1, rfl, hx, hf2⟩ := fitsV_one hf1
      obtain ⟨md, rfl, hrmd⟩ := fits_one_int hx
      obtain ⟨x, r2, rfl, hx, hf3⟩ := fitsV_one hf2
      obtain ⟨to, rfl, hwto⟩ := fits_one_str hx
      obtain ⟨x, r3, rfl, hx, hf4⟩ := fitsV_one hf3
      obtain ⟨dg, rfl, hwdg⟩ := fits_one_str hx
      obtain ⟨x, r4, rfl, hx, hf5⟩ := fitsV_one hf4
      obtain ⟨nd, rfl, hrnd⟩ := fits_one_int hx
      obtain rfl := fitsV_nil hf5
      exact FnExactAddSlot_law p hwp hrp md hrmd to hwto dg hwdg nd hrnd) trivial hval hW
/-- For every input the law returns true and its arguments read as they did. -/
theorem law5_holds : Rows.FnExactAddSlotSaid :=
  OpenClaim.holds_of_wide 5 Tryz.f5 rfl rfl rfl rfl rfl rfl rfl ⟨rfl, rfl, rfl, rfl, rfl⟩ rfl rfl rfl rfl rfl (by kernel_rfl) Tryz.func5 (by kernel_rfl)
    (of_decide_eq_true (by kernel_rfl)) (by unfold Func.isWrapper; first | (rw [if_pos (by decide +kernel)]; kernel_rfl) | (rw [if_neg (by decide +kernel)]; exact ⟨rfl, rfl⟩))
    (fun os started H enc _ => law5_lifted os started H enc)

end Go.Proofs.YtkjhhcgnfppdiaaGreat
