/-
  Proved here: steps towards the statement of this claim, text CColorsOf.
  No condition beyond what each statement spells out.
-/
import Derived.Test.YtkjhhcgnfppdiaaGreatDoorC3
import Derived.Test.YtkjhhcgnfppdiaaGreatDoorW1
import Derived.Test.YtkjhhcgnfppdiaaGreatDoorH1
import Derived.Test.YtkjhhcgnfppdiaaGreatDoorPL
import Derived.Test.YtkjhhcgnfppdiaaGreatDoorV1
import Derived.Test.YtkjhhcgnfppdiaaGreatDoorV2
import Derived.Test.YtkjhhcgnfppdiaaGreatDoorV3
import Derived.Test.YtkjhhcgnfppdiaaGreatDoorM8
import Derived.Test.YtkjhhcgnfppdiaaGreatDoorX2
import Derived.Test.YtkjhhcgnfppdiaaGreatDoorF4
import Derived.Test.YtkjhhcgnfppdiaaGreatDoorF7
import Derived.Test.YtkjhhcgnfppdiaaGreatDoorKColorsOf
import Derived.Lay
import Derived.SevenTiedAt
import Derived.Test.YtkjhhcgnfppdiaaGreatDoorRows
import Derived.Test.YtkjhhcgnfppdiaaGreatDoorCards
import Derived.Test.YtkjhhcgnfppdiaaGreatDoorTie
set_option linter.all false
set_option linter.unusedSimpArgs false
set_option linter.unusedVariables false
set_option maxRecDepth 8000
set_option maxHeartbeats 8000000
namespace Go.Proofs.YtkjhhcgnfppdiaaGreatDoor
open Go.Aw



theorem FnExactColorsOf_law [Tabs Tryz.prog] [HasMax Tryz.prog] [HasPow Tryz.prog] [HasErr Tryz.prog] (p : DPage) (hwp : wfPage p) (hrp : rgPage p) : Ok Tryz.prog 8 [.agg (ePage .view p)] (.bool true) := by
  have hz0 := szPage_ok p 1048576 (by omega) (by omega) hwp
  by_cases qz0 : (szPage p) ≤ 1048576
  · rw [sub_pos (by omega)] at hz0
    have hs : szPage p ≤ 1048576 := by omega
    obtain ⟨⟨hc, hq⟩, hqa, hb, hba⟩ := page_facts p (by omega)
    have hsl : szL szSlot p.slots ≤ 1048576 := by simp only [szPage] at hs; omega
    have hbn : p.builder.nodes.length ≤ 1048576 := by simp only [szPage, szBuilder, szL] at hs; omega
    have t1 := toPage_ok p hs
    have t2 := specColorsOf_ok p (by omega) (by omega)
    have t3 := implColorsOf_ok p (by omega) (by omega)
    have hgn : (colorsOf p).length = p.builder.nodes.length := colorsTo_len _ _ _
    generalize colorsOf p = g at *
    have hcg := sumN_const 1 g
    have e1 := eqIntS_ok g g (by omega)
    have e2 := eqPage_ok p p (by omega)
    have m1 := markPage_ok p 1 (by omega) (by omega) hq hqa hb hba
    have m2 := markIntS_ok g 1 (by omega) (by omega) (by omega)
    have m3 := heldIntS_ok g 1 (by omega) (by omega) (by omega)
    refine ent Tryz.mix Tryz.func8 Tryz.ntmps8 ?_
    have W := trivial
    have c0 := hz0
    repeat' first|refine st ?_|(refine nx ?_;first|refine so ?_|refine sm (hc:=m1) (h:=?_)|refine sm (hc:=m2) (h:=?_))|(refine cx ?_;refine sc (fun hc=>?_) (fun hc=>?_)<;>try exact hc.elim)|(refine lx ?_;refine sp (fun hc=>?_) (fun hc=>?_)<;>try exact hc.elim)|refine sx ?_ ?_|refine sy ?_ ?_|fail
    all_goals (try (refine ⟨.inr rfl, ?_⟩; simp [Hands, Tryz.results8]))
    all_goals (try simp only [decide_eq_true_eq] at *); all_goals (first | omega | simp_all)
  · rw [sub_neg (by omega)] at hz0
    refine ent Tryz.mix Tryz.func8 Tryz.ntmps8 ?_
    have W := trivial
    have c0 := hz0
    repeat' first|refine st ?_|(refine nx ?_;refine so ?_)|(refine cx ?_;refine sc (fun hc=>?_) (fun hc=>?_)<;>try exact hc.elim)|(refine lx ?_;refine sp (fun hc=>?_) (fun hc=>?_)<;>try exact hc.elim)|refine sx ?_ ?_|refine sy ?_ ?_|fail
    all_goals (try (refine ⟨.inr rfl, ?_⟩; simp [Hands, Tryz.results8]))

set_option maxRecDepth 100000 in
theorem law8_lifted (os : Os) (started : os.Started) (H : Type) (enc : TypeId × Value → H) :
    ReturnsInHanded {} Tryz.checked os 8 .any (fun w args => (Rows.fnExactColorsOfSpec.pre enc Tryz.prog Tryz.f8 Rows.fnExactColorsOfRow.domain false w args ∧ laidMetH Tryz.prog Rows.fnExactColorsOfRow.laid w) ∧ sizedMet enc Tryz.prog Tryz.f8 (OpenSpec.ofChange Rows.fnExactColorsOfSpec) false w args) (Rows.fnExactColorsOfSpec.post enc Tryz.prog Tryz.f8 false true false false) := by
  refine returnsIn_door (C := Tryz.checked) (X := fun w _ => laidMetH Tryz.prog Rows.fnExactColorsOfRow.laid w) (fun _ _ _ hh h => h.of_heap hh) (by kernel_rfl) started (by kernel_rfl) Tryz.func8
    (ChangeSpec.witness_shaped (enc := enc) (C := Tryz.checked) (os := os) (X := fun w _ => laidMetH Tryz.prog Rows.fnExactColorsOfRow.laid w) false (World.laidAll Tryz.prog os Rows.fnExactColorsOfRow.laid) #[.agg #[.string ⟨#[]⟩, .string ⟨#[]⟩, .bool false, .slice none 0 0, .slice none 0 0, .slice none 0 0, .string ⟨#[]⟩, .string ⟨#[]⟩, .slice none 0 0, .bool false, .slice none 0 0, .slice none 0 0, .slice none 0 0, .slice none 0 0, .slice none 0 0, .int .i64 0, .int .i64 0, .int .i64 0, .int .i64 0, .slice none 0 0, .slice none 0 0, .bool false]] 8 (World.laidAll_os _ _ _) (World.shaped_of_ZipB (by kernel_rfl) (by kernel_rfl)) (by kernel_rfl) (by kernel_rfl) (by kernel_rfl) (by rw [MakeChecks.laidMetH_plain _ _ _ (by kernel_rfl)]; exact laidMet_laidAll _ (by kernel_rfl) (by kernel_rfl))) ?_
  intro W base args ds gs before hval hW hL hsh
  rw [MakeChecks.laidMetH_plain _ _ _ (by kernel_rfl)] at hL
  obtain ⟨_, hL, _⟩ := hL
  have hpow : Lib.TabIs Tryz.prog W "internal/strconv.uint64pow10" .u64 Lib.pow10Tab := tabIs_of_vars (by kernel_rfl) hL (List.mem_of_getElem? (i := 2) (by kernel_rfl))
  have hmax : ∀ g, Tryz.prog.globalNamed "internal/bytealg.MaxLen" = some g → ∃ m, W.cell? ⟨g, 0, none⟩ = some (.int .i64 m) := fun g hg => by
    obtain rfl := Option.some.inj ((show Tryz.prog.globalNamed "internal/bytealg.MaxLen" = some 0 by kernel_rfl).symm.trans hg)
    exact Tryz.laysM146.s1_3 W hsh
  have herr : errHolds Tryz.prog W := ⟨iface_of_vars (nm := "*errors.errorString") (d := .ptr (.agg [.lit (.string [105, 110, 118, 97, 108, 105, 100, 32, 115, 121, 110, 116, 97, 120])])) (by kernel_rfl) hL (List.mem_of_getElem? (i := 5) (by kernel_rfl)), iface_of_vars (nm := "*errors.errorString") (d := .ptr (.agg [.lit (.string [118, 97, 108, 117, 101, 32, 111, 117, 116, 32, 111, 102, 32, 114, 97, 110, 103, 101])])) (by kernel_rfl) hL (List.mem_of_getElem? (i := 4) (by kernel_rfl))⟩
  letI T : Tabs Tryz.prog := { holds := fun w => doorHolds Tryz.prog 6 [("internal/strconv.uint64pow10", .u64, Lib.pow10Tab)] ["internal/bytealg.MaxLen"] w ∧ errHolds Tryz.prog w, low := 6, low_le := fun _ h => h.1.1, stable := doorStableE (by kernel_rfl) }
  haveI : HasPow Tryz.prog := ⟨fun w h => h.1.2.1 ("internal/strconv.uint64pow10", .u64, Lib.pow10Tab) (by simp)⟩
  haveI : HasMax Tryz.prog := ⟨fun w h g hg => h.1.2.2 "internal/bytealg.MaxLen" (by simp) g hg⟩
  haveI : HasErr Tryz.prog := ⟨fun w h => h.2⟩
  have hT : doorHolds Tryz.prog 6 [("internal/strconv.uint64pow10", .u64, Lib.pow10Tab)] ["internal/bytealg.MaxLen"] W ∧ errHolds Tryz.prog W := ⟨⟨size_of_tab hpow (g := 5) (by kernel_rfl) (by decide), by simp [hpow], fun n hn => by (simp only [List.mem_singleton] at hn; subst hn; exact hmax)⟩, herr⟩
  exact row_true (C := Tryz.checked) (T := T) (ss := [.agg shPage]) (fuel := 8) (tb := 4) (by kernel_rfl) (by decide +kernel) (by kernel_rfl) (by kernel_rfl) (by kernel_rfl) rfl
    (fun ds h => by
      match ds, h with
      | [d0], _ => rfl)
    (fun avs hf => by
      obtain ⟨c, r0, rfl, hx, hf1⟩ := fitsV_agg hf
      obtain ⟨p, rfl, hwp, hrp⟩ := fits_Page c hx
      obtain rfl := fitsV_nil hf1
      exact FnExactColorsOf_law p hwp hrp) hT hval hW
/-- The row: for every input the law returns true and its arguments read as they did. -/
theorem law8_row : Rows.FnExactColorsOfSaid :=
  OpenClaim.holds_of_wide 8 Tryz.f8 rfl rfl rfl rfl rfl rfl rfl ⟨rfl, rfl, rfl, rfl, rfl⟩ rfl rfl rfl rfl rfl (by kernel_rfl) Tryz.func8 (colorsOf_closed)
    (of_decide_eq_true (by kernel_rfl)) (by unfold Func.isWrapper; first | (rw [if_pos (by decide +kernel)]; kernel_rfl) | (rw [if_neg (by decide +kernel)]; exact ⟨rfl, rfl⟩))
    (fun os started H enc _ => law8_lifted os started H enc)
/-- The tied card. -/
theorem law8_holds : Rows.FnExactColorsOfCardSaid :=
  Claim7.holds_tied_plain_at .later [] Rows.fnExactColorsOfCard.laidKinds true Rows.fnExactColorsOfCard.stood.harness Rows.fnExactColorsOfCard.stood.looks
    law8_row (fun _ h => by cases h) (by kernel_rfl) (fun _ h => by cases h) fnExactColorsOf_row_tie rfl ⟨rfl, rfl⟩ (by kernel_rfl) (by kernel_rfl)
    (fun f fn hf hfn => by
      obtain rfl : f = 8 := Option.some.inj ((show Tryz.prog.funcNamed Rows.fnExactColorsOfRow.func = some 8 by kernel_rfl).symm.trans hf) |>.symm
      obtain rfl : fn = Tryz.f8 := (Option.some.inj (Tryz.func8.symm.trans hfn)).symm
      exact ⟨by kernel_rfl, fun j t ht => by
        have h1 : (Tryz.f8.params.toList.all fun t => !Tryz.prog.wantsStandIn t) = true := by kernel_rfl
        have h2 := List.all_eq_true.1 h1 t (List.mem_of_getElem? (i := j) (by simpa using ht))
        have h3 : Tryz.prog.wantsStandIn t = false := by simpa using h2
        exact h3⟩)
    (by kernel_rfl)

end Go.Proofs.YtkjhhcgnfppdiaaGreatDoor
