/-
  Proved here: steps towards the statement of this claim, text CArriveText.
  No condition beyond what each statement spells out.
-/
import Derived.Test.YtkjhhcgnfppdiaaGreatDoorS5
import Derived.Test.YtkjhhcgnfppdiaaGreatDoorPL
import Derived.Test.YtkjhhcgnfppdiaaGreatDoorV1
import Derived.Test.YtkjhhcgnfppdiaaGreatDoorV2
import Derived.Test.YtkjhhcgnfppdiaaGreatDoorV3
import Derived.Test.YtkjhhcgnfppdiaaGreatDoorM8
import Derived.Test.YtkjhhcgnfppdiaaGreatDoorX2
import Derived.Test.YtkjhhcgnfppdiaaGreatDoorF4
import Derived.Test.YtkjhhcgnfppdiaaGreatDoorF5
import Derived.Lay
import Derived.SevenTiedAt
import Derived.Test.YtkjhhcgnfppdiaaGreatDoorRows
import Derived.Test.YtkjhhcgnfppdiaaGreatDoorCards
import Derived.Test.YtkjhhcgnfppdiaaGreatDoorTie
set_option linter.all false
set_option linter.unusedSimpArgs false
set_option linter.unusedVariables false
set_option maxRecDepth 8000
set_option maxHeartbeats 8000000
namespace Go.Proofs.YtkjhhcgnfppdiaaGreatDoor
open Go.Aw

theorem arriveText_sz (p : DPage) (s : Str) : szPage (arriveText p s) ≤ 2 * szPage p + 2 * s.length := by
  unfold arriveText
  split
  · omega
  · obtain ⟨h1, h2⟩ := feed_sz (p.tok.rest ++ s).length (p.tok.rest ++ s) (Nat.le_refl _)
    simp only [List.length_append] at h1 h2
    simp only [szPage, szL, szTokenizer, List.length_append, sumN_join] at *
    omega
theorem FnExactArriveText_law [Tabs Tryz.prog] [HasMax Tryz.prog] (p : DPage) (hwp : wfPage p) (hrp : rgPage p) (s : Str) (hws : s.length ≤ 9223372036854775807) : Ok Tryz.prog 4 [.agg (ePage .view p), .str s] (.bool true) := by
  by_cases qss : s.length ≤ 1048576
  · skip
    have hz0 := szPage_ok p 1048576 (by omega) (by omega) hwp
    by_cases qz0 : (szPage p) ≤ 1048576
    · rw [sub_pos (by omega)] at hz0
      have hs : szPage p ≤ 1048576 := by omega
      obtain ⟨⟨hc, hq⟩, hqa, hb, hba⟩ := page_facts p (by omega)
      have t1 := toPage_ok p hs
      have t2 := specArriveText_ok p s (by omega) (by omega)
      have t3 := implArriveText_ok p s (by omega) (by omega)
      have hgs := arriveText_sz p s
      generalize arriveText p s = g at *
      obtain ⟨⟨gc, gq⟩, gqa, gb, gba⟩ := page_facts g (by omega)
      have e1 := eqPage_ok g g (by omega)
      have e2 := eqPage_ok p p (by omega)
      have m1 := markPage_ok p 1 (by omega) (by omega) hq hqa hb hba
      have m2 := markPage_ok g 1 (by omega) (by omega) gq gqa gb gba
      have m3 := heldPage_ok g 1 (by omega) (by omega) gq gqa gb gba
      refine ent Tryz.mix Tryz.func4 Tryz.ntmps4 ?_
      have W := trivial
      have c0 := hz0
      repeat' first|refine st ?_|(refine nx ?_;first|refine so ?_|refine sm (hc:=m1) (h:=?_)|refine sm (hc:=m2) (h:=?_))|(refine cx ?_;refine sc (fun hc=>?_) (fun hc=>?_)<;>try exact hc.elim)|(refine lx ?_;refine sp (fun hc=>?_) (fun hc=>?_)<;>try exact hc.elim)|refine sx ?_ ?_|refine sy ?_ ?_|fail
      all_goals (try (refine ⟨.inr rfl, ?_⟩; simp [Hands, Tryz.results4]))
      all_goals (try simp only [decide_eq_true_eq] at *); all_goals (first | omega | simp_all)
    · rw [sub_neg (by omega)] at hz0
      refine ent Tryz.mix Tryz.func4 Tryz.ntmps4 ?_
      have W := trivial
      have c0 := hz0
      repeat' first|refine st ?_|(refine nx ?_;refine so ?_)|(refine cx ?_;refine sc (fun hc=>?_) (fun hc=>?_)<;>try exact hc.elim)|(refine lx ?_;refine sp (fun hc=>?_) (fun hc=>?_)<;>try exact hc.elim)|refine sx ?_ ?_|refine sy ?_ ?_|fail
      all_goals (try (refine ⟨.inr rfl, ?_⟩; simp [Hands, Tryz.results4]))
  · refine ent Tryz.mix Tryz.func4 Tryz.ntmps4 ?_
    have W := trivial
    repeat' first|refine st ?_|(refine nx ?_;refine so ?_)|(refine cx ?_;refine sc (fun hc=>?_) (fun hc=>?_)<;>try exact hc.elim)|(refine lx ?_;refine sp (fun hc=>?_) (fun hc=>?_)<;>try exact hc.elim)|refine sx ?_ ?_|refine sy ?_ ?_|fail
    all_goals (try (refine ⟨.inr rfl, ?_⟩; simp [Hands, Tryz.results4]))

set_option maxRecDepth 100000 in
theorem law4_lifted (os : Os) (started : os.Started) (H : Type) (enc : TypeId × Value → H) :
    ReturnsInHanded {} Tryz.checked os 4 .any (fun w args => (Rows.fnExactArriveTextSpec.pre enc Tryz.prog Tryz.f4 Rows.fnExactArriveTextRow.domain false w args ∧ laidMetH Tryz.prog Rows.fnExactArriveTextRow.laid w) ∧ sizedMet enc Tryz.prog Tryz.f4 (OpenSpec.ofChange Rows.fnExactArriveTextSpec) false w args) (Rows.fnExactArriveTextSpec.post enc Tryz.prog Tryz.f4 false true false false) := by
  refine returnsIn_door (C := Tryz.checked) (X := fun w _ => laidMetH Tryz.prog Rows.fnExactArriveTextRow.laid w) (fun _ _ _ hh h => h.of_heap hh) (by kernel_rfl) started (by kernel_rfl) Tryz.func4
    (ChangeSpec.witness_shaped (enc := enc) (C := Tryz.checked) (os := os) (X := fun w _ => laidMetH Tryz.prog Rows.fnExactArriveTextRow.laid w) false (World.laidAll Tryz.prog os Rows.fnExactArriveTextRow.laid) #[.agg #[.string ⟨#[]⟩, .string ⟨#[]⟩, .bool false, .slice none 0 0, .slice none 0 0, .slice none 0 0, .string ⟨#[]⟩, .string ⟨#[]⟩, .slice none 0 0, .bool false, .slice none 0 0, .slice none 0 0, .slice none 0 0, .slice none 0 0, .slice none 0 0, .int .i64 0, .int .i64 0, .int .i64 0, .int .i64 0, .slice none 0 0, .slice none 0 0, .bool false], .string ⟨#[]⟩] 8 (World.laidAll_os _ _ _) (World.shaped_of_ZipB (by kernel_rfl) (by kernel_rfl)) (by kernel_rfl) (by kernel_rfl) (by kernel_rfl) (by rw [MakeChecks.laidMetH_plain _ _ _ (by kernel_rfl)]; exact laidMet_laidAll _ (by kernel_rfl) (by kernel_rfl))) ?_
  intro W base args ds gs before hval hW hL hsh
  rw [MakeChecks.laidMetH_plain _ _ _ (by kernel_rfl)] at hL
  obtain ⟨_, hL, _⟩ := hL
  have hmax : ∀ g, Tryz.prog.globalNamed "internal/bytealg.MaxLen" = some g → ∃ m, W.cell? ⟨g, 0, none⟩ = some (.int .i64 m) := fun g hg => by
    obtain rfl := Option.some.inj ((show Tryz.prog.globalNamed "internal/bytealg.MaxLen" = some 0 by kernel_rfl).symm.trans hg)
    exact Tryz.laysM146.s1_3 W hsh
  letI T : Tabs Tryz.prog := { holds := doorHolds Tryz.prog 1 [] ["internal/bytealg.MaxLen"], low := 1, low_le := fun _ h => h.1, stable := doorStable (by kernel_rfl) }
  haveI : HasMax Tryz.prog := ⟨fun w h g hg => h.2.2 "internal/bytealg.MaxLen" (by simp) g hg⟩
  have hT : doorHolds Tryz.prog 1 [] ["internal/bytealg.MaxLen"] W := ⟨(hmax 0 (by kernel_rfl)).elim fun _ hm => size_of_cell hm (by decide), by simp, fun n hn => by (simp only [List.mem_singleton] at hn; subst hn; exact hmax)⟩
  exact row_true (C := Tryz.checked) (T := T) (ss := [.agg shPage, .one .str]) (fuel := 8) (tb := 4) (by kernel_rfl) (by decide +kernel) (by kernel_rfl) (by kernel_rfl) (by kernel_rfl) rfl
    (fun ds h => by
      match ds, h with
      | [d0, d1], _ => rfl)
    (fun avs hf => by
      obtain ⟨c, r0, rfl, hx, hf1⟩ := fitsV_agg hf
      obtain ⟨p, rfl, hwp, hrp⟩ := fits_Page c hx
      obtain ⟨x, r1, rfl, hx, hf2⟩ := fitsV_one hf1
      obtain ⟨s, rfl, hws⟩ := fits_one_str hx
      obtain rfl := fitsV_nil hf2
      exact FnExactArriveText_law p hwp hrp s hws) hT hval hW
/-- The row: for every input the law returns true and its arguments read as they did. -/
theorem law4_row : Rows.FnExactArriveTextSaid :=
  OpenClaim.holds_of_wide 4 Tryz.f4 rfl rfl rfl rfl rfl rfl rfl ⟨rfl, rfl, rfl, rfl, rfl⟩ rfl rfl rfl rfl rfl (by kernel_rfl) Tryz.func4 (by kernel_rfl)
    (of_decide_eq_true (by kernel_rfl)) (by unfold Func.isWrapper; first | (rw [if_pos (by decide +kernel)]; kernel_rfl) | (rw [if_neg (by decide +kernel)]; exact ⟨rfl, rfl⟩))
    (fun os started H enc _ => law4_lifted os started H enc)
/-- The tied card. -/
theorem law4_holds : Rows.FnExactArriveTextCardSaid :=
  Claim7.holds_tied_plain_at .later [] Rows.fnExactArriveTextCard.laidKinds true Rows.fnExactArriveTextCard.stood.harness Rows.fnExactArriveTextCard.stood.looks
    law4_row (fun _ h => by cases h) (by kernel_rfl) (fun _ h => by cases h) fnExactArriveText_row_tie rfl ⟨rfl, rfl⟩ (by kernel_rfl) (by kernel_rfl)
    (fun f fn hf hfn => by
      obtain rfl : f = 4 := Option.some.inj ((show Tryz.prog.funcNamed Rows.fnExactArriveTextRow.func = some 4 by kernel_rfl).symm.trans hf) |>.symm
      obtain rfl : fn = Tryz.f4 := (Option.some.inj (Tryz.func4.symm.trans hfn)).symm
      exact ⟨by kernel_rfl, fun j t ht => by
        have h1 : (Tryz.f4.params.toList.all fun t => !Tryz.prog.wantsStandIn t) = true := by kernel_rfl
        have h2 := List.all_eq_true.1 h1 t (List.mem_of_getElem? (i := j) (by simpa using ht))
        have h3 : Tryz.prog.wantsStandIn t = false := by simpa using h2
        exact h3⟩)
    (by kernel_rfl)

end Go.Proofs.YtkjhhcgnfppdiaaGreatDoor
