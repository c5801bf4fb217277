/-
  Proved here: steps towards the statement of this claim, text CScanText.
  No condition beyond what each statement spells out.
-/
import Derived.Test.YtkjhhcgnfppdiaaDoorS4
import Derived.Test.YtkjhhcgnfppdiaaDoorU3
import Derived.Test.YtkjhhcgnfppdiaaDoorW2
import Derived.Test.YtkjhhcgnfppdiaaDoorW5
import Derived.Test.YtkjhhcgnfppdiaaDoorF4
import Derived.Test.YtkjhhcgnfppdiaaDoorF5
import Derived.Lay
import Derived.SevenTiedAt
import Derived.Test.YtkjhhcgnfppdiaaDoorRows
import Derived.Test.YtkjhhcgnfppdiaaDoorCards
import Derived.Test.YtkjhhcgnfppdiaaDoorTie
set_option linter.all false
set_option linter.unusedSimpArgs false
set_option linter.unusedVariables false
set_option maxRecDepth 8000
set_option maxHeartbeats 8000000
namespace Go.Proofs.YtkjhhcgnfppdiaaDoor
open Go.Aw

theorem FnExactScanText_law [Tabs Tryd.prog] [HasMax Tryd.prog] (s : Str) (hws : s.length ≤ 9223372036854775807) (b : Str) (hwb : b.length ≤ 9223372036854775807) : Ok Tryd.prog 4 [.str s, .str b] (.bool true) := by
  by_cases qss : s.length ≤ 1048576
  · skip
    by_cases qsb : b.length ≤ 1048576
    · skip
      have t2 := specScanText_ok s b (by omega) (by omega)
      have t3 := implScanText_ok s b (by omega) (by omega)
      obtain ⟨y1, y2⟩ := tokensOf_sz s
      obtain ⟨hn, hs⟩ := scanTokens_big b (tokensOf s)
      generalize scanTokens (tokensOf s) b = g at *
      generalize tokensOf s = l at *
      have hlb : g.length * b.length ≤ 349525 * 1048576 := Nat.mul_le_mul (by omega) (by omega)
      generalize g.length * b.length = lb at *
      have hc : (sumN (fun _ => 5) g : Nat) = 5 * g.length := sumN_const 5 g
      have e1 := eqRequestS_ok g g (by simp only [szL]; omega)
      have m2 := markRequestS_ok g 1 (by omega) (by omega) (by omega)
      have m3 := heldRequestS_ok g 1 (by omega) (by omega) (by omega)
      refine ent Tryd.mix Tryd.func4 Tryd.ntmps4 ?_
      have W := trivial
      repeat' first|refine st ?_|(refine nx ?_;first|refine so ?_|refine sm (hc:=m2) (h:=?_))|(refine cx ?_;refine sc (fun hc=>?_) (fun hc=>?_)<;>try exact hc.elim)|(refine lx ?_;refine sp (fun hc=>?_) (fun hc=>?_)<;>try exact hc.elim)|refine sx ?_ ?_|refine sy ?_ ?_|fail
      all_goals (try (refine ⟨.inr rfl, ?_⟩; simp [Hands, Tryd.results4]))
      all_goals (try simp only [decide_eq_true_eq] at *); all_goals (first | omega | simp_all)
    · refine ent Tryd.mix Tryd.func4 Tryd.ntmps4 ?_
      have W := trivial
      repeat' first|refine st ?_|(refine nx ?_;refine so ?_)|(refine cx ?_;refine sc (fun hc=>?_) (fun hc=>?_)<;>try exact hc.elim)|(refine lx ?_;refine sp (fun hc=>?_) (fun hc=>?_)<;>try exact hc.elim)|refine sx ?_ ?_|refine sy ?_ ?_|fail
      all_goals (try (refine ⟨.inr rfl, ?_⟩; simp [Hands, Tryd.results4]))
  · refine ent Tryd.mix Tryd.func4 Tryd.ntmps4 ?_
    have W := trivial
    repeat' first|refine st ?_|(refine nx ?_;refine so ?_)|(refine cx ?_;refine sc (fun hc=>?_) (fun hc=>?_)<;>try exact hc.elim)|(refine lx ?_;refine sp (fun hc=>?_) (fun hc=>?_)<;>try exact hc.elim)|refine sx ?_ ?_|refine sy ?_ ?_|fail
    all_goals (try (refine ⟨.inr rfl, ?_⟩; simp [Hands, Tryd.results4]))

set_option maxRecDepth 100000 in
theorem law4_lifted (os : Os) (started : os.Started) (H : Type) (enc : TypeId × Value → H) :
    ReturnsInHanded {} Tryd.checked os 4 .any (fun w args => (Rows.fnExactScanTextSpec.pre enc Tryd.prog Tryd.f4 Rows.fnExactScanTextRow.domain false w args ∧ laidMetH Tryd.prog Rows.fnExactScanTextRow.laid w) ∧ sizedMet enc Tryd.prog Tryd.f4 (OpenSpec.ofChange Rows.fnExactScanTextSpec) false w args) (Rows.fnExactScanTextSpec.post enc Tryd.prog Tryd.f4 false true false false) := by
  refine returnsIn_door (C := Tryd.checked) (X := fun w _ => laidMetH Tryd.prog Rows.fnExactScanTextRow.laid w) (fun _ _ _ hh h => h.of_heap hh) (by kernel_rfl) started (by kernel_rfl) Tryd.func4
    (ChangeSpec.witness_shaped (enc := enc) (C := Tryd.checked) (os := os) (X := fun w _ => laidMetH Tryd.prog Rows.fnExactScanTextRow.laid w) false (World.laidAll Tryd.prog os Rows.fnExactScanTextRow.laid) #[.string ⟨#[]⟩, .string ⟨#[]⟩] 8 (World.laidAll_os _ _ _) (World.shaped_of_ZipB (by kernel_rfl) (by kernel_rfl)) (by kernel_rfl) (by kernel_rfl) (by kernel_rfl) (by rw [MakeChecks.laidMetH_plain _ _ _ (by kernel_rfl)]; exact laidMet_laidAll _ (by kernel_rfl) (by kernel_rfl))) ?_
  intro W base args ds gs before hval hW hL hsh
  rw [MakeChecks.laidMetH_plain _ _ _ (by kernel_rfl)] at hL
  obtain ⟨_, hL, _⟩ := hL
  have hmax : ∀ g, Tryd.prog.globalNamed "internal/bytealg.MaxLen" = some g → ∃ m, W.cell? ⟨g, 0, none⟩ = some (.int .i64 m) := fun g hg => by
    obtain rfl := Option.some.inj ((show Tryd.prog.globalNamed "internal/bytealg.MaxLen" = some 0 by kernel_rfl).symm.trans hg)
    exact Tryd.laysM146.s1_3 W hsh
  letI T : Tabs Tryd.prog := { holds := doorHolds Tryd.prog 1 [] ["internal/bytealg.MaxLen"], low := 1, low_le := fun _ h => h.1, stable := doorStable (by kernel_rfl) }
  haveI : HasMax Tryd.prog := ⟨fun w h g hg => h.2.2 "internal/bytealg.MaxLen" (by simp) g hg⟩
  have hT : doorHolds Tryd.prog 1 [] ["internal/bytealg.MaxLen"] W := ⟨(hmax 0 (by kernel_rfl)).elim fun _ hm => size_of_cell hm (by decide), by simp, fun n hn => by (simp only [List.mem_singleton] at hn; subst hn; exact hmax)⟩
  exact row_true (C := Tryd.checked) (T := T) (ss := [.one .str, .one .str]) (fuel := 8) (tb := 4) (by kernel_rfl) (by decide +kernel) (by kernel_rfl) (by kernel_rfl) (by kernel_rfl) rfl
    (fun ds h => by
      match ds, h with
      | [d0, d1], _ => rfl)
    (fun avs hf => by
      obtain ⟨x, r0, rfl, hx, hf1⟩ := fitsV_one hf
      obtain ⟨s, rfl, hws⟩ := fits_one_str hx
      obtain ⟨x, r1, rfl, hx, hf2⟩ := fitsV_one hf1
      obtain ⟨b, rfl, hwb⟩ := fits_one_str hx
      obtain rfl := fitsV_nil hf2
      exact FnExactScanText_law s hws b hwb) hT hval hW
/-- The row: for every input the law returns true and its arguments read as they did. -/
theorem law4_row : Rows.FnExactScanTextSaid :=
  OpenClaim.holds_of_wide 4 Tryd.f4 rfl rfl rfl rfl rfl rfl rfl ⟨rfl, rfl, rfl, rfl, rfl⟩ rfl rfl rfl rfl rfl (by kernel_rfl) Tryd.func4 (by kernel_rfl)
    (of_decide_eq_true (by kernel_rfl)) (by unfold Func.isWrapper; first | (rw [if_pos (by decide +kernel)]; kernel_rfl) | (rw [if_neg (by decide +kernel)]; exact ⟨rfl, rfl⟩))
    (fun os started H enc _ => law4_lifted os started H enc)
/-- The tied card. -/
theorem law4_holds : Rows.FnExactScanTextCardSaid :=
  Claim7.holds_tied_plain_at .later [] Rows.fnExactScanTextCard.laidKinds true Rows.fnExactScanTextCard.stood.harness Rows.fnExactScanTextCard.stood.looks
    law4_row (fun _ h => by cases h) (by kernel_rfl) (fun _ h => by cases h) fnExactScanText_row_tie rfl ⟨rfl, rfl⟩ (by kernel_rfl) (by kernel_rfl)
    (fun f fn hf hfn => by
      obtain rfl : f = 4 := Option.some.inj ((show Tryd.prog.funcNamed Rows.fnExactScanTextRow.func = some 4 by kernel_rfl).symm.trans hf) |>.symm
      obtain rfl : fn = Tryd.f4 := (Option.some.inj (Tryd.func4.symm.trans hfn)).symm
      exact ⟨by kernel_rfl, fun j t ht => by
        have h1 : (Tryd.f4.params.toList.all fun t => !Tryd.prog.wantsStandIn t) = true := by kernel_rfl
        have h2 := List.all_eq_true.1 h1 t (List.mem_of_getElem? (i := j) (by simpa using ht))
        have h3 : Tryd.prog.wantsStandIn t = false := by simpa using h2
        exact h3⟩)
    (by kernel_rfl)

end Go.Proofs.YtkjhhcgnfppdiaaDoor
