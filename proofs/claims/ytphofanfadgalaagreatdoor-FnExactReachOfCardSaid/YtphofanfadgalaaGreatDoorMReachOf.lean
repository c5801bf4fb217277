/-
  Proved here: steps towards the statement of this claim, text MReachOf.
  No condition beyond what each statement spells out.
-/
import Derived.Test.YtphofanfadgalaaGreatDoorF5
import Derived.Lay
import Derived.SevenTiedAt
import Derived.Test.YtphofanfadgalaaGreatDoorRows
import Derived.Test.YtphofanfadgalaaGreatDoorCards
import Derived.Test.YtphofanfadgalaaGreatDoorTie
import Derived.Test.YtphofanfadgalaaGreatDoorLReachOf
import Derived.Test.YtphofanfadgalaaGreatDoorYShelf
set_option linter.all false
set_option linter.unusedSimpArgs false
set_option linter.unusedVariables false
set_option maxRecDepth 8000
set_option maxHeartbeats 8000000
namespace Go.Proofs.YtphofanfadgalaaGreatDoor
open Go.Aw

set_option maxRecDepth 100000 in
theorem law5_lifted (os : Os) (started : os.Started) (H : Type) (enc : TypeId × Value → H) :
    ReturnsInHanded {} Tryz.checked os 5 .any (fun w args => (Rows.fnExactReachOfSpec.pre enc Tryz.prog Tryz.f5 Rows.fnExactReachOfRow.domain false w args ∧ laidMetH Tryz.prog Rows.fnExactReachOfRow.laid w) ∧ sizedMet enc Tryz.prog Tryz.f5 (OpenSpec.ofChange Rows.fnExactReachOfSpec) false w args) (Rows.fnExactReachOfSpec.post enc Tryz.prog Tryz.f5 false true false false) := by
  refine returnsIn_door (C := Tryz.checked) (X := fun w _ => laidMetH Tryz.prog Rows.fnExactReachOfRow.laid w) (fun _ _ _ hh h => h.of_heap hh) (by kernel_rfl) started (by kernel_rfl) Tryz.func5
    (ChangeSpec.witness_shaped (enc := enc) (C := Tryz.checked) (os := os) (X := fun w _ => laidMetH Tryz.prog Rows.fnExactReachOfRow.laid w) false (World.laidAll Tryz.prog os Rows.fnExactReachOfRow.laid) #[.agg #[.string ⟨#[]⟩, .string ⟨#[]⟩, .bool false, .slice none 0 0, .slice none 0 0, .slice none 0 0, .string ⟨#[]⟩, .string ⟨#[]⟩, .slice none 0 0, .bool false, .slice none 0 0, .slice none 0 0, .slice none 0 0, .slice none 0 0, .slice none 0 0, .int .i64 0, .int .i64 0, .int .i64 0, .int .i64 0, .slice none 0 0, .slice none 0 0, .bool false], .agg #[.string ⟨#[]⟩, .string ⟨#[]⟩]] 8 (World.laidAll_os _ _ _) (World.shaped_of_ZipB (by kernel_rfl) (by kernel_rfl)) (by kernel_rfl) (by kernel_rfl) (by kernel_rfl) (by rw [MakeChecks.laidMetH_plain _ _ _ (by kernel_rfl)]; exact laidMet_laidAll _ (by kernel_rfl) (by kernel_rfl))) ?_
  intro W base args ds gs before hval hW hL hsh
  rw [MakeChecks.laidMetH_plain _ _ _ (by kernel_rfl)] at hL
  obtain ⟨_, hL, _⟩ := hL
  have hmax : ∀ g, Tryz.prog.globalNamed "internal/bytealg.MaxLen" = some g → ∃ m, W.cell? ⟨g, 0, none⟩ = some (.int .i64 m) := fun g hg => by
    obtain rfl := Option.some.inj ((show Tryz.prog.globalNamed "internal/bytealg.MaxLen" = some 0 by kernel_rfl).symm.trans hg)
    exact Tryz.laysM146.s1_3 W hsh
  letI T : Tabs Tryz.prog := { holds := doorHolds Tryz.prog 1 [] ["internal/bytealg.MaxLen"], low := 1, low_le := fun _ h => h.1, stable := doorStable (by kernel_rfl) }
  haveI : HasMax Tryz.prog := ⟨fun w h g hg => h.2.2 "internal/bytealg.MaxLen" (by simp) g hg⟩
  have hT : doorHolds Tryz.prog 1 [] ["internal/bytealg.MaxLen"] W := ⟨(hmax 0 (by kernel_rfl)).elim fun _ hm => size_of_cell hm (by decide), by simp, fun n hn => by (simp only [List.mem_singleton] at hn; subst hn; exact hmax)⟩
  exact row_true (C := Tryz.checked) (T := T) (ss := [.agg shPage, .agg shAddr]) (fuel := 8) (tb := 4) (by kernel_rfl) (by decide +kernel) (by kernel_rfl) (by kernel_rfl) (by kernel_rfl) rfl
    (fun ds h => by
      match ds, h with
      | [d0, d1], _ => rfl)
    (fun avs hf => by
      obtain ⟨c, r0, rfl, hx, hf1⟩ := fitsV_agg hf
      obtain ⟨p, rfl, hwp, hrp⟩ := fits_Page c hx
      obtain ⟨c, r1, rfl, hx, hf2⟩ := fitsV_agg hf1
      obtain ⟨a, rfl, hwa, hra⟩ := fits_Addr c hx
      obtain rfl := fitsV_nil hf2
      exact FnExactReachOf_law p hwp hrp a hwa hra) hT hval hW


end Go.Proofs.YtphofanfadgalaaGreatDoor
