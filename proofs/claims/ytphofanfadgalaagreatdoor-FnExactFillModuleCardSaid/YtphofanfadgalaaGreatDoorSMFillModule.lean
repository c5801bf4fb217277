/-
  Proved here: steps towards the statement of this claim, text SMFillModule.
  No condition beyond what each statement spells out.
-/
import Derived.Test.YtphofanfadgalaaGreatDoorF5
import Derived.Lay
import Derived.SevenTiedAt
import Derived.Test.YtphofanfadgalaaGreatDoorRows
import Derived.Test.YtphofanfadgalaaGreatDoorCards
import Derived.Test.YtphofanfadgalaaGreatDoorTie
import Derived.Test.YtphofanfadgalaaGreatDoorLFillModule
import Derived.Test.YtphofanfadgalaaGreatDoorYShelf
set_option linter.all false
set_option maxRecDepth 8000
set_option maxHeartbeats 8000000
namespace Go.Proofs.YtphofanfadgalaaGreatDoor
open Go.Aw
set_option maxRecDepth 100000 in
theorem law6_lifted (os : Os) (started : os.Started) (H : Type) (enc : TypeId × Value → H) :
    ReturnsInHanded {} Tryz.checked os 6 .any (fun w args => (Rows.fnExactFillModuleSpec.pre enc Tryz.prog Tryz.f6 Rows.fnExactFillModuleRow.domain false w args ∧ laidMetH Tryz.prog Rows.fnExactFillModuleRow.laid w) ∧ sizedMet enc Tryz.prog Tryz.f6 (OpenSpec.ofChange Rows.fnExactFillModuleSpec) false w args) (Rows.fnExactFillModuleSpec.post enc Tryz.prog Tryz.f6 false true false false) := by
  refine returnsIn_door (C := Tryz.checked) (X := fun w _ => laidMetH Tryz.prog Rows.fnExactFillModuleRow.laid w) (fun _ _ _ hh h => h.of_heap hh) (by kernel_rfl) started (by kernel_rfl) Tryz.func6
    (ChangeSpec.witness_shaped (enc := enc) (C := Tryz.checked) (os := os) (X := fun w _ => laidMetH Tryz.prog Rows.fnExactFillModuleRow.laid w) false (World.laidAll Tryz.prog os Rows.fnExactFillModuleRow.laid) #[.agg #[.string ⟨#[]⟩, .string ⟨#[]⟩, .bool false, .slice none 0 0, .slice none 0 0, .slice none 0 0, .string ⟨#[]⟩, .string ⟨#[]⟩, .slice none 0 0, .bool false, .slice none 0 0, .slice none 0 0, .slice none 0 0, .slice none 0 0, .slice none 0 0, .int .i64 0, .int .i64 0, .int .i64 0, .int .i64 0, .slice none 0 0, .slice none 0 0, .bool false], .agg #[.string ⟨#[]⟩, .string ⟨#[]⟩], .agg #[.int .i64 0, .int .i64 0, .string ⟨#[]⟩, .int .i64 0, .bool false, .string ⟨#[]⟩]] 8 (World.laidAll_os _ _ _) (World.shaped_of_ZipB (by kernel_rfl) (by kernel_rfl)) (by kernel_rfl) (by kernel_rfl) (by kernel_rfl) (by rw [MakeChecks.laidMetH_plain _ _ _ (by kernel_rfl)]; exact laidMet_laidAll _ (by kernel_rfl) (by kernel_rfl))) ?_
  intro W base args ds gs before hval hW hL hsh
  rw [MakeChecks.laidMetH_plain _ _ _ (by kernel_rfl)] at hL
  obtain ⟨_, hL, _⟩ := hL
  have hpow : Lib.TabIs Tryz.prog W "internal/strconv.uint64pow10" .u64 Lib.pow10Tab := tabIs_of_vars (by kernel_rfl) hL (List.mem_of_getElem? (i := 2) (by kernel_rfl))
  have hmax : ∀ g, Tryz.prog.globalNamed "internal/bytealg.MaxLen" = some g → ∃ m, W.cell? ⟨g, 0, none⟩ = some (.int .i64 m) := fun g hg => by
    obtain rfl := Option.some.inj ((show Tryz.prog.globalNamed "internal/bytealg.MaxLen" = some 0 by kernel_rfl).symm.trans hg)
    exact Tryz.laysM146.s1_3 W hsh
  letI T : Tabs Tryz.prog := { holds := doorHolds Tryz.prog 4 [("internal/strconv.uint64pow10", .u64, Lib.pow10Tab)] ["internal/bytealg.MaxLen"], low := 4, low_le := fun _ h => h.1, stable := doorStable (by kernel_rfl) }
  haveI : HasPow Tryz.prog := ⟨fun w h => h.2.1 ("internal/strconv.uint64pow10", .u64, Lib.pow10Tab) (by simp)⟩
  haveI : HasMax Tryz.prog := ⟨fun w h g hg => h.2.2 "internal/bytealg.MaxLen" (by simp) g hg⟩
  have hT : doorHolds Tryz.prog 4 [("internal/strconv.uint64pow10", .u64, Lib.pow10Tab)] ["internal/bytealg.MaxLen"] W := ⟨size_of_tab hpow (g := 3) (by kernel_rfl) (by decide), by simp [hpow], fun n hn => by (simp only [List.mem_singleton] at hn; subst hn; exact hmax)⟩
  exact row_true (C := Tryz.checked) (T := T) (ss := [.agg shPage, .agg shAddr, .agg shResponse]) (fuel := 8) (tb := 4) (by kernel_rfl) (by decide +kernel) (by kernel_rfl) (by kernel_rfl) (by kernel_rfl) rfl
    (fun ds h => by
      match ds, h with
      | [d0, d1, d2], _ => rfl)
    (fun avs hf => by
      obtain ⟨c, r0, rfl, hx, hf1⟩ := fitsV_agg hf
      obtain ⟨p, rfl, hwp, hrp⟩ := fits_Page c hx
      obtain ⟨c, r1, rfl, hx, hf2⟩ := fitsV_agg hf1
      obtain ⟨a, rfl, hwa, hra⟩ := fits_Addr c hx
      obtain ⟨c, r2, rfl, hx, hf3⟩ := fitsV_agg hf2
      obtain ⟨x, rfl, hwx, hrx⟩ := fits_Response c hx
      obtain rfl := fitsV_nil hf3
      exact FnExactFillModule_law p hwp hrp a hwa hra x hwx hrx) hT hval hW
end Go.Proofs.YtphofanfadgalaaGreatDoor

set_option maxRecDepth 8000
set_option maxHeartbeats 8000000
namespace Go.Proofs.YtphofanfadgalaaGreatDoor
open Go.Aw
theorem goes_none_fillModule {P : Program} (h : P.funcs.toList.all (fun fn => !fn.goes) = true) (c : OpenClaim) (hs : c.start = .entering) : false = c.goesBy P := by
  have h1 : ∀ f, P.goes f = false := by
    intro f
    have ha : P.funcs.any Func.goes = false := by
      rw [Array.any_eq_false]
      intro i hi
      have := List.all_eq_true.1 h (P.funcs[i]) (by simp)
      simpa using this
    unfold Program.goes
    rw [ha, Bool.and_false, Bool.or_false, List.any_eq_false]
    intro g _
    cases hg : P.funcs[g]? with
    | none => simp
    | some fn =>
      have := List.all_eq_true.1 h fn (by simpa using List.mem_of_getElem? (by simpa using hg : P.funcs.toList[g]? = some fn))
      simpa using this
  unfold OpenClaim.goesBy Program.goesAt Program.goesFrom
  rw [hs]
  cases P.funcNamed c.func <;> simp [h1]
set_option maxRecDepth 100000 in
theorem fillModule_goes : false = Rows.fnExactFillModuleRow.goesBy Tryz.pinned.checked.prog := goes_none_fillModule (by as_aux_lemma => kernel_rfl) _ rfl
end Go.Proofs.YtphofanfadgalaaGreatDoor
