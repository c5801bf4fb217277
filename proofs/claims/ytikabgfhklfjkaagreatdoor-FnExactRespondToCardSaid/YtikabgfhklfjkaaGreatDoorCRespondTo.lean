/-
  Proved here: steps towards the statement of this claim, text CRespondTo.
  No condition beyond what each statement spells out.
-/
import Derived.Test.YtikabgfhklfjkaaGreatDoorLRespondTo
import Derived.Test.YtikabgfhklfjkaaGreatDoorKRespondTo
import Derived.Test.YtikabgfhklfjkaaGreatDoorYShelf
set_option linter.all false
set_option linter.unusedSimpArgs false
set_option linter.unusedVariables false
set_option maxRecDepth 8000
set_option maxHeartbeats 8000000
namespace Go.Proofs.YtikabgfhklfjkaaGreatDoor
open Go.Aw
set_option maxRecDepth 100000 in
theorem law7_lifted (os : Os) (started : os.Started) (H : Type) (enc : TypeId × Value → H) :
    ReturnsInHanded {} Tryz.checked os 7 .any (fun w args => (Rows.fnExactRespondToSpec.pre enc Tryz.prog Tryz.f7 Rows.fnExactRespondToRow.domain false w args ∧ laidMetH Tryz.prog Rows.fnExactRespondToRow.laid w) ∧ sizedMet enc Tryz.prog Tryz.f7 (OpenSpec.ofChange Rows.fnExactRespondToSpec) false w args) (Rows.fnExactRespondToSpec.post enc Tryz.prog Tryz.f7 false true false false) := by
  refine returnsIn_door (C := Tryz.checked) (X := fun w _ => laidMetH Tryz.prog Rows.fnExactRespondToRow.laid w) (fun _ _ _ hh h => h.of_heap hh) (by kernel_rfl) started (by kernel_rfl) Tryz.func7
    (ChangeSpec.witness_shaped (enc := enc) (C := Tryz.checked) (os := os) (X := fun w _ => laidMetH Tryz.prog Rows.fnExactRespondToRow.laid w) false (World.laidAll Tryz.prog os Rows.fnExactRespondToRow.laid) #[.agg #[.slice none 0 0, .slice none 0 0, .slice none 0 0, .int .i64 0], .string ⟨#[]⟩, .agg #[.string ⟨#[]⟩, .string ⟨#[]⟩]] 8 (World.laidAll_os _ _ _) (World.shaped_of_ZipB (by kernel_rfl) (by kernel_rfl)) (by kernel_rfl) (by kernel_rfl) (by kernel_rfl) (by rw [MakeChecks.laidMetH_plain _ _ _ (by kernel_rfl)]; exact laidMet_laidAll _ (by kernel_rfl) (by kernel_rfl))) ?_
  intro W base args ds gs before hval hW hL hsh
  rw [MakeChecks.laidMetH_plain _ _ _ (by kernel_rfl)] at hL
  obtain ⟨_, hL, _⟩ := hL
  have hmax : ∀ g, Tryz.prog.globalNamed "internal/bytealg.MaxLen" = some g → ∃ m, W.cell? ⟨g, 0, none⟩ = some (.int .i64 m) := fun g hg => by
    obtain rfl := Option.some.inj ((show Tryz.prog.globalNamed "internal/bytealg.MaxLen" = some 0 by kernel_rfl).symm.trans hg)
    exact Tryz.laysM146.s1_3 W hsh
  letI T : Tabs Tryz.prog := { holds := doorHolds Tryz.prog 1 [] ["internal/bytealg.MaxLen"], low := 1, low_le := fun _ h => h.1, stable := doorStable (by kernel_rfl) }
  haveI : HasMax Tryz.prog := ⟨fun w h g hg => h.2.2 "internal/bytealg.MaxLen" (by simp) g hg⟩
  have hT : doorHolds Tryz.prog 1 [] ["internal/bytealg.MaxLen"] W := ⟨(hmax 0 (by kernel_rfl)).elim fun _ hm => size_of_cell hm (by decide), by simp, fun n hn => by (simp only [List.mem_singleton] at hn; subst hn; exact hmax)⟩
  exact row_true (C := Tryz.checked) (T := T) (ss := [.agg shNet, .one .str, .agg shAddr]) (fuel := 8) (tb := 4) (by kernel_rfl) (by decide +kernel) (by kernel_rfl) (by kernel_rfl) (by kernel_rfl) rfl
    (fun ds h => by
      match ds, h with
      | [d0, d1, d2], _ => rfl)
    (fun avs hf => by
      obtain ⟨c, r0, rfl, hx, hf1⟩ := fitsV_agg hf
      obtain ⟨n, rfl, hwn, hrn⟩ := fits_Net c hx
      obtain ⟨x, r1, rfl, hx, hf2⟩ := fitsV_one hf1
      obtain ⟨top, rfl, hwtop⟩ := fits_one_str hx
      obtain ⟨c, r2, rfl, hx, hf3⟩ := fitsV_agg hf2
      obtain ⟨a, rfl, hwa, hra⟩ := fits_Addr c hx
      obtain rfl := fitsV_nil hf3
      exact FnExactRespondTo_law n hwn hrn top hwtop a hwa hra) hT hval hW
/-- The row: for every input the law returns true and its arguments read as they did. -/
theorem law7_row : Rows.FnExactRespondToSaid :=
  OpenClaim.holds_of_wide 7 Tryz.f7 rfl rfl rfl rfl rfl rfl rfl ⟨rfl, rfl, rfl, rfl, rfl⟩ rfl rfl rfl rfl rfl (by as_aux_lemma => kernel_rfl) Tryz.func7 (respondTo_closed)
    (of_decide_eq_true (by as_aux_lemma => kernel_rfl)) (by unfold Func.isWrapper; first | (rw [if_pos (by decide +kernel)]; as_aux_lemma => kernel_rfl) | (rw [if_neg (by decide +kernel)]; exact ⟨rfl, rfl⟩))
    (fun os started H enc _ => law7_lifted os started H enc)
/-- The tied card. -/
theorem law7_holds : Rows.FnExactRespondToCardSaid :=
  Claim7.holds_tied_plain_at .later [] Rows.fnExactRespondToCard.laidKinds true Rows.fnExactRespondToCard.stood.harness Rows.fnExactRespondToCard.stood.looks
    law7_row (fun _ h => by cases h) (by as_aux_lemma => kernel_rfl) (fun _ h => by cases h) fnExactRespondTo_row_tie rfl ⟨rfl, rfl⟩ (by as_aux_lemma => kernel_rfl) (by as_aux_lemma => kernel_rfl)
    (fun f fn hf hfn => by
      obtain rfl : f = 7 := Option.some.inj ((show Tryz.prog.funcNamed Rows.fnExactRespondToRow.func = some 7 by as_aux_lemma => kernel_rfl).symm.trans hf) |>.symm
      obtain rfl : fn = Tryz.f7 := (Option.some.inj (Tryz.func7.symm.trans hfn)).symm
      exact ⟨by as_aux_lemma => kernel_rfl, fun j t ht => by
        have h1 : (Tryz.f7.params.toList.all fun t => !Tryz.prog.wantsStandIn t) = true := by as_aux_lemma => kernel_rfl
        have h2 := List.all_eq_true.1 h1 t (List.mem_of_getElem? (i := j) (by simpa using ht))
        have h3 : Tryz.prog.wantsStandIn t = false := by simpa using h2
        exact h3⟩)
    (by as_aux_lemma => kernel_rfl)

end Go.Proofs.YtikabgfhklfjkaaGreatDoor
