/-
  Proved here: steps towards the statement of this claim, text CFillAll.
  No condition beyond what each statement spells out.
-/
import Derived.Test.YtikabgfhklfjkaaGreatDoorQF5
import Derived.Lay
import Derived.SevenTiedAt
import Derived.Test.YtikabgfhklfjkaaGreatDoorRows
import Derived.Test.YtikabgfhklfjkaaGreatDoorCards
import Derived.Test.YtikabgfhklfjkaaGreatDoorTie
import Derived.Test.YtikabgfhklfjkaaGreatDoorQRFillAll
import Derived.Test.YtikabgfhklfjkaaGreatDoorQGFillAll
set_option linter.all false
set_option linter.unusedSimpArgs false
set_option linter.unusedVariables false
set_option maxRecDepth 8000
set_option maxHeartbeats 8000000
namespace Go.Proofs.YtikabgfhklfjkaaGreatDoor
open Go.Aw


/-- The tied card. -/
theorem law6_holds : Rows.FnExactFillAllCardSaid :=
  Claim7.holds_tied_plain_at .later [] Rows.fnExactFillAllCard.laidKinds true Rows.fnExactFillAllCard.stood.harness Rows.fnExactFillAllCard.stood.looks
    law6_row (fun _ h => by cases h) (by as_aux_lemma => kernel_rfl) (fun _ h => by cases h) fnExactFillAll_row_tie rfl ⟨rfl, rfl⟩ (by as_aux_lemma => kernel_rfl) (by as_aux_lemma => kernel_rfl)
    (fun f fn hf hfn => by
      obtain rfl : f = 6 := Option.some.inj ((show Tryz.prog.funcNamed Rows.fnExactFillAllRow.func = some 6 by as_aux_lemma => kernel_rfl).symm.trans hf) |>.symm
      obtain rfl : fn = Tryz.f6 := (Option.some.inj (Tryz.func6.symm.trans hfn)).symm
      exact ⟨by as_aux_lemma => kernel_rfl, fun j t ht => by
        have h1 : (Tryz.f6.params.toList.all fun t => !Tryz.prog.wantsStandIn t) = true := by as_aux_lemma => kernel_rfl
        have h2 := List.all_eq_true.1 h1 t (List.mem_of_getElem? (i := j) (by simpa using ht))
        have h3 : Tryz.prog.wantsStandIn t = false := by simpa using h2
        exact h3⟩)
    fillAll_goes

end Go.Proofs.YtikabgfhklfjkaaGreatDoor
