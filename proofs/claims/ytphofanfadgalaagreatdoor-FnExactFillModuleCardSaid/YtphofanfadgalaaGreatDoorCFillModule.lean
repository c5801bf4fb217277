/-
  Proved here: steps towards the statement of this claim, text CFillModule.
  No condition beyond what each statement spells out.
-/
import Derived.Test.YtphofanfadgalaaGreatDoorF5
import Derived.Lay
import Derived.SevenTiedAt
import Derived.Test.YtphofanfadgalaaGreatDoorRows
import Derived.Test.YtphofanfadgalaaGreatDoorCards
import Derived.Test.YtphofanfadgalaaGreatDoorTie
import Derived.Test.YtphofanfadgalaaGreatDoorRFillModule
import Derived.Test.YtphofanfadgalaaGreatDoorSMFillModule
set_option linter.all false
set_option maxRecDepth 8000
set_option maxHeartbeats 8000000
namespace Go.Proofs.YtphofanfadgalaaGreatDoor
open Go.Aw
theorem law6_holds : Rows.FnExactFillModuleCardSaid :=
  Claim7.holds_tied_plain_at .later [] Rows.fnExactFillModuleCard.laidKinds true Rows.fnExactFillModuleCard.stood.harness Rows.fnExactFillModuleCard.stood.looks
    law6_row (fun _ h => by cases h) (by as_aux_lemma => kernel_rfl) (fun _ h => by cases h) fnExactFillModule_row_tie rfl ⟨rfl, rfl⟩ (by as_aux_lemma => kernel_rfl) (by as_aux_lemma => kernel_rfl)
    (fun f fn hf hfn => by
      obtain rfl : f = 6 := Option.some.inj ((show Tryz.prog.funcNamed Rows.fnExactFillModuleRow.func = some 6 by as_aux_lemma => kernel_rfl).symm.trans hf) |>.symm
      obtain rfl : fn = Tryz.f6 := (Option.some.inj (Tryz.func6.symm.trans hfn)).symm
      exact ⟨by as_aux_lemma => kernel_rfl, fun j t ht => by
        have h1 : (Tryz.f6.params.toList.all fun t => !Tryz.prog.wantsStandIn t) = true := by as_aux_lemma => kernel_rfl
        have h2 := List.all_eq_true.1 h1 t (List.mem_of_getElem? (i := j) (by simpa using ht))
        have h3 : Tryz.prog.wantsStandIn t = false := by simpa using h2
        exact h3⟩)
    fillModule_goes
end Go.Proofs.YtphofanfadgalaaGreatDoor
