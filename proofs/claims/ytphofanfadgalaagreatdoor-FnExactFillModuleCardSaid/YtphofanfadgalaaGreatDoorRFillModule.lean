/-
  Proved here: steps towards the statement of this claim, text RFillModule.
  No condition beyond what each statement spells out.
-/
import Derived.Test.YtphofanfadgalaaGreatDoorF5
import Derived.Lay
import Derived.SevenTiedAt
import Derived.Test.YtphofanfadgalaaGreatDoorRows
import Derived.Test.YtphofanfadgalaaGreatDoorCards
import Derived.Test.YtphofanfadgalaaGreatDoorTie
import Derived.Test.YtphofanfadgalaaGreatDoorSMFillModule
import Derived.Test.YtphofanfadgalaaGreatDoorKFillModule
set_option linter.all false
set_option maxRecDepth 8000
set_option maxHeartbeats 8000000
namespace Go.Proofs.YtphofanfadgalaaGreatDoor
open Go.Aw
theorem law6_row : Rows.FnExactFillModuleSaid :=
  OpenClaim.holds_of_wide 6 Tryz.f6 rfl rfl rfl rfl rfl rfl rfl ⟨rfl, rfl, rfl, rfl, rfl⟩ rfl rfl rfl rfl rfl (by as_aux_lemma => kernel_rfl) Tryz.func6 (fillModule_closed)
    (of_decide_eq_true (by as_aux_lemma => kernel_rfl)) (by unfold Func.isWrapper; first | (rw [if_pos (by decide +kernel)]; as_aux_lemma => kernel_rfl) | (rw [if_neg (by decide +kernel)]; exact ⟨rfl, rfl⟩))
    (fun os started H enc _ => law6_lifted os started H enc)
end Go.Proofs.YtphofanfadgalaaGreatDoor
