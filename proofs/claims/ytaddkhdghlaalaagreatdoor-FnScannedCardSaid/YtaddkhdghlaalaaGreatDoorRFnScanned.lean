/-
  Proved here: steps towards the statement of this claim, text RFnScanned.
  No condition beyond what each statement spells out.
-/
import Derived.Test.YtaddkhdghlaalaaGreatDoorF5
import Derived.Lay
import Derived.SevenTiedAt
import Derived.Test.YtaddkhdghlaalaaGreatDoorRows
import Derived.Test.YtaddkhdghlaalaaGreatDoorCards
import Derived.Test.YtaddkhdghlaalaaGreatDoorTie
import Derived.Test.YtaddkhdghlaalaaGreatDoorMFnScanned
import Derived.Test.YtaddkhdghlaalaaGreatDoorKFnScanned
set_option linter.all false
set_option maxRecDepth 8000
set_option maxHeartbeats 8000000
namespace Go.Proofs.YtaddkhdghlaalaaGreatDoor
open Go.Aw
theorem law3_row:Rows.FnScannedSaid:=
 OpenClaim.holds_of_wide 3 Tryz.f3 rfl rfl rfl rfl rfl rfl rfl ⟨rfl,rfl,rfl,rfl,rfl⟩ rfl rfl rfl rfl rfl (by as_aux_lemma=>kernel_rfl) Tryz.func3 (aJs)
  (of_decide_eq_true (by as_aux_lemma=>kernel_rfl)) (by unfold Func.isWrapper;first|(rw [if_pos (by decide+kernel)];as_aux_lemma=>kernel_rfl)|(rw [if_neg (by decide+kernel)];exact ⟨rfl,rfl⟩))
  (fun os started H enc _=>law3_lifted os started H enc)
end Go.Proofs.YtaddkhdghlaalaaGreatDoor
