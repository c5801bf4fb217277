/- Proved here: steps towards the statement of this claim. No condition. -/
import Derived.Test.YtnkpkklemmgapaaGreatDoorZMFnResults
import Derived.Test.YtnkpkklemmgapaaGreatDoorZKFnResults
set_option linter.all false
set_option maxRecDepth 8000
set_option maxHeartbeats 8000000
namespace Go.Proofs.YtnkpkklemmgapaaGreatDoor
open Go.Aw Proofs.Tryz List IntKind
theorem law3_row:Rows.FnResultsSaid:=
 OpenClaim.holds_of_wide 3 f3 rfl rfl rfl rfl rfl rfl rfl ⟨rfl,rfl,rfl,rfl,rfl⟩ rfl rfl rfl rfl rfl (by as_aux_lemma=>kernel_rfl) func3 (Ma)
  (EV (by as_aux_lemma=>kernel_rfl)) (by unfold Func.isWrapper;first|(rw[eW (by decide+kernel)];as_aux_lemma=>kernel_rfl)|(rw[eK (by decide+kernel)];exact⟨rfl,rfl⟩))
  (λos started H enc _=>law3_lifted os started H enc)
end Go.Proofs.YtnkpkklemmgapaaGreatDoor
