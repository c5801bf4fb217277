/- Steps. No condition. -/
import Derived.Test.YtanobkmhbpjnpaaGreatDoorZMFnTails
import Derived.Test.YtanobkmhbpjnpaaGreatDoorZKFnTails
set_option linter.all false
set_option maxRecDepth 8000
set_option maxHeartbeats 8000000
namespace Go.Proofs.YtanobkmhbpjnpaaGreatDoor
open Go.Aw Proofs.Tryz List IntKind
theorem law3_row:Rows.FnTailsSaid:=
 OpenClaim.holds_of_wide 3 f3 rfl rfl rfl rfl rfl rfl rfl ⟨rfl,rfl,rfl,rfl,rfl⟩ rfl rfl rfl rfl rfl (by as_aux_lemma=>kernel_rfl) func3 (Vv)
  (of_decide_eq_true (by as_aux_lemma=>kernel_rfl)) (by unfold Func.isWrapper;first|(rw[eM (by decide+kernel)];as_aux_lemma=>kernel_rfl)|(rw[eC (by decide+kernel)];exact⟨rfl,rfl⟩))
  (λos started H enc _=>law3_lifted os started H enc)
end Go.Proofs.YtanobkmhbpjnpaaGreatDoor
