/- Proved here: steps towards the statement of this claim. No condition. -/
import Derived.Test.YtjkdolejalpflaaGreatDoorZMFnParser
import Derived.Test.YtjkdolejalpflaaGreatDoorZKFnParser
set_option linter.all false
set_option maxRecDepth 8000
set_option maxHeartbeats 8000000
namespace Go.Proofs.YtjkdolejalpflaaGreatDoor
open Go.Aw Proofs.Tryz List IntKind
theorem law3_row:Rows.FnParserSaid:=
 OpenClaim.holds_of_wide 3 f3 rfl rfl rfl rfl rfl rfl rfl ⟨rfl,rfl,rfl,rfl,rfl⟩ rfl rfl rfl rfl rfl (by as_aux_lemma=>kernel_rfl) func3 (JR)
  (of_decide_eq_true (by as_aux_lemma=>kernel_rfl)) (by unfold Func.isWrapper;first|(rw[eA (by decide+kernel)];as_aux_lemma=>kernel_rfl)|(rw[cU (by decide+kernel)];exact⟨rfl,rfl⟩))
  (λos started H enc _=>law3_lifted os started H enc)
end Go.Proofs.YtjkdolejalpflaaGreatDoor
