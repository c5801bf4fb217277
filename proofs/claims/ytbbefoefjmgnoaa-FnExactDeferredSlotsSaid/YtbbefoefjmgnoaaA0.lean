/-
  Proved here: the order of evaluation that the translated program follows.
  No condition beyond what each statement spells out.
-/
import Derived.Test.YtbbefoefjmgnoaaYFacts
import Derived.Test.YtbbefoefjmgnoaaAwTypes
import Derived.Test.YtbbefoefjmgnoaaAwWalk
set_option linter.all false
namespace Go.Proofs.Ytbbefoefjmgnoaa
theorem Try.mix : Try.prog.follows .mixedOrders = true := by kernel_rfl
end Go.Proofs.Ytbbefoefjmgnoaa
