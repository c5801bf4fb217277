/-
  Proved here: the order of evaluation that the translated program follows.
  No condition beyond what each statement spells out.
-/
import Derived.Test.YtedhenfipalhaaaDoorYFacts
import Derived.Test.YtedhenfipalhaaaDoorF3
set_option linter.all false
namespace Go.Proofs.YtedhenfipalhaaaDoor
theorem Tryd.mix : Tryd.prog.follows .mixedOrders = true := by kernel_rfl
end Go.Proofs.YtedhenfipalhaaaDoor
