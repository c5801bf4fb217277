/-
  Proved here: the order of evaluation that the translated program follows.
  No condition beyond what each statement spells out.
-/
import Derived.Test.YtkjhhcgnfppdiaaDoorYFacts
import Derived.Test.YtkjhhcgnfppdiaaDoorF3
import Derived.Test.YtkjhhcgnfppdiaaDoorF6
set_option linter.all false
namespace Go.Proofs.YtkjhhcgnfppdiaaDoor
theorem Tryd.mix : Tryd.prog.follows .mixedOrders = true := by kernel_rfl
end Go.Proofs.YtkjhhcgnfppdiaaDoor
