/-
  Proved here: the order of evaluation that the translated program follows.
  No condition beyond what each statement spells out.
-/
import Derived.Test.YtkjhhcgnfppdiaaGreatDoorYFacts
import Derived.Test.YtkjhhcgnfppdiaaGreatDoorF3
import Derived.Test.YtkjhhcgnfppdiaaGreatDoorF6
set_option linter.all false
namespace Go.Proofs.YtkjhhcgnfppdiaaGreatDoor
theorem Tryz.mix : Tryz.prog.follows .mixedOrders = true := by kernel_rfl
end Go.Proofs.YtkjhhcgnfppdiaaGreatDoor
