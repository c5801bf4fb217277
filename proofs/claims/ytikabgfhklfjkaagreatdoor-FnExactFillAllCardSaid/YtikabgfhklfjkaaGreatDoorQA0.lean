/-
  Proved here: the order of evaluation that the translated program follows.
  No condition beyond what each statement spells out.
-/
import Derived.Test.YtikabgfhklfjkaaGreatDoorQYFacts
import Derived.Test.YtikabgfhklfjkaaGreatDoorQF3
import Derived.Test.YtikabgfhklfjkaaGreatDoorQF6
set_option linter.all false
namespace Go.Proofs.YtikabgfhklfjkaaGreatDoor
theorem Tryz.mix : Tryz.prog.follows .mixedOrders = true := by kernel_rfl
end Go.Proofs.YtikabgfhklfjkaaGreatDoor
