/-
  Proved here: the order of evaluation that the translated program follows.
  No condition beyond what each statement spells out.
-/
import Derived.Test.YtphofanfadgalaaGreatDoorYFacts
import Derived.Test.YtphofanfadgalaaGreatDoorF3
import Derived.Test.YtphofanfadgalaaGreatDoorF6
set_option linter.all false
namespace Go.Proofs.YtphofanfadgalaaGreatDoor
theorem Tryz.mix : Tryz.prog.follows .mixedOrders = true := by kernel_rfl
end Go.Proofs.YtphofanfadgalaaGreatDoor
