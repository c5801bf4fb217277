/-
  Proved here: the order of evaluation that the translated program follows.
  No condition beyond what each statement spells out.
-/
import Derived.Test.YtlnblmmohpcceaaGreatDoorDYFacts
import Derived.Test.YtlnblmmohpcceaaGreatDoorDF3
import Derived.Test.YtlnblmmohpcceaaGreatDoorDF6
set_option linter.all false
set_option maxRecDepth 4000
set_option maxHeartbeats 4000000
namespace Go.Proofs.YtlnblmmohpcceaaGreatDoor
open Go.Aw
theorem Tryz.mix:Tryz.prog.follows .mixedOrders=true:=by kernel_rfl
end Go.Proofs.YtlnblmmohpcceaaGreatDoor
