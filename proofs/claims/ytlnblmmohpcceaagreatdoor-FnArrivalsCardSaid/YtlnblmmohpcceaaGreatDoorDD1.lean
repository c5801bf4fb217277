/-
  Proved here: contracts of the library's Itoa and Join, and of FormatInt in the reference and in the program.
  No condition beyond what each statement spells out.
-/
import Derived.Test.YtlnblmmohpcceaaGreatDoorDQA0
import Derived.Test.YtlnblmmohpcceaaGreatDoorDYShelf
import Derived.Test.YtlnblmmohpcceaaGreatDoorDF5
set_option linter.all false
set_option maxRecDepth 4000
set_option maxHeartbeats 400000
namespace Go.Proofs.YtlnblmmohpcceaaGreatDoor
open Go.Aw
end Go.Proofs.YtlnblmmohpcceaaGreatDoor
