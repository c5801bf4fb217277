/-
  Proved here: steps towards the statement of this claim, text QS2.
  No condition beyond what each statement spells out.
-/
import Derived.Test.YtlnblmmohpcceaaGreatDoorDS1
import Derived.Test.YtlnblmmohpcceaaGreatDoorDQA0
set_option linter.all false
set_option maxRecDepth 4000
set_option maxHeartbeats 4000000
namespace Go.Proofs.YtlnblmmohpcceaaGreatDoor
open Go.Aw
end Go.Proofs.YtlnblmmohpcceaaGreatDoor
