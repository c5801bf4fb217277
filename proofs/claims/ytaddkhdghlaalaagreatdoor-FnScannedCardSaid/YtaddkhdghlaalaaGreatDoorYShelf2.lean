/-
  Proved here: steps towards the statement of this claim, text YShelf2.
  No condition beyond what each statement spells out.
-/
import Derived.Test.YtaddkhdghlaalaaGreatDoorF7
set_option linter.all false
namespace Go.Proofs.YtaddkhdghlaalaaGreatDoor
end Go.Proofs.YtaddkhdghlaalaaGreatDoor
