/- Steps. No condition. -/
import Derived.Test.YtanobkmhbpjnpaaGreatDoorZA0
set_option linter.all false
set_option maxRecDepth 4000
set_option maxHeartbeats 4000000
namespace Go.Proofs.YtanobkmhbpjnpaaGreatDoor
open Go.Aw Proofs.Tryz List IntKind
end Go.Proofs.YtanobkmhbpjnpaaGreatDoor
