/- Proved here: steps towards the statement of this claim. No condition. -/
import Derived.Test.YtjkdolejalpflaaGreatDoorZYFacts
import Derived.Test.YtjkdolejalpflaaGreatDoorZF6
set_option linter.all false
namespace Go.Proofs.YtjkdolejalpflaaGreatDoor
theorem aJ:Tryz.prog.follows .mixedOrders=true:=by kernel_rfl
end Go.Proofs.YtjkdolejalpflaaGreatDoor
