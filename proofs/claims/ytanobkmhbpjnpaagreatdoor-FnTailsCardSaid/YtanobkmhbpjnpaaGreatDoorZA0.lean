/- Steps. No condition. -/
import Derived.Test.YtanobkmhbpjnpaaGreatDoorZYFacts
import Derived.Test.YtanobkmhbpjnpaaGreatDoorZF6
set_option linter.all false
namespace Go.Proofs.YtanobkmhbpjnpaaGreatDoor
def aK:Tryz.prog.follows .mixedOrders=true:=by kernel_rfl
end Go.Proofs.YtanobkmhbpjnpaaGreatDoor
