/-
  Proved here: the order of evaluation that the translated program follows.
  No condition beyond what each statement spells out.
-/
import Derived.Test.YtonajehhfkkglabGreatYFacts
import Derived.Test.YtonajehhfkkglabGreatF3
import Derived.Test.YtonajehhfkkglabGreatF6
set_option linter.all false
namespace Go.Proofs.YtonajehhfkkglabGreat
theorem Tryz.mix : Tryz.prog.follows .mixedOrders = true := by kernel_rfl
end Go.Proofs.YtonajehhfkkglabGreat
