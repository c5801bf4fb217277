/-
  Proved here: the order of evaluation that the translated program follows.
  No condition beyond what each statement spells out.
-/
import Derived.Test.YtkjhhcgnfppdiaaGreatYFacts
import Derived.Test.YtkjhhcgnfppdiaaGreatF3
import Derived.Test.YtkjhhcgnfppdiaaGreatF6
set_option linter.all false
namespace Go.Proofs.YtkjhhcgnfppdiaaGreat
theorem Tryz.mix : Tryz.prog.follows .mixedOrders = true := by kernel_rfl
end Go.Proofs.YtkjhhcgnfppdiaaGreat
