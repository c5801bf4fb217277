/-
  Proved here: the order of evaluation that the translated program follows.
  No condition beyond what each statement spells out.
-/
import Derived.Test.YtedhenfipalhaaaYFacts
import Derived.Test.YtedhenfipalhaaaF3
set_option linter.all false
namespace Go.Proofs.Ytedhenfipalhaaa
theorem Try.mix : Try.prog.follows .mixedOrders = true := by kernel_rfl
end Go.Proofs.Ytedhenfipalhaaa
