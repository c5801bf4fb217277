/-
  Proved here: the order of evaluation that the translated program follows.
  No condition beyond what each statement spells out.
-/
import Derived.Test.YtfaicbojikcekaaYFacts
import Derived.Test.YtfaicbojikcekaaF3
set_option linter.all false
namespace Go.Proofs.Ytfaicbojikcekaa
theorem Try.mix : Try.prog.follows .mixedOrders = true := by kernel_rfl
end Go.Proofs.Ytfaicbojikcekaa
