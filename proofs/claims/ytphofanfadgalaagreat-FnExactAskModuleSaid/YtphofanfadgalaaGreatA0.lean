/-
  Proved here: the order of evaluation that the translated program follows.
  No condition beyond what each statement spells out.
-/
import Derived.Test.YtphofanfadgalaaGreatYFacts
import Derived.Test.YtphofanfadgalaaGreatF3
import Derived.Test.YtphofanfadgalaaGreatF6
set_option linter.all false
namespace Go.Proofs.YtphofanfadgalaaGreat
theorem Tryz.mix : Tryz.prog.follows .mixedOrders = true := by kernel_rfl
end Go.Proofs.YtphofanfadgalaaGreat
