/-
  Proved here: steps towards the statement of this claim, text W2.
  No condition beyond what each statement spells out.
-/
import Derived.Test.YtphofanfadgalaaGreatM2
import Derived.Test.YtphofanfadgalaaGreatF4
set_option linter.all false
set_option linter.unusedSimpArgs false
set_option linter.unusedVariables false
set_option maxRecDepth 4000
set_option maxHeartbeats 4000000
namespace Go.Proofs.YtphofanfadgalaaGreat
open Go.Aw
end Go.Proofs.YtphofanfadgalaaGreat
