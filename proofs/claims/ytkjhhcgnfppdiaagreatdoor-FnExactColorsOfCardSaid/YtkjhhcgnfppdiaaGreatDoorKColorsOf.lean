/-
  Proved here: steps towards the statement of this claim, text KColorsOf.
  No condition beyond what each statement spells out.
-/
import Derived.Test.YtkjhhcgnfppdiaaGreatDoorF7
import Derived.Lay
import Derived.SevenTiedAt
import Derived.Test.YtkjhhcgnfppdiaaGreatDoorRows
import Derived.Test.YtkjhhcgnfppdiaaGreatDoorCards
import Derived.Test.YtkjhhcgnfppdiaaGreatDoorTie
set_option linter.all false
set_option linter.unusedVariables false
namespace Go.Proofs.YtkjhhcgnfppdiaaGreatDoor
open Go.Aw
set_option maxRecDepth 100000 in
theorem colorsOf_closed : joinedFacts Tryz.pinned.checked.prog 8 Tryz.f8 Rows.fnExactColorsOfSpec Rows.fnExactColorsOfRow = true := by kernel_rfl
end Go.Proofs.YtkjhhcgnfppdiaaGreatDoor
