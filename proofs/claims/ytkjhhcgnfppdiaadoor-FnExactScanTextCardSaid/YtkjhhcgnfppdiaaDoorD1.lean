/-
  Proved here: contracts of the library's Itoa and Join, and of FormatInt in the reference and in the program.
  No condition beyond what each statement spells out.
-/
import Derived.Test.YtkjhhcgnfppdiaaDoorA0
import Derived.Test.YtkjhhcgnfppdiaaDoorYShelf
import Derived.Test.YtkjhhcgnfppdiaaDoorF5
set_option linter.all false
set_option linter.unusedSimpArgs false
set_option linter.unusedVariables false
set_option maxRecDepth 4000
set_option maxHeartbeats 400000
namespace Go.Proofs.YtkjhhcgnfppdiaaDoor
open Go.Aw

theorem join_ok [Tabs Tryd.prog] [HasPow Tryd.prog] (l : List Str) (sep : Str) (hl : l.length ≤ 140737488355328) (hs : (Lib.join l sep).length ≤ 140737488355328) :
    Ok Tryd.prog 26 [.sl .view 1 (l.map fun s => [.str s]), .str sep] (.str (Lib.join l sep)) := ok_join Tryd.lays156 Tryd.Builder_Extra_156 l sep hl hs
end Go.Proofs.YtkjhhcgnfppdiaaDoor
