/-
  Proved here: contracts of the copies of attributes, tokens and policies.
  No condition beyond what each statement spells out.
-/
import Derived.Test.YtkjhhcgnfppdiaaDoorU5
import Derived.Test.YtkjhhcgnfppdiaaDoorF6
set_option linter.all false
set_option linter.unusedSimpArgs false
set_option linter.unusedVariables false
set_option maxRecDepth 4000
set_option maxHeartbeats 4000000
namespace Go.Proofs.YtkjhhcgnfppdiaaDoor
open Go.Aw
theorem map_succ {α β : Type} (f : α → β) (l : List α) (k : Nat) (h : k < l.length) : (l.take (k + 1)).map f = (l.take k).map f ++ [f l[k]] := by
  rw [List.take_succ_eq_append_getElem h, List.map_append]; rfl
def endText (t : DTokenizer) : List DToken := if t.rest = [] ∨ t.rest.head? = some 60 then [] else [⟨3, [], [], t.rest⟩]
end Go.Proofs.YtkjhhcgnfppdiaaDoor
