/-
  Proved here: steps towards the statement of this claim, text AwDoor2.
  No condition beyond what each statement spells out.
-/
import Derived.Test.YtkjhhcgnfppdiaaDoorF5
set_option linter.all false
set_option linter.unusedVariables false
namespace Go.Aw
theorem size_of_cell {w : World} {g n : Nat} {v : Value} (h : w.cell? ⟨g, 0, none⟩ = some v) (hn : n ≤ g + 1) : n ≤ w.heap.size := by
  have : g < w.heap.size := by
    rcases Nat.lt_or_ge g w.heap.size with h' | h'
    · exact h'
    · simp [World.cell?, Array.getElem?_eq_none h'] at h
  omega
end Go.Aw
