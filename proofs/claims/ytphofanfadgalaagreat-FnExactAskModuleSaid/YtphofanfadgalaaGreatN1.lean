/-
  Proved here: steps towards the statement of this claim, text N1.
  No condition beyond what each statement spells out.
-/
import Derived.Test.YtphofanfadgalaaGreatA0
import Derived.Test.YtphofanfadgalaaGreatF3
import Derived.Test.YtphofanfadgalaaGreatF6
set_option linter.all false
set_option linter.unusedSimpArgs false
set_option linter.unusedVariables false
set_option maxRecDepth 4000
set_option maxHeartbeats 4000000
namespace Go.Proofs.YtphofanfadgalaaGreat
open Go.Aw
/-- The places of those that are so. -/
def places {α : Type} (f : α → Bool) : Nat → List α → List Int
  | _, [] => []
  | i, x :: xs => if f x then (i : Int) :: places f (i + 1) xs else places f (i + 1) xs
theorem places_snoc {α : Type} (f : α → Bool) (x : α) : ∀ (l : List α) (i : Nat), places f i (l ++ [x]) = places f i l ++ (if f x then [((i + l.length : Nat) : Int)] else [])
  | [], i => by simp only [List.nil_append, places]; cases f x <;> simp
  | y :: ys, i => by
    simp only [List.cons_append, places]
    rw [places_snoc f x ys (i + 1)]
    have : i + 1 + ys.length = i + (y :: ys).length := by simp; omega
    rw [this]
    cases f y <;> simp
theorem places_succ {α : Type} (f : α → Bool) (l : List α) (k : Nat) (h : k < l.length) : places f 0 (l.take (k + 1)) = places f 0 (l.take k) ++ (if f l[k] then [(k : Int)] else []) := by
  rw [List.take_succ_eq_append_getElem h, places_snoc]
  have : (l.take k).length = k := by simp; omega
  rw [this, Nat.zero_add]
theorem places_length {α : Type} (f : α → Bool) : ∀ (l : List α) (i : Nat), (places f i l).length ≤ l.length
  | [], _ => by simp [places]
  | x :: xs, i => by
    simp only [places]
    have := places_length f xs (i + 1)
    cases f x <;> simp <;> omega
def openS (s : DSlot) : Bool := !s.done
def openM (s : DModule) : Bool := !s.done
def deferS (s : DSlot) : Bool := s.mode == 4

end Go.Proofs.YtphofanfadgalaaGreat
