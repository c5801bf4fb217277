/-
  Proved here: steps towards the statement of this claim, text P8.
  No condition beyond what each statement spells out.
-/
import Derived.Test.YtphofanfadgalaaGreatDoorP7
set_option linter.all false
set_option linter.unusedSimpArgs false
set_option linter.unusedVariables false
set_option maxRecDepth 4000
set_option maxHeartbeats 4000000
namespace Go.Proofs.YtphofanfadgalaaGreatDoor
open Go.Aw
/-- The pieces of a text: the first, and the rest of the text behind it. -/
theorem segs_first (c : UInt8) (s : Str) : segs c s = s.take (ixB c s) :: (if ixB c s < s.length then segs c (s.drop (ixB c s + 1)) else []) := by
  rw [segs_step]
  have h := ixB_le c s
  split
  · rfl
  · rw [List.take_of_length_le (by omega)]
theorem pfx_take {p s : Str} {k : Nat} (h : pfx p (s.take k) = true) : pfx p s = true := by
  simp only [pfx, Bool.and_eq_true, decide_eq_true_eq, beq_iff_eq, List.take_take, List.length_take] at h ⊢
  obtain ⟨h1, h2⟩ := h
  rw [Nat.min_eq_left (by omega)] at h2
  exact ⟨by omega, h2⟩
theorem imp_ix {s : Str} (h : pfx impW s = true) : 7 ≤ ixB 59 s := by
  simp only [pfx, Bool.and_eq_true, decide_eq_true_eq, beq_iff_eq] at h
  obtain ⟨h1, h2⟩ := h
  have h3 : s = impW ++ s.drop 7 := by
    have := List.take_append_drop 7 s
    rw [show impW.length = 7 from rfl] at h2
    rw [h2] at this; exact this.symm
  rw [h3, ixB_skip 59 impW _ (by decide)]
  simp [impW]
theorem pfx_of_ix {s : Str} (h : pfx impW s = true) : pfx impW (s.take (ixB 59 s)) = true := by
  have h7 := imp_ix h
  have hle := ixB_le 59 s
  simp only [pfx, Bool.and_eq_true, decide_eq_true_eq, beq_iff_eq, List.take_take, List.length_take, show impW.length = 7 from rfl] at h ⊢
  rw [Nat.min_eq_left h7]
  exact ⟨by omega, h.2⟩
end Go.Proofs.YtphofanfadgalaaGreatDoor
