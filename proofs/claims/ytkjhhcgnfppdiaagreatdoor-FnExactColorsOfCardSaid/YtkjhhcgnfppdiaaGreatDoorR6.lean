/-
  Proved here: steps towards the statement of this claim, text R6.
  No condition beyond what each statement spells out.
-/
import Derived.Test.YtkjhhcgnfppdiaaGreatDoorR5
set_option linter.all false
set_option linter.unusedSimpArgs false
set_option linter.unusedVariables false
set_option maxRecDepth 4000
set_option maxHeartbeats 400000
namespace Go.Proofs.YtkjhhcgnfppdiaaGreatDoor
open Go.Aw
theorem byte_eq {c : UInt8} {n : Nat} (hn : n < 256) (h : (c.toNat : Int) = n) : c = UInt8.ofNat n := by
  have : c.toNat = n := by omega
  rw [← this]; simp
theorem byte_ne {c : UInt8} {n : Nat} (hn : n < 256) (h : ¬ (c.toNat : Int) = n) : c ≠ UInt8.ofNat n := by
  rintro rfl
  apply h
  simp
  omega
theorem addrOf_cut {s b : Str} {k : Nat} (h : ixB 47 s = k) (hk : k < s.length) : addrOf s b = ⟨s.take k, s.drop (k + 1)⟩ := by
  subst h; exact if_pos hk
theorem addrOf_none {s b : Str} (h : ixB 47 s = s.length) : addrOf s b = ⟨b, s⟩ := if_neg (by omega)
end Go.Proofs.YtkjhhcgnfppdiaaGreatDoor
