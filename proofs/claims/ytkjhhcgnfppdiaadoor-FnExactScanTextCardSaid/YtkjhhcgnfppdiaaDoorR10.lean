/-
  Proved here: steps towards the statement of this claim, text R10.
  No condition beyond what each statement spells out.
-/
import Derived.Test.YtkjhhcgnfppdiaaDoorR9
set_option linter.all false
set_option linter.unusedSimpArgs false
set_option linter.unusedVariables false
set_option maxRecDepth 4000
set_option maxHeartbeats 400000
namespace Go.Proofs.YtkjhhcgnfppdiaaDoor
open Go.Aw
theorem scanToken_big (t : DToken) (b : Str) (h : (scanToken t b).2 = true) : 3 ≤ szToken t := by
  have key : t.name = sScript ∨ t.name = sLink ∨ t.name = sImg := by
    unfold scanToken at h
    split at h
    · split at h
      · left; assumption
      · split at h
        · right; left; assumption
        · split at h
          · right; right; assumption
          · cases h
    · cases h
  simp only [szToken]
  rcases key with h | h | h <;> (rw [h]; simp [sScript, sLink, sImg]; omega)
theorem scanTokens_big (b : Str) : ∀ l : List DToken, 3 * (scanTokens l b).length ≤ sumN szToken l ∧ sumN szRequest (scanTokens l b) ≤ 2 * sumN szToken l + 2 * ((scanTokens l b).length * b.length)
  | [] => by simp [scanTokens, sumN]
  | t :: l => by
    have h := scanToken_sz t b
    have hb := scanToken_big t b
    obtain ⟨i1, i2⟩ := scanTokens_big b l
    simp only [scanTokens, List.filterMap_cons, scanPick, sumN] at i1 i2 ⊢
    split
    · exact ⟨by omega, by omega⟩
    · rename_i x hx
      split at hx
      · rename_i hc
        have hb := hb hc
        cases hx
        simp only [sumN, List.length_cons, Nat.succ_mul]
        exact ⟨by omega, by omega⟩
      · cases hx
end Go.Proofs.YtkjhhcgnfppdiaaDoor
