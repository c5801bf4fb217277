/-
  Proved here: steps towards the statement of this claim, text I7.
  No condition beyond what each statement spells out.
-/
import Derived.Test.YtphofanfadgalaaGreatI3
import Derived.Test.YtphofanfadgalaaGreatPL
set_option linter.all false
set_option linter.unusedSimpArgs false
set_option linter.unusedVariables false
set_option maxRecDepth 4000
set_option maxHeartbeats 4000000
namespace Go.Proofs.YtphofanfadgalaaGreat
open Go.Aw
theorem askMods_sz (p : DPage) (a : DAddr) (k : Nat) : szL szModule (askMods p a k) = szL szModule p.mods + 1 + szAddr a := by
  have h1 : sumN szModule (p.mods.take k) + sumN szModule (p.mods.drop k) = sumN szModule p.mods := by rw [← sumN_join, List.take_append_drop]
  have h2 : (p.mods.take k).length + (p.mods.drop k).length = p.mods.length := by rw [← List.length_append, List.take_append_drop]
  have h3 : szModule (newMod p a) = szAddr a := by unfold newMod; split <;> simp [szModule]
  simp only [askMods, szL, List.length_append, List.length_cons, sumN_join, sumN, h3]
  omega
theorem ask_sz (p : DPage) (a : DAddr) : szPage (askModule p a) ≤ szPage p + szAddr a + 1 := by
  have h := askMods_sz p a (askAt p.mods a)
  unfold askModule
  split
  · split
    · omega
    · simp only [szPage, h]; omega
  · simp only [szPage, h]; omega
end Go.Proofs.YtphofanfadgalaaGreat
