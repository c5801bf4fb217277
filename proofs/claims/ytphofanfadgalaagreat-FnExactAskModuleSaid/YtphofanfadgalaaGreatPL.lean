/-
  Proved here: steps towards the statement of this claim, text PL.
  No condition beyond what each statement spells out.
-/
import Derived.Test.YtphofanfadgalaaGreatF4
set_option linter.all false
set_option maxRecDepth 4000
set_option maxHeartbeats 4000000
namespace Go.Proofs.YtphofanfadgalaaGreat
open Go.Aw
theorem sumN_join {α : Type} (f : α → Nat) : ∀ a b : List α, sumN f (a ++ b) = sumN f a + sumN f b
  | [], b => by simp [sumN]
  | x :: xs, b => by simp only [List.cons_append, sumN, sumN_join f xs b]; omega
theorem cPage_lin (p : DPage) : cPage p ≤ 20 * szPage p + 20 := by
  have h1 := sumN_le_c 3 cToken_le p.queue
  have h2 := sumN_le_c 3 cNode_le p.builder.nodes
  simp only [szPage, szPolicy, szBuilder, szL, cPage, cPolicy, cBuilder, sumN_const]
  omega
/-- What the marks and the comparison ask of a page that is not too large. -/
theorem page_facts (g : DPage) (hg : szPage g ≤ 1099511627776) : (cPage g ≤ 21990232555540 ∧ g.queue.length ≤ 4611686018427387904) ∧ (∀ x ∈ g.queue, x.attrs.length ≤ 4611686018427387904) ∧ g.builder.nodes.length ≤ 4611686018427387904 ∧ (∀ x ∈ g.builder.nodes, x.attrs.length ≤ 4611686018427387904) := by
  have h := cPage_lin g
  refine ⟨⟨by omega, ?_⟩, ?_, ?_, ?_⟩
  · simp only [szPage, szL] at hg; omega
  · exact attrs_Token (by simp only [szPage, szL] at hg; omega)
  · simp only [szPage, szBuilder, szL] at hg; omega
  · exact attrs_Node (by simp only [szPage, szBuilder, szL] at hg; omega)
end Go.Proofs.YtphofanfadgalaaGreat
