/-
  Proved here: steps towards the statement of this claim, text E3.
  No condition beyond what each statement spells out.
-/
import Derived.Test.YtedhenfipalhaaaE2
set_option linter.all false
set_option linter.unusedSimpArgs false
set_option linter.unusedVariables false
set_option maxRecDepth 4000
set_option maxHeartbeats 400000
namespace Go.Proofs.Ytedhenfipalhaaa
open Go.Aw
theorem builder_eq {a b : DBuilder} : a = b ↔ a.nodes = b.nodes ∧ a.opens = b.opens := by
  cases a; cases b; simp
theorem specEqualBuilders_ok [Tabs Try.prog] (a b : DBuilder) (hl : szL szNode a.nodes ≤ 1099511627776) (hl2 : a.opens.length ≤ 1099511627776) : Ok Try.prog 32 [.agg (eBuilder .view a), .agg (eBuilder .view b)] (.bool (decide (a = b))) := by
  have c0 := specInts_ok a.opens b.opens hl2
  simp only [szL] at hl
  rw [show decide (a = b) = decide (a.nodes = b.nodes ∧ a.opens = b.opens) by rw [decide_eq_decide]; exact builder_eq]
  by_cases q1 : a.nodes.length = b.nodes.length
  · by_cases q2 : a.opens = b.opens
    · rw [decide_eq_true q2] at c0
      rw [show decide (a.nodes = b.nodes ∧ a.opens = b.opens) = decide (a.nodes = b.nodes) by simp [q2]]
      refine ent Try.mix Try.func32 Try.ntmps32 ?_
      have W := q1
      repeat' first|refine st ?_|(refine nx ?_;refine so ?_)|(refine cx ?_;refine sc (fun hc=>?_) (fun hc=>?_)<;>try exact hc.elim)|(refine lx ?_;refine sp (fun hc=>?_) (fun hc=>?_)<;>try exact hc.elim)|refine sx ?_ ?_|refine sy ?_ ?_|fail
      refine awp_loop' (ι := { k : Nat // k ≤ b.nodes.length ∧ a.nodes.take k = b.nodes.take k }) (fun t o i => ⟨upds t [(5, .int .i64 i.1)], o⟩)
        (fun i => b.nodes.length - i.1) ⟨0, by simp, by simp⟩ (weak_o (by simp) (by simp)) ?_
      rintro ⟨k, hk, hi⟩ K1 hK1
      simp only [upds, List.set_cons_succ, List.set_cons_zero] at hK1 ⊢
      have hk1 : IntKind.i64.wrap ((k : Int) + 1) = ((k + 1 : Nat) : Int) := by rw [wrap64] <;> omega
      by_cases hlt : k < b.nodes.length
      · have hg := List.getElem?_eq_getElem hlt
        have hlta : k < a.nodes.length := by omega
        have hg2 := List.getElem?_eq_getElem hlta
        have hz := sumN_get_le szNode a.nodes k hlta
        simp only [szNode, szL] at hz
        have c1 := sameNode_ok a.nodes[k] b.nodes[k] (by omega)
        simp only [eNode] at c1
        have W := And.intro hk1 (And.intro hg (And.intro hg2 (And.intro q1 (And.intro hlt hlta))))
        repeat' first|refine st ?_|(refine nx ?_;refine so ?_)|(refine cx ?_;refine sc (fun hc=>?_) (fun hc=>?_)<;>try exact hc.elim)|(refine lx ?_;refine sp (fun hc=>?_) (fun hc=>?_)<;>try exact hc.elim)|refine sx ?_ ?_|refine sy ?_ ?_|fail
        · all_goals (try (refine ⟨.inr rfl, ?_⟩; simp [Hands, Try.results32]))
          exact ne_at hlta hlt (by simpa using hc)
        · exact hK1 _ ⟨k + 1, by omega, take_eq_succ hi hlta hlt (by simpa using hc)⟩ (weak_o (by simp) (by simp)) (by simp only; omega)
      · have W := And.intro hk1 q1
        repeat' first|refine st ?_|(refine nx ?_;refine so ?_)|(refine cx ?_;refine sc (fun hc=>?_) (fun hc=>?_)<;>try exact hc.elim)|(refine lx ?_;refine sp (fun hc=>?_) (fun hc=>?_)<;>try exact hc.elim)|refine sx ?_ ?_|refine sy ?_ ?_|fail
        all_goals (try (refine ⟨.inr rfl, ?_⟩; simp [Hands, Try.results32]))
        exact take_eq_all q1 (by omega) hi
    · rw [decide_eq_false q2] at c0
      refine ent Try.mix Try.func32 Try.ntmps32 ?_
      have W := q1
      repeat' first|refine st ?_|(refine nx ?_;refine so ?_)|(refine cx ?_;refine sc (fun hc=>?_) (fun hc=>?_)<;>try exact hc.elim)|(refine lx ?_;refine sp (fun hc=>?_) (fun hc=>?_)<;>try exact hc.elim)|refine sx ?_ ?_|refine sy ?_ ?_|fail
      all_goals (try (refine ⟨.inr rfl, ?_⟩; simp [Hands, Try.results32]))
      all_goals simp [q2]
  · have q5 : ¬ a.nodes = b.nodes := fun h => q1 (by rw [h])
    refine ent Try.mix Try.func32 Try.ntmps32 ?_
    have W := q1
    repeat' first|refine st ?_|(refine nx ?_;refine so ?_)|(refine cx ?_;refine sc (fun hc=>?_) (fun hc=>?_)<;>try exact hc.elim)|(refine lx ?_;refine sp (fun hc=>?_) (fun hc=>?_)<;>try exact hc.elim)|refine sx ?_ ?_|refine sy ?_ ?_|fail
    all_goals (try (refine ⟨.inr rfl, ?_⟩; simp [Hands, Try.results32]))
    all_goals first | (simp [q5]; done) | omega
theorem implEqualBuilders_ok [Tabs Try.prog] (a b : DBuilder) (hl : szL szNode a.nodes ≤ 1099511627776) (hl2 : a.opens.length ≤ 1099511627776) : Ok Try.prog 38 [.agg (eBuilder .view a), .agg (eBuilder .view b)] (.bool (decide (a = b))) := by
  have c0 := equalInt_ok a.opens b.opens hl2
  have c1 := equalFuncNode_ok a.nodes b.nodes hl
  rw [show decide (a = b) = decide (a.nodes = b.nodes ∧ a.opens = b.opens) by rw [decide_eq_decide]; exact builder_eq]
  refine ent Try.mix Try.func38 Try.ntmps38 ?_
  have W := trivial
  repeat' first|refine st ?_|(refine nx ?_;refine so ?_)|(refine cx ?_;refine sc (fun hc=>?_) (fun hc=>?_)<;>try exact hc.elim)|(refine lx ?_;refine sp (fun hc=>?_) (fun hc=>?_)<;>try exact hc.elim)|refine sx ?_ ?_|refine sy ?_ ?_|fail
  all_goals (try (refine ⟨.inr rfl, ?_⟩; simp [Hands, Try.results38]))
  all_goals simp_all
theorem equalSheet_ok [Tabs Try.prog] (a b : DSheet) (hl : a.rules.length ≤ 1099511627776) : Ok Try.prog 40 [.agg (eSheet .view a), .agg (eSheet .view b)] (.bool (decide (a = b))) := by
  have c0 := equalRule_ok a.rules b.rules hl
  rw [show decide (a = b) = decide (a.rules = b.rules) by rw [decide_eq_decide]; cases a; cases b; simp]
  refine ent Try.mix Try.func40 Try.ntmps40 ?_
  have W := trivial
  repeat' first|refine st ?_|(refine nx ?_;refine so ?_)|(refine cx ?_;refine sc (fun hc=>?_) (fun hc=>?_)<;>try exact hc.elim)|(refine lx ?_;refine sp (fun hc=>?_) (fun hc=>?_)<;>try exact hc.elim)|refine sx ?_ ?_|refine sy ?_ ?_|fail
  all_goals (try (refine ⟨.inr rfl, ?_⟩; simp [Hands, Try.results40]))
end Go.Proofs.Ytedhenfipalhaaa
