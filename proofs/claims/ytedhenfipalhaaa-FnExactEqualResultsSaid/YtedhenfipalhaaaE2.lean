/-
  Proved here: steps towards the statement of this claim, text E2.
  No condition beyond what each statement spells out.
-/
import Derived.Test.YtedhenfipalhaaaE1
set_option linter.all false
set_option linter.unusedSimpArgs false
set_option linter.unusedVariables false
set_option maxRecDepth 4000
set_option maxHeartbeats 400000
namespace Go.Proofs.Ytedhenfipalhaaa
open Go.Aw
theorem node_eq {a b : DNode} : a = b ↔ a.name = b.name ∧ a.text = b.text ∧ a.parent = b.parent ∧ a.attrs = b.attrs := by
  cases a; cases b; simp
theorem sameNode_ok [Tabs Try.prog] (a b : DNode) (hl : a.attrs.length ≤ 1099511627776) : Ok Try.prog 98 [.agg (eNode .view a), .agg (eNode .view b)] (.bool (decide (a = b))) := by
  rw [show decide (a = b) = decide (a.name = b.name ∧ a.text = b.text ∧ a.parent = b.parent ∧ a.attrs = b.attrs) by rw [decide_eq_decide]; exact node_eq]
  by_cases q1 : a.name = b.name
  · by_cases q2 : a.text = b.text
    · by_cases q3 : a.parent = b.parent
      · by_cases q4 : a.attrs.length = b.attrs.length
        · rw [show decide (a.name = b.name ∧ a.text = b.text ∧ a.parent = b.parent ∧ a.attrs = b.attrs) = decide (a.attrs = b.attrs) by simp [q1, q2, q3]]
          refine ent Try.mix Try.func98 Try.ntmps98 ?_
          have W := And.intro q1 (And.intro q2 (And.intro q3 q4))
          repeat' first|refine st ?_|(refine nx ?_;refine so ?_)|(refine cx ?_;refine sc (fun hc=>?_) (fun hc=>?_)<;>try exact hc.elim)|(refine lx ?_;refine sp (fun hc=>?_) (fun hc=>?_)<;>try exact hc.elim)|refine sx ?_ ?_|refine sy ?_ ?_|fail
          refine awp_loop' (ι := { k : Nat // k ≤ b.attrs.length ∧ a.attrs.take k = b.attrs.take k }) (fun t o i => ⟨upds t [(5, .int .i64 i.1)], o⟩)
            (fun i => b.attrs.length - i.1) ⟨0, by simp, by simp⟩ (weak_o (by simp) (by simp)) ?_
          rintro ⟨k, hk, hi⟩ K1 hK1
          simp only [upds, List.set_cons_succ, List.set_cons_zero] at hK1 ⊢
          have hk1 : IntKind.i64.wrap ((k : Int) + 1) = ((k + 1 : Nat) : Int) := by rw [wrap64] <;> omega
          by_cases hlt : k < b.attrs.length
          · have hg := List.getElem?_eq_getElem hlt
            have hlta : k < a.attrs.length := by omega
            have hg2 := List.getElem?_eq_getElem hlta
            have W := And.intro hk1 (And.intro hg (And.intro hg2 (And.intro q4 (And.intro hlt hlta))))
            repeat' first|refine st ?_|(refine nx ?_;first|refine so ?_|refine sk (hc:=eqAttrA (a.attrs[k]'(by omega)) b.attrs[k]) (h:=?_))|(refine cx ?_;refine sc (fun hc=>?_) (fun hc=>?_)<;>try exact hc.elim)|(refine lx ?_;refine sp (fun hc=>?_) (fun hc=>?_)<;>try exact hc.elim)|refine sx ?_ ?_|refine sy ?_ ?_|fail
            · all_goals (try (refine ⟨.inr rfl, ?_⟩; simp [Hands, Try.results98]))
              exact ne_at hlta hlt hc
            · exact hK1 _ ⟨k + 1, by omega, take_eq_succ hi hlta hlt hc⟩ (weak_o (by simp) (by simp)) (by simp only; omega)
          · have W := And.intro hk1 q4
            repeat' first|refine st ?_|(refine nx ?_;refine so ?_)|(refine cx ?_;refine sc (fun hc=>?_) (fun hc=>?_)<;>try exact hc.elim)|(refine lx ?_;refine sp (fun hc=>?_) (fun hc=>?_)<;>try exact hc.elim)|refine sx ?_ ?_|refine sy ?_ ?_|fail
            all_goals (try (refine ⟨.inr rfl, ?_⟩; simp [Hands, Try.results98]))
            exact take_eq_all q4 (by omega) hi
        · have q5 : ¬ a.attrs = b.attrs := fun h => q4 (by rw [h])
          refine ent Try.mix Try.func98 Try.ntmps98 ?_
          have W := And.intro q1 (And.intro q2 (And.intro q3 q4))
          repeat' first|refine st ?_|(refine nx ?_;refine so ?_)|(refine cx ?_;refine sc (fun hc=>?_) (fun hc=>?_)<;>try exact hc.elim)|(refine lx ?_;refine sp (fun hc=>?_) (fun hc=>?_)<;>try exact hc.elim)|refine sx ?_ ?_|refine sy ?_ ?_|fail
          all_goals (try (refine ⟨.inr rfl, ?_⟩; simp [Hands, Try.results98]))
          all_goals first | (simp [q5]; done) | omega
      · refine ent Try.mix Try.func98 Try.ntmps98 ?_
        have W := And.intro q1 (And.intro q2 q3)
        repeat' first|refine st ?_|(refine nx ?_;refine so ?_)|(refine cx ?_;refine sc (fun hc=>?_) (fun hc=>?_)<;>try exact hc.elim)|(refine lx ?_;refine sp (fun hc=>?_) (fun hc=>?_)<;>try exact hc.elim)|refine sx ?_ ?_|refine sy ?_ ?_|fail
        all_goals (try (refine ⟨.inr rfl, ?_⟩; simp [Hands, Try.results98]))
        all_goals simp [q3]
    · refine ent Try.mix Try.func98 Try.ntmps98 ?_
      have W := And.intro q1 q2
      repeat' first|refine st ?_|(refine nx ?_;refine so ?_)|(refine cx ?_;refine sc (fun hc=>?_) (fun hc=>?_)<;>try exact hc.elim)|(refine lx ?_;refine sp (fun hc=>?_) (fun hc=>?_)<;>try exact hc.elim)|refine sx ?_ ?_|refine sy ?_ ?_|fail
      all_goals (try (refine ⟨.inr rfl, ?_⟩; simp [Hands, Try.results98]))
      all_goals simp [q2]
  · refine ent Try.mix Try.func98 Try.ntmps98 ?_
    have W := q1
    repeat' first|refine st ?_|(refine nx ?_;refine so ?_)|(refine cx ?_;refine sc (fun hc=>?_) (fun hc=>?_)<;>try exact hc.elim)|(refine lx ?_;refine sp (fun hc=>?_) (fun hc=>?_)<;>try exact hc.elim)|refine sx ?_ ?_|refine sy ?_ ?_|fail
    all_goals (try (refine ⟨.inr rfl, ?_⟩; simp [Hands, Try.results98]))
    all_goals simp [q1]
theorem equalNodes_ok [Tabs Try.prog] (a b : DNode) (hl : a.attrs.length ≤ 1099511627776) : Ok Try.prog 103 [.agg (eNode .view a), .agg (eNode .view b)] (.bool (decide (a = b))) := by
  have c1 := equalAttr_ok a.attrs b.attrs hl
  rw [show decide (a = b) = decide (a.name = b.name ∧ a.text = b.text ∧ a.parent = b.parent ∧ a.attrs = b.attrs) by rw [decide_eq_decide]; exact node_eq]
  refine ent Try.mix Try.func103 Try.ntmps103 ?_
  have W := trivial
  repeat' first|refine st ?_|(refine nx ?_;refine so ?_)|(refine cx ?_;refine sc (fun hc=>?_) (fun hc=>?_)<;>try exact hc.elim)|(refine lx ?_;refine sp (fun hc=>?_) (fun hc=>?_)<;>try exact hc.elim)|refine sx ?_ ?_|refine sy ?_ ?_|fail
  all_goals (try (refine ⟨.inr rfl, ?_⟩; simp [Hands, Try.results103]))
  all_goals simp_all
theorem equalFuncNode_ok [Tabs Try.prog] (a b : List DNode) (hl : szL szNode a ≤ 1099511627776) : Ok Try.prog 102 [.sl .view 4 (a.map (eNode .view)), .sl .view 4 (b.map (eNode .view)), .fn 103 []] (.bool (decide (a = b))) := by
  simp only [szL] at hl
  refine ent Try.mix Try.func102 Try.ntmps102 ?_
  have W := trivial
  repeat' first|refine st ?_|(refine nx ?_;refine so ?_)|(refine cx ?_;refine sc (fun hc=>?_) (fun hc=>?_)<;>try exact hc.elim)|(refine lx ?_;refine sp (fun hc=>?_) (fun hc=>?_)<;>try exact hc.elim)|refine sx ?_ ?_|refine sy ?_ ?_|fail
  · all_goals (try (refine ⟨.inr rfl, ?_⟩; simp [Hands, Try.results102]))
    exact ne_len (by omega)
  · have hlen := hc
    refine awp_loop' (ι := { k : Nat // k ≤ a.length ∧ a.take k = b.take k }) (fun t o i => ⟨upds t [(17, .int .i64 i.1), (7, .undef)], o⟩)
      (fun i => a.length - i.1) ⟨0, by simp, by simp⟩ (weak_o (by simp) (by simp)) ?_
    rintro ⟨k, hk, hi⟩ K1 hK1
    simp only [upds, List.set_cons_succ, List.set_cons_zero] at hK1 ⊢
    have hk1 : IntKind.i64.wrap ((k : Int) + 1) = ((k + 1 : Nat) : Int) := by rw [wrap64] <;> omega
    by_cases hlt : k < a.length
    · have hg := List.getElem?_eq_getElem hlt
      have hltb : k < b.length := by omega
      have hg2 := List.getElem?_eq_getElem hltb
      have hz := sumN_get_le szNode a k hlt
      simp only [szNode, szL] at hz
      have c1 := equalNodes_ok a[k] b[k] (by omega)
      simp only [eNode] at c1
      have W := And.intro hk1 (And.intro hg (And.intro hg2 (And.intro hlt hltb)))
      repeat' first|refine st ?_|(refine nx ?_;refine so ?_)|(refine cx ?_;refine sc (fun hc=>?_) (fun hc=>?_)<;>try exact hc.elim)|(refine lx ?_;refine sp (fun hc=>?_) (fun hc=>?_)<;>try exact hc.elim)|refine sx ?_ ?_|refine sy ?_ ?_|fail
      · all_goals (try (refine ⟨.inr rfl, ?_⟩; simp [Hands, Try.results102]))
        exact ne_at hlt hltb (by simpa using hc)
      · exact hK1 _ ⟨k + 1, by omega, take_eq_succ hi hlt hltb (by simpa using hc)⟩ (weak_take 0 (by simp) (by simp) (by simp) (by simp)) (by simp only; omega)
    · have W := hk1
      repeat' first|refine st ?_|(refine nx ?_;refine so ?_)|(refine cx ?_;refine sc (fun hc=>?_) (fun hc=>?_)<;>try exact hc.elim)|(refine lx ?_;refine sp (fun hc=>?_) (fun hc=>?_)<;>try exact hc.elim)|refine sx ?_ ?_|refine sy ?_ ?_|fail
      all_goals (try (refine ⟨.inr rfl, ?_⟩; simp [Hands, Try.results102]))
      exact take_eq_all (by omega) hlt hi
end Go.Proofs.Ytedhenfipalhaaa
