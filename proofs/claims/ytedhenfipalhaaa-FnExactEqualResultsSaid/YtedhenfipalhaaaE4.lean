/-
  Proved here: contracts of EqualSheets and EqualResults.
  No condition beyond what each statement spells out.
-/
import Derived.Test.YtedhenfipalhaaaE3
set_option linter.all false
set_option linter.unusedSimpArgs false
set_option linter.unusedVariables false
set_option maxRecDepth 4000
set_option maxHeartbeats 400000
namespace Go.Proofs.Ytedhenfipalhaaa
open Go.Aw
theorem equalSheets_ok [Tabs Try.prog] (a b : DSheet) (hl : a.rules.length ≤ 1099511627776) : Ok Try.prog 34 [.sl .view 1 [eSheet .view a], .sl .view 1 [eSheet .view b]] (.bool (decide (a = b))) := by
  rw [show decide (a = b) = decide (a.rules = b.rules) by rw [decide_eq_decide]; cases a; cases b; simp]
  refine ent Try.mix Try.func34 Try.ntmps34 ?_
  have W := trivial
  repeat' first|refine st ?_|(refine nx ?_;refine so ?_)|(refine cx ?_;refine sc (fun hc=>?_) (fun hc=>?_)<;>try exact hc.elim)|(refine lx ?_;refine sp (fun hc=>?_) (fun hc=>?_)<;>try exact hc.elim)|refine sx ?_ ?_|refine sy ?_ ?_|fail
  refine awp_loop' (ι := { k : Nat // k ≤ 1 ∧ (k = 1 → a.rules = b.rules) }) (fun t o i => ⟨upds t [(5, .int .i64 i.1), (6, .undef)], o⟩)
    (fun i => 1 - i.1) ⟨0, by simp⟩ (weak_o (by simp) (by simp)) ?_
  rintro ⟨k, hk, hi⟩ K1 hK1
  simp only [upds, List.set_cons_succ, List.set_cons_zero] at hK1 ⊢
  obtain rfl | rfl : k = 0 ∨ k = 1 := by omega
  · by_cases hlen : a.rules.length = b.rules.length
    · have W := hlen
      repeat' first|refine st ?_|(refine nx ?_;refine so ?_)|(refine cx ?_;refine sc (fun hc=>?_) (fun hc=>?_)<;>try exact hc.elim)|(refine lx ?_;refine sp (fun hc=>?_) (fun hc=>?_)<;>try exact hc.elim)|refine sx ?_ ?_|refine sy ?_ ?_|fail
      have hK0 := hK1
      clear hK1
      refine awp_loop' (ι := { k : Nat // k ≤ b.rules.length ∧ a.rules.take k = b.rules.take k }) (fun t o i => ⟨upds t [(6, .int .i64 i.1)], o⟩)
        (fun i => b.rules.length - i.1) ⟨0, by simp, by simp⟩ (weak_o (by simp) (by simp)) ?_
      rintro ⟨k, hk, hi⟩ K1 hK1
      simp only [upds, List.set_cons_succ, List.set_cons_zero] at hK1 ⊢
      have hk1 : IntKind.i64.wrap ((k : Int) + 1) = ((k + 1 : Nat) : Int) := by rw [wrap64] <;> omega
      by_cases hlt : k < b.rules.length
      · have hg := List.getElem?_eq_getElem hlt
        have hlta : k < a.rules.length := by omega
        have hg2 := List.getElem?_eq_getElem hlta
        have W := And.intro hk1 (And.intro hg (And.intro hg2 (And.intro hlen (And.intro hlt hlta))))
        repeat' first|refine st ?_|(refine nx ?_;first|refine so ?_|refine sk (hc:=eqRuleA (a.rules[k]'(by omega)) b.rules[k]) (h:=?_))|(refine cx ?_;refine sc (fun hc=>?_) (fun hc=>?_)<;>try exact hc.elim)|(refine lx ?_;refine sp (fun hc=>?_) (fun hc=>?_)<;>try exact hc.elim)|refine sx ?_ ?_|refine sy ?_ ?_|fail
        · all_goals (try (refine ⟨.inr rfl, ?_⟩; simp [Hands, Try.results34]))
          exact ne_at hlta hlt hc
        · exact hK1 _ ⟨k + 1, by omega, take_eq_succ hi hlta hlt hc⟩ (weak_o (by simp) (by simp)) (by simp only; omega)
      · have he := take_eq_all hlen (by omega) hi
        have hk2 : IntKind.i64.wrap ((0 : Int) + 1) = 1 := by rw [wrap64] <;> omega
        have W := And.intro hk1 (And.intro hlen hk2)
        repeat' first|refine st ?_|(refine nx ?_;refine so ?_)|(refine cx ?_;refine sc (fun hc=>?_) (fun hc=>?_)<;>try exact hc.elim)|(refine lx ?_;refine sp (fun hc=>?_) (fun hc=>?_)<;>try exact hc.elim)|refine sx ?_ ?_|refine sy ?_ ?_|fail
        refine hK0 _ ⟨1, by omega, fun _ => he⟩ (weak_o (by simp) (by simp)) (by simp only; omega)
    · have q5 : ¬ a.rules = b.rules := fun h => hlen (by rw [h])
      have W := hlen
      repeat' first|refine st ?_|(refine nx ?_;refine so ?_)|(refine cx ?_;refine sc (fun hc=>?_) (fun hc=>?_)<;>try exact hc.elim)|(refine lx ?_;refine sp (fun hc=>?_) (fun hc=>?_)<;>try exact hc.elim)|refine sx ?_ ?_|refine sy ?_ ?_|fail
      all_goals (try (refine ⟨.inr rfl, ?_⟩; simp [Hands, Try.results34]))
      all_goals first | (simp [q5]; done) | omega | (exfalso; omega) | fail
  · have W := trivial
    repeat' first|refine st ?_|(refine nx ?_;refine so ?_)|(refine cx ?_;refine sc (fun hc=>?_) (fun hc=>?_)<;>try exact hc.elim)|(refine lx ?_;refine sp (fun hc=>?_) (fun hc=>?_)<;>try exact hc.elim)|refine sx ?_ ?_|refine sy ?_ ?_|fail
    all_goals (try (refine ⟨.inr rfl, ?_⟩; simp [Hands, Try.results34]))
    all_goals exact hi rfl
theorem result_eq {a b : DResult} : a = b ↔ a.builder = b.builder ∧ a.log = b.log ∧ a.verdicts = b.verdicts ∧ a.sheet = b.sheet ∧ a.loaded = b.loaded := by
  cases a; cases b; simp
theorem specEqualResults_ok [Tabs Try.prog] (a b : DResult) (hl : szResult a ≤ 1048576) : Ok Try.prog 8 [.agg (eResult .view a), .agg (eResult .view b)] (.bool (decide (a = b))) := by
  simp only [szResult, szBuilder, szSheet] at hl
  have c1 := specEqualBuilders_ok a.builder b.builder (by omega) (by omega)
  have c2 := specSame_ok a.log b.log (by simp only [szL] at hl; omega)
  have c3 := specSame_ok a.verdicts b.verdicts (by simp only [szL] at hl; omega)
  have c4 := equalSheets_ok a.sheet b.sheet (by simp only [szL] at hl; omega)
  rw [show decide (a = b) = decide (a.builder = b.builder ∧ a.log = b.log ∧ a.verdicts = b.verdicts ∧ a.sheet = b.sheet ∧ a.loaded = b.loaded) by rw [decide_eq_decide]; exact result_eq]
  refine ent Try.mix Try.func8 Try.ntmps8 ?_
  have W := trivial
  repeat' first|refine st ?_|(refine nx ?_;refine so ?_)|(refine cx ?_;refine sc (fun hc=>?_) (fun hc=>?_)<;>try exact hc.elim)|(refine lx ?_;refine sp (fun hc=>?_) (fun hc=>?_)<;>try exact hc.elim)|refine sx ?_ ?_|refine sy ?_ ?_|fail
  all_goals (try (refine ⟨.inr rfl, ?_⟩; simp [Hands, Try.results8]))
  all_goals simp_all
  all_goals (cases a.loaded <;> cases b.loaded <;> rfl)
theorem implEqualResults_ok [Tabs Try.prog] (a b : DResult) (hl : szResult a ≤ 1048576) : Ok Try.prog 10 [.agg (eResult .view a), .agg (eResult .view b)] (.bool (decide (a = b))) := by
  simp only [szResult, szBuilder, szSheet] at hl
  have c1 := implEqualBuilders_ok a.builder b.builder (by omega) (by omega)
  have c2 := equalStr_ok a.log b.log (by simp only [szL] at hl; omega)
  have c3 := equalStr_ok a.verdicts b.verdicts (by simp only [szL] at hl; omega)
  have c4 := equalSheet_ok a.sheet b.sheet (by simp only [szL] at hl; omega)
  rw [show decide (a = b) = decide (a.builder = b.builder ∧ a.log = b.log ∧ a.verdicts = b.verdicts ∧ a.sheet = b.sheet ∧ a.loaded = b.loaded) by rw [decide_eq_decide]; exact result_eq]
  refine ent Try.mix Try.func10 Try.ntmps10 ?_
  have W := trivial
  repeat' first|refine st ?_|(refine nx ?_;refine so ?_)|(refine cx ?_;refine sc (fun hc=>?_) (fun hc=>?_)<;>try exact hc.elim)|(refine lx ?_;refine sp (fun hc=>?_) (fun hc=>?_)<;>try exact hc.elim)|refine sx ?_ ?_|refine sy ?_ ?_|fail
  all_goals (try (refine ⟨.inr rfl, ?_⟩; simp [Hands, Try.results10]))
  all_goals simp_all
  all_goals (cases a.loaded <;> cases b.loaded <;> rfl)
end Go.Proofs.Ytedhenfipalhaaa
