/-
  Proved here: steps towards the statement of this claim, text LRespondTo.
  No condition beyond what each statement spells out.
-/
import Derived.Test.YtikabgfhklfjkaaGreatDoorB7
import Derived.Test.YtikabgfhklfjkaaGreatDoorF4
import Derived.Test.YtikabgfhklfjkaaGreatDoorF5
set_option linter.all false
set_option linter.unusedSimpArgs false
set_option linter.unusedVariables false
set_option maxRecDepth 8000
set_option maxHeartbeats 8000000
namespace Go.Proofs.YtikabgfhklfjkaaGreatDoor
open Go.Aw
theorem notFound_sz : szResponse notFound = 0 := by simp [notFound, szResponse]
theorem respondTo_sz (n : DNet) (top : Str) (a : DAddr) : szResponse (respondTo n top a) ≤ szNet n := by
  have h1 : szResponse (lookUp n.cache top a n.now).1 ≤ szNet n := by
    unfold lookUp
    split
    · rename_i e he
      have := sumN_mem_le szEntry (List.mem_of_find?_eq_some he)
      simp only [szEntry] at this
      simp only [szNet, szCache, szL]; omega
    · rw [notFound_sz]; omega
  have h2 : szResponse (answerTo n.servers a) ≤ szNet n := by
    unfold answerTo
    split
    · rename_i s hs
      have hs := sumN_mem_le szServer (List.mem_of_find?_eq_some hs)
      simp only [szServer] at hs
      split
      · rename_i f hf
        have hf := sumN_mem_le szFile (List.mem_of_find?_eq_some hf)
        simp only [szFile] at hf
        simp only [szNet, szL] at *; omega
      · rw [notFound_sz]; omega
    · rw [notFound_sz]; omega
  unfold respondTo
  split
  · rw [notFound_sz]; omega
  · split
    · exact h1
    · exact h2
theorem FnExactRespondTo_law [Tabs Tryz.prog] (n : DNet) (hwn : wfNet n) (hrn : rgNet n) (top : Str) (hwtop : top.length ≤ 9223372036854775807) (a : DAddr) (hwa : wfAddr a) (hra : rgAddr a) : Ok Tryz.prog 7 [.agg (eNet .view n), .str top, .agg (eAddr a)] (.bool true) := by
  by_cases qstop : top.length ≤ 1048576
  · skip
    have hz0 := szNet_ok n 1048576 (by omega) (by omega) hwn
    by_cases qz0 : (szNet n) ≤ 1048576
    · rw [sub_pos (by omega)] at hz0
      have hz1 := szAddr_ok a (1048576 - (((szNet n) : Nat) : Int)) (by omega) (by omega) hwa
      by_cases qz1 : (szNet n) + (szAddr a) ≤ 1048576
      · rw [sub_pos (by omega)] at hz1
        rw [show (1048576 - (((szNet n) : Nat) : Int)) - ((szAddr a : Nat) : Int) = 1048576 - (((szNet n) + (szAddr a) : Nat) : Int) by omega] at hz1
        have hs : szNet n ≤ 1048576 := by omega
        have ha : szAddr a ≤ 1048576 := by omega
        have t1 := toNet_ok n hs
        have t2 := toAddr_ok a ha
        have t3 := specRespondTo_ok n top a (by omega) (by omega)
        have t4 := implRespondTo_ok n top a (by omega) (by omega)
        have hgs := respondTo_sz n top a
        generalize respondTo n top a = g at *
        have e1 := eqResponse_ok g g (by omega)
        have e2 := eqNet_ok n n (by omega)
        refine ent Tryz.mix Tryz.func7 Tryz.ntmps7 ?_
        have W := trivial
        have c0 := hz0
        have c1 := hz1
        repeat' first|refine st ?_|(refine nx ?_;refine so ?_)|(refine cx ?_;refine sc (fun hc=>?_) (fun hc=>?_)<;>try exact hc.elim)|(refine lx ?_;refine sp (fun hc=>?_) (fun hc=>?_)<;>try exact hc.elim)|refine sx ?_ ?_|refine sy ?_ ?_|fail
        all_goals (try (refine ⟨.inr rfl, ?_⟩; simp [Hands, Tryz.results7]))
        all_goals (try simp only [decide_eq_true_eq] at *); all_goals (first | omega | simp_all)
      · rw [sub_neg (by omega)] at hz1
        refine ent Tryz.mix Tryz.func7 Tryz.ntmps7 ?_
        have W := trivial
        have c0 := hz0
        have c1 := hz1
        repeat' first|refine st ?_|(refine nx ?_;refine so ?_)|(refine cx ?_;refine sc (fun hc=>?_) (fun hc=>?_)<;>try exact hc.elim)|(refine lx ?_;refine sp (fun hc=>?_) (fun hc=>?_)<;>try exact hc.elim)|refine sx ?_ ?_|refine sy ?_ ?_|fail
        all_goals (try (refine ⟨.inr rfl, ?_⟩; simp [Hands, Tryz.results7]))
    · rw [sub_neg (by omega)] at hz0
      refine ent Tryz.mix Tryz.func7 Tryz.ntmps7 ?_
      have W := trivial
      have c0 := hz0
      repeat' first|refine st ?_|(refine nx ?_;refine so ?_)|(refine cx ?_;refine sc (fun hc=>?_) (fun hc=>?_)<;>try exact hc.elim)|(refine lx ?_;refine sp (fun hc=>?_) (fun hc=>?_)<;>try exact hc.elim)|refine sx ?_ ?_|refine sy ?_ ?_|fail
      all_goals (try (refine ⟨.inr rfl, ?_⟩; simp [Hands, Tryz.results7]))
  · refine ent Tryz.mix Tryz.func7 Tryz.ntmps7 ?_
    have W := trivial
    repeat' first|refine st ?_|(refine nx ?_;refine so ?_)|(refine cx ?_;refine sc (fun hc=>?_) (fun hc=>?_)<;>try exact hc.elim)|(refine lx ?_;refine sp (fun hc=>?_) (fun hc=>?_)<;>try exact hc.elim)|refine sx ?_ ?_|refine sy ?_ ?_|fail
    all_goals (try (refine ⟨.inr rfl, ?_⟩; simp [Hands, Tryz.results7]))


end Go.Proofs.YtikabgfhklfjkaaGreatDoor
