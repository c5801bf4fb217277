/-
  Proved here: steps towards the statement of this claim, text LNewPage.
  No condition beyond what each statement spells out.
-/
import Derived.Test.YtikabgfhklfjkaaGreatDoorJ6
import Derived.Test.YtikabgfhklfjkaaGreatDoorPL
import Derived.Test.YtikabgfhklfjkaaGreatDoorV1
import Derived.Test.YtikabgfhklfjkaaGreatDoorV2
import Derived.Test.YtikabgfhklfjkaaGreatDoorV3
import Derived.Test.YtikabgfhklfjkaaGreatDoorM8
import Derived.Test.YtikabgfhklfjkaaGreatDoorX2
import Derived.Test.YtikabgfhklfjkaaGreatDoorF4
import Derived.Test.YtikabgfhklfjkaaGreatDoorF5
set_option linter.all false
set_option linter.unusedSimpArgs false
set_option linter.unusedVariables false
set_option maxRecDepth 8000
set_option maxHeartbeats 8000000
namespace Go.Proofs.YtikabgfhklfjkaaGreatDoor
open Go.Aw

theorem newPage_sz (a : DAddr) (x : DResponse) : szPage (newPage a x).1 ≤ szAddr a + 7 * szResponse x + 100 := by
  unfold newPage
  have hp : szPolicy (parsePolicy x.policy).1 ≤ 7 * x.policy.length + 3 := by
    unfold parsePolicy parsePol
    split
    · simp [noPol, szPolicy, szL, sumN]
    · split
      · simp [noPol, szPolicy, szL, sumN]
      · rename_i h3
        split
        · exact polAt_size nonceS nonceS_le h3
        · simp [noPol, szPolicy, szL, sumN]
  split
  · simp only [szPage, pageOf, szTokenizer, szL, szBuilder, newBuilder, szNode, szResponse, sumN, List.length_cons, List.length_nil] at *
    omega
  · simp only [szPage, noPage, noPol, szPolicy, szAddr, szTokenizer, szL, szBuilder, sumN, List.length_nil]
    omega
theorem FnExactNewPage_law [Tabs Tryz.prog] [HasMax Tryz.prog] (a : DAddr) (hwa : wfAddr a) (hra : rgAddr a) (x : DResponse) (hwx : wfResponse x) (hrx : rgResponse x) : Ok Tryz.prog 4 [.agg (eAddr a), .agg (eResponse x)] (.bool true) := by
  have hz0 := szAddr_ok a 1048576 (by omega) (by omega) hwa
  by_cases qz0 : (szAddr a) ≤ 1048576
  · rw [sub_pos (by omega)] at hz0
    have hz1 := szResponse_ok x (1048576 - (((szAddr a) : Nat) : Int)) (by omega) (by omega) hwx
    by_cases qz1 : (szAddr a) + (szResponse x) ≤ 1048576
    · rw [sub_pos (by omega)] at hz1
      rw [show (1048576 - (((szAddr a) : Nat) : Int)) - ((szResponse x : Nat) : Int) = 1048576 - (((szAddr a) + (szResponse x) : Nat) : Int) by omega] at hz1
      have hs : szAddr a ≤ 1048576 := by omega
      have hs2 : szResponse x ≤ 1048576 := by omega
      have t1 := toAddr_ok a hs
      have t2 := toResponse_ok x hs2
      have t3 := specNewPage_ok a x (by omega) (by omega)
      have t4 := implNewPage_ok a x (by omega) (by omega)
      have hgs := newPage_sz a x
      generalize (newPage a x).2 = b at *
      generalize (newPage a x).1 = g at *
      obtain ⟨⟨gc, gq⟩, gqa, gb, gba⟩ := page_facts g (by omega)
      have e1 := eqPage_ok g g (by omega)
      have m2 := markPage_ok g 1 (by omega) (by omega) gq gqa gb gba
      have m3 := heldPage_ok g 1 (by omega) (by omega) gq gqa gb gba
      refine ent Tryz.mix Tryz.func4 Tryz.ntmps4 ?_
      have W := trivial
      have c0 := hz0
      have c1 := hz1
      repeat' first|refine st ?_|(refine nx ?_;first|refine so ?_|refine sm (hc:=m2) (h:=?_))|(refine cx ?_;refine sc (fun hc=>?_) (fun hc=>?_)<;>try exact hc.elim)|(refine lx ?_;refine sp (fun hc=>?_) (fun hc=>?_)<;>try exact hc.elim)|refine sx ?_ ?_|refine sy ?_ ?_|fail
      all_goals (try (refine ⟨.inr rfl, ?_⟩; simp [Hands, Tryz.results4]))
      all_goals (try simp only [decide_eq_true_eq] at *); all_goals (first | omega | simp_all)
    · rw [sub_neg (by omega)] at hz1
      refine ent Tryz.mix Tryz.func4 Tryz.ntmps4 ?_
      have W := trivial
      have c0 := hz0
      have c1 := hz1
      repeat' first|refine st ?_|(refine nx ?_;refine so ?_)|(refine cx ?_;refine sc (fun hc=>?_) (fun hc=>?_)<;>try exact hc.elim)|(refine lx ?_;refine sp (fun hc=>?_) (fun hc=>?_)<;>try exact hc.elim)|refine sx ?_ ?_|refine sy ?_ ?_|fail
      all_goals (try (refine ⟨.inr rfl, ?_⟩; simp [Hands, Tryz.results4]))
  · rw [sub_neg (by omega)] at hz0
    refine ent Tryz.mix Tryz.func4 Tryz.ntmps4 ?_
    have W := trivial
    have c0 := hz0
    repeat' first|refine st ?_|(refine nx ?_;refine so ?_)|(refine cx ?_;refine sc (fun hc=>?_) (fun hc=>?_)<;>try exact hc.elim)|(refine lx ?_;refine sp (fun hc=>?_) (fun hc=>?_)<;>try exact hc.elim)|refine sx ?_ ?_|refine sy ?_ ?_|fail
    all_goals (try (refine ⟨.inr rfl, ?_⟩; simp [Hands, Tryz.results4]))


end Go.Proofs.YtikabgfhklfjkaaGreatDoor
