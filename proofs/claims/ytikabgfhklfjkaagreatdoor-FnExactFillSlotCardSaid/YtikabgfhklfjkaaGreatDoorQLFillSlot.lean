/-
  Proved here: steps towards the statement of this claim, text LFillSlot.
  No condition beyond what each statement spells out.
-/
import Derived.Test.YtikabgfhklfjkaaGreatDoorQJ9
import Derived.Test.YtikabgfhklfjkaaGreatDoorQSPL
import Derived.Test.YtikabgfhklfjkaaGreatDoorQSV3
import Derived.Test.YtikabgfhklfjkaaGreatDoorQSW3
import Derived.Test.YtikabgfhklfjkaaGreatDoorQX2
import Derived.Test.YtikabgfhklfjkaaGreatDoorQF4
import Derived.Test.YtikabgfhklfjkaaGreatDoorQF5
set_option linter.all false
set_option linter.unusedSimpArgs false
set_option linter.unusedVariables false
set_option maxRecDepth 8000
set_option maxHeartbeats 8000000
namespace Go.Proofs.YtikabgfhklfjkaaGreatDoor
open Go.Aw


theorem FnExactFillSlot_law [Tabs Tryz.prog] [HasMax Tryz.prog] [HasPow Tryz.prog] (p : DPage) (hwp : wfPage p) (hrp : rgPage p) (k : Int) (hrk : rgI k) (x : DResponse) (hwx : wfResponse x) (hrx : rgResponse x) : Ok Tryz.prog 5 [.agg (ePage .view p), .int .i64 k, .agg (eResponse x)] (.bool true) := by
  have hz0 := szPage_ok p 1048576 (by omega) (by omega) hwp
  by_cases qz0 : (szPage p) ≤ 1048576
  · rw [sub_pos (by omega)] at hz0
    have hz1 := szResponse_ok x (1048576 - (((szPage p) : Nat) : Int)) (by omega) (by omega) hwx
    by_cases qz1 : (szPage p) + (szResponse x) ≤ 1048576
    · rw [sub_pos (by omega)] at hz1
      rw [show (1048576 - (((szPage p) : Nat) : Int)) - ((szResponse x : Nat) : Int) = 1048576 - (((szPage p) + (szResponse x) : Nat) : Int) by omega] at hz1
      have hs : szPage p ≤ 1048576 := by omega
      have hs2 : szResponse x ≤ 1048576 := by omega
      obtain ⟨⟨hc, hq⟩, hqa, hb, hba⟩ := page_facts p (by omega)
      have t1 := toPage_ok p hs
      have t2 := toResponse_ok x hs2
      have t3 := specFillSlot_ok p k x (by omega) (by omega)
      have t4 := implFillSlot_ok p k x (by omega) (by omega)
      have hgs := fill_szJ p k x
      generalize fillSlot p k x = g at *
      obtain ⟨⟨gc, gq⟩, gqa, gb, gba⟩ := page_facts g (by omega)
      have e1 := eqPage_ok g g (by omega)
      have e2 := eqPage_ok p p (by omega)
      have m1 := markPage_ok p 1 (by omega) (by omega) hq hqa hb hba
      have m2 := markPage_ok g 1 (by omega) (by omega) gq gqa gb gba
      have m3 := heldPage_ok g 1 (by omega) (by omega) gq gqa gb gba
      refine ent Tryz.mix Tryz.func5 Tryz.ntmps5 ?_
      have W := trivial
      have c0 := hz0
      have c1 := hz1
      repeat' first|refine st ?_|(refine nx ?_;first|refine so ?_|refine sm (hc:=m1) (h:=?_)|refine sm (hc:=m2) (h:=?_))|(refine cx ?_;refine sc (fun hc=>?_) (fun hc=>?_)<;>try exact hc.elim)|(refine lx ?_;refine sp (fun hc=>?_) (fun hc=>?_)<;>try exact hc.elim)|refine sx ?_ ?_|refine sy ?_ ?_|fail
      all_goals (try (refine ⟨.inr rfl, ?_⟩; simp [Hands, Tryz.results5]))
      all_goals (try simp only [decide_eq_true_eq] at *); all_goals (first | omega | simp_all)
    · rw [sub_neg (by omega)] at hz1
      refine ent Tryz.mix Tryz.func5 Tryz.ntmps5 ?_
      have W := trivial
      have c0 := hz0
      have c1 := hz1
      repeat' first|refine st ?_|(refine nx ?_;refine so ?_)|(refine cx ?_;refine sc (fun hc=>?_) (fun hc=>?_)<;>try exact hc.elim)|(refine lx ?_;refine sp (fun hc=>?_) (fun hc=>?_)<;>try exact hc.elim)|refine sx ?_ ?_|refine sy ?_ ?_|fail
      all_goals (try (refine ⟨.inr rfl, ?_⟩; simp [Hands, Tryz.results5]))
  · rw [sub_neg (by omega)] at hz0
    refine ent Tryz.mix Tryz.func5 Tryz.ntmps5 ?_
    have W := trivial
    have c0 := hz0
    repeat' first|refine st ?_|(refine nx ?_;refine so ?_)|(refine cx ?_;refine sc (fun hc=>?_) (fun hc=>?_)<;>try exact hc.elim)|(refine lx ?_;refine sp (fun hc=>?_) (fun hc=>?_)<;>try exact hc.elim)|refine sx ?_ ?_|refine sy ?_ ?_|fail
    all_goals (try (refine ⟨.inr rfl, ?_⟩; simp [Hands, Tryz.results5]))


end Go.Proofs.YtikabgfhklfjkaaGreatDoor
