/-
  Proved here: steps towards the statement of this claim, text LGraphFails.
  No condition beyond what each statement spells out.
-/
import Derived.Test.YtphofanfadgalaaGreatDoorZ9
import Derived.Test.YtphofanfadgalaaGreatDoorSPL
import Derived.Test.YtphofanfadgalaaGreatDoorSU5
import Derived.Test.YtphofanfadgalaaGreatDoorSV2
import Derived.Test.YtphofanfadgalaaGreatDoorSW3
import Derived.Test.YtphofanfadgalaaGreatDoorW4
import Derived.Test.YtphofanfadgalaaGreatDoorX2
import Derived.Test.YtphofanfadgalaaGreatDoorF4
import Derived.Test.YtphofanfadgalaaGreatDoorF5
set_option linter.all false
set_option linter.unusedSimpArgs false
set_option linter.unusedVariables false
set_option maxRecDepth 8000
set_option maxHeartbeats 8000000
namespace Go.Proofs.YtphofanfadgalaaGreatDoor
open Go.Aw

theorem FnExactGraphFails_law [Tabs Tryz.prog] [HasMax Tryz.prog] (p : DPage) (hwp : wfPage p) (hrp : rgPage p) (a : DAddr) (hwa : wfAddr a) (hra : rgAddr a) : Ok Tryz.prog 4 [.agg (ePage .view p), .agg (eAddr a)] (.bool true) := by
  have hz0 := szPage_ok p 1048576 (by omega) (by omega) hwp
  by_cases qz0 : (szPage p) ≤ 1048576
  · rw [sub_pos (by omega)] at hz0
    have hz1 := szAddr_ok a (1048576 - (((szPage p) : Nat) : Int)) (by omega) (by omega) hwa
    by_cases qz1 : (szPage p) + (szAddr a) ≤ 1048576
    · rw [sub_pos (by omega)] at hz1
      rw [show (1048576 - (((szPage p) : Nat) : Int)) - ((szAddr a : Nat) : Int) = 1048576 - (((szPage p) + (szAddr a) : Nat) : Int) by omega] at hz1
      have hs : szPage p ≤ 1048576 := by omega
      have t1 := toPage_ok p hs
      have t5 := toAddr_ok a (by omega)
      have t3 := specGraphFails_ok p a (by omega)
      have t4 := implGraphFails_ok p a (by omega)
      generalize graphFails p a = g at *
      have e2 := eqPage_ok p p (by omega)
      refine ent Tryz.mix Tryz.func4 Tryz.ntmps4 ?_
      have W := trivial
      have c0 := hz0
      have c1 := hz1
      repeat' first|refine st ?_|(refine nx ?_;refine so ?_)|(refine cx ?_;refine sc (fun hc=>?_) (fun hc=>?_)<;>try exact hc.elim)|(refine lx ?_;refine sp (fun hc=>?_) (fun hc=>?_)<;>try exact hc.elim)|refine sx ?_ ?_|refine sy ?_ ?_|fail
      all_goals (try (refine ⟨.inr rfl, ?_⟩; simp [Hands, Tryz.results4]))
      all_goals (try simp only [decide_eq_true_eq] at *); all_goals (first | omega | simp_all)
    · rw [sub_neg (by omega)] at hz1
      refine ent Tryz.mix Tryz.func4 Tryz.ntmps4 ?_
      have W := trivial
      have c0 := hz0
      have c1 := hz1
      repeat' first|refine st ?_|(refine nx ?_;refine so ?_)|(refine cx ?_;refine sc (fun hc=>?_) (fun hc=>?_)<;>try exact hc.elim)|(refine lx ?_;refine sp (fun hc=>?_) (fun hc=>?_)<;>try exact hc.elim)|refine sx ?_ ?_|refine sy ?_ ?_|fail
      all_goals (try (refine ⟨.inr rfl, ?_⟩; simp [Hands, Tryz.results4]))
  · rw [sub_neg (by omega)] at hz0
    refine ent Tryz.mix Tryz.func4 Tryz.ntmps4 ?_
    have W := trivial
    have c0 := hz0
    repeat' first|refine st ?_|(refine nx ?_;refine so ?_)|(refine cx ?_;refine sc (fun hc=>?_) (fun hc=>?_)<;>try exact hc.elim)|(refine lx ?_;refine sp (fun hc=>?_) (fun hc=>?_)<;>try exact hc.elim)|refine sx ?_ ?_|refine sy ?_ ?_|fail
    all_goals (try (refine ⟨.inr rfl, ?_⟩; simp [Hands, Tryz.results4]))


end Go.Proofs.YtphofanfadgalaaGreatDoor
