/-
  Proved here: steps towards the statement of this claim, text LReachOf.
  No condition beyond what each statement spells out.
-/
import Derived.Test.YtphofanfadgalaaGreatDoorZ6
import Derived.Test.YtphofanfadgalaaGreatDoorSPL
import Derived.Test.YtphofanfadgalaaGreatDoorSU5
import Derived.Test.YtphofanfadgalaaGreatDoorSV2
import Derived.Test.YtphofanfadgalaaGreatDoorSW3
import Derived.Test.YtphofanfadgalaaGreatDoorW4
import Derived.Test.YtphofanfadgalaaGreatDoorX2
import Derived.Test.YtphofanfadgalaaGreatDoorF4
import Derived.Test.YtphofanfadgalaaGreatDoorF5
set_option linter.all false
set_option linter.unusedSimpArgs false
set_option linter.unusedVariables false
set_option maxRecDepth 8000
set_option maxHeartbeats 8000000
namespace Go.Proofs.YtphofanfadgalaaGreatDoor
open Go.Aw

theorem FnExactReachOf_law [Tabs Tryz.prog] [HasMax Tryz.prog] (p : DPage) (hwp : wfPage p) (hrp : rgPage p) (a : DAddr) (hwa : wfAddr a) (hra : rgAddr a) : Ok Tryz.prog 5 [.agg (ePage .view p), .agg (eAddr a)] (.bool true) := by
  have hz0 := szPage_ok p 1048576 (by omega) (by omega) hwp
  by_cases qz0 : (szPage p) ≤ 1048576
  · rw [sub_pos (by omega)] at hz0
    have hz1 := szAddr_ok a (1048576 - (((szPage p) : Nat) : Int)) (by omega) (by omega) hwa
    by_cases qz1 : (szPage p) + (szAddr a) ≤ 1048576
    · rw [sub_pos (by omega)] at hz1
      rw [show (1048576 - (((szPage p) : Nat) : Int)) - ((szAddr a : Nat) : Int) = 1048576 - (((szPage p) + (szAddr a) : Nat) : Int) by omega] at hz1
      have hs : szPage p ≤ 1048576 := by omega
      obtain ⟨⟨hc, hq⟩, hqa, hb, hba⟩ := page_facts p (by omega)
      obtain ⟨hB, _⟩ := bnd_of p a (by omega)
      obtain ⟨z1, z2, _⟩ := reach_sz p a (by omega)
      have t1 := toPage_ok p hs
      have t5 := toAddr_ok a (by omega)
      have t3 := specReachOf_ok p _ hB a (by simp)
      have t4 := implReachOf_ok p _ hB a (by simp)
      generalize reachOf p a = g at *
      have hc1 : (sumN (fun _ => 2) g : Nat) = 2 * g.length := sumN_const 2 g
      have e1 := eqAddrS_ok g g (by simp only [szL]; omega)
      have e2 := eqPage_ok p p (by omega)
      have m1 := markPage_ok p 1 (by omega) (by omega) hq hqa hb hba
      have m2 := markAddrS_ok g 1 (by omega) (by omega) (by omega)
      have m3 := heldAddrS_ok g 1 (by omega) (by omega) (by omega)
      refine ent Tryz.mix Tryz.func5 Tryz.ntmps5 ?_
      have W := trivial
      have c0 := hz0
      have c1 := hz1
      repeat' first|refine st ?_|(refine nx ?_;first|refine so ?_|refine sm (hc:=m1) (h:=?_)|refine sm (hc:=m2) (h:=?_))|(refine cx ?_;refine sc (fun hc=>?_) (fun hc=>?_)<;>try exact hc.elim)|(refine lx ?_;refine sp (fun hc=>?_) (fun hc=>?_)<;>try exact hc.elim)|refine sx ?_ ?_|refine sy ?_ ?_|fail
      all_goals (try (refine ⟨.inr rfl, ?_⟩; simp [Hands, Tryz.results5]))
      all_goals (try simp only [decide_eq_true_eq] at *); all_goals (first | omega | simp_all)
    · rw [sub_neg (by omega)] at hz1
      refine ent Tryz.mix Tryz.func5 Tryz.ntmps5 ?_
      have W := trivial
      have c0 := hz0
      have c1 := hz1
      repeat' first|refine st ?_|(refine nx ?_;refine so ?_)|(refine cx ?_;refine sc (fun hc=>?_) (fun hc=>?_)<;>try exact hc.elim)|(refine lx ?_;refine sp (fun hc=>?_) (fun hc=>?_)<;>try exact hc.elim)|refine sx ?_ ?_|refine sy ?_ ?_|fail
      all_goals (try (refine ⟨.inr rfl, ?_⟩; simp [Hands, Tryz.results5]))
  · rw [sub_neg (by omega)] at hz0
    refine ent Tryz.mix Tryz.func5 Tryz.ntmps5 ?_
    have W := trivial
    have c0 := hz0
    repeat' first|refine st ?_|(refine nx ?_;refine so ?_)|(refine cx ?_;refine sc (fun hc=>?_) (fun hc=>?_)<;>try exact hc.elim)|(refine lx ?_;refine sp (fun hc=>?_) (fun hc=>?_)<;>try exact hc.elim)|refine sx ?_ ?_|refine sy ?_ ?_|fail
    all_goals (try (refine ⟨.inr rfl, ?_⟩; simp [Hands, Tryz.results5]))


end Go.Proofs.YtphofanfadgalaaGreatDoor
