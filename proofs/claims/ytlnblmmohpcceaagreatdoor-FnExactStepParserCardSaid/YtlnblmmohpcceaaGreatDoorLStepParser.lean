/-
  Proved here: steps towards the statement of this claim, text LStepParser.
  No condition beyond what each statement spells out.
-/
import Derived.Test.YtlnblmmohpcceaaGreatDoorQTK9
import Derived.Test.YtlnblmmohpcceaaGreatDoorQSP2
import Derived.Test.YtlnblmmohpcceaaGreatDoorQV1
import Derived.Test.YtlnblmmohpcceaaGreatDoorQM5
import Derived.Test.YtlnblmmohpcceaaGreatDoorQW4
import Derived.Test.YtlnblmmohpcceaaGreatDoorF4
import Derived.Test.YtlnblmmohpcceaaGreatDoorF7
set_option linter.all false
set_option maxRecDepth 8000
set_option maxHeartbeats 8000000
namespace Go.Proofs.YtlnblmmohpcceaaGreatDoor
open Go.Aw
theorem aPa (p:aJ) (hs:aD p≤67108864):aD (nP p).1≤6 * aD p+1720:=by
 unfold nP
 split
 ·split
  ·have:=aD2 p (textOf p.builder p.inline) true hs
   simp only [aD] at *;omega
  ·simp only;omega
 ·split
  ·unfold stepBlock
   split
   ·split
    ·rename_i s _
     split
     ·have:=aD2 p s.body true hs
      split
      ·simp only [aD] at *;omega
      ·simp only [aD] at *;omega
     ·simp only;omega
    ·simp only [aD];omega
   ·simp only [aD];omega
  ·have:=aSq p;omega
theorem aC9 [aA Tryz.prog] [dG Tryz.prog] [dY Tryz.prog] [lY Tryz.prog] (p:aJ) (hwp:aFn p) (hrp:aQc p):Ok Tryz.prog 5 [.agg (aG .view p)] (.bool true):=by
 have hz0:=aN7 p 1048576 (by omega) (by omega) hwp
 by_cases qz0:(aD p)≤1048576
 ·rw [uA (by omega)] at hz0
  have hs:aD p≤1048576:=by omega
  obtain ⟨⟨hc,hq⟩,hqa,hb,hba⟩:=zQ p (by omega)
  have t1:=aNm p hs
  have t3:=aG6 p (by omega)
  have t4:=aG9 p (by omega)
  have hgs:=aPa p (by omega)
  generalize nP p=gg at *
  obtain ⟨g,gb0⟩:=gg
  simp only at t3 t4 hgs
  obtain ⟨⟨gc,gq⟩,gqa,gb,gba⟩:=zQ g (by omega)
  have e1:=aBq g g (by omega)
  have e2:=aBq p p (by omega)
  have m1:=yN p 1 (by omega) (by omega) hq hqa hb hba
  have m2:=yN g 1 (by omega) (by omega) gq gqa gb gba
  have m3:=aHl g 1 (by omega) (by omega) gq gqa gb gba
  refine ent Tryz.mix Tryz.func5 Tryz.ntmps5 ?_
  have W:=trivial
  have c0:=hz0
  repeat' first|refine wl ?_|(refine nx ?_;first|refine sm (hc:=m1) (h:=?_)|refine sm (hc:=m2) (h:=?_))|(refine sq (fun hc=>?_) (fun hc=>?_)<;>try exact hc.elim)|fail
  all_goals (try (refine ⟨.inr rfl,?_⟩;simp [Hands,Tryz.results5]))
  all_goals (try simp only [decide_eq_true_eq] at *);all_goals (first|omega|simp_all)
 ·rw [aV9 (by omega)] at hz0
  refine ent Tryz.mix Tryz.func5 Tryz.ntmps5 ?_
  have W:=trivial
  have c0:=hz0
  repeat' first|refine wl ?_|(refine sq (fun hc=>?_) (fun hc=>?_)<;>try exact hc.elim)|fail
  all_goals (try (refine ⟨.inr rfl,?_⟩;simp [Hands,Tryz.results5]))
end Go.Proofs.YtlnblmmohpcceaaGreatDoor
