/-
  Proved here: steps towards the statement of this claim, text LStepParser.
  No condition beyond what each statement spells out.
-/
import Derived.Test.YtlnblmmohpcceaaGreatDoorZQTK9
import Derived.Test.YtlnblmmohpcceaaGreatDoorZQSP2
import Derived.Test.YtlnblmmohpcceaaGreatDoorZQW3
set_option linter.all false
set_option maxRecDepth 8000
set_option maxHeartbeats 8000000
namespace Go.Proofs.YtlnblmmohpcceaaGreatDoor
open Go.Aw Proofs.Tryz List IntKind
theorem aBu (p:aP) (hs:aL p<=67108864):aL (iP p).1<=6 * aL p+1720:=by
 unfold iP
 split
 ·split
  ·have:=aAi p (zH p.builder p.inline) true hs
   simp only [aL] at *;omega
  ·simp only;omega
 ·split
  ·unfold Bo
   split
   ·split
    ·rename_i s _
     split
     ·have:=aAi p s.body true hs
      split
      ·simp only [aL] at *;omega
      ·simp only [aL] at *;omega
     ·simp only;omega
    ·simp only [aL];omega
   ·simp only [aL];omega
  ·have:=aDa p;omega
theorem aAf [aD prog] [eO prog] [fV prog] [qF prog] (p:aP) (hwp:Sy p) (Tc:L8 p):Ok prog 5 [.agg (aM .view p)] (.bool true):=by
 have hz0:=pg p 1048576 (by omega) (by omega) hwp
 by_cases qz0:(aL p)<=1048576
 ·rw [sub_pos (by omega)] at hz0
  have hs:aL p<=1048576:=by omega
  obtain ⟨⟨hc,hq⟩,hqa,hb,hba⟩:=NV p (by omega)
  have t1:=toPage_ok p hs
  have t3:=Ik p (by omega)
  have t4:=Ij p (by omega)
  have hgs:=aBu p (by omega)
  generalize iP p=gg at *
  obtain ⟨g,gb0⟩:=gg
  simp only at t3 t4 hgs
  obtain ⟨⟨gc,gq⟩,gqa,gb,gba⟩:=NV g (by omega)
  have e1:=RN g g (by omega)
  have e2:=RN p p (by omega)
  have m1:=KH p 1 (by omega) (by omega) hq hqa hb hba
  have m2:=KH g 1 (by omega) (by omega) gq gqa gb gba
  have m3:=WJ g 1 (by omega) (by omega) gq gqa gb gba
  refine bR aAc func5 ntmps5 ?_
  have W:=trivial
  have c0:=hz0
  repeat' first|refine wl ?_|(refine nx ?_;first|refine sm (hc:=m1) (h:=?_)|refine sm (hc:=m2) (h:=?_))|(refine sq ?_ ?_<;>intro hc<;>try exact hc.elim)|fail
  all_goals try(refine ⟨.inr rfl,?_⟩;simp [aB,results5])
  all_goals (try simp only [decide_eq_true_eq] at *);all_goals (first|omega|simp_all)
 ·rw [sub_neg (by omega)] at hz0
  refine bR aAc func5 ntmps5 ?_
  have W:=trivial
  have c0:=hz0
  repeat' first|refine wl ?_|(refine sq ?_ ?_<;>intro hc<;>try exact hc.elim)|fail
  all_goals try(refine ⟨.inr rfl,?_⟩;simp [aB,results5])
end Go.Proofs.YtlnblmmohpcceaaGreatDoor
