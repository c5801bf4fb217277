/-
  Proved here: steps towards the statement of this claim, text LStepTail.
  No condition beyond what each statement spells out.
-/
import Derived.Test.YtlnblmmohpcceaaGreatDoorQSTP
import Derived.Test.YtlnblmmohpcceaaGreatDoorQST2
import Derived.Test.YtlnblmmohpcceaaGreatDoorQRCB
import Derived.Test.YtlnblmmohpcceaaGreatDoorQV1
import Derived.Test.YtlnblmmohpcceaaGreatDoorQM5
import Derived.Test.YtlnblmmohpcceaaGreatDoorQW4
import Derived.Test.YtlnblmmohpcceaaGreatDoorF4
import Derived.Test.YtlnblmmohpcceaaGreatDoorF7
set_option linter.all false
set_option maxRecDepth 8000
set_option maxHeartbeats 8000000
namespace Go.Proofs.YtlnblmmohpcceaaGreatDoor
open Go.Aw
theorem aT6 (p:aJ) (hs:aD p≤33000000) (hme:szL aZ p.mods+szL aR p.entries≤16777216):aD (rJ p).1≤aD p+szL aZ p.mods+8000:=by
 unfold rJ
 split
 ·split
  ·split
   ·rename_i s _
    unfold aGm
    split
    ·have:=aD2 p s.body false (by omega)
     split
     ·simp only [aD] at *;omega
     ·simp only [aD] at *;omega
    ·simp only;omega
   ·simp only;omega
  ·split
   ·rename_i a hg
    have hm:=bV aR (List.mem_of_getElem? hg)
    have h2:aC aR p.entries≤szL aR p.entries:=by simp only [szL];omega
    unfold aGo
    split
    ·have:=bAq p a hs (by omega)
     simp only [aD] at this⊢
     omega
    ·simp only;omega
   ·unfold aGv
    split
    ·have h1:szL cB (dZ p.log aEe)≤szL cB p.log+10:=by
      unfold dZ
      split
      ·simp only [szL,List.length_append,List.length_cons,List.length_nil,gW,aC,cB,aEe];omega
      ·omega
     simp only [aD] at *
     omega
    ·simp only;omega
 ·simp only;omega
theorem aEv [aA Tryz.prog] [dG Tryz.prog] [dY Tryz.prog] [lY Tryz.prog] (p:aJ) (hwp:aFn p) (hrp:aQc p):Ok Tryz.prog 4 [.agg (aG .view p)] (.bool true):=by
 have hz0:=aN7 p 1048576 (by omega) (by omega) hwp
 by_cases qz0:(aD p)≤1048576
 ·rw [uA (by omega)] at hz0
  have hs:aD p≤1048576:=by omega
  obtain ⟨⟨hc,hq⟩,hqa,hb,hba⟩:=zQ p (by omega)
  have hn1:p.slots.length≤16777216:=by simp only [aD,szL] at hs;omega
  have hme:szL aZ p.mods+szL aR p.entries≤aD p:=by simp only [aD];omega
  have t1:=aNm p hs
  have t3:=aKw p (by omega) hn1 (by omega)
  have t4:=aK1 p (by omega) hn1 (by omega)
  have hgs:=aT6 p (by omega) (by omega)
  generalize rJ p=gg at *
  obtain ⟨g,gb0⟩:=gg
  simp only at t3 t4 hgs
  obtain ⟨⟨gc,gq⟩,gqa,gb,gba⟩:=zQ g (by omega)
  have e1:=aBq g g (by omega)
  have e2:=aBq p p (by omega)
  have m1:=yN p 1 (by omega) (by omega) hq hqa hb hba
  have m2:=yN g 1 (by omega) (by omega) gq gqa gb gba
  have m3:=aHl g 1 (by omega) (by omega) gq gqa gb gba
  refine ent Tryz.mix Tryz.func4 Tryz.ntmps4 ?_
  have W:=trivial
  have c0:=hz0
  repeat' first|refine wl ?_|(refine nx ?_;first|refine sm (hc:=m1) (h:=?_)|refine sm (hc:=m2) (h:=?_))|(refine sq (fun hc=>?_) (fun hc=>?_)<;>try exact hc.elim)|fail
  all_goals (try (refine ⟨.inr rfl,?_⟩;simp [Hands,Tryz.results4]))
  all_goals (try simp only [decide_eq_true_eq] at *);all_goals (first|omega|simp_all)
 ·rw [aV9 (by omega)] at hz0
  refine ent Tryz.mix Tryz.func4 Tryz.ntmps4 ?_
  have W:=trivial
  have c0:=hz0
  repeat' first|refine wl ?_|(refine sq (fun hc=>?_) (fun hc=>?_)<;>try exact hc.elim)|fail
  all_goals (try (refine ⟨.inr rfl,?_⟩;simp [Hands,Tryz.results4]))
end Go.Proofs.YtlnblmmohpcceaaGreatDoor
