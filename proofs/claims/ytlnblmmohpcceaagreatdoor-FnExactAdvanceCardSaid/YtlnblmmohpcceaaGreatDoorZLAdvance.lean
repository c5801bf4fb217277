/-
  Proved here: steps towards the statement of this claim, text LAdvance.
  No condition beyond what each statement spells out.
-/
import Derived.Test.YtlnblmmohpcceaaGreatDoorZQAD0
import Derived.Test.YtlnblmmohpcceaaGreatDoorZQW3
set_option linter.all false
set_option maxRecDepth 8000
set_option maxHeartbeats 8000000
namespace Go.Proofs.YtlnblmmohpcceaaGreatDoor
open Go.Aw Proofs.Tryz List IntKind
theorem FW [aD prog] [eO prog] [fV prog] [qF prog] (p:aP) (hwp:Sy p) (Tc:L8 p):Ok prog 6 [.agg (aM .view p)] (.bool true):=by
 have hz0:=pg p 1048576 (by omega) (by omega) hwp
 by_cases qz0:(aL p)<=1048576
 ·rw [sub_pos (by omega)] at hz0
  have hs:aL p<=1048576:=by omega
  obtain ⟨⟨hc,hq⟩,hqa,hb,hba⟩:=NV p (by omega)
  have t1:=toPage_ok p hs
  have t3:=OM p hs
  have t4:=OE p hs
  have hgs:aL (advance p)<=27000000:=WE 2000 0 p (JG p hs) (by omega)
  generalize advance p=g at *
  obtain ⟨⟨gc,gq⟩,gqa,gb,gba⟩:=NV g (by omega)
  have e1:=RN g g (by omega)
  have e2:=RN p p (by omega)
  have m1:=KH p 1 (by omega) (by omega) hq hqa hb hba
  have m2:=KH g 1 (by omega) (by omega) gq gqa gb gba
  have m3:=WJ g 1 (by omega) (by omega) gq gqa gb gba
  refine bR aAc func6 ntmps6 ?_
  have W:=trivial
  have c0:=hz0
  repeat' first|refine wl ?_|(refine nx ?_;first|refine sm (hc:=m1) (h:=?_)|refine sm (hc:=m2) (h:=?_))|(refine sq ?_ ?_<;>intro hc<;>try exact hc.elim)|fail
  all_goals try(refine ⟨.inr rfl,?_⟩;simp [aB,results6])
  all_goals (try simp only [decide_eq_true_eq] at *);all_goals (first|omega|simp_all)
 ·rw [sub_neg (by omega)] at hz0
  refine bR aAc func6 ntmps6 ?_
  have W:=trivial
  have c0:=hz0
  repeat' first|refine wl ?_|(refine sq ?_ ?_<;>intro hc<;>try exact hc.elim)|fail
  all_goals try(refine ⟨.inr rfl,?_⟩;simp [aB,results6])
end Go.Proofs.YtlnblmmohpcceaaGreatDoor
