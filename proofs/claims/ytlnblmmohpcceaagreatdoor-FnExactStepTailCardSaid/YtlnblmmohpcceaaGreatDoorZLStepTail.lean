/-
  Proved here: steps towards the statement of this claim, text LStepTail.
  No condition beyond what each statement spells out.
-/
import Derived.Test.YtlnblmmohpcceaaGreatDoorZQST2
import Derived.Test.YtlnblmmohpcceaaGreatDoorZQW3
set_option linter.all false
set_option maxRecDepth 8000
set_option maxHeartbeats 8000000
namespace Go.Proofs.YtlnblmmohpcceaaGreatDoor
open Go.Aw Proofs.Tryz List IntKind
theorem aEh (p:aP) (hs:aL p<=33000000) (hme:bP bE p.aX+bP aV p.entries<=16777216):aL (mW p).1<=aL p+bP bE p.aX+8000:=by
 unfold mW
 split
 ·split
  ·split
   ·rename_i s _
    unfold LJ
    split
    ·have:=aAi p s.body false (by omega)
     split
     ·simp only [aL] at *;omega
     ·simp only [aL] at *;omega
    ·simp only;omega
   ·simp only;omega
  ·split
   ·rename_i a hg
    have hm:=bU aV (mem_of_getElem? hg)
    have h2:aO aV p.entries<=bP aV p.entries:=by simp only [bP];omega
    unfold LK
    split
    ·have:=aFz p a hs (by omega)
     simp only [aL] at this⊢
     omega
    ·simp only;omega
   ·unfold LM
    split
    ·have h1:bP gT (iL p.log Oq)<=bP gT p.log+10:=by
      unfold iL
      split
      ·simp only [bP,length_append,length_cons,length_nil,iM,aO,gT,Oq];omega
      ·omega
     simp only [aL] at *
     omega
    ·simp only;omega
 ·simp only;omega
theorem aAh [aD prog] [eO prog] [fV prog] [qF prog] (p:aP) (hwp:Sy p) (Tc:L8 p):Ok prog 4 [.agg (aM .view p)] (.bool true):=by
 have hz0:=pg p 1048576 (by omega) (by omega) hwp
 by_cases qz0:(aL p)<=1048576
 ·rw [sub_pos (by omega)] at hz0
  have hs:aL p<=1048576:=by omega
  obtain ⟨⟨hc,hq⟩,hqa,hb,hba⟩:=NV p (by omega)
  have hn1:p.aF.length<=16777216:=by simp only [aL,bP] at hs;omega
  have hme:bP bE p.aX+bP aV p.entries<=aL p:=by simp only [aL];omega
  have t1:=toPage_ok p hs
  have t3:=Lh p (by omega) hn1 (by omega)
  have t4:=Lf p (by omega) hn1 (by omega)
  have hgs:=aEh p (by omega) (by omega)
  generalize mW p=gg at *
  obtain ⟨g,gb0⟩:=gg
  simp only at t3 t4 hgs
  obtain ⟨⟨gc,gq⟩,gqa,gb,gba⟩:=NV g (by omega)
  have e1:=RN g g (by omega)
  have e2:=RN p p (by omega)
  have m1:=KH p 1 (by omega) (by omega) hq hqa hb hba
  have m2:=KH g 1 (by omega) (by omega) gq gqa gb gba
  have m3:=WJ g 1 (by omega) (by omega) gq gqa gb gba
  refine bR aAc func4 ntmps4 ?_
  have W:=trivial
  have c0:=hz0
  repeat' first|refine wl ?_|(refine nx ?_;first|refine sm (hc:=m1) (h:=?_)|refine sm (hc:=m2) (h:=?_))|(refine sq ?_ ?_<;>intro hc<;>try exact hc.elim)|fail
  all_goals try(refine ⟨.inr rfl,?_⟩;simp [aB,results4])
  all_goals (try simp only [decide_eq_true_eq] at *);all_goals (first|omega|simp_all)
 ·rw [sub_neg (by omega)] at hz0
  refine bR aAc func4 ntmps4 ?_
  have W:=trivial
  have c0:=hz0
  repeat' first|refine wl ?_|(refine sq ?_ ?_<;>intro hc<;>try exact hc.elim)|fail
  all_goals try(refine ⟨.inr rfl,?_⟩;simp [aB,results4])
end Go.Proofs.YtlnblmmohpcceaaGreatDoor
