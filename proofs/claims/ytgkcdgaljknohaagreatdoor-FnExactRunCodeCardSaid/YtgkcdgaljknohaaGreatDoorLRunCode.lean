/-
  Proved here: steps towards the statement of this claim, text LRunCode.
  No condition beyond what each statement spells out.
-/
import Derived.Test.YtgkcdgaljknohaaGreatDoorSPL
import Derived.Test.YtgkcdgaljknohaaGreatDoorSW3
import Derived.Test.YtgkcdgaljknohaaGreatDoorSW6
import Derived.Test.YtgkcdgaljknohaaGreatDoorF4
import Derived.Test.YtgkcdgaljknohaaGreatDoorF7
set_option linter.all false
set_option maxRecDepth 8000
set_option maxHeartbeats 8000000
namespace Go.Proofs.YtgkcdgaljknohaaGreatDoor
open Go.Aw
theorem FnExactRunCode_law [Tabs Tryz.prog] [HasMax Tryz.prog] [HasPow Tryz.prog] [HasErr Tryz.prog] (p:DPage) (hwp:wfPage p) (hrp:rgPage p) (tx:Str) (hwtx:tx.length≤9223372036854775807) (wb:Bool):Ok Tryz.prog 3 [.agg (ePage .view p),.str tx,.bool wb] (.bool true):=by
 by_cases qstx:tx.length≤1048576
 ·skip
  have hz0:=szPage_ok p 1048576 (by omega) (by omega) hwp
  by_cases qz0:(szPage p)≤1048576
  ·rw [sub_pos (by omega)] at hz0
   have hs:szPage p≤1048576:=by omega
   obtain ⟨⟨hc,hq⟩,hqa,hb,hba⟩:=page_facts p (by omega)
   have t1:=toPage_ok p hs
   have t3:=specRunCode_ok p tx wb (by omega) (by omega)
   have t4:=implRunCode_ok p tx wb (by omega) (by omega)
   have hgs:=runCode_sz p tx wb (by omega)
   generalize runCode p tx wb=g at *
   obtain ⟨⟨gc,gq⟩,gqa,gb,gba⟩:=page_facts g (by omega)
   have e1:=eqPage_ok g g (by omega)
   have e2:=eqPage_ok p p (by omega)
   have m1:=markPage_ok p 1 (by omega) (by omega) hq hqa hb hba
   have m2:=markPage_ok g 1 (by omega) (by omega) gq gqa gb gba
   have m3:=heldPage_ok g 1 (by omega) (by omega) gq gqa gb gba
   refine ent Tryz.mix Tryz.func3 Tryz.ntmps3 ?_
   have W:=trivial
   have c0:=hz0
   repeat' first|refine wl ?_|(refine nx ?_;first|refine sm (hc:=m1) (h:=?_)|refine sm (hc:=m2) (h:=?_))|(refine sq (fun hc=>?_) (fun hc=>?_)<;>try exact hc.elim)|fail
   all_goals (try (refine ⟨.inr rfl,?_⟩;simp [Hands,Tryz.results3]))
   all_goals (try simp only [decide_eq_true_eq] at *);all_goals (first|omega|simp_all)
  ·rw [sub_neg (by omega)] at hz0
   refine ent Tryz.mix Tryz.func3 Tryz.ntmps3 ?_
   have W:=trivial
   have c0:=hz0
   repeat' first|refine wl ?_|(refine sq (fun hc=>?_) (fun hc=>?_)<;>try exact hc.elim)|fail
   all_goals (try (refine ⟨.inr rfl,?_⟩;simp [Hands,Tryz.results3]))
 ·refine ent Tryz.mix Tryz.func3 Tryz.ntmps3 ?_
  have W:=trivial
  repeat' first|refine wl ?_|(refine sq (fun hc=>?_) (fun hc=>?_)<;>try exact hc.elim)|fail
  all_goals (try (refine ⟨.inr rfl,?_⟩;simp [Hands,Tryz.results3]))
end Go.Proofs.YtgkcdgaljknohaaGreatDoor
