/-
  Proved here: contracts of EndPage, in the reference and in the program.
  No condition beyond what each statement spells out.
-/
import Derived.Test.YtlnblmmohpcceaaGreatDoorDQY3
import Derived.Test.YtlnblmmohpcceaaGreatDoorDY4
set_option linter.all false
set_option maxRecDepth 4000
set_option maxHeartbeats 4000000
namespace Go.Proofs.YtlnblmmohpcceaaGreatDoor
open Go.Aw
def gH (p:dS):dS:=if p.ended=true then p else {p with queue:=p.queue++iM p.tok,tok:=⟨[]⟩,ended:=true}
theorem aGh (t:fU):(iM t).length≤1:=by unfold iM;split<;>simp
theorem aBr [aB Tryz.prog] (a:dS) (hs:dV a≤1048576):Ok Tryz.prog 12 [.agg (cZ .view a)] (.agg (cZ .own (gH a))):=by
 have c1:=xL a (by omega)
 simp only [dV,szL,iV] at hs
 have c2:=aBb a.tok (by omega)
 simp only [iF] at c2
 have hE:=aGh a.tok
 simp only [cZ] at c1
 unfold gH
 generalize iM a.tok=g at *
 by_cases he:a.ended=true
 ·rw [if_pos he]
  simp only [he] at c1
  refine ent Tryz.mix Tryz.func12 Tryz.ntmps12 ?_
  have W:=he
  repeat' first|refine st ?_|(refine nx ?_;first|refine se ?_|refine so ?_)|(refine cx ?_;refine sc (fun hc=>?_) (fun hc=>?_)<;>try exact hc.elim)|(refine lx ?_;refine sp (fun hc=>?_) (fun hc=>?_)<;>try exact hc.elim)|refine sx ?_ ?_|refine sy ?_ ?_|fail
  all_goals (try (refine ⟨.inr rfl,?_⟩;simp [Hands,Tryz.results12]))
  all_goals exact he
 ·rw [if_neg he]
  replace he:a.ended=false:=by simpa using he
  simp only [he] at c1
  refine ent Tryz.mix Tryz.func12 Tryz.ntmps12 ?_
  have W:=he
  repeat' first|refine st ?_|(refine nx ?_;first|refine se ?_|refine so ?_)|(refine cx ?_;refine sc (fun hc=>?_) (fun hc=>?_)<;>try exact hc.elim)|(refine lx ?_;refine sp (fun hc=>?_) (fun hc=>?_)<;>try exact hc.elim)|refine sx ?_ ?_|refine sy ?_ ?_|fail
  all_goals (try (refine ⟨.inr rfl,?_⟩;simp [Hands,Tryz.results12]))
  all_goals (rw [←List.map_append];exact qK _)
end Go.Proofs.YtlnblmmohpcceaaGreatDoor
