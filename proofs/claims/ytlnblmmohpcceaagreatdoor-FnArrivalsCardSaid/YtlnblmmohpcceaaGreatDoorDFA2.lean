/-
  Proved here: steps towards the statement of this claim, text FA2.
  No condition beyond what each statement spells out.
-/
import Derived.Test.YtlnblmmohpcceaaGreatDoorDFA1
set_option linter.all false
set_option maxRecDepth 8000
set_option maxHeartbeats 8000000
namespace Go.Proofs.YtlnblmmohpcceaaGreatDoor
open Go.Aw
theorem xX [aB Tryz.prog] (a:bN) (hl:bU a≤1099511627776):Ok Tryz.prog 45 [.agg (aX .view a),.agg (aX .view a)] (.bool true):=by
 have c1:=nP a.scripts a.scripts (by simp only [bU,szL] at hl;omega)
 have c2:=nP a.styles a.styles (by simp only [bU,szL] at hl;omega)
 have c3:=nP a.images a.images (by simp only [bU,szL] at hl;omega)
 simp only [decide_true] at c1 c2 c3
 refine ent Tryz.mix Tryz.func45 Tryz.ntmps45 ?_
 have W:=trivial
 repeat' first|refine wl ?_|(refine sq (fun hc=>?_) (fun hc=>?_)<;>try exact hc.elim)|fail
 all_goals (try (refine ⟨.inr rfl,?_⟩;simp [Hands,Tryz.results45]))
theorem aEv (a b:fU):EqA Tryz.prog 33 (iF a) (iF b) (decide (a=b)):=
 vV (f:=6) (ss:=[.str]) (by decide) (by kernel_rfl) (by kernel_rfl) (by kernel_rfl) (by kernel_rfl) (by simp [eQ,jO]) (by simp [eQ,jO]) (by obtain ⟨x⟩:=a;obtain ⟨y⟩:=b;simp)
theorem aCx [aB Tryz.prog] (a:dS) (hl:dV a≤1099511627776):Ok Tryz.prog 15 [.agg (cZ .view a),.agg (cZ .view a)] (.bool true):=by
 have c0:=xX a.policy (by simp only [dV] at hl;omega)
 have c1:=wR a.queue a.queue (by simp only [dV] at hl;omega)
 have c2:=yA a.builder a.builder (by simp only [dV] at hl;omega)
 have c3:=aEy a.slots a.slots (by simp only [dV,szL] at hl;omega)
 have c4:=aAo a.mods a.mods (by simp only [dV,szL] at hl;omega)
 have c5:=vR a.entries a.entries (by simp only [dV,szL] at hl;omega)
 have c6:=vR a.ran a.ran (by simp only [dV,szL] at hl;omega)
 have c7:=nP a.log a.log (by simp only [dV,szL] at hl;omega)
 simp only [decide_true,aX,bS] at c0 c1 c2 c3 c4 c5 c6 c7
 refine ent Tryz.mix Tryz.func15 Tryz.ntmps15 ?_
 have W:=trivial
 have c0:=aG7 a.addr a.addr
 have c1:=aEv a.tok a.tok
 repeat' first|refine wl ?_|(refine sq (fun hc=>?_) (fun hc=>?_)<;>try exact hc.elim)|fail
 all_goals (try (refine ⟨.inr rfl,?_⟩;simp [Hands,Tryz.results15]))
end Go.Proofs.YtlnblmmohpcceaaGreatDoor
