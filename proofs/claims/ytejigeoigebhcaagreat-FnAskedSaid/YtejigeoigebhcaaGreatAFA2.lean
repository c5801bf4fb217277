/-
  Proved here: steps towards the statement of this claim, text FA2.
  No condition beyond what each statement spells out.
-/
import Derived.Test.YtejigeoigebhcaaGreatAFA1
set_option linter.all false
set_option maxRecDepth 8000
set_option maxHeartbeats 8000000
namespace Go.Proofs.YtejigeoigebhcaaGreat
open Go.Aw
theorem aAi [aB Tryz.prog] (a:bX) (hl:bE a≤1099511627776):Ok Tryz.prog 32 [.agg (bD .view a),.agg (bD .view a)] (.bool true):=by
 have c1:=pY a.scripts a.scripts (by simp only [bE,szL] at hl;omega)
 have c2:=pY a.styles a.styles (by simp only [bE,szL] at hl;omega)
 have c3:=pY a.images a.images (by simp only [bE,szL] at hl;omega)
 simp only [decide_true] at c1 c2 c3
 refine ent Tryz.mix Tryz.func32 Tryz.ntmps32 ?_
 have W:=trivial
 repeat' first|refine st ?_|(refine nx ?_;refine so ?_)|(refine cx ?_;refine sc (fun hc=>?_) (fun hc=>?_)<;>try exact hc.elim)|(refine lx ?_;refine sp (fun hc=>?_) (fun hc=>?_)<;>try exact hc.elim)|refine sx ?_ ?_|refine sy ?_ ?_|fail
 all_goals (try (refine ⟨.inr rfl,?_⟩;simp [Hands,Tryz.results32]))
theorem aF6 (a b:gJ):EqA Tryz.prog 30 (iT a) (iT b) (decide (a=b)):=
 yG (f:=6) (ss:=[.str]) (by decide) (by kernel_rfl) (by kernel_rfl) (by kernel_rfl) (by kernel_rfl) (by simp [eX,kX]) (by simp [eX,kX]) (by obtain ⟨x⟩:=a;obtain ⟨y⟩:=b;simp)
theorem qR [aB Tryz.prog] (a:aS) (hl:aJ a≤1099511627776):Ok Tryz.prog 8 [.agg (aR .view a),.agg (aR .view a)] (.bool true):=by
 have c0:=aAi a.policy (by simp only [aJ] at hl;omega)
 have c1:=zK a.queue a.queue (by simp only [aJ] at hl;omega)
 have c2:=aAj a.builder a.builder (by simp only [aJ] at hl;omega)
 have c3:=aE9 a.slots a.slots (by simp only [aJ,szL] at hl;omega)
 have c4:=aCt a.mods a.mods (by simp only [aJ,szL] at hl;omega)
 have c5:=xS a.entries a.entries (by simp only [aJ,szL] at hl;omega)
 have c6:=xS a.ran a.ran (by simp only [aJ,szL] at hl;omega)
 have c7:=pY a.log a.log (by simp only [aJ,szL] at hl;omega)
 simp only [decide_true,bD,cO] at c0 c1 c2 c3 c4 c5 c6 c7
 refine ent Tryz.mix Tryz.func8 Tryz.ntmps8 ?_
 have W:=trivial
 have c0:=lD a.addr a.addr
 have c1:=aF6 a.tok a.tok
 repeat' first|refine st ?_|(refine nx ?_;refine so ?_)|(refine cx ?_;refine sc (fun hc=>?_) (fun hc=>?_)<;>try exact hc.elim)|(refine lx ?_;refine sp (fun hc=>?_) (fun hc=>?_)<;>try exact hc.elim)|refine sx ?_ ?_|refine sy ?_ ?_|fail
 all_goals (try (refine ⟨.inr rfl,?_⟩;simp [Hands,Tryz.results8]))
end Go.Proofs.YtejigeoigebhcaaGreat
