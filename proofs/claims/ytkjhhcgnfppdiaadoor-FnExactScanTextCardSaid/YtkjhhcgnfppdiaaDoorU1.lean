/-
  Proved here: steps towards the statement of this claim, text U1.
  No condition beyond what each statement spells out.
-/
import Derived.Test.YtkjhhcgnfppdiaaDoorA0
set_option linter.all false
set_option linter.unusedSimpArgs false
set_option linter.unusedVariables false
set_option maxRecDepth 4000
set_option maxHeartbeats 4000000
namespace Go.Proofs.YtkjhhcgnfppdiaaDoor
open Go.Aw
theorem eqAddr_ok [Tabs Tryd.prog] (a b : DAddr) (hs : szAddr a ≤ 1099511627776) : Ok Tryd.prog 27 [.agg (eAddr a), .agg (eAddr b)] (.bool (decide (a = b))) := by
  simp only [szAddr] at hs
  refine ent Tryd.mix Tryd.func27 Tryd.ntmps27 ?_
  have W := trivial
  repeat' first|refine st ?_|(refine nx ?_;refine so ?_)|(refine cx ?_;refine sc (fun hc=>?_) (fun hc=>?_)<;>try exact hc.elim)|(refine lx ?_;refine sp (fun hc=>?_) (fun hc=>?_)<;>try exact hc.elim)|refine sx ?_ ?_|refine sy ?_ ?_|fail
  all_goals (try (refine ⟨.inr rfl, ?_⟩; simp [Hands, Tryd.results27]))
  all_goals ((repeat clear hK K); cases a; cases b; simp_all)

theorem eqLine_ok [Tabs Tryd.prog] (a b : DLine) (hs : szLine a ≤ 1099511627776) : Ok Tryd.prog 28 [.agg (eLine a), .agg (eLine b)] (.bool (decide (a = b))) := by
  simp only [szLine] at hs
  refine ent Tryd.mix Tryd.func28 Tryd.ntmps28 ?_
  have W := trivial
  repeat' first|refine st ?_|(refine nx ?_;refine so ?_)|(refine cx ?_;refine sc (fun hc=>?_) (fun hc=>?_)<;>try exact hc.elim)|(refine lx ?_;refine sp (fun hc=>?_) (fun hc=>?_)<;>try exact hc.elim)|refine sx ?_ ?_|refine sy ?_ ?_|fail
  all_goals (try (refine ⟨.inr rfl, ?_⟩; simp [Hands, Tryd.results28]))
  all_goals ((repeat clear hK K); cases a; cases b; simp_all)

end Go.Proofs.YtkjhhcgnfppdiaaDoor
