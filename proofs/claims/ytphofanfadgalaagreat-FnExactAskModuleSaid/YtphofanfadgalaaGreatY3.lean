/-
  Proved here: contracts of the copies of a page.
  No condition beyond what each statement spells out.
-/
import Derived.Test.YtphofanfadgalaaGreatY2
set_option linter.all false
set_option linter.unusedSimpArgs false
set_option linter.unusedVariables false
set_option maxRecDepth 4000
set_option maxHeartbeats 4000000
namespace Go.Proofs.YtphofanfadgalaaGreat
open Go.Aw
theorem copyPage_ok [Tabs Tryz.prog] (a : DPage) (hs : szPage a ≤ 274877906944) : Ok Tryz.prog 35 [.agg (ePage .view a)] (.agg (ePage .own a)) := by
  simp only [szPage] at hs
  have c1 := copyPolicy_ok a.policy (by omega)
  have c2 := copyTokens_ok a.queue (by omega)
  have c3 := copyBuilder_ok a.builder (by omega)
  simp only [szL] at hs
  simp only [ePolicy] at c1
  simp only [eBuilder] at c3
  refine ent Tryz.mix Tryz.func35 Tryz.ntmps35 ?_
  have W := trivial
  repeat' first|refine st ?_|(refine nx ?_;first|refine se ?_|refine so ?_)|(refine cx ?_;refine sc (fun hc=>?_) (fun hc=>?_)<;>try exact hc.elim)|(refine lx ?_;refine sp (fun hc=>?_) (fun hc=>?_)<;>try exact hc.elim)|refine sx ?_ ?_|refine sy ?_ ?_|fail
  all_goals (try (refine ⟨.inr rfl, ?_⟩; simp [Hands, Tryz.results35]))
theorem specPage_ok [Tabs Tryz.prog] (a : DPage) (hs : szPage a ≤ 274877906944) : Ok Tryz.prog 24 [.agg (ePage .view a)] (.agg (ePage .own a)) := by
  simp only [szPage] at hs
  have c1 := specPolicy_ok a.policy (by omega)
  have c2 := specTokens_ok a.queue (by omega)
  have c3 := specBuilder_ok a.builder (by omega)
  simp only [szL] at hs
  simp only [ePolicy] at c1
  simp only [eBuilder] at c3
  refine ent Tryz.mix Tryz.func24 Tryz.ntmps24 ?_
  have W := trivial
  repeat' first|refine st ?_|(refine nx ?_;first|refine se ?_|refine so ?_)|(refine cx ?_;refine sc (fun hc=>?_) (fun hc=>?_)<;>try exact hc.elim)|(refine lx ?_;refine sp (fun hc=>?_) (fun hc=>?_)<;>try exact hc.elim)|refine sx ?_ ?_|refine sy ?_ ?_|fail
  all_goals (try (refine ⟨.inr rfl, ?_⟩; simp [Hands, Tryz.results24]))
end Go.Proofs.YtphofanfadgalaaGreat
