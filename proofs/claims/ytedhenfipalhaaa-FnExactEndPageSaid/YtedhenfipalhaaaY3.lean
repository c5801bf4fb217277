/-
  Proved here: contracts of the copies of a page.
  No condition beyond what each statement spells out.
-/
import Derived.Test.YtedhenfipalhaaaY2
set_option linter.all false
set_option linter.unusedSimpArgs false
set_option linter.unusedVariables false
set_option maxRecDepth 4000
set_option maxHeartbeats 4000000
namespace Go.Proofs.Ytedhenfipalhaaa
open Go.Aw
theorem copyPage_ok [Tabs Try.prog] (a : DPage) (hs : szPage a ≤ 1048576) : Ok Try.prog 86 [.agg (ePage .view a)] (.agg (ePage .own a)) := by
  simp only [szPage] at hs
  have c1 := copyPolicy_ok a.policy (by omega)
  have c2 := copyTokens_ok a.queue (by omega)
  have c3 := copyBuilder_ok a.builder (by omega)
  simp only [szL] at hs
  simp only [ePolicy] at c1
  simp only [eBuilder] at c3
  refine ent Try.mix Try.func86 Try.ntmps86 ?_
  have W := trivial
  repeat' first|refine st ?_|(refine nx ?_;first|refine se ?_|refine so ?_)|(refine cx ?_;refine sc (fun hc=>?_) (fun hc=>?_)<;>try exact hc.elim)|(refine lx ?_;refine sp (fun hc=>?_) (fun hc=>?_)<;>try exact hc.elim)|refine sx ?_ ?_|refine sy ?_ ?_|fail
  all_goals (try (refine ⟨.inr rfl, ?_⟩; simp [Hands, Try.results86]))
theorem specPage_ok [Tabs Try.prog] (a : DPage) (hs : szPage a ≤ 1048576) : Ok Try.prog 84 [.agg (ePage .view a)] (.agg (ePage .own a)) := by
  simp only [szPage] at hs
  have c1 := specPolicy_ok a.policy (by omega)
  have c2 := specTokens_ok a.queue (by omega)
  have c3 := specBuilder_ok a.builder (by omega)
  simp only [szL] at hs
  simp only [ePolicy] at c1
  simp only [eBuilder] at c3
  refine ent Try.mix Try.func84 Try.ntmps84 ?_
  have W := trivial
  repeat' first|refine st ?_|(refine nx ?_;first|refine se ?_|refine so ?_)|(refine cx ?_;refine sc (fun hc=>?_) (fun hc=>?_)<;>try exact hc.elim)|(refine lx ?_;refine sp (fun hc=>?_) (fun hc=>?_)<;>try exact hc.elim)|refine sx ?_ ?_|refine sy ?_ ?_|fail
  all_goals (try (refine ⟨.inr rfl, ?_⟩; simp [Hands, Try.results84]))
end Go.Proofs.Ytedhenfipalhaaa
