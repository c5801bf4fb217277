/-
  Proved here: steps towards the statement of this claim, text CFnResults.
  No condition beyond what each statement spells out.
-/
import Derived.Test.YtnkpkklemmgapaaGreatDoorZRFnResults
set_option linter.all false
set_option maxRecDepth 8000
set_option maxHeartbeats 8000000
namespace Go.Proofs.YtnkpkklemmgapaaGreatDoor
open Go.Aw Proofs.Tryz List IntKind
theorem law3_holds:Rows.FnResultsCardSaid:=
 Claim7.holds_tied_plain_at .later [] Rows.fnResultsCard.laidKinds true Rows.fnResultsCard.stood.harness Rows.fnResultsCard.stood.looks
  law3_row (λ_ h=>by cases h) (by as_aux_lemma=>kernel_rfl) (λ_ h=>by cases h) fnResults_row_tie rfl ⟨rfl,rfl⟩ (by as_aux_lemma=>kernel_rfl) (by as_aux_lemma=>kernel_rfl)
  (λf fn hf Xq=>by
   obtain rfl:f=3:=cU ((show prog.funcNamed Rows.fnResultsRow.func=some 3 by as_aux_lemma=>kernel_rfl).symm.trans hf) |>.symm;obtain rfl:fn=f3:=(cU (func3.symm.trans Xq)).symm;exact⟨by as_aux_lemma=>kernel_rfl,λj t ht=>by
    have h1:(f3.params.toList.all λt=> !prog.wantsStandIn t)=true:=by as_aux_lemma=>kernel_rfl
    have h2:=fW.1 h1 t (mB (i:=j) (by simpa using ht));have h3:prog.wantsStandIn t=false:=by simpa using h2
    exact h3⟩)
  Rs
end Go.Proofs.YtnkpkklemmgapaaGreatDoor
