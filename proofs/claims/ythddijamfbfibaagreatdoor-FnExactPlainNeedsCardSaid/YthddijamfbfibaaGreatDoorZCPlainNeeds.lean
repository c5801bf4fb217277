/-
  Proved here: steps towards the statement of this claim, text CPlainNeeds.
  No condition beyond what each statement spells out.
-/
import Derived.Test.YthddijamfbfibaaGreatDoorZRPlainNeeds
set_option linter.all false
set_option maxRecDepth 8000
set_option maxHeartbeats 8000000
namespace Go.Proofs.YthddijamfbfibaaGreatDoor
open Go.Aw Proofs.Tryz List IntKind
theorem law3_holds:Rows.FnExactPlainNeedsCardSaid:=
 Claim7.holds_tied_plain_at .later [] Rows.fnExactPlainNeedsCard.laidKinds true Rows.fnExactPlainNeedsCard.stood.harness Rows.fnExactPlainNeedsCard.stood.looks
  law3_row (λ_ h=>by cases h) (by as_aux_lemma=>kernel_rfl) (λ_ h=>by cases h) fnExactPlainNeeds_row_tie rfl ⟨rfl,rfl⟩ (by as_aux_lemma=>kernel_rfl) (by as_aux_lemma=>kernel_rfl)
  (λf fn hf hfn=>by
   obtain rfl:f=3:=cQ ((show prog.funcNamed Rows.fnExactPlainNeedsRow.func=some 3 by as_aux_lemma=>kernel_rfl).symm.trans hf) |>.symm;obtain rfl:fn=f3:=(cQ (func3.symm.trans hfn)).symm;exact⟨by as_aux_lemma=>kernel_rfl,λj t ht=>by
    have h1:(f3.params.toList.all λt=> !prog.wantsStandIn t)=true:=by as_aux_lemma=>kernel_rfl
    have h2:=fR.1 h1 t (nB (i:=j) (by simpa using ht));have h3:prog.wantsStandIn t=false:=by simpa using h2
    exact h3⟩)
  QS
end Go.Proofs.YthddijamfbfibaaGreatDoor
