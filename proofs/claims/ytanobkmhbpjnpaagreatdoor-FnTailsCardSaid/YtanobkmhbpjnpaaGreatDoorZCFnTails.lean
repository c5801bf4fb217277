/- Steps. No condition. -/
import Derived.Test.YtanobkmhbpjnpaaGreatDoorZRFnTails
set_option linter.all false
set_option maxRecDepth 8000
set_option maxHeartbeats 8000000
namespace Go.Proofs.YtanobkmhbpjnpaaGreatDoor
open Go.Aw Proofs.Tryz List IntKind
theorem law3_holds:Rows.FnTailsCardSaid:=
 Claim7.holds_tied_plain_at .later [] Rows.fnTailsCard.laidKinds true Rows.fnTailsCard.stood.harness Rows.fnTailsCard.stood.looks
  law3_row (λ_ h=>by cases h) (by as_aux_lemma=>kernel_rfl) (λ_ h=>by cases h) fnTails_row_tie rfl ⟨rfl,rfl⟩ (by as_aux_lemma=>kernel_rfl) (by as_aux_lemma=>kernel_rfl)
  (λf fn hf hfn=>by
   obtain rfl:f=3:=cX ((show prog.funcNamed Rows.fnTailsRow.func=some 3 by as_aux_lemma=>kernel_rfl).symm.trans hf) |>.symm;obtain rfl:fn=f3:=(cX (func3.symm.trans hfn)).symm;exact⟨by as_aux_lemma=>kernel_rfl,λj t ht=>by
    have h1:(f3.params.toList.all λt=> !prog.wantsStandIn t)=true:=by as_aux_lemma=>kernel_rfl
    have h2:=fW.1 h1 t (nB (i:=j) (by simpa using ht));have h3:prog.wantsStandIn t=false:=by simpa using h2
    exact h3⟩)
  ZI
end Go.Proofs.YtanobkmhbpjnpaaGreatDoor
