/-
  Proved here: for every input, the law FnExactTakeAnswer returns true and leaves its arguments as they were; the tied card.
  No condition beyond what each statement spells out.
-/
import Derived.Test.YtjmpjmilndkgfaaGreatDoorZRTakeAnswer
set_option linter.all false
set_option maxRecDepth 8000
set_option maxHeartbeats 8000000
namespace Go.Proofs.YtjmpjmilndkgfaaGreatDoor
open Go.Aw Proofs.Tryz List IntKind
theorem law3_holds:Rows.FnExactTakeAnswerCardSaid:=
 Claim7.holds_tied_plain_at .later [] Rows.fnExactTakeAnswerCard.laidKinds true Rows.fnExactTakeAnswerCard.stood.harness Rows.fnExactTakeAnswerCard.stood.looks
  law3_row (λ_ h=>by cases h) (by as_aux_lemma=>kernel_rfl) (λ_ h=>by cases h) fnExactTakeAnswer_row_tie rfl ⟨rfl,rfl⟩ (by as_aux_lemma=>kernel_rfl) (by as_aux_lemma=>kernel_rfl)
  (λf fn hf hfn=>by
   obtain rfl:f=3:=cQ ((show prog.funcNamed Rows.fnExactTakeAnswerRow.func=some 3 by as_aux_lemma=>kernel_rfl).symm.trans hf) |>.symm;obtain rfl:fn=f3:=(cQ (func3.symm.trans hfn)).symm;exact ⟨by as_aux_lemma=>kernel_rfl,λj t ht=>by
    have h1:(f3.params.toList.all λt=> !prog.wantsStandIn t)=true:=by as_aux_lemma=>kernel_rfl
    have h2:=fS.1 h1 t (oE (i:=j) (by simpa using ht));have h3:prog.wantsStandIn t=false:=by simpa using h2
    exact h3⟩)
  Ow
end Go.Proofs.YtjmpjmilndkgfaaGreatDoor
