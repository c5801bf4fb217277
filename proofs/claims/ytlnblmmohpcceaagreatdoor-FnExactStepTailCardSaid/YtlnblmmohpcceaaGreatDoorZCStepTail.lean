/-
  Proved here: for every input, the law FnExactStepTail returns true and leaves its arguments as they were; the tied card.
  No condition beyond what each statement spells out.
-/
import Derived.Test.YtlnblmmohpcceaaGreatDoorZRStepTail
import Derived.Test.YtlnblmmohpcceaaGreatDoorZGStepTail
set_option linter.all false
set_option maxRecDepth 8000
set_option maxHeartbeats 8000000
namespace Go.Proofs.YtlnblmmohpcceaaGreatDoor
open Go.Aw Proofs.Tryz List IntKind
theorem law4_holds:Rows.FnExactStepTailCardSaid:=
 Claim7.holds_tied_plain_at .later [] Rows.fnExactStepTailCard.laidKinds true Rows.fnExactStepTailCard.stood.harness Rows.fnExactStepTailCard.stood.looks
  law4_row (fun _ h=>by cases h) (by as_aux_lemma=>kernel_rfl) (fun _ h=>by cases h) fnExactStepTail_row_tie rfl ⟨rfl,rfl⟩ (by as_aux_lemma=>kernel_rfl) (by as_aux_lemma=>kernel_rfl)
  (fun f fn hf hfn=>by
   obtain rfl:f=4:=Option.some.inj ((show prog.funcNamed Rows.fnExactStepTailRow.func=some 4 by as_aux_lemma=>kernel_rfl).symm.trans hf) |>.symm
   obtain rfl:fn=f4:=(Option.some.inj (func4.symm.trans hfn)).symm
   exact ⟨by as_aux_lemma=>kernel_rfl,fun j t ht=>by
    have h1:(f4.params.toList.all fun t=> !prog.wantsStandIn t)=true:=by as_aux_lemma=>kernel_rfl
    have h2:=all_eq_true.1 h1 t (mem_of_getElem? (i:=j) (by simpa using ht))
    have h3:prog.wantsStandIn t=false:=by simpa using h2
    exact h3⟩)
  aC8
end Go.Proofs.YtlnblmmohpcceaaGreatDoor
