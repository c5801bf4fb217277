/-
  Proved here: steps towards the statement of this claim, text CFnScanned.
  No condition beyond what each statement spells out.
-/
import Derived.Test.YtaddkhdghlaalaaGreatDoorF5
import Derived.Lay
import Derived.SevenTiedAt
import Derived.Test.YtaddkhdghlaalaaGreatDoorRows
import Derived.Test.YtaddkhdghlaalaaGreatDoorCards
import Derived.Test.YtaddkhdghlaalaaGreatDoorTie
import Derived.Test.YtaddkhdghlaalaaGreatDoorRFnScanned
import Derived.Test.YtaddkhdghlaalaaGreatDoorGFnScanned
set_option linter.all false
set_option maxRecDepth 8000
set_option maxHeartbeats 8000000
namespace Go.Proofs.YtaddkhdghlaalaaGreatDoor
open Go.Aw
theorem law3_holds:Rows.FnScannedCardSaid:=
 Claim7.holds_tied_plain_at .later [] Rows.fnScannedCard.laidKinds true Rows.fnScannedCard.stood.harness Rows.fnScannedCard.stood.looks
  law3_row (fun _ h=>by cases h) (by as_aux_lemma=>kernel_rfl) (fun _ h=>by cases h) fnScanned_row_tie rfl ⟨rfl,rfl⟩ (by as_aux_lemma=>kernel_rfl) (by as_aux_lemma=>kernel_rfl)
  (fun f fn hf hfn=>by
   obtain rfl:f=3:=Option.some.inj ((show Tryz.prog.funcNamed Rows.fnScannedRow.func=some 3 by as_aux_lemma=>kernel_rfl).symm.trans hf) |>.symm
   obtain rfl:fn=Tryz.f3:=(Option.some.inj (Tryz.func3.symm.trans hfn)).symm
   exact ⟨by as_aux_lemma=>kernel_rfl,fun j t ht=>by
    have h1:(Tryz.f3.params.toList.all fun t=> !Tryz.prog.wantsStandIn t)=true:=by as_aux_lemma=>kernel_rfl
    have h2:=List.all_eq_true.1 h1 t (List.mem_of_getElem? (i:=j) (by simpa using ht))
    have h3:Tryz.prog.wantsStandIn t=false:=by simpa using h2
    exact h3⟩)
  aNr
end Go.Proofs.YtaddkhdghlaalaaGreatDoor
