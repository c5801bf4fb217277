/-
  Proved here: steps towards the statement of this claim, text CFnSlots.
  No condition beyond what each statement spells out.
-/
import Derived.Test.YtkidoegojckmiaaGreatDoorAF7
import Derived.Lay
import Derived.SevenTiedAt
import Derived.Test.YtkidoegojckmiaaGreatDoorRows
import Derived.Test.YtkidoegojckmiaaGreatDoorCards
import Derived.Test.YtkidoegojckmiaaGreatDoorTie
import Derived.Test.YtkidoegojckmiaaGreatDoorARFnSlots
import Derived.Test.YtkidoegojckmiaaGreatDoorAGFnSlots
set_option linter.all false
set_option maxRecDepth 8000
set_option maxHeartbeats 8000000
namespace Go.Proofs.YtkidoegojckmiaaGreatDoor
open Go.Aw
theorem law3_holds:Rows.FnSlotsCardSaid:=
 Claim7.holds_tied_plain_at .later [] Rows.fnSlotsCard.laidKinds true Rows.fnSlotsCard.stood.harness Rows.fnSlotsCard.stood.looks
  law3_row (fun _ h=>by cases h) (by as_aux_lemma=>kernel_rfl) (fun _ h=>by cases h) fnSlots_row_tie rfl ⟨rfl,rfl⟩ (by as_aux_lemma=>kernel_rfl) (by as_aux_lemma=>kernel_rfl)
  (fun f fn hf hfn=>by
   obtain rfl:f=3:=Option.some.inj ((show Tryz.prog.funcNamed Rows.fnSlotsRow.func=some 3 by as_aux_lemma=>kernel_rfl).symm.trans hf) |>.symm
   obtain rfl:fn=Tryz.f3:=(Option.some.inj (Tryz.func3.symm.trans hfn)).symm
   exact ⟨by as_aux_lemma=>kernel_rfl,fun j t ht=>by
    have h1:(Tryz.f3.params.toList.all fun t=> !Tryz.prog.wantsStandIn t)=true:=by as_aux_lemma=>kernel_rfl
    have h2:=List.all_eq_true.1 h1 t (List.mem_of_getElem? (i:=j) (by simpa using ht))
    have h3:Tryz.prog.wantsStandIn t=false:=by simpa using h2
    exact h3⟩)
  aIe
end Go.Proofs.YtkidoegojckmiaaGreatDoor
