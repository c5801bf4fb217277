/-
  Proved here: steps towards the statement of this claim, text CFnModules.
  No condition beyond what each statement spells out.
-/
import Derived.Test.YtgkllebnnakojaaGreatDoorF5
import Derived.Lay
import Derived.SevenTiedAt
import Derived.Test.YtgkllebnnakojaaGreatDoorRows
import Derived.Test.YtgkllebnnakojaaGreatDoorCards
import Derived.Test.YtgkllebnnakojaaGreatDoorTie
import Derived.Test.YtgkllebnnakojaaGreatDoorRFnModules
import Derived.Test.YtgkllebnnakojaaGreatDoorGFnModules
set_option linter.all false
set_option maxRecDepth 8000
set_option maxHeartbeats 8000000
namespace Go.Proofs.YtgkllebnnakojaaGreatDoor
open Go.Aw
theorem law3_holds:Rows.FnModulesCardSaid:=
 Claim7.holds_tied_plain_at .later [] Rows.fnModulesCard.laidKinds true Rows.fnModulesCard.stood.harness Rows.fnModulesCard.stood.looks
  law3_row (fun _ h=>by cases h) (by as_aux_lemma=>kernel_rfl) (fun _ h=>by cases h) fnModules_row_tie rfl ⟨rfl,rfl⟩ (by as_aux_lemma=>kernel_rfl) (by as_aux_lemma=>kernel_rfl)
  (fun f fn hf hfn=>by
   obtain rfl:f=3:=Option.some.inj ((show Tryz.prog.funcNamed Rows.fnModulesRow.func=some 3 by as_aux_lemma=>kernel_rfl).symm.trans hf) |>.symm
   obtain rfl:fn=Tryz.f3:=(Option.some.inj (Tryz.func3.symm.trans hfn)).symm
   exact ⟨by as_aux_lemma=>kernel_rfl,fun j t ht=>by
    have h1:(Tryz.f3.params.toList.all fun t=> !Tryz.prog.wantsStandIn t)=true:=by as_aux_lemma=>kernel_rfl
    have h2:=List.all_eq_true.1 h1 t (List.mem_of_getElem? (i:=j) (by simpa using ht))
    have h3:Tryz.prog.wantsStandIn t=false:=by simpa using h2
    exact h3⟩)
  aGc
end Go.Proofs.YtgkllebnnakojaaGreatDoor
