/-
  Proved here: steps towards the statement of this claim, text KFnSlots.
  No condition beyond what each statement spells out.
-/
import Derived.Test.YtkidoegojckmiaaGreatDoorAF7
import Derived.Lay
import Derived.SevenTiedAt
import Derived.Test.YtkidoegojckmiaaGreatDoorRows
import Derived.Test.YtkidoegojckmiaaGreatDoorCards
import Derived.Test.YtkidoegojckmiaaGreatDoorTie
set_option linter.all false
namespace Go.Proofs.YtkidoegojckmiaaGreatDoor
open Go.Aw
set_option maxRecDepth 100000 in
theorem aOo:(Rows.fnSlotsRow.wf (OpenSpec.ofChange Rows.fnSlotsSpec))=true:=by kernel_rfl
set_option maxRecDepth 100000 in
theorem aOf:(laidOutB Tryz.pinned.checked.prog)=true:=by kernel_rfl
set_option maxRecDepth 100000 in
theorem aNq:(mapsRowed Tryz.pinned.checked.prog)=true:=by kernel_rfl
set_option maxRecDepth 100000 in
theorem aOh:(Tryz.f3.params.all (Tryz.pinned.checked.prog.readableRec ·))=true:=by kernel_rfl
set_option maxRecDepth 100000 in
theorem aNk:(namedTie Tryz.pinned.checked.prog Rows.fnSlotsRow.named Rows.fnSlotsSpec.vars)=true:=by kernel_rfl
set_option maxRecDepth 100000 in
theorem aOe:((Rows.fnSlotsRow.stops == []))=true:=by kernel_rfl
set_option maxRecDepth 100000 in
theorem aOk:((Tryz.pinned.checked.prog.stops == []))=true:=by kernel_rfl
set_option maxRecDepth 100000 in
theorem aNr:((Rows.fnSlotsRow.knobs == []))=true:=by kernel_rfl
set_option maxRecDepth 100000 in
theorem aM8:((Tryz.pinned.checked.prog.stopKnobs == []))=true:=by kernel_rfl
set_option maxRecDepth 100000 in
theorem aNf:((Rows.fnSlotsRow.inPlace == Tryz.pinned.checked.prog.inPlace 3))=true:=by kernel_rfl
set_option maxRecDepth 100000 in
theorem aL0:((Rows.fnSlotsRow.unfollowed == Tryz.pinned.checked.prog.unfollowed 3))=true:=by kernel_rfl
set_option maxRecDepth 100000 in
theorem aKu:((Rows.fnSlotsRow.recurses == Tryz.pinned.checked.prog.recurses 3))=true:=by kernel_rfl
set_option maxRecDepth 100000 in
theorem aLe:((Rows.fnSlotsRow.named == Tryz.pinned.checked.prog.varsNamed 3))=true:=by kernel_rfl
set_option maxRecDepth 100000 in
theorem aKv:((Rows.fnSlotsRow.maps == (Tryz.f3.params.toList++Rows.fnSlotsSpec.plain.varTypes Tryz.pinned.checked.prog).any (Tryz.pinned.checked.prog.mapsRec ·)))=true:=by kernel_rfl
set_option maxRecDepth 100000 in
theorem aK2:((Rows.fnSlotsRow.ifaces == (Tryz.f3.params.toList++Rows.fnSlotsSpec.plain.varTypes Tryz.pinned.checked.prog).any (Tryz.pinned.checked.prog.ifacesRec ·)))=true:=by kernel_rfl
set_option maxRecDepth 100000 in
theorem aLh:((Rows.fnSlotsRow.mapsOut == Tryz.pinned.checked.prog.mapsAmong Tryz.f3.resultTypes.toList))=true:=by kernel_rfl
set_option maxRecDepth 100000 in
theorem aL4:((Rows.fnSlotsRow.loops == (Tryz.f3.params.toList++Rows.fnSlotsSpec.plain.varTypes Tryz.pinned.checked.prog).any (Tryz.pinned.checked.prog.loopsFrom ·)))=true:=by kernel_rfl
set_option maxRecDepth 100000 in
theorem aLw:((Rows.fnSlotsRow.wideKeys == (Tryz.f3.params.toList++Rows.fnSlotsSpec.plain.varTypes Tryz.pinned.checked.prog++Tryz.f3.resultTypes.toList).any (Tryz.pinned.checked.prog.wideKeysFrom ·)))=true:=by kernel_rfl
set_option maxRecDepth 100000 in
theorem aLo:(Rows.fnSlotsSpec.vars.all (Tryz.pinned.checked.prog.varReadable ·))=true:=by kernel_rfl
set_option maxRecDepth 100000 in
theorem aK5:(Tryz.f3.resultTypes.all (fun t=>Tryz.pinned.checked.prog.readableRec t&&decide (t < Tryz.pinned.checked.prog.types.size)))=true:=by kernel_rfl
set_option maxRecDepth 100000 in
theorem aKl:((Rows.fnSlotsRow.ifacesOut == Tryz.f3.resultTypes.toList.any (Tryz.pinned.checked.prog.ifacesRec ·)))=true:=by kernel_rfl
set_option maxRecDepth 100000 in
theorem aLn:((Rows.fnSlotsRow.loopsOut == Tryz.f3.resultTypes.toList.any (Tryz.pinned.checked.prog.loopsFrom ·)))=true:=by kernel_rfl
set_option maxRecDepth 100000 in
theorem aLx:((Rows.fnSlotsRow.plainKeys == Tryz.pinned.checked.prog.plainKeys))=true:=by kernel_rfl
set_option maxRecDepth 100000 in
theorem aLp:(Rows.fnSlotsRow.shortTexts.isNone)=true:=by kernel_rfl
set_option maxRecDepth 100000 in
theorem aLz:(Tryz.pinned.checked.prog.stopsHeard)=true:=by kernel_rfl
set_option maxRecDepth 100000 in
theorem aK0:(Tryz.pinned.checked.prog.mayEnter)=true:=by kernel_rfl
set_option maxRecDepth 100000 in
theorem aLg:((Rows.fnSlotsRow.lifted == Tryz.pinned.checked.prog.liftsFinal))=true:=by kernel_rfl
set_option maxRecDepth 100000 in
theorem aLc:((Tryz.pinned.checked.prog.make == some Rows.fnSlotsRow.make))=true:=by kernel_rfl
set_option maxRecDepth 100000 in
theorem aKq:((Rows.fnSlotsRow.kinds == (if Rows.fnSlotsRow.domain.isEmpty then [] else Tryz.f3.params.toList.map fun t=>match Tryz.pinned.checked.prog.underlying t with|some (.int k)=>some k|_=>none)))=true:=by kernel_rfl
set_option maxRecDepth 100000 in
theorem aKy:((Rows.fnSlotsRow.pinned == Rows.fnSlotsRow.pinnedBy))=true:=by kernel_rfl
set_option maxRecDepth 100000 in
theorem aLq:((Rows.fnSlotsRow.veiled == (Tryz.f3.params.toList++Rows.fnSlotsSpec.plain.varTypes Tryz.pinned.checked.prog++Tryz.f3.resultTypes.toList).any (Tryz.pinned.checked.prog.veiledRec ·)))=true:=by kernel_rfl
set_option maxRecDepth 100000 in
theorem aKk:(Rows.fnSlotsRow.veiledFits Tryz.pinned.checked.prog Tryz.f3.params.toList (Tryz.f3.params.toList++Rows.fnSlotsSpec.plain.varTypes Tryz.pinned.checked.prog++Tryz.f3.resultTypes.toList))=true:=by kernel_rfl
set_option maxRecDepth 100000 in
theorem aE8:joinedFacts Tryz.pinned.checked.prog 3 Tryz.f3 Rows.fnSlotsSpec Rows.fnSlotsRow=true:=by
 unfold joinedFacts
 exact (Bool.and_eq_true_iff.2 ⟨(Bool.and_eq_true_iff.2 ⟨(Bool.and_eq_true_iff.2 ⟨(Bool.and_eq_true_iff.2 ⟨(Bool.and_eq_true_iff.2 ⟨(Bool.and_eq_true_iff.2 ⟨(Bool.and_eq_true_iff.2 ⟨(Bool.and_eq_true_iff.2 ⟨(Bool.and_eq_true_iff.2 ⟨(Bool.and_eq_true_iff.2 ⟨(Bool.and_eq_true_iff.2 ⟨(Bool.and_eq_true_iff.2 ⟨(Bool.and_eq_true_iff.2 ⟨(Bool.and_eq_true_iff.2 ⟨(Bool.and_eq_true_iff.2 ⟨(Bool.and_eq_true_iff.2 ⟨(Bool.and_eq_true_iff.2 ⟨(Bool.and_eq_true_iff.2 ⟨(Bool.and_eq_true_iff.2 ⟨(Bool.and_eq_true_iff.2 ⟨(Bool.and_eq_true_iff.2 ⟨(Bool.and_eq_true_iff.2 ⟨(Bool.and_eq_true_iff.2 ⟨(Bool.and_eq_true_iff.2 ⟨(Bool.and_eq_true_iff.2 ⟨(Bool.and_eq_true_iff.2 ⟨(Bool.and_eq_true_iff.2 ⟨(Bool.and_eq_true_iff.2 ⟨(Bool.and_eq_true_iff.2 ⟨(Bool.and_eq_true_iff.2 ⟨(Bool.and_eq_true_iff.2 ⟨aOo,aOf⟩),aNq⟩),aOh⟩),aNk⟩),aOe⟩),aOk⟩),aNr⟩),aM8⟩),aNf⟩),aL0⟩),aKu⟩),aLe⟩),aKv⟩),aK2⟩),aLh⟩),aL4⟩),aLw⟩),aLo⟩),aK5⟩),aKl⟩),aLn⟩),aLx⟩),aLp⟩),aLz⟩),aK0⟩),aLg⟩),aLc⟩),aKq⟩),aKy⟩),aLq⟩),aKk⟩)
end Go.Proofs.YtkidoegojckmiaaGreatDoor
