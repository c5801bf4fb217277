/-
  Proved here: steps towards the statement of this claim, text KFnScanned.
  No condition beyond what each statement spells out.
-/
import Derived.Test.YtaddkhdghlaalaaGreatDoorF5
import Derived.Lay
import Derived.SevenTiedAt
import Derived.Test.YtaddkhdghlaalaaGreatDoorRows
import Derived.Test.YtaddkhdghlaalaaGreatDoorCards
import Derived.Test.YtaddkhdghlaalaaGreatDoorTie
set_option linter.all false
namespace Go.Proofs.YtaddkhdghlaalaaGreatDoor
open Go.Aw
set_option maxRecDepth 100000 in
theorem aSb:(Rows.fnScannedRow.wf (OpenSpec.ofChange Rows.fnScannedSpec))=true:=by kernel_rfl
set_option maxRecDepth 100000 in
theorem aS6:(laidOutB Tryz.pinned.checked.prog)=true:=by kernel_rfl
set_option maxRecDepth 100000 in
theorem aTt:(mapsRowed Tryz.pinned.checked.prog)=true:=by kernel_rfl
set_option maxRecDepth 100000 in
theorem aR4:(Tryz.f3.params.all (Tryz.pinned.checked.prog.readableRec ·))=true:=by kernel_rfl
set_option maxRecDepth 100000 in
theorem aQr:(namedTie Tryz.pinned.checked.prog Rows.fnScannedRow.named Rows.fnScannedSpec.vars)=true:=by kernel_rfl
set_option maxRecDepth 100000 in
theorem aS8:((Rows.fnScannedRow.stops == []))=true:=by kernel_rfl
set_option maxRecDepth 100000 in
theorem aR6:((Tryz.pinned.checked.prog.stops == []))=true:=by kernel_rfl
set_option maxRecDepth 100000 in
theorem aTm:((Rows.fnScannedRow.knobs == []))=true:=by kernel_rfl
set_option maxRecDepth 100000 in
theorem aRr:((Tryz.pinned.checked.prog.stopKnobs == []))=true:=by kernel_rfl
set_option maxRecDepth 100000 in
theorem aTb:((Rows.fnScannedRow.inPlace == Tryz.pinned.checked.prog.inPlace 3))=true:=by kernel_rfl
set_option maxRecDepth 100000 in
theorem aPu:((Rows.fnScannedRow.unfollowed == Tryz.pinned.checked.prog.unfollowed 3))=true:=by kernel_rfl
set_option maxRecDepth 100000 in
theorem aQb:((Rows.fnScannedRow.recurses == Tryz.pinned.checked.prog.recurses 3))=true:=by kernel_rfl
set_option maxRecDepth 100000 in
theorem aO7:((Rows.fnScannedRow.named == Tryz.pinned.checked.prog.varsNamed 3))=true:=by kernel_rfl
set_option maxRecDepth 100000 in
theorem aP6:((Rows.fnScannedRow.maps == (Tryz.f3.params.toList++Rows.fnScannedSpec.plain.varTypes Tryz.pinned.checked.prog).any (Tryz.pinned.checked.prog.mapsRec ·)))=true:=by kernel_rfl
set_option maxRecDepth 100000 in
theorem aPy:((Rows.fnScannedRow.ifaces == (Tryz.f3.params.toList++Rows.fnScannedSpec.plain.varTypes Tryz.pinned.checked.prog).any (Tryz.pinned.checked.prog.ifacesRec ·)))=true:=by kernel_rfl
set_option maxRecDepth 100000 in
theorem aQa:((Rows.fnScannedRow.mapsOut == Tryz.pinned.checked.prog.mapsAmong Tryz.f3.resultTypes.toList))=true:=by kernel_rfl
set_option maxRecDepth 100000 in
theorem aPz:((Rows.fnScannedRow.loops == (Tryz.f3.params.toList++Rows.fnScannedSpec.plain.varTypes Tryz.pinned.checked.prog).any (Tryz.pinned.checked.prog.loopsFrom ·)))=true:=by kernel_rfl
set_option maxRecDepth 100000 in
theorem aPh:((Rows.fnScannedRow.wideKeys == (Tryz.f3.params.toList++Rows.fnScannedSpec.plain.varTypes Tryz.pinned.checked.prog++Tryz.f3.resultTypes.toList).any (Tryz.pinned.checked.prog.wideKeysFrom ·)))=true:=by kernel_rfl
set_option maxRecDepth 100000 in
theorem aP4:(Rows.fnScannedSpec.vars.all (Tryz.pinned.checked.prog.varReadable ·))=true:=by kernel_rfl
set_option maxRecDepth 100000 in
theorem aPt:(Tryz.f3.resultTypes.all (fun t=>Tryz.pinned.checked.prog.readableRec t&&decide (t < Tryz.pinned.checked.prog.types.size)))=true:=by kernel_rfl
set_option maxRecDepth 100000 in
theorem aPx:((Rows.fnScannedRow.ifacesOut == Tryz.f3.resultTypes.toList.any (Tryz.pinned.checked.prog.ifacesRec ·)))=true:=by kernel_rfl
set_option maxRecDepth 100000 in
theorem aPo:((Rows.fnScannedRow.loopsOut == Tryz.f3.resultTypes.toList.any (Tryz.pinned.checked.prog.loopsFrom ·)))=true:=by kernel_rfl
set_option maxRecDepth 100000 in
theorem aO8:((Rows.fnScannedRow.plainKeys == Tryz.pinned.checked.prog.plainKeys))=true:=by kernel_rfl
set_option maxRecDepth 100000 in
theorem aP0:(Rows.fnScannedRow.shortTexts.isNone)=true:=by kernel_rfl
set_option maxRecDepth 100000 in
theorem aPj:(Tryz.pinned.checked.prog.stopsHeard)=true:=by kernel_rfl
set_option maxRecDepth 100000 in
theorem aP5:(Tryz.pinned.checked.prog.mayEnter)=true:=by kernel_rfl
set_option maxRecDepth 100000 in
theorem aPd:((Rows.fnScannedRow.lifted == Tryz.pinned.checked.prog.liftsFinal))=true:=by kernel_rfl
set_option maxRecDepth 100000 in
theorem aP9:((Tryz.pinned.checked.prog.make == some Rows.fnScannedRow.make))=true:=by kernel_rfl
set_option maxRecDepth 100000 in
theorem aP3:((Rows.fnScannedRow.kinds == (if Rows.fnScannedRow.domain.isEmpty then [] else Tryz.f3.params.toList.map fun t=>match Tryz.pinned.checked.prog.underlying t with|some (.int k)=>some k|_=>none)))=true:=by kernel_rfl
set_option maxRecDepth 100000 in
theorem aQk:((Rows.fnScannedRow.pinned == Rows.fnScannedRow.pinnedBy))=true:=by kernel_rfl
set_option maxRecDepth 100000 in
theorem aQj:((Rows.fnScannedRow.veiled == (Tryz.f3.params.toList++Rows.fnScannedSpec.plain.varTypes Tryz.pinned.checked.prog++Tryz.f3.resultTypes.toList).any (Tryz.pinned.checked.prog.veiledRec ·)))=true:=by kernel_rfl
set_option maxRecDepth 100000 in
theorem aPp:(Rows.fnScannedRow.veiledFits Tryz.pinned.checked.prog Tryz.f3.params.toList (Tryz.f3.params.toList++Rows.fnScannedSpec.plain.varTypes Tryz.pinned.checked.prog++Tryz.f3.resultTypes.toList))=true:=by kernel_rfl
set_option maxRecDepth 100000 in
theorem aJs:joinedFacts Tryz.pinned.checked.prog 3 Tryz.f3 Rows.fnScannedSpec Rows.fnScannedRow=true:=by
 unfold joinedFacts
 exact (Bool.and_eq_true_iff.2 ⟨(Bool.and_eq_true_iff.2 ⟨(Bool.and_eq_true_iff.2 ⟨(Bool.and_eq_true_iff.2 ⟨(Bool.and_eq_true_iff.2 ⟨(Bool.and_eq_true_iff.2 ⟨(Bool.and_eq_true_iff.2 ⟨(Bool.and_eq_true_iff.2 ⟨(Bool.and_eq_true_iff.2 ⟨(Bool.and_eq_true_iff.2 ⟨(Bool.and_eq_true_iff.2 ⟨(Bool.and_eq_true_iff.2 ⟨(Bool.and_eq_true_iff.2 ⟨(Bool.and_eq_true_iff.2 ⟨(Bool.and_eq_true_iff.2 ⟨(Bool.and_eq_true_iff.2 ⟨(Bool.and_eq_true_iff.2 ⟨(Bool.and_eq_true_iff.2 ⟨(Bool.and_eq_true_iff.2 ⟨(Bool.and_eq_true_iff.2 ⟨(Bool.and_eq_true_iff.2 ⟨(Bool.and_eq_true_iff.2 ⟨(Bool.and_eq_true_iff.2 ⟨(Bool.and_eq_true_iff.2 ⟨(Bool.and_eq_true_iff.2 ⟨(Bool.and_eq_true_iff.2 ⟨(Bool.and_eq_true_iff.2 ⟨(Bool.and_eq_true_iff.2 ⟨(Bool.and_eq_true_iff.2 ⟨(Bool.and_eq_true_iff.2 ⟨(Bool.and_eq_true_iff.2 ⟨aSb,aS6⟩),aTt⟩),aR4⟩),aQr⟩),aS8⟩),aR6⟩),aTm⟩),aRr⟩),aTb⟩),aPu⟩),aQb⟩),aO7⟩),aP6⟩),aPy⟩),aQa⟩),aPz⟩),aPh⟩),aP4⟩),aPt⟩),aPx⟩),aPo⟩),aO8⟩),aP0⟩),aPj⟩),aP5⟩),aPd⟩),aP9⟩),aP3⟩),aQk⟩),aQj⟩),aPp⟩)
end Go.Proofs.YtaddkhdghlaalaaGreatDoor
