/-
  Proved here: steps towards the statement of this claim, text KStepTail.
  No condition beyond what each statement spells out.
-/
import Derived.Test.YtlnblmmohpcceaaGreatDoorF7
import Derived.Lay
import Derived.SevenTiedAt
import Derived.Test.YtlnblmmohpcceaaGreatDoorRows
import Derived.Test.YtlnblmmohpcceaaGreatDoorCards
import Derived.Test.YtlnblmmohpcceaaGreatDoorTie
set_option linter.all false
namespace Go.Proofs.YtlnblmmohpcceaaGreatDoor
open Go.Aw
set_option maxRecDepth 100000 in
theorem aU0:(Rows.fnExactStepTailRow.wf (OpenSpec.ofChange Rows.fnExactStepTailSpec))=true:=by kernel_rfl
set_option maxRecDepth 100000 in
theorem aUe:(laidOutB Tryz.pinned.checked.prog)=true:=by kernel_rfl
set_option maxRecDepth 100000 in
theorem aUn:(mapsRowed Tryz.pinned.checked.prog)=true:=by kernel_rfl
set_option maxRecDepth 100000 in
theorem aVf:(Tryz.f4.params.all (Tryz.pinned.checked.prog.readableRec ·))=true:=by kernel_rfl
set_option maxRecDepth 100000 in
theorem aUq:(namedTie Tryz.pinned.checked.prog Rows.fnExactStepTailRow.named Rows.fnExactStepTailSpec.vars)=true:=by kernel_rfl
set_option maxRecDepth 100000 in
theorem aUx:((Rows.fnExactStepTailRow.stops == []))=true:=by kernel_rfl
set_option maxRecDepth 100000 in
theorem aUi:((Tryz.pinned.checked.prog.stops == []))=true:=by kernel_rfl
set_option maxRecDepth 100000 in
theorem aT4:((Rows.fnExactStepTailRow.knobs == []))=true:=by kernel_rfl
set_option maxRecDepth 100000 in
theorem aUd:((Tryz.pinned.checked.prog.stopKnobs == []))=true:=by kernel_rfl
set_option maxRecDepth 100000 in
theorem aTw:((Rows.fnExactStepTailRow.inPlace == Tryz.pinned.checked.prog.inPlace 4))=true:=by kernel_rfl
set_option maxRecDepth 100000 in
theorem aSw:((Rows.fnExactStepTailRow.unfollowed == Tryz.pinned.checked.prog.unfollowed 4))=true:=by kernel_rfl
set_option maxRecDepth 100000 in
theorem aQq:((Rows.fnExactStepTailRow.recurses == Tryz.pinned.checked.prog.recurses 4))=true:=by kernel_rfl
set_option maxRecDepth 100000 in
theorem aRv:((Rows.fnExactStepTailRow.named == Tryz.pinned.checked.prog.varsNamed 4))=true:=by kernel_rfl
set_option maxRecDepth 100000 in
theorem aTd:((Rows.fnExactStepTailRow.maps == (Tryz.f4.params.toList++Rows.fnExactStepTailSpec.plain.varTypes Tryz.pinned.checked.prog).any (Tryz.pinned.checked.prog.mapsRec ·)))=true:=by kernel_rfl
set_option maxRecDepth 100000 in
theorem aTa:((Rows.fnExactStepTailRow.ifaces == (Tryz.f4.params.toList++Rows.fnExactStepTailSpec.plain.varTypes Tryz.pinned.checked.prog).any (Tryz.pinned.checked.prog.ifacesRec ·)))=true:=by kernel_rfl
set_option maxRecDepth 100000 in
theorem aR5:((Rows.fnExactStepTailRow.mapsOut == Tryz.pinned.checked.prog.mapsAmong Tryz.f4.resultTypes.toList))=true:=by kernel_rfl
set_option maxRecDepth 100000 in
theorem aRi:((Rows.fnExactStepTailRow.loops == (Tryz.f4.params.toList++Rows.fnExactStepTailSpec.plain.varTypes Tryz.pinned.checked.prog).any (Tryz.pinned.checked.prog.loopsFrom ·)))=true:=by kernel_rfl
set_option maxRecDepth 100000 in
theorem aQ3:((Rows.fnExactStepTailRow.wideKeys == (Tryz.f4.params.toList++Rows.fnExactStepTailSpec.plain.varTypes Tryz.pinned.checked.prog++Tryz.f4.resultTypes.toList).any (Tryz.pinned.checked.prog.wideKeysFrom ·)))=true:=by kernel_rfl
set_option maxRecDepth 100000 in
theorem aRa:(Rows.fnExactStepTailSpec.vars.all (Tryz.pinned.checked.prog.varReadable ·))=true:=by kernel_rfl
set_option maxRecDepth 100000 in
theorem aSo:(Tryz.f4.resultTypes.all (fun t=>Tryz.pinned.checked.prog.readableRec t&&decide (t < Tryz.pinned.checked.prog.types.size)))=true:=by kernel_rfl
set_option maxRecDepth 100000 in
theorem aS9:((Rows.fnExactStepTailRow.ifacesOut == Tryz.f4.resultTypes.toList.any (Tryz.pinned.checked.prog.ifacesRec ·)))=true:=by kernel_rfl
set_option maxRecDepth 100000 in
theorem aS2:((Rows.fnExactStepTailRow.loopsOut == Tryz.f4.resultTypes.toList.any (Tryz.pinned.checked.prog.loopsFrom ·)))=true:=by kernel_rfl
set_option maxRecDepth 100000 in
theorem aSv:((Rows.fnExactStepTailRow.plainKeys == Tryz.pinned.checked.prog.plainKeys))=true:=by kernel_rfl
set_option maxRecDepth 100000 in
theorem aTo:(Rows.fnExactStepTailRow.shortTexts.isNone)=true:=by kernel_rfl
set_option maxRecDepth 100000 in
theorem aS8:(Tryz.pinned.checked.prog.stopsHeard)=true:=by kernel_rfl
set_option maxRecDepth 100000 in
theorem aQ2:(Tryz.pinned.checked.prog.mayEnter)=true:=by kernel_rfl
set_option maxRecDepth 100000 in
theorem aRj:((Rows.fnExactStepTailRow.lifted == Tryz.pinned.checked.prog.liftsFinal))=true:=by kernel_rfl
set_option maxRecDepth 100000 in
theorem aQt:((Tryz.pinned.checked.prog.make == some Rows.fnExactStepTailRow.make))=true:=by kernel_rfl
set_option maxRecDepth 100000 in
theorem aSs:((Rows.fnExactStepTailRow.kinds == (if Rows.fnExactStepTailRow.domain.isEmpty then [] else Tryz.f4.params.toList.map fun t=>match Tryz.pinned.checked.prog.underlying t with|some (.int k)=>some k|_=>none)))=true:=by kernel_rfl
set_option maxRecDepth 100000 in
theorem aP5:((Rows.fnExactStepTailRow.pinned == Rows.fnExactStepTailRow.pinnedBy))=true:=by kernel_rfl
set_option maxRecDepth 100000 in
theorem aTj:((Rows.fnExactStepTailRow.veiled == (Tryz.f4.params.toList++Rows.fnExactStepTailSpec.plain.varTypes Tryz.pinned.checked.prog++Tryz.f4.resultTypes.toList).any (Tryz.pinned.checked.prog.veiledRec ·)))=true:=by kernel_rfl
set_option maxRecDepth 100000 in
theorem aRn:(Rows.fnExactStepTailRow.veiledFits Tryz.pinned.checked.prog Tryz.f4.params.toList (Tryz.f4.params.toList++Rows.fnExactStepTailSpec.plain.varTypes Tryz.pinned.checked.prog++Tryz.f4.resultTypes.toList))=true:=by kernel_rfl
set_option maxRecDepth 100000 in
theorem aJ1:joinedFacts Tryz.pinned.checked.prog 4 Tryz.f4 Rows.fnExactStepTailSpec Rows.fnExactStepTailRow=true:=by
 unfold joinedFacts
 exact (Bool.and_eq_true_iff.2 ⟨(Bool.and_eq_true_iff.2 ⟨(Bool.and_eq_true_iff.2 ⟨(Bool.and_eq_true_iff.2 ⟨(Bool.and_eq_true_iff.2 ⟨(Bool.and_eq_true_iff.2 ⟨(Bool.and_eq_true_iff.2 ⟨(Bool.and_eq_true_iff.2 ⟨(Bool.and_eq_true_iff.2 ⟨(Bool.and_eq_true_iff.2 ⟨(Bool.and_eq_true_iff.2 ⟨(Bool.and_eq_true_iff.2 ⟨(Bool.and_eq_true_iff.2 ⟨(Bool.and_eq_true_iff.2 ⟨(Bool.and_eq_true_iff.2 ⟨(Bool.and_eq_true_iff.2 ⟨(Bool.and_eq_true_iff.2 ⟨(Bool.and_eq_true_iff.2 ⟨(Bool.and_eq_true_iff.2 ⟨(Bool.and_eq_true_iff.2 ⟨(Bool.and_eq_true_iff.2 ⟨(Bool.and_eq_true_iff.2 ⟨(Bool.and_eq_true_iff.2 ⟨(Bool.and_eq_true_iff.2 ⟨(Bool.and_eq_true_iff.2 ⟨(Bool.and_eq_true_iff.2 ⟨(Bool.and_eq_true_iff.2 ⟨(Bool.and_eq_true_iff.2 ⟨(Bool.and_eq_true_iff.2 ⟨(Bool.and_eq_true_iff.2 ⟨(Bool.and_eq_true_iff.2 ⟨aU0,aUe⟩),aUn⟩),aVf⟩),aUq⟩),aUx⟩),aUi⟩),aT4⟩),aUd⟩),aTw⟩),aSw⟩),aQq⟩),aRv⟩),aTd⟩),aTa⟩),aR5⟩),aRi⟩),aQ3⟩),aRa⟩),aSo⟩),aS9⟩),aS2⟩),aSv⟩),aTo⟩),aS8⟩),aQ2⟩),aRj⟩),aQt⟩),aSs⟩),aP5⟩),aTj⟩),aRn⟩)
end Go.Proofs.YtlnblmmohpcceaaGreatDoor
