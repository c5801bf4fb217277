/- Proved here: steps towards the statement of this claim. No condition. -/
import Derived.Test.YtlnblmmohpcceaaGreatDoorZF7
import Derived.Lay
import Derived.Test.YtlnblmmohpcceaaGreatDoorCards
import Derived.Test.YtlnblmmohpcceaaGreatDoorTie
set_option linter.all false
namespace Go.Proofs.YtlnblmmohpcceaaGreatDoor
open Go.Aw Proofs.Tryz List IntKind
set_option maxRecDepth 100000 in
theorem aEl:(Rows.fnExactStepTailRow.wf (OpenSpec.ofChange Rows.fnExactStepTailSpec))=true:=by kernel_rfl
set_option maxRecDepth 100000 in
theorem aEo:(laidOutB Tryz.pinned.checked.prog)=true:=by kernel_rfl
set_option maxRecDepth 100000 in
theorem aEp:(mapsRowed Tryz.pinned.checked.prog)=true:=by kernel_rfl
set_option maxRecDepth 100000 in
theorem aEs:(f4.params.all (Tryz.pinned.checked.prog.readableRec ·))=true:=by kernel_rfl
set_option maxRecDepth 100000 in
theorem aEt:(namedTie Tryz.pinned.checked.prog Rows.fnExactStepTailRow.named Rows.fnExactStepTailSpec.vars)=true:=by kernel_rfl
set_option maxRecDepth 100000 in
theorem aEv:((Rows.fnExactStepTailRow.stops == []))=true:=by kernel_rfl
set_option maxRecDepth 100000 in
theorem aEw:((Tryz.pinned.checked.prog.stops == []))=true:=by kernel_rfl
set_option maxRecDepth 100000 in
theorem aFc:((Rows.fnExactStepTailRow.knobs == []))=true:=by kernel_rfl
set_option maxRecDepth 100000 in
theorem aFh:((Tryz.pinned.checked.prog.stopKnobs == []))=true:=by kernel_rfl
set_option maxRecDepth 100000 in
theorem aFk:((Rows.fnExactStepTailRow.inPlace == Tryz.pinned.checked.prog.inPlace 4))=true:=by kernel_rfl
set_option maxRecDepth 100000 in
theorem aDb:((Rows.fnExactStepTailRow.unfollowed == Tryz.pinned.checked.prog.unfollowed 4))=true:=by kernel_rfl
set_option maxRecDepth 100000 in
theorem aDc:((Rows.fnExactStepTailRow.recurses == Tryz.pinned.checked.prog.recurses 4))=true:=by kernel_rfl
set_option maxRecDepth 100000 in
theorem aDd:((Rows.fnExactStepTailRow.named == Tryz.pinned.checked.prog.varsNamed 4))=true:=by kernel_rfl
set_option maxRecDepth 100000 in
theorem aDf:((Rows.fnExactStepTailRow.maps == (f4.params.toList++Rows.fnExactStepTailSpec.plain.varTypes Tryz.pinned.checked.prog).any (Tryz.pinned.checked.prog.mapsRec ·)))=true:=by kernel_rfl
set_option maxRecDepth 100000 in
theorem aDg:((Rows.fnExactStepTailRow.ifaces == (f4.params.toList++Rows.fnExactStepTailSpec.plain.varTypes Tryz.pinned.checked.prog).any (Tryz.pinned.checked.prog.ifacesRec ·)))=true:=by kernel_rfl
set_option maxRecDepth 100000 in
theorem aDh:((Rows.fnExactStepTailRow.mapsOut == Tryz.pinned.checked.prog.mapsAmong f4.resultTypes.toList))=true:=by kernel_rfl
set_option maxRecDepth 100000 in
theorem aDi:((Rows.fnExactStepTailRow.loops == (f4.params.toList++Rows.fnExactStepTailSpec.plain.varTypes Tryz.pinned.checked.prog).any (Tryz.pinned.checked.prog.loopsFrom ·)))=true:=by kernel_rfl
set_option maxRecDepth 100000 in
theorem aDj:((Rows.fnExactStepTailRow.wideKeys == (f4.params.toList++Rows.fnExactStepTailSpec.plain.varTypes Tryz.pinned.checked.prog++f4.resultTypes.toList).any (Tryz.pinned.checked.prog.wideKeysFrom ·)))=true:=by kernel_rfl
set_option maxRecDepth 100000 in
theorem aDk:(Rows.fnExactStepTailSpec.vars.all (Tryz.pinned.checked.prog.varReadable ·))=true:=by kernel_rfl
set_option maxRecDepth 100000 in
theorem aDl:(f4.resultTypes.all (fun t=>Tryz.pinned.checked.prog.readableRec t&&decide (t < Tryz.pinned.checked.prog.types.size)))=true:=by kernel_rfl
set_option maxRecDepth 100000 in
theorem aDm:((Rows.fnExactStepTailRow.ifacesOut == f4.resultTypes.toList.any (Tryz.pinned.checked.prog.ifacesRec ·)))=true:=by kernel_rfl
set_option maxRecDepth 100000 in
theorem aDr:((Rows.fnExactStepTailRow.loopsOut == f4.resultTypes.toList.any (Tryz.pinned.checked.prog.loopsFrom ·)))=true:=by kernel_rfl
set_option maxRecDepth 100000 in
theorem aDw:((Rows.fnExactStepTailRow.plainKeys == Tryz.pinned.checked.prog.plainKeys))=true:=by kernel_rfl
set_option maxRecDepth 100000 in
theorem aD2:(Rows.fnExactStepTailRow.shortTexts.isNone)=true:=by kernel_rfl
set_option maxRecDepth 100000 in
theorem aD3:(Tryz.pinned.checked.prog.stopsHeard)=true:=by kernel_rfl
set_option maxRecDepth 100000 in
theorem aD4:(Tryz.pinned.checked.prog.mayEnter)=true:=by kernel_rfl
set_option maxRecDepth 100000 in
theorem aD5:((Rows.fnExactStepTailRow.lifted == Tryz.pinned.checked.prog.liftsFinal))=true:=by kernel_rfl
set_option maxRecDepth 100000 in
theorem aD6:((Tryz.pinned.checked.prog.make == some Rows.fnExactStepTailRow.make))=true:=by kernel_rfl
set_option maxRecDepth 100000 in
theorem aD7:((Rows.fnExactStepTailRow.kinds == (if Rows.fnExactStepTailRow.domain.isEmpty then [] else f4.params.toList.map fun t=>match Tryz.pinned.checked.prog.underlying t with|some (.int k)=>some k|_=>none)))=true:=by kernel_rfl
set_option maxRecDepth 100000 in
theorem aD8:((Rows.fnExactStepTailRow.pinned == Rows.fnExactStepTailRow.pinnedBy))=true:=by kernel_rfl
set_option maxRecDepth 100000 in
theorem aEa:((Rows.fnExactStepTailRow.veiled == (f4.params.toList++Rows.fnExactStepTailSpec.plain.varTypes Tryz.pinned.checked.prog++f4.resultTypes.toList).any (Tryz.pinned.checked.prog.veiledRec ·)))=true:=by kernel_rfl
set_option maxRecDepth 100000 in
theorem aEb:(Rows.fnExactStepTailRow.veiledFits Tryz.pinned.checked.prog f4.params.toList (f4.params.toList++Rows.fnExactStepTailSpec.plain.varTypes Tryz.pinned.checked.prog++f4.resultTypes.toList))=true:=by kernel_rfl
set_option maxRecDepth 100000 in
theorem aA3:joinedFacts Tryz.pinned.checked.prog 4 f4 Rows.fnExactStepTailSpec Rows.fnExactStepTailRow=true:=by
 unfold joinedFacts
 exact (Bool.and_eq_true_iff.2 ⟨(Bool.and_eq_true_iff.2 ⟨(Bool.and_eq_true_iff.2 ⟨(Bool.and_eq_true_iff.2 ⟨(Bool.and_eq_true_iff.2 ⟨(Bool.and_eq_true_iff.2 ⟨(Bool.and_eq_true_iff.2 ⟨(Bool.and_eq_true_iff.2 ⟨(Bool.and_eq_true_iff.2 ⟨(Bool.and_eq_true_iff.2 ⟨(Bool.and_eq_true_iff.2 ⟨(Bool.and_eq_true_iff.2 ⟨(Bool.and_eq_true_iff.2 ⟨(Bool.and_eq_true_iff.2 ⟨(Bool.and_eq_true_iff.2 ⟨(Bool.and_eq_true_iff.2 ⟨(Bool.and_eq_true_iff.2 ⟨(Bool.and_eq_true_iff.2 ⟨(Bool.and_eq_true_iff.2 ⟨(Bool.and_eq_true_iff.2 ⟨(Bool.and_eq_true_iff.2 ⟨(Bool.and_eq_true_iff.2 ⟨(Bool.and_eq_true_iff.2 ⟨(Bool.and_eq_true_iff.2 ⟨(Bool.and_eq_true_iff.2 ⟨(Bool.and_eq_true_iff.2 ⟨(Bool.and_eq_true_iff.2 ⟨(Bool.and_eq_true_iff.2 ⟨(Bool.and_eq_true_iff.2 ⟨(Bool.and_eq_true_iff.2 ⟨(Bool.and_eq_true_iff.2 ⟨aEl,aEo⟩),aEp⟩),aEs⟩),aEt⟩),aEv⟩),aEw⟩),aFc⟩),aFh⟩),aFk⟩),aDb⟩),aDc⟩),aDd⟩),aDf⟩),aDg⟩),aDh⟩),aDi⟩),aDj⟩),aDk⟩),aDl⟩),aDm⟩),aDr⟩),aDw⟩),aD2⟩),aD3⟩),aD4⟩),aD5⟩),aD6⟩),aD7⟩),aD8⟩),aEa⟩),aEb⟩)
end Go.Proofs.YtlnblmmohpcceaaGreatDoor
