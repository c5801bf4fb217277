/- Proved here: steps towards the statement of this claim. No condition. -/
import Derived.Test.YtlnblmmohpcceaaGreatDoorZF7
import Derived.Lay
import Derived.Test.YtlnblmmohpcceaaGreatDoorCards
import Derived.Test.YtlnblmmohpcceaaGreatDoorTie
set_option linter.all false
namespace Go.Proofs.YtlnblmmohpcceaaGreatDoor
open Go.Aw Proofs.Tryz List IntKind
set_option maxRecDepth 100000 in
theorem aBz:(Rows.fnExactStepParserRow.wf (OpenSpec.ofChange Rows.fnExactStepParserSpec))=true:=by kernel_rfl
set_option maxRecDepth 100000 in
theorem aB1:(laidOutB Tryz.pinned.checked.prog)=true:=by kernel_rfl
set_option maxRecDepth 100000 in
theorem aB2:(mapsRowed Tryz.pinned.checked.prog)=true:=by kernel_rfl
set_option maxRecDepth 100000 in
theorem aB5:(f5.params.all (Tryz.pinned.checked.prog.readableRec ·))=true:=by kernel_rfl
set_option maxRecDepth 100000 in
theorem aCs:(namedTie Tryz.pinned.checked.prog Rows.fnExactStepParserRow.named Rows.fnExactStepParserSpec.vars)=true:=by kernel_rfl
set_option maxRecDepth 100000 in
theorem aCt:((Rows.fnExactStepParserRow.stops == []))=true:=by kernel_rfl
set_option maxRecDepth 100000 in
theorem aC4:((Tryz.pinned.checked.prog.stops == []))=true:=by kernel_rfl
set_option maxRecDepth 100000 in
theorem aC5:((Rows.fnExactStepParserRow.knobs == []))=true:=by kernel_rfl
set_option maxRecDepth 100000 in
theorem aC6:((Tryz.pinned.checked.prog.stopKnobs == []))=true:=by kernel_rfl
set_option maxRecDepth 100000 in
theorem aC7:((Rows.fnExactStepParserRow.inPlace == Tryz.pinned.checked.prog.inPlace 5))=true:=by kernel_rfl
set_option maxRecDepth 100000 in
theorem aA4:((Rows.fnExactStepParserRow.unfollowed == Tryz.pinned.checked.prog.unfollowed 5))=true:=by kernel_rfl
set_option maxRecDepth 100000 in
theorem aA5:((Rows.fnExactStepParserRow.recurses == Tryz.pinned.checked.prog.recurses 5))=true:=by kernel_rfl
set_option maxRecDepth 100000 in
theorem aA6:((Rows.fnExactStepParserRow.named == Tryz.pinned.checked.prog.varsNamed 5))=true:=by kernel_rfl
set_option maxRecDepth 100000 in
theorem aA7:((Rows.fnExactStepParserRow.maps == (f5.params.toList++Rows.fnExactStepParserSpec.plain.varTypes Tryz.pinned.checked.prog).any (Tryz.pinned.checked.prog.mapsRec ·)))=true:=by kernel_rfl
set_option maxRecDepth 100000 in
theorem aA8:((Rows.fnExactStepParserRow.ifaces == (f5.params.toList++Rows.fnExactStepParserSpec.plain.varTypes Tryz.pinned.checked.prog).any (Tryz.pinned.checked.prog.ifacesRec ·)))=true:=by kernel_rfl
set_option maxRecDepth 100000 in
theorem aA9:((Rows.fnExactStepParserRow.mapsOut == Tryz.pinned.checked.prog.mapsAmong f5.resultTypes.toList))=true:=by kernel_rfl
set_option maxRecDepth 100000 in
theorem aBa:((Rows.fnExactStepParserRow.loops == (f5.params.toList++Rows.fnExactStepParserSpec.plain.varTypes Tryz.pinned.checked.prog).any (Tryz.pinned.checked.prog.loopsFrom ·)))=true:=by kernel_rfl
set_option maxRecDepth 100000 in
theorem aBb:((Rows.fnExactStepParserRow.wideKeys == (f5.params.toList++Rows.fnExactStepParserSpec.plain.varTypes Tryz.pinned.checked.prog++f5.resultTypes.toList).any (Tryz.pinned.checked.prog.wideKeysFrom ·)))=true:=by kernel_rfl
set_option maxRecDepth 100000 in
theorem aBc:(Rows.fnExactStepParserSpec.vars.all (Tryz.pinned.checked.prog.varReadable ·))=true:=by kernel_rfl
set_option maxRecDepth 100000 in
theorem aBd:(f5.resultTypes.all (fun t=>Tryz.pinned.checked.prog.readableRec t&&decide (t < Tryz.pinned.checked.prog.types.size)))=true:=by kernel_rfl
set_option maxRecDepth 100000 in
theorem aBe:((Rows.fnExactStepParserRow.ifacesOut == f5.resultTypes.toList.any (Tryz.pinned.checked.prog.ifacesRec ·)))=true:=by kernel_rfl
set_option maxRecDepth 100000 in
theorem aBf:((Rows.fnExactStepParserRow.loopsOut == f5.resultTypes.toList.any (Tryz.pinned.checked.prog.loopsFrom ·)))=true:=by kernel_rfl
set_option maxRecDepth 100000 in
theorem aBg:((Rows.fnExactStepParserRow.plainKeys == Tryz.pinned.checked.prog.plainKeys))=true:=by kernel_rfl
set_option maxRecDepth 100000 in
theorem aBh:(Rows.fnExactStepParserRow.shortTexts.isNone)=true:=by kernel_rfl
set_option maxRecDepth 100000 in
theorem aBi:(Tryz.pinned.checked.prog.stopsHeard)=true:=by kernel_rfl
set_option maxRecDepth 100000 in
theorem aBj:(Tryz.pinned.checked.prog.mayEnter)=true:=by kernel_rfl
set_option maxRecDepth 100000 in
theorem aBk:((Rows.fnExactStepParserRow.lifted == Tryz.pinned.checked.prog.liftsFinal))=true:=by kernel_rfl
set_option maxRecDepth 100000 in
theorem aBm:((Tryz.pinned.checked.prog.make == some Rows.fnExactStepParserRow.make))=true:=by kernel_rfl
set_option maxRecDepth 100000 in
theorem aBo:((Rows.fnExactStepParserRow.kinds == (if Rows.fnExactStepParserRow.domain.isEmpty then [] else f5.params.toList.map fun t=>match Tryz.pinned.checked.prog.underlying t with|some (.int k)=>some k|_=>none)))=true:=by kernel_rfl
set_option maxRecDepth 100000 in
theorem aBp:((Rows.fnExactStepParserRow.pinned == Rows.fnExactStepParserRow.pinnedBy))=true:=by kernel_rfl
set_option maxRecDepth 100000 in
theorem aBr:((Rows.fnExactStepParserRow.veiled == (f5.params.toList++Rows.fnExactStepParserSpec.plain.varTypes Tryz.pinned.checked.prog++f5.resultTypes.toList).any (Tryz.pinned.checked.prog.veiledRec ·)))=true:=by kernel_rfl
set_option maxRecDepth 100000 in
theorem aBt:(Rows.fnExactStepParserRow.veiledFits Tryz.pinned.checked.prog f5.params.toList (f5.params.toList++Rows.fnExactStepParserSpec.plain.varTypes Tryz.pinned.checked.prog++f5.resultTypes.toList))=true:=by kernel_rfl
set_option maxRecDepth 100000 in
theorem aA1:joinedFacts Tryz.pinned.checked.prog 5 f5 Rows.fnExactStepParserSpec Rows.fnExactStepParserRow=true:=by
 unfold joinedFacts
 exact (Bool.and_eq_true_iff.2 ⟨(Bool.and_eq_true_iff.2 ⟨(Bool.and_eq_true_iff.2 ⟨(Bool.and_eq_true_iff.2 ⟨(Bool.and_eq_true_iff.2 ⟨(Bool.and_eq_true_iff.2 ⟨(Bool.and_eq_true_iff.2 ⟨(Bool.and_eq_true_iff.2 ⟨(Bool.and_eq_true_iff.2 ⟨(Bool.and_eq_true_iff.2 ⟨(Bool.and_eq_true_iff.2 ⟨(Bool.and_eq_true_iff.2 ⟨(Bool.and_eq_true_iff.2 ⟨(Bool.and_eq_true_iff.2 ⟨(Bool.and_eq_true_iff.2 ⟨(Bool.and_eq_true_iff.2 ⟨(Bool.and_eq_true_iff.2 ⟨(Bool.and_eq_true_iff.2 ⟨(Bool.and_eq_true_iff.2 ⟨(Bool.and_eq_true_iff.2 ⟨(Bool.and_eq_true_iff.2 ⟨(Bool.and_eq_true_iff.2 ⟨(Bool.and_eq_true_iff.2 ⟨(Bool.and_eq_true_iff.2 ⟨(Bool.and_eq_true_iff.2 ⟨(Bool.and_eq_true_iff.2 ⟨(Bool.and_eq_true_iff.2 ⟨(Bool.and_eq_true_iff.2 ⟨(Bool.and_eq_true_iff.2 ⟨(Bool.and_eq_true_iff.2 ⟨(Bool.and_eq_true_iff.2 ⟨aBz,aB1⟩),aB2⟩),aB5⟩),aCs⟩),aCt⟩),aC4⟩),aC5⟩),aC6⟩),aC7⟩),aA4⟩),aA5⟩),aA6⟩),aA7⟩),aA8⟩),aA9⟩),aBa⟩),aBb⟩),aBc⟩),aBd⟩),aBe⟩),aBf⟩),aBg⟩),aBh⟩),aBi⟩),aBj⟩),aBk⟩),aBm⟩),aBo⟩),aBp⟩),aBr⟩),aBt⟩)
end Go.Proofs.YtlnblmmohpcceaaGreatDoor
