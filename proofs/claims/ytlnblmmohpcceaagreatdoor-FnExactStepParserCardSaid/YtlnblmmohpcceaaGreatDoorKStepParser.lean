/-
  Proved here: steps towards the statement of this claim, text KStepParser.
  No condition beyond what each statement spells out.
-/
import Derived.Test.YtlnblmmohpcceaaGreatDoorF7
import Derived.Lay
import Derived.SevenTiedAt
import Derived.Test.YtlnblmmohpcceaaGreatDoorRows
import Derived.Test.YtlnblmmohpcceaaGreatDoorCards
import Derived.Test.YtlnblmmohpcceaaGreatDoorTie
set_option linter.all false
namespace Go.Proofs.YtlnblmmohpcceaaGreatDoor
open Go.Aw
set_option maxRecDepth 100000 in
theorem aO9:(Rows.fnExactStepParserRow.wf (OpenSpec.ofChange Rows.fnExactStepParserSpec))=true:=by kernel_rfl
set_option maxRecDepth 100000 in
theorem aPi:(laidOutB Tryz.pinned.checked.prog)=true:=by kernel_rfl
set_option maxRecDepth 100000 in
theorem aOx:(mapsRowed Tryz.pinned.checked.prog)=true:=by kernel_rfl
set_option maxRecDepth 100000 in
theorem aPg:(Tryz.f5.params.all (Tryz.pinned.checked.prog.readableRec ·))=true:=by kernel_rfl
set_option maxRecDepth 100000 in
theorem aPk:(namedTie Tryz.pinned.checked.prog Rows.fnExactStepParserRow.named Rows.fnExactStepParserSpec.vars)=true:=by kernel_rfl
set_option maxRecDepth 100000 in
theorem aPr:((Rows.fnExactStepParserRow.stops == []))=true:=by kernel_rfl
set_option maxRecDepth 100000 in
theorem aO4:((Tryz.pinned.checked.prog.stops == []))=true:=by kernel_rfl
set_option maxRecDepth 100000 in
theorem aPn:((Rows.fnExactStepParserRow.knobs == []))=true:=by kernel_rfl
set_option maxRecDepth 100000 in
theorem aPt:((Tryz.pinned.checked.prog.stopKnobs == []))=true:=by kernel_rfl
set_option maxRecDepth 100000 in
theorem aPp:((Rows.fnExactStepParserRow.inPlace == Tryz.pinned.checked.prog.inPlace 5))=true:=by kernel_rfl
set_option maxRecDepth 100000 in
theorem aM4:((Rows.fnExactStepParserRow.unfollowed == Tryz.pinned.checked.prog.unfollowed 5))=true:=by kernel_rfl
set_option maxRecDepth 100000 in
theorem aMf:((Rows.fnExactStepParserRow.recurses == Tryz.pinned.checked.prog.recurses 5))=true:=by kernel_rfl
set_option maxRecDepth 100000 in
theorem aL9:((Rows.fnExactStepParserRow.named == Tryz.pinned.checked.prog.varsNamed 5))=true:=by kernel_rfl
set_option maxRecDepth 100000 in
theorem aMv:((Rows.fnExactStepParserRow.maps == (Tryz.f5.params.toList++Rows.fnExactStepParserSpec.plain.varTypes Tryz.pinned.checked.prog).any (Tryz.pinned.checked.prog.mapsRec ·)))=true:=by kernel_rfl
set_option maxRecDepth 100000 in
theorem aLo:((Rows.fnExactStepParserRow.ifaces == (Tryz.f5.params.toList++Rows.fnExactStepParserSpec.plain.varTypes Tryz.pinned.checked.prog).any (Tryz.pinned.checked.prog.ifacesRec ·)))=true:=by kernel_rfl
set_option maxRecDepth 100000 in
theorem aLr:((Rows.fnExactStepParserRow.mapsOut == Tryz.pinned.checked.prog.mapsAmong Tryz.f5.resultTypes.toList))=true:=by kernel_rfl
set_option maxRecDepth 100000 in
theorem aMk:((Rows.fnExactStepParserRow.loops == (Tryz.f5.params.toList++Rows.fnExactStepParserSpec.plain.varTypes Tryz.pinned.checked.prog).any (Tryz.pinned.checked.prog.loopsFrom ·)))=true:=by kernel_rfl
set_option maxRecDepth 100000 in
theorem aLk:((Rows.fnExactStepParserRow.wideKeys == (Tryz.f5.params.toList++Rows.fnExactStepParserSpec.plain.varTypes Tryz.pinned.checked.prog++Tryz.f5.resultTypes.toList).any (Tryz.pinned.checked.prog.wideKeysFrom ·)))=true:=by kernel_rfl
set_option maxRecDepth 100000 in
theorem aMu:(Rows.fnExactStepParserSpec.vars.all (Tryz.pinned.checked.prog.varReadable ·))=true:=by kernel_rfl
set_option maxRecDepth 100000 in
theorem aL7:(Tryz.f5.resultTypes.all (fun t=>Tryz.pinned.checked.prog.readableRec t&&decide (t < Tryz.pinned.checked.prog.types.size)))=true:=by kernel_rfl
set_option maxRecDepth 100000 in
theorem aMo:((Rows.fnExactStepParserRow.ifacesOut == Tryz.f5.resultTypes.toList.any (Tryz.pinned.checked.prog.ifacesRec ·)))=true:=by kernel_rfl
set_option maxRecDepth 100000 in
theorem aLm:((Rows.fnExactStepParserRow.loopsOut == Tryz.f5.resultTypes.toList.any (Tryz.pinned.checked.prog.loopsFrom ·)))=true:=by kernel_rfl
set_option maxRecDepth 100000 in
theorem aLi:((Rows.fnExactStepParserRow.plainKeys == Tryz.pinned.checked.prog.plainKeys))=true:=by kernel_rfl
set_option maxRecDepth 100000 in
theorem aLy:(Rows.fnExactStepParserRow.shortTexts.isNone)=true:=by kernel_rfl
set_option maxRecDepth 100000 in
theorem aMs:(Tryz.pinned.checked.prog.stopsHeard)=true:=by kernel_rfl
set_option maxRecDepth 100000 in
theorem aMq:(Tryz.pinned.checked.prog.mayEnter)=true:=by kernel_rfl
set_option maxRecDepth 100000 in
theorem aMg:((Rows.fnExactStepParserRow.lifted == Tryz.pinned.checked.prog.liftsFinal))=true:=by kernel_rfl
set_option maxRecDepth 100000 in
theorem aLq:((Tryz.pinned.checked.prog.make == some Rows.fnExactStepParserRow.make))=true:=by kernel_rfl
set_option maxRecDepth 100000 in
theorem aL0:((Rows.fnExactStepParserRow.kinds == (if Rows.fnExactStepParserRow.domain.isEmpty then [] else Tryz.f5.params.toList.map fun t=>match Tryz.pinned.checked.prog.underlying t with|some (.int k)=>some k|_=>none)))=true:=by kernel_rfl
set_option maxRecDepth 100000 in
theorem aL8:((Rows.fnExactStepParserRow.pinned == Rows.fnExactStepParserRow.pinnedBy))=true:=by kernel_rfl
set_option maxRecDepth 100000 in
theorem aMw:((Rows.fnExactStepParserRow.veiled == (Tryz.f5.params.toList++Rows.fnExactStepParserSpec.plain.varTypes Tryz.pinned.checked.prog++Tryz.f5.resultTypes.toList).any (Tryz.pinned.checked.prog.veiledRec ·)))=true:=by kernel_rfl
set_option maxRecDepth 100000 in
theorem aLx:(Rows.fnExactStepParserRow.veiledFits Tryz.pinned.checked.prog Tryz.f5.params.toList (Tryz.f5.params.toList++Rows.fnExactStepParserSpec.plain.varTypes Tryz.pinned.checked.prog++Tryz.f5.resultTypes.toList))=true:=by kernel_rfl
set_option maxRecDepth 100000 in
theorem aG3:joinedFacts Tryz.pinned.checked.prog 5 Tryz.f5 Rows.fnExactStepParserSpec Rows.fnExactStepParserRow=true:=by
 unfold joinedFacts
 exact (Bool.and_eq_true_iff.2 ⟨(Bool.and_eq_true_iff.2 ⟨(Bool.and_eq_true_iff.2 ⟨(Bool.and_eq_true_iff.2 ⟨(Bool.and_eq_true_iff.2 ⟨(Bool.and_eq_true_iff.2 ⟨(Bool.and_eq_true_iff.2 ⟨(Bool.and_eq_true_iff.2 ⟨(Bool.and_eq_true_iff.2 ⟨(Bool.and_eq_true_iff.2 ⟨(Bool.and_eq_true_iff.2 ⟨(Bool.and_eq_true_iff.2 ⟨(Bool.and_eq_true_iff.2 ⟨(Bool.and_eq_true_iff.2 ⟨(Bool.and_eq_true_iff.2 ⟨(Bool.and_eq_true_iff.2 ⟨(Bool.and_eq_true_iff.2 ⟨(Bool.and_eq_true_iff.2 ⟨(Bool.and_eq_true_iff.2 ⟨(Bool.and_eq_true_iff.2 ⟨(Bool.and_eq_true_iff.2 ⟨(Bool.and_eq_true_iff.2 ⟨(Bool.and_eq_true_iff.2 ⟨(Bool.and_eq_true_iff.2 ⟨(Bool.and_eq_true_iff.2 ⟨(Bool.and_eq_true_iff.2 ⟨(Bool.and_eq_true_iff.2 ⟨(Bool.and_eq_true_iff.2 ⟨(Bool.and_eq_true_iff.2 ⟨(Bool.and_eq_true_iff.2 ⟨(Bool.and_eq_true_iff.2 ⟨aO9,aPi⟩),aOx⟩),aPg⟩),aPk⟩),aPr⟩),aO4⟩),aPn⟩),aPt⟩),aPp⟩),aM4⟩),aMf⟩),aL9⟩),aMv⟩),aLo⟩),aLr⟩),aMk⟩),aLk⟩),aMu⟩),aL7⟩),aMo⟩),aLm⟩),aLi⟩),aLy⟩),aMs⟩),aMq⟩),aMg⟩),aLq⟩),aL0⟩),aL8⟩),aMw⟩),aLx⟩)
end Go.Proofs.YtlnblmmohpcceaaGreatDoor
