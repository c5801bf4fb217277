/-
  Proved here: steps towards the statement of this claim, text KFnImports.
  No condition beyond what each statement spells out.
-/
import Derived.Test.YtajppdidkjbmkaaGreatDoorF5
import Derived.Lay
import Derived.SevenTiedAt
import Derived.Test.YtajppdidkjbmkaaGreatDoorRows
import Derived.Test.YtajppdidkjbmkaaGreatDoorCards
import Derived.Test.YtajppdidkjbmkaaGreatDoorTie
set_option linter.all false
namespace Go.Proofs.YtajppdidkjbmkaaGreatDoor
open Go.Aw
set_option maxRecDepth 100000 in
theorem aL2:(Rows.fnImportsRow.wf (OpenSpec.ofChange Rows.fnImportsSpec))=true:=by kernel_rfl
set_option maxRecDepth 100000 in
theorem aLj:(laidOutB Tryz.pinned.checked.prog)=true:=by kernel_rfl
set_option maxRecDepth 100000 in
theorem aLs:(mapsRowed Tryz.pinned.checked.prog)=true:=by kernel_rfl
set_option maxRecDepth 100000 in
theorem aL8:(Tryz.f3.params.all (Tryz.pinned.checked.prog.readableRec ·))=true:=by kernel_rfl
set_option maxRecDepth 100000 in
theorem aL6:(namedTie Tryz.pinned.checked.prog Rows.fnImportsRow.named Rows.fnImportsSpec.vars)=true:=by kernel_rfl
set_option maxRecDepth 100000 in
theorem aK9:((Rows.fnImportsRow.stops == []))=true:=by kernel_rfl
set_option maxRecDepth 100000 in
theorem aMp:((Tryz.pinned.checked.prog.stops == []))=true:=by kernel_rfl
set_option maxRecDepth 100000 in
theorem aKf:((Rows.fnImportsRow.knobs == []))=true:=by kernel_rfl
set_option maxRecDepth 100000 in
theorem aLd:((Tryz.pinned.checked.prog.stopKnobs == []))=true:=by kernel_rfl
set_option maxRecDepth 100000 in
theorem aJ2:((Rows.fnImportsRow.inPlace == Tryz.pinned.checked.prog.inPlace 3))=true:=by kernel_rfl
set_option maxRecDepth 100000 in
theorem aJn:((Rows.fnImportsRow.unfollowed == Tryz.pinned.checked.prog.unfollowed 3))=true:=by kernel_rfl
set_option maxRecDepth 100000 in
theorem aJm:((Rows.fnImportsRow.recurses == Tryz.pinned.checked.prog.recurses 3))=true:=by kernel_rfl
set_option maxRecDepth 100000 in
theorem aJe:((Rows.fnImportsRow.named == Tryz.pinned.checked.prog.varsNamed 3))=true:=by kernel_rfl
set_option maxRecDepth 100000 in
theorem aJf:((Rows.fnImportsRow.maps == (Tryz.f3.params.toList++Rows.fnImportsSpec.plain.varTypes Tryz.pinned.checked.prog).any (Tryz.pinned.checked.prog.mapsRec ·)))=true:=by kernel_rfl
set_option maxRecDepth 100000 in
theorem aIu:((Rows.fnImportsRow.ifaces == (Tryz.f3.params.toList++Rows.fnImportsSpec.plain.varTypes Tryz.pinned.checked.prog).any (Tryz.pinned.checked.prog.ifacesRec ·)))=true:=by kernel_rfl
set_option maxRecDepth 100000 in
theorem aJr:((Rows.fnImportsRow.mapsOut == Tryz.pinned.checked.prog.mapsAmong Tryz.f3.resultTypes.toList))=true:=by kernel_rfl
set_option maxRecDepth 100000 in
theorem aJb:((Rows.fnImportsRow.loops == (Tryz.f3.params.toList++Rows.fnImportsSpec.plain.varTypes Tryz.pinned.checked.prog).any (Tryz.pinned.checked.prog.loopsFrom ·)))=true:=by kernel_rfl
set_option maxRecDepth 100000 in
theorem aJa:((Rows.fnImportsRow.wideKeys == (Tryz.f3.params.toList++Rows.fnImportsSpec.plain.varTypes Tryz.pinned.checked.prog++Tryz.f3.resultTypes.toList).any (Tryz.pinned.checked.prog.wideKeysFrom ·)))=true:=by kernel_rfl
set_option maxRecDepth 100000 in
theorem aI4:(Rows.fnImportsSpec.vars.all (Tryz.pinned.checked.prog.varReadable ·))=true:=by kernel_rfl
set_option maxRecDepth 100000 in
theorem aI0:(Tryz.f3.resultTypes.all (fun t=>Tryz.pinned.checked.prog.readableRec t&&decide (t < Tryz.pinned.checked.prog.types.size)))=true:=by kernel_rfl
set_option maxRecDepth 100000 in
theorem aI6:((Rows.fnImportsRow.ifacesOut == Tryz.f3.resultTypes.toList.any (Tryz.pinned.checked.prog.ifacesRec ·)))=true:=by kernel_rfl
set_option maxRecDepth 100000 in
theorem aI7:((Rows.fnImportsRow.loopsOut == Tryz.f3.resultTypes.toList.any (Tryz.pinned.checked.prog.loopsFrom ·)))=true:=by kernel_rfl
set_option maxRecDepth 100000 in
theorem aIz:((Rows.fnImportsRow.plainKeys == Tryz.pinned.checked.prog.plainKeys))=true:=by kernel_rfl
set_option maxRecDepth 100000 in
theorem aI5:(Rows.fnImportsRow.shortTexts.isNone)=true:=by kernel_rfl
set_option maxRecDepth 100000 in
theorem aIv:(Tryz.pinned.checked.prog.stopsHeard)=true:=by kernel_rfl
set_option maxRecDepth 100000 in
theorem aIp:(Tryz.pinned.checked.prog.mayEnter)=true:=by kernel_rfl
set_option maxRecDepth 100000 in
theorem aI8:((Rows.fnImportsRow.lifted == Tryz.pinned.checked.prog.liftsFinal))=true:=by kernel_rfl
set_option maxRecDepth 100000 in
theorem aJg:((Tryz.pinned.checked.prog.make == some Rows.fnImportsRow.make))=true:=by kernel_rfl
set_option maxRecDepth 100000 in
theorem aJo:((Rows.fnImportsRow.kinds == (if Rows.fnImportsRow.domain.isEmpty then [] else Tryz.f3.params.toList.map fun t=>match Tryz.pinned.checked.prog.underlying t with|some (.int k)=>some k|_=>none)))=true:=by kernel_rfl
set_option maxRecDepth 100000 in
theorem aJd:((Rows.fnImportsRow.pinned == Rows.fnImportsRow.pinnedBy))=true:=by kernel_rfl
set_option maxRecDepth 100000 in
theorem aIt:((Rows.fnImportsRow.veiled == (Tryz.f3.params.toList++Rows.fnImportsSpec.plain.varTypes Tryz.pinned.checked.prog++Tryz.f3.resultTypes.toList).any (Tryz.pinned.checked.prog.veiledRec ·)))=true:=by kernel_rfl
set_option maxRecDepth 100000 in
theorem aI2:(Rows.fnImportsRow.veiledFits Tryz.pinned.checked.prog Tryz.f3.params.toList (Tryz.f3.params.toList++Rows.fnImportsSpec.plain.varTypes Tryz.pinned.checked.prog++Tryz.f3.resultTypes.toList))=true:=by kernel_rfl
set_option maxRecDepth 100000 in
theorem aD1:joinedFacts Tryz.pinned.checked.prog 3 Tryz.f3 Rows.fnImportsSpec Rows.fnImportsRow=true:=by
 unfold joinedFacts
 exact (Bool.and_eq_true_iff.2 ⟨(Bool.and_eq_true_iff.2 ⟨(Bool.and_eq_true_iff.2 ⟨(Bool.and_eq_true_iff.2 ⟨(Bool.and_eq_true_iff.2 ⟨(Bool.and_eq_true_iff.2 ⟨(Bool.and_eq_true_iff.2 ⟨(Bool.and_eq_true_iff.2 ⟨(Bool.and_eq_true_iff.2 ⟨(Bool.and_eq_true_iff.2 ⟨(Bool.and_eq_true_iff.2 ⟨(Bool.and_eq_true_iff.2 ⟨(Bool.and_eq_true_iff.2 ⟨(Bool.and_eq_true_iff.2 ⟨(Bool.and_eq_true_iff.2 ⟨(Bool.and_eq_true_iff.2 ⟨(Bool.and_eq_true_iff.2 ⟨(Bool.and_eq_true_iff.2 ⟨(Bool.and_eq_true_iff.2 ⟨(Bool.and_eq_true_iff.2 ⟨(Bool.and_eq_true_iff.2 ⟨(Bool.and_eq_true_iff.2 ⟨(Bool.and_eq_true_iff.2 ⟨(Bool.and_eq_true_iff.2 ⟨(Bool.and_eq_true_iff.2 ⟨(Bool.and_eq_true_iff.2 ⟨(Bool.and_eq_true_iff.2 ⟨(Bool.and_eq_true_iff.2 ⟨(Bool.and_eq_true_iff.2 ⟨(Bool.and_eq_true_iff.2 ⟨(Bool.and_eq_true_iff.2 ⟨aL2,aLj⟩),aLs⟩),aL8⟩),aL6⟩),aK9⟩),aMp⟩),aKf⟩),aLd⟩),aJ2⟩),aJn⟩),aJm⟩),aJe⟩),aJf⟩),aIu⟩),aJr⟩),aJb⟩),aJa⟩),aI4⟩),aI0⟩),aI6⟩),aI7⟩),aIz⟩),aI5⟩),aIv⟩),aIp⟩),aI8⟩),aJg⟩),aJo⟩),aJd⟩),aIt⟩),aI2⟩)
end Go.Proofs.YtajppdidkjbmkaaGreatDoor
