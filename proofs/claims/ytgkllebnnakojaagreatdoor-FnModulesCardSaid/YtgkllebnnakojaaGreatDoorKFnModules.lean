/-
  Proved here: steps towards the statement of this claim, text KFnModules.
  No condition beyond what each statement spells out.
-/
import Derived.Test.YtgkllebnnakojaaGreatDoorF5
import Derived.Lay
import Derived.SevenTiedAt
import Derived.Test.YtgkllebnnakojaaGreatDoorRows
import Derived.Test.YtgkllebnnakojaaGreatDoorCards
import Derived.Test.YtgkllebnnakojaaGreatDoorTie
set_option linter.all false
namespace Go.Proofs.YtgkllebnnakojaaGreatDoor
open Go.Aw
set_option maxRecDepth 100000 in
theorem aJx:(Rows.fnModulesRow.wf (OpenSpec.ofChange Rows.fnModulesSpec))=true:=by kernel_rfl
set_option maxRecDepth 100000 in
theorem aI1:(laidOutB Tryz.pinned.checked.prog)=true:=by kernel_rfl
set_option maxRecDepth 100000 in
theorem aK2:(mapsRowed Tryz.pinned.checked.prog)=true:=by kernel_rfl
set_option maxRecDepth 100000 in
theorem aI4:(Tryz.f3.params.all (Tryz.pinned.checked.prog.readableRec ·))=true:=by kernel_rfl
set_option maxRecDepth 100000 in
theorem aI0:(namedTie Tryz.pinned.checked.prog Rows.fnModulesRow.named Rows.fnModulesSpec.vars)=true:=by kernel_rfl
set_option maxRecDepth 100000 in
theorem aKm:((Rows.fnModulesRow.stops == []))=true:=by kernel_rfl
set_option maxRecDepth 100000 in
theorem aLf:((Tryz.pinned.checked.prog.stops == []))=true:=by kernel_rfl
set_option maxRecDepth 100000 in
theorem aKx:((Rows.fnModulesRow.knobs == []))=true:=by kernel_rfl
set_option maxRecDepth 100000 in
theorem aKe:((Tryz.pinned.checked.prog.stopKnobs == []))=true:=by kernel_rfl
set_option maxRecDepth 100000 in
theorem aI2:((Rows.fnModulesRow.inPlace == Tryz.pinned.checked.prog.inPlace 3))=true:=by kernel_rfl
set_option maxRecDepth 100000 in
theorem aHr:((Rows.fnModulesRow.unfollowed == Tryz.pinned.checked.prog.unfollowed 3))=true:=by kernel_rfl
set_option maxRecDepth 100000 in
theorem aIk:((Rows.fnModulesRow.recurses == Tryz.pinned.checked.prog.recurses 3))=true:=by kernel_rfl
set_option maxRecDepth 100000 in
theorem aHv:((Rows.fnModulesRow.named == Tryz.pinned.checked.prog.varsNamed 3))=true:=by kernel_rfl
set_option maxRecDepth 100000 in
theorem aHm:((Rows.fnModulesRow.maps == (Tryz.f3.params.toList++Rows.fnModulesSpec.plain.varTypes Tryz.pinned.checked.prog).any (Tryz.pinned.checked.prog.mapsRec ·)))=true:=by kernel_rfl
set_option maxRecDepth 100000 in
theorem aIh:((Rows.fnModulesRow.ifaces == (Tryz.f3.params.toList++Rows.fnModulesSpec.plain.varTypes Tryz.pinned.checked.prog).any (Tryz.pinned.checked.prog.ifacesRec ·)))=true:=by kernel_rfl
set_option maxRecDepth 100000 in
theorem aHk:((Rows.fnModulesRow.mapsOut == Tryz.pinned.checked.prog.mapsAmong Tryz.f3.resultTypes.toList))=true:=by kernel_rfl
set_option maxRecDepth 100000 in
theorem aHp:((Rows.fnModulesRow.loops == (Tryz.f3.params.toList++Rows.fnModulesSpec.plain.varTypes Tryz.pinned.checked.prog).any (Tryz.pinned.checked.prog.loopsFrom ·)))=true:=by kernel_rfl
set_option maxRecDepth 100000 in
theorem aIg:((Rows.fnModulesRow.wideKeys == (Tryz.f3.params.toList++Rows.fnModulesSpec.plain.varTypes Tryz.pinned.checked.prog++Tryz.f3.resultTypes.toList).any (Tryz.pinned.checked.prog.wideKeysFrom ·)))=true:=by kernel_rfl
set_option maxRecDepth 100000 in
theorem aH2:(Rows.fnModulesSpec.vars.all (Tryz.pinned.checked.prog.varReadable ·))=true:=by kernel_rfl
set_option maxRecDepth 100000 in
theorem aHx:(Tryz.f3.resultTypes.all (fun t=>Tryz.pinned.checked.prog.readableRec t&&decide (t < Tryz.pinned.checked.prog.types.size)))=true:=by kernel_rfl
set_option maxRecDepth 100000 in
theorem aHs:((Rows.fnModulesRow.ifacesOut == Tryz.f3.resultTypes.toList.any (Tryz.pinned.checked.prog.ifacesRec ·)))=true:=by kernel_rfl
set_option maxRecDepth 100000 in
theorem aHy:((Rows.fnModulesRow.loopsOut == Tryz.f3.resultTypes.toList.any (Tryz.pinned.checked.prog.loopsFrom ·)))=true:=by kernel_rfl
set_option maxRecDepth 100000 in
theorem aH0:((Rows.fnModulesRow.plainKeys == Tryz.pinned.checked.prog.plainKeys))=true:=by kernel_rfl
set_option maxRecDepth 100000 in
theorem aH7:(Rows.fnModulesRow.shortTexts.isNone)=true:=by kernel_rfl
set_option maxRecDepth 100000 in
theorem aIl:(Tryz.pinned.checked.prog.stopsHeard)=true:=by kernel_rfl
set_option maxRecDepth 100000 in
theorem aIe:(Tryz.pinned.checked.prog.mayEnter)=true:=by kernel_rfl
set_option maxRecDepth 100000 in
theorem aIi:((Rows.fnModulesRow.lifted == Tryz.pinned.checked.prog.liftsFinal))=true:=by kernel_rfl
set_option maxRecDepth 100000 in
theorem aHq:((Tryz.pinned.checked.prog.make == some Rows.fnModulesRow.make))=true:=by kernel_rfl
set_option maxRecDepth 100000 in
theorem aHz:((Rows.fnModulesRow.kinds == (if Rows.fnModulesRow.domain.isEmpty then [] else Tryz.f3.params.toList.map fun t=>match Tryz.pinned.checked.prog.underlying t with|some (.int k)=>some k|_=>none)))=true:=by kernel_rfl
set_option maxRecDepth 100000 in
theorem aIa:((Rows.fnModulesRow.pinned == Rows.fnModulesRow.pinnedBy))=true:=by kernel_rfl
set_option maxRecDepth 100000 in
theorem aH5:((Rows.fnModulesRow.veiled == (Tryz.f3.params.toList++Rows.fnModulesSpec.plain.varTypes Tryz.pinned.checked.prog++Tryz.f3.resultTypes.toList).any (Tryz.pinned.checked.prog.veiledRec ·)))=true:=by kernel_rfl
set_option maxRecDepth 100000 in
theorem aHw:(Rows.fnModulesRow.veiledFits Tryz.pinned.checked.prog Tryz.f3.params.toList (Tryz.f3.params.toList++Rows.fnModulesSpec.plain.varTypes Tryz.pinned.checked.prog++Tryz.f3.resultTypes.toList))=true:=by kernel_rfl
set_option maxRecDepth 100000 in
theorem aDd:joinedFacts Tryz.pinned.checked.prog 3 Tryz.f3 Rows.fnModulesSpec Rows.fnModulesRow=true:=by
 unfold joinedFacts
 exact (Bool.and_eq_true_iff.2 ⟨(Bool.and_eq_true_iff.2 ⟨(Bool.and_eq_true_iff.2 ⟨(Bool.and_eq_true_iff.2 ⟨(Bool.and_eq_true_iff.2 ⟨(Bool.and_eq_true_iff.2 ⟨(Bool.and_eq_true_iff.2 ⟨(Bool.and_eq_true_iff.2 ⟨(Bool.and_eq_true_iff.2 ⟨(Bool.and_eq_true_iff.2 ⟨(Bool.and_eq_true_iff.2 ⟨(Bool.and_eq_true_iff.2 ⟨(Bool.and_eq_true_iff.2 ⟨(Bool.and_eq_true_iff.2 ⟨(Bool.and_eq_true_iff.2 ⟨(Bool.and_eq_true_iff.2 ⟨(Bool.and_eq_true_iff.2 ⟨(Bool.and_eq_true_iff.2 ⟨(Bool.and_eq_true_iff.2 ⟨(Bool.and_eq_true_iff.2 ⟨(Bool.and_eq_true_iff.2 ⟨(Bool.and_eq_true_iff.2 ⟨(Bool.and_eq_true_iff.2 ⟨(Bool.and_eq_true_iff.2 ⟨(Bool.and_eq_true_iff.2 ⟨(Bool.and_eq_true_iff.2 ⟨(Bool.and_eq_true_iff.2 ⟨(Bool.and_eq_true_iff.2 ⟨(Bool.and_eq_true_iff.2 ⟨(Bool.and_eq_true_iff.2 ⟨(Bool.and_eq_true_iff.2 ⟨aJx,aI1⟩),aK2⟩),aI4⟩),aI0⟩),aKm⟩),aLf⟩),aKx⟩),aKe⟩),aI2⟩),aHr⟩),aIk⟩),aHv⟩),aHm⟩),aIh⟩),aHk⟩),aHp⟩),aIg⟩),aH2⟩),aHx⟩),aHs⟩),aHy⟩),aH0⟩),aH7⟩),aIl⟩),aIe⟩),aIi⟩),aHq⟩),aHz⟩),aIa⟩),aH5⟩),aHw⟩)
end Go.Proofs.YtgkllebnnakojaaGreatDoor
