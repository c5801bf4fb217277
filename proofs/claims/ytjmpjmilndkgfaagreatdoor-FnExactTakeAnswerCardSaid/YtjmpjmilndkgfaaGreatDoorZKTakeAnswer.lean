/- Proved here: steps towards the statement of this claim. No condition. -/
import Derived.Test.YtjmpjmilndkgfaaGreatDoorZF7
import Derived.Lay
import Derived.SevenTiedAt
import Derived.Test.YtjmpjmilndkgfaaGreatDoorRows
import Derived.Test.YtjmpjmilndkgfaaGreatDoorCards
import Derived.Test.YtjmpjmilndkgfaaGreatDoorTie
set_option linter.all false
namespace Go.Proofs.YtjmpjmilndkgfaaGreatDoor
open Go.Aw Proofs.Tryz List IntKind
set_option maxRecDepth 100000 in
theorem Un:(Rows.fnExactTakeAnswerRow.wf (OpenSpec.ofChange Rows.fnExactTakeAnswerSpec))=true:=by kernel_rfl
set_option maxRecDepth 100000 in
theorem Uo:(laidOutB Tryz.pinned.checked.prog)=true:=by kernel_rfl
set_option maxRecDepth 100000 in
theorem Uq:(mapsRowed Tryz.pinned.checked.prog)=true:=by kernel_rfl
set_option maxRecDepth 100000 in
theorem Ur:(f3.params.all (Tryz.pinned.checked.prog.readableRec ·))=true:=by kernel_rfl
set_option maxRecDepth 100000 in
theorem Us:(namedTie Tryz.pinned.checked.prog Rows.fnExactTakeAnswerRow.named Rows.fnExactTakeAnswerSpec.vars)=true:=by kernel_rfl
set_option maxRecDepth 100000 in
theorem Ut:((Rows.fnExactTakeAnswerRow.stops == []))=true:=by kernel_rfl
set_option maxRecDepth 100000 in
theorem Uu:((Tryz.pinned.checked.prog.stops == []))=true:=by kernel_rfl
set_option maxRecDepth 100000 in
theorem Uv:((Rows.fnExactTakeAnswerRow.knobs == []))=true:=by kernel_rfl
set_option maxRecDepth 100000 in
theorem Uw:((Tryz.pinned.checked.prog.stopKnobs == []))=true:=by kernel_rfl
set_option maxRecDepth 100000 in
theorem Ux:((Rows.fnExactTakeAnswerRow.inPlace == Tryz.pinned.checked.prog.inPlace 3))=true:=by kernel_rfl
set_option maxRecDepth 100000 in
theorem Sv:((Rows.fnExactTakeAnswerRow.unfollowed == Tryz.pinned.checked.prog.unfollowed 3))=true:=by kernel_rfl
set_option maxRecDepth 100000 in
theorem Sw:((Rows.fnExactTakeAnswerRow.recurses == Tryz.pinned.checked.prog.recurses 3))=true:=by kernel_rfl
set_option maxRecDepth 100000 in
theorem Sy:((Rows.fnExactTakeAnswerRow.named == Tryz.pinned.checked.prog.varsNamed 3))=true:=by kernel_rfl
set_option maxRecDepth 100000 in
theorem Sz:((Rows.fnExactTakeAnswerRow.maps == (f3.params.toList++Rows.fnExactTakeAnswerSpec.plain.varTypes Tryz.pinned.checked.prog).any (Tryz.pinned.checked.prog.mapsRec ·)))=true:=by kernel_rfl
set_option maxRecDepth 100000 in
theorem SA:((Rows.fnExactTakeAnswerRow.ifaces == (f3.params.toList++Rows.fnExactTakeAnswerSpec.plain.varTypes Tryz.pinned.checked.prog).any (Tryz.pinned.checked.prog.ifacesRec ·)))=true:=by kernel_rfl
set_option maxRecDepth 100000 in
theorem SB:((Rows.fnExactTakeAnswerRow.mapsOut == Tryz.pinned.checked.prog.mapsAmong f3.resultTypes.toList))=true:=by kernel_rfl
set_option maxRecDepth 100000 in
theorem SC:((Rows.fnExactTakeAnswerRow.loops == (f3.params.toList++Rows.fnExactTakeAnswerSpec.plain.varTypes Tryz.pinned.checked.prog).any (Tryz.pinned.checked.prog.loopsFrom ·)))=true:=by kernel_rfl
set_option maxRecDepth 100000 in
theorem SE:((Rows.fnExactTakeAnswerRow.wideKeys == (f3.params.toList++Rows.fnExactTakeAnswerSpec.plain.varTypes Tryz.pinned.checked.prog++f3.resultTypes.toList).any (Tryz.pinned.checked.prog.wideKeysFrom ·)))=true:=by kernel_rfl
set_option maxRecDepth 100000 in
theorem SF:(Rows.fnExactTakeAnswerSpec.vars.all (Tryz.pinned.checked.prog.varReadable ·))=true:=by kernel_rfl
set_option maxRecDepth 100000 in
theorem SG:(f3.resultTypes.all (λt=>Tryz.pinned.checked.prog.readableRec t&&decide (t < Tryz.pinned.checked.prog.types.size)))=true:=by kernel_rfl
set_option maxRecDepth 100000 in
theorem SH:((Rows.fnExactTakeAnswerRow.ifacesOut == f3.resultTypes.toList.any (Tryz.pinned.checked.prog.ifacesRec ·)))=true:=by kernel_rfl
set_option maxRecDepth 100000 in
theorem SI:((Rows.fnExactTakeAnswerRow.loopsOut == f3.resultTypes.toList.any (Tryz.pinned.checked.prog.loopsFrom ·)))=true:=by kernel_rfl
set_option maxRecDepth 100000 in
theorem SK:((Rows.fnExactTakeAnswerRow.plainKeys == Tryz.pinned.checked.prog.plainKeys))=true:=by kernel_rfl
set_option maxRecDepth 100000 in
theorem SN:(Rows.fnExactTakeAnswerRow.shortTexts.isNone)=true:=by kernel_rfl
set_option maxRecDepth 100000 in
theorem SQ:(Tryz.pinned.checked.prog.stopsHeard)=true:=by kernel_rfl
set_option maxRecDepth 100000 in
theorem SS:(Tryz.pinned.checked.prog.mayEnter)=true:=by kernel_rfl
set_option maxRecDepth 100000 in
theorem SV:((Rows.fnExactTakeAnswerRow.lifted == Tryz.pinned.checked.prog.liftsFinal))=true:=by kernel_rfl
set_option maxRecDepth 100000 in
theorem SX:((Tryz.pinned.checked.prog.make == some Rows.fnExactTakeAnswerRow.make))=true:=by kernel_rfl
set_option maxRecDepth 100000 in
theorem SY:((Rows.fnExactTakeAnswerRow.kinds == (if Rows.fnExactTakeAnswerRow.domain.isEmpty then [] else f3.params.toList.map λt=>match Tryz.pinned.checked.prog.underlying t with|some (.int k)=>some k|_=>none)))=true:=by kernel_rfl
set_option maxRecDepth 100000 in
theorem Ta:((Rows.fnExactTakeAnswerRow.pinned == Rows.fnExactTakeAnswerRow.pinnedBy))=true:=by kernel_rfl
set_option maxRecDepth 100000 in
theorem Tc:((Rows.fnExactTakeAnswerRow.veiled == (f3.params.toList++Rows.fnExactTakeAnswerSpec.plain.varTypes Tryz.pinned.checked.prog++f3.resultTypes.toList).any (Tryz.pinned.checked.prog.veiledRec ·)))=true:=by kernel_rfl
set_option maxRecDepth 100000 in
theorem Td:(Rows.fnExactTakeAnswerRow.veiledFits Tryz.pinned.checked.prog f3.params.toList (f3.params.toList++Rows.fnExactTakeAnswerSpec.plain.varTypes Tryz.pinned.checked.prog++f3.resultTypes.toList))=true:=by kernel_rfl
set_option maxRecDepth 100000 in
theorem KT:joinedFacts Tryz.pinned.checked.prog 3 f3 Rows.fnExactTakeAnswerSpec Rows.fnExactTakeAnswerRow=true:=by unfold joinedFacts;exact (eV.2 ⟨(eV.2 ⟨(eV.2 ⟨(eV.2 ⟨(eV.2 ⟨(eV.2 ⟨(eV.2 ⟨(eV.2 ⟨(eV.2 ⟨(eV.2 ⟨(eV.2 ⟨(eV.2 ⟨(eV.2 ⟨(eV.2 ⟨(eV.2 ⟨(eV.2 ⟨(eV.2 ⟨(eV.2 ⟨(eV.2 ⟨(eV.2 ⟨(eV.2 ⟨(eV.2 ⟨(eV.2 ⟨(eV.2 ⟨(eV.2 ⟨(eV.2 ⟨(eV.2 ⟨(eV.2 ⟨(eV.2 ⟨(eV.2 ⟨(eV.2 ⟨Un,Uo⟩),Uq⟩),Ur⟩),Us⟩),Ut⟩),Uu⟩),Uv⟩),Uw⟩),Ux⟩),Sv⟩),Sw⟩),Sy⟩),Sz⟩),SA⟩),SB⟩),SC⟩),SE⟩),SF⟩),SG⟩),SH⟩),SI⟩),SK⟩),SN⟩),SQ⟩),SS⟩),SV⟩),SX⟩),SY⟩),Ta⟩),Tc⟩),Td⟩)
end Go.Proofs.YtjmpjmilndkgfaaGreatDoor
