/- Proved here: steps towards the statement of this claim. No condition. -/
import Derived.Test.YtlnblmmohpcceaaGreatDoorZF7
import Derived.Lay
import Derived.Test.YtlnblmmohpcceaaGreatDoorCards
import Derived.Test.YtlnblmmohpcceaaGreatDoorTie
set_option linter.all false
namespace Go.Proofs.YtlnblmmohpcceaaGreatDoor
open Go.Aw Proofs.Tryz List IntKind
set_option maxRecDepth 100000 in
theorem YW:(Rows.fnExactAdvanceRow.wf (OpenSpec.ofChange Rows.fnExactAdvanceSpec))=true:=by kernel_rfl
set_option maxRecDepth 100000 in
theorem YX:(laidOutB Tryz.pinned.checked.prog)=true:=by kernel_rfl
set_option maxRecDepth 100000 in
theorem YY:(mapsRowed Tryz.pinned.checked.prog)=true:=by kernel_rfl
set_option maxRecDepth 100000 in
theorem YZ:(f6.params.all (Tryz.pinned.checked.prog.readableRec ·))=true:=by kernel_rfl
set_option maxRecDepth 100000 in
theorem Za:(namedTie Tryz.pinned.checked.prog Rows.fnExactAdvanceRow.named Rows.fnExactAdvanceSpec.vars)=true:=by kernel_rfl
set_option maxRecDepth 100000 in
theorem Zb:((Rows.fnExactAdvanceRow.stops == []))=true:=by kernel_rfl
set_option maxRecDepth 100000 in
theorem Zc:((Tryz.pinned.checked.prog.stops == []))=true:=by kernel_rfl
set_option maxRecDepth 100000 in
theorem Zd:((Rows.fnExactAdvanceRow.knobs == []))=true:=by kernel_rfl
set_option maxRecDepth 100000 in
theorem Ze:((Tryz.pinned.checked.prog.stopKnobs == []))=true:=by kernel_rfl
set_option maxRecDepth 100000 in
theorem Zf:((Rows.fnExactAdvanceRow.inPlace == Tryz.pinned.checked.prog.inPlace 6))=true:=by kernel_rfl
set_option maxRecDepth 100000 in
theorem WK:((Rows.fnExactAdvanceRow.unfollowed == Tryz.pinned.checked.prog.unfollowed 6))=true:=by kernel_rfl
set_option maxRecDepth 100000 in
theorem WM:((Rows.fnExactAdvanceRow.recurses == Tryz.pinned.checked.prog.recurses 6))=true:=by kernel_rfl
set_option maxRecDepth 100000 in
theorem WN:((Rows.fnExactAdvanceRow.named == Tryz.pinned.checked.prog.varsNamed 6))=true:=by kernel_rfl
set_option maxRecDepth 100000 in
theorem WO:((Rows.fnExactAdvanceRow.maps == (f6.params.toList++Rows.fnExactAdvanceSpec.plain.varTypes Tryz.pinned.checked.prog).any (Tryz.pinned.checked.prog.mapsRec ·)))=true:=by kernel_rfl
set_option maxRecDepth 100000 in
theorem WQ:((Rows.fnExactAdvanceRow.ifaces == (f6.params.toList++Rows.fnExactAdvanceSpec.plain.varTypes Tryz.pinned.checked.prog).any (Tryz.pinned.checked.prog.ifacesRec ·)))=true:=by kernel_rfl
set_option maxRecDepth 100000 in
theorem WR:((Rows.fnExactAdvanceRow.mapsOut == Tryz.pinned.checked.prog.mapsAmong f6.resultTypes.toList))=true:=by kernel_rfl
set_option maxRecDepth 100000 in
theorem WS:((Rows.fnExactAdvanceRow.loops == (f6.params.toList++Rows.fnExactAdvanceSpec.plain.varTypes Tryz.pinned.checked.prog).any (Tryz.pinned.checked.prog.loopsFrom ·)))=true:=by kernel_rfl
set_option maxRecDepth 100000 in
theorem WT:((Rows.fnExactAdvanceRow.wideKeys == (f6.params.toList++Rows.fnExactAdvanceSpec.plain.varTypes Tryz.pinned.checked.prog++f6.resultTypes.toList).any (Tryz.pinned.checked.prog.wideKeysFrom ·)))=true:=by kernel_rfl
set_option maxRecDepth 100000 in
theorem WU:(Rows.fnExactAdvanceSpec.vars.all (Tryz.pinned.checked.prog.varReadable ·))=true:=by kernel_rfl
set_option maxRecDepth 100000 in
theorem WV:(f6.resultTypes.all (fun t=>Tryz.pinned.checked.prog.readableRec t&&decide (t < Tryz.pinned.checked.prog.types.size)))=true:=by kernel_rfl
set_option maxRecDepth 100000 in
theorem WW:((Rows.fnExactAdvanceRow.ifacesOut == f6.resultTypes.toList.any (Tryz.pinned.checked.prog.ifacesRec ·)))=true:=by kernel_rfl
set_option maxRecDepth 100000 in
theorem WX:((Rows.fnExactAdvanceRow.loopsOut == f6.resultTypes.toList.any (Tryz.pinned.checked.prog.loopsFrom ·)))=true:=by kernel_rfl
set_option maxRecDepth 100000 in
theorem WY:((Rows.fnExactAdvanceRow.plainKeys == Tryz.pinned.checked.prog.plainKeys))=true:=by kernel_rfl
set_option maxRecDepth 100000 in
theorem WZ:(Rows.fnExactAdvanceRow.shortTexts.isNone)=true:=by kernel_rfl
set_option maxRecDepth 100000 in
theorem Xa:(Tryz.pinned.checked.prog.stopsHeard)=true:=by kernel_rfl
set_option maxRecDepth 100000 in
theorem Xb:(Tryz.pinned.checked.prog.mayEnter)=true:=by kernel_rfl
set_option maxRecDepth 100000 in
theorem Xc:((Rows.fnExactAdvanceRow.lifted == Tryz.pinned.checked.prog.liftsFinal))=true:=by kernel_rfl
set_option maxRecDepth 100000 in
theorem Xd:((Tryz.pinned.checked.prog.make == some Rows.fnExactAdvanceRow.make))=true:=by kernel_rfl
set_option maxRecDepth 100000 in
theorem Xe:((Rows.fnExactAdvanceRow.kinds == (if Rows.fnExactAdvanceRow.domain.isEmpty then [] else f6.params.toList.map fun t=>match Tryz.pinned.checked.prog.underlying t with|some (.int k)=>some k|_=>none)))=true:=by kernel_rfl
set_option maxRecDepth 100000 in
theorem Xf:((Rows.fnExactAdvanceRow.pinned == Rows.fnExactAdvanceRow.pinnedBy))=true:=by kernel_rfl
set_option maxRecDepth 100000 in
theorem Xg:((Rows.fnExactAdvanceRow.veiled == (f6.params.toList++Rows.fnExactAdvanceSpec.plain.varTypes Tryz.pinned.checked.prog++f6.resultTypes.toList).any (Tryz.pinned.checked.prog.veiledRec ·)))=true:=by kernel_rfl
set_option maxRecDepth 100000 in
theorem Xh:(Rows.fnExactAdvanceRow.veiledFits Tryz.pinned.checked.prog f6.params.toList (f6.params.toList++Rows.fnExactAdvanceSpec.plain.varTypes Tryz.pinned.checked.prog++f6.resultTypes.toList))=true:=by kernel_rfl
set_option maxRecDepth 100000 in
theorem OW:joinedFacts Tryz.pinned.checked.prog 6 f6 Rows.fnExactAdvanceSpec Rows.fnExactAdvanceRow=true:=by
 unfold joinedFacts
 exact (Bool.and_eq_true_iff.2 ⟨(Bool.and_eq_true_iff.2 ⟨(Bool.and_eq_true_iff.2 ⟨(Bool.and_eq_true_iff.2 ⟨(Bool.and_eq_true_iff.2 ⟨(Bool.and_eq_true_iff.2 ⟨(Bool.and_eq_true_iff.2 ⟨(Bool.and_eq_true_iff.2 ⟨(Bool.and_eq_true_iff.2 ⟨(Bool.and_eq_true_iff.2 ⟨(Bool.and_eq_true_iff.2 ⟨(Bool.and_eq_true_iff.2 ⟨(Bool.and_eq_true_iff.2 ⟨(Bool.and_eq_true_iff.2 ⟨(Bool.and_eq_true_iff.2 ⟨(Bool.and_eq_true_iff.2 ⟨(Bool.and_eq_true_iff.2 ⟨(Bool.and_eq_true_iff.2 ⟨(Bool.and_eq_true_iff.2 ⟨(Bool.and_eq_true_iff.2 ⟨(Bool.and_eq_true_iff.2 ⟨(Bool.and_eq_true_iff.2 ⟨(Bool.and_eq_true_iff.2 ⟨(Bool.and_eq_true_iff.2 ⟨(Bool.and_eq_true_iff.2 ⟨(Bool.and_eq_true_iff.2 ⟨(Bool.and_eq_true_iff.2 ⟨(Bool.and_eq_true_iff.2 ⟨(Bool.and_eq_true_iff.2 ⟨(Bool.and_eq_true_iff.2 ⟨(Bool.and_eq_true_iff.2 ⟨YW,YX⟩),YY⟩),YZ⟩),Za⟩),Zb⟩),Zc⟩),Zd⟩),Ze⟩),Zf⟩),WK⟩),WM⟩),WN⟩),WO⟩),WQ⟩),WR⟩),WS⟩),WT⟩),WU⟩),WV⟩),WW⟩),WX⟩),WY⟩),WZ⟩),Xa⟩),Xb⟩),Xc⟩),Xd⟩),Xe⟩),Xf⟩),Xg⟩),Xh⟩)
end Go.Proofs.YtlnblmmohpcceaaGreatDoor
