/-
  Proved here: steps towards the statement of this claim, text KRunCode.
  No condition beyond what each statement spells out.
-/
import Derived.Test.YtgkcdgaljknohaaGreatDoorF7
import Derived.Lay
import Derived.SevenTiedAt
import Derived.Test.YtgkcdgaljknohaaGreatDoorRows
import Derived.Test.YtgkcdgaljknohaaGreatDoorCards
import Derived.Test.YtgkcdgaljknohaaGreatDoorTie
set_option linter.all false
namespace Go.Proofs.YtgkcdgaljknohaaGreatDoor
open Go.Aw
set_option maxRecDepth 100000 in
theorem runCode_k0:(Rows.fnExactRunCodeRow.wf (OpenSpec.ofChange Rows.fnExactRunCodeSpec))=true:=by kernel_rfl
set_option maxRecDepth 100000 in
theorem runCode_k1:(laidOutB Tryz.pinned.checked.prog)=true:=by kernel_rfl
set_option maxRecDepth 100000 in
theorem runCode_k2:(mapsRowed Tryz.pinned.checked.prog)=true:=by kernel_rfl
set_option maxRecDepth 100000 in
theorem runCode_k3:(Tryz.f3.params.all (Tryz.pinned.checked.prog.readableRec ·))=true:=by kernel_rfl
set_option maxRecDepth 100000 in
theorem runCode_k4:(namedTie Tryz.pinned.checked.prog Rows.fnExactRunCodeRow.named Rows.fnExactRunCodeSpec.vars)=true:=by kernel_rfl
set_option maxRecDepth 100000 in
theorem runCode_k5:((Rows.fnExactRunCodeRow.stops == []))=true:=by kernel_rfl
set_option maxRecDepth 100000 in
theorem runCode_k6:((Tryz.pinned.checked.prog.stops == []))=true:=by kernel_rfl
set_option maxRecDepth 100000 in
theorem runCode_k7:((Rows.fnExactRunCodeRow.knobs == []))=true:=by kernel_rfl
set_option maxRecDepth 100000 in
theorem runCode_k8:((Tryz.pinned.checked.prog.stopKnobs == []))=true:=by kernel_rfl
set_option maxRecDepth 100000 in
theorem runCode_k9:((Rows.fnExactRunCodeRow.inPlace == Tryz.pinned.checked.prog.inPlace 3))=true:=by kernel_rfl
set_option maxRecDepth 100000 in
theorem runCode_k10:((Rows.fnExactRunCodeRow.unfollowed == Tryz.pinned.checked.prog.unfollowed 3))=true:=by kernel_rfl
set_option maxRecDepth 100000 in
theorem runCode_k11:((Rows.fnExactRunCodeRow.recurses == Tryz.pinned.checked.prog.recurses 3))=true:=by kernel_rfl
set_option maxRecDepth 100000 in
theorem runCode_k12:((Rows.fnExactRunCodeRow.named == Tryz.pinned.checked.prog.varsNamed 3))=true:=by kernel_rfl
set_option maxRecDepth 100000 in
theorem runCode_k13:((Rows.fnExactRunCodeRow.maps == (Tryz.f3.params.toList++Rows.fnExactRunCodeSpec.plain.varTypes Tryz.pinned.checked.prog).any (Tryz.pinned.checked.prog.mapsRec ·)))=true:=by kernel_rfl
set_option maxRecDepth 100000 in
theorem runCode_k14:((Rows.fnExactRunCodeRow.ifaces == (Tryz.f3.params.toList++Rows.fnExactRunCodeSpec.plain.varTypes Tryz.pinned.checked.prog).any (Tryz.pinned.checked.prog.ifacesRec ·)))=true:=by kernel_rfl
set_option maxRecDepth 100000 in
theorem runCode_k15:((Rows.fnExactRunCodeRow.mapsOut == Tryz.pinned.checked.prog.mapsAmong Tryz.f3.resultTypes.toList))=true:=by kernel_rfl
set_option maxRecDepth 100000 in
theorem runCode_k16:((Rows.fnExactRunCodeRow.loops == (Tryz.f3.params.toList++Rows.fnExactRunCodeSpec.plain.varTypes Tryz.pinned.checked.prog).any (Tryz.pinned.checked.prog.loopsFrom ·)))=true:=by kernel_rfl
set_option maxRecDepth 100000 in
theorem runCode_k17:((Rows.fnExactRunCodeRow.wideKeys == (Tryz.f3.params.toList++Rows.fnExactRunCodeSpec.plain.varTypes Tryz.pinned.checked.prog++Tryz.f3.resultTypes.toList).any (Tryz.pinned.checked.prog.wideKeysFrom ·)))=true:=by kernel_rfl
set_option maxRecDepth 100000 in
theorem runCode_k18:(Rows.fnExactRunCodeSpec.vars.all (Tryz.pinned.checked.prog.varReadable ·))=true:=by kernel_rfl
set_option maxRecDepth 100000 in
theorem runCode_k19:(Tryz.f3.resultTypes.all (fun t=>Tryz.pinned.checked.prog.readableRec t&&decide (t < Tryz.pinned.checked.prog.types.size)))=true:=by kernel_rfl
set_option maxRecDepth 100000 in
theorem runCode_k20:((Rows.fnExactRunCodeRow.ifacesOut == Tryz.f3.resultTypes.toList.any (Tryz.pinned.checked.prog.ifacesRec ·)))=true:=by kernel_rfl
set_option maxRecDepth 100000 in
theorem runCode_k21:((Rows.fnExactRunCodeRow.loopsOut == Tryz.f3.resultTypes.toList.any (Tryz.pinned.checked.prog.loopsFrom ·)))=true:=by kernel_rfl
set_option maxRecDepth 100000 in
theorem runCode_k22:((Rows.fnExactRunCodeRow.plainKeys == Tryz.pinned.checked.prog.plainKeys))=true:=by kernel_rfl
set_option maxRecDepth 100000 in
theorem runCode_k23:(Rows.fnExactRunCodeRow.shortTexts.isNone)=true:=by kernel_rfl
set_option maxRecDepth 100000 in
theorem runCode_k24:(Tryz.pinned.checked.prog.stopsHeard)=true:=by kernel_rfl
set_option maxRecDepth 100000 in
theorem runCode_k25:(Tryz.pinned.checked.prog.mayEnter)=true:=by kernel_rfl
set_option maxRecDepth 100000 in
theorem runCode_k26:((Rows.fnExactRunCodeRow.lifted == Tryz.pinned.checked.prog.liftsFinal))=true:=by kernel_rfl
set_option maxRecDepth 100000 in
theorem runCode_k27:((Tryz.pinned.checked.prog.make == some Rows.fnExactRunCodeRow.make))=true:=by kernel_rfl
set_option maxRecDepth 100000 in
theorem runCode_k28:((Rows.fnExactRunCodeRow.kinds == (if Rows.fnExactRunCodeRow.domain.isEmpty then [] else Tryz.f3.params.toList.map fun t=>match Tryz.pinned.checked.prog.underlying t with|some (.int k)=>some k|_=>none)))=true:=by kernel_rfl
set_option maxRecDepth 100000 in
theorem runCode_k29:((Rows.fnExactRunCodeRow.pinned == Rows.fnExactRunCodeRow.pinnedBy))=true:=by kernel_rfl
set_option maxRecDepth 100000 in
theorem runCode_k30:((Rows.fnExactRunCodeRow.veiled == (Tryz.f3.params.toList++Rows.fnExactRunCodeSpec.plain.varTypes Tryz.pinned.checked.prog++Tryz.f3.resultTypes.toList).any (Tryz.pinned.checked.prog.veiledRec ·)))=true:=by kernel_rfl
set_option maxRecDepth 100000 in
theorem runCode_k31:(Rows.fnExactRunCodeRow.veiledFits Tryz.pinned.checked.prog Tryz.f3.params.toList (Tryz.f3.params.toList++Rows.fnExactRunCodeSpec.plain.varTypes Tryz.pinned.checked.prog++Tryz.f3.resultTypes.toList))=true:=by kernel_rfl
set_option maxRecDepth 100000 in
theorem runCode_closed:joinedFacts Tryz.pinned.checked.prog 3 Tryz.f3 Rows.fnExactRunCodeSpec Rows.fnExactRunCodeRow=true:=by
 unfold joinedFacts
 exact (Bool.and_eq_true_iff.2 ⟨(Bool.and_eq_true_iff.2 ⟨(Bool.and_eq_true_iff.2 ⟨(Bool.and_eq_true_iff.2 ⟨(Bool.and_eq_true_iff.2 ⟨(Bool.and_eq_true_iff.2 ⟨(Bool.and_eq_true_iff.2 ⟨(Bool.and_eq_true_iff.2 ⟨(Bool.and_eq_true_iff.2 ⟨(Bool.and_eq_true_iff.2 ⟨(Bool.and_eq_true_iff.2 ⟨(Bool.and_eq_true_iff.2 ⟨(Bool.and_eq_true_iff.2 ⟨(Bool.and_eq_true_iff.2 ⟨(Bool.and_eq_true_iff.2 ⟨(Bool.and_eq_true_iff.2 ⟨(Bool.and_eq_true_iff.2 ⟨(Bool.and_eq_true_iff.2 ⟨(Bool.and_eq_true_iff.2 ⟨(Bool.and_eq_true_iff.2 ⟨(Bool.and_eq_true_iff.2 ⟨(Bool.and_eq_true_iff.2 ⟨(Bool.and_eq_true_iff.2 ⟨(Bool.and_eq_true_iff.2 ⟨(Bool.and_eq_true_iff.2 ⟨(Bool.and_eq_true_iff.2 ⟨(Bool.and_eq_true_iff.2 ⟨(Bool.and_eq_true_iff.2 ⟨(Bool.and_eq_true_iff.2 ⟨(Bool.and_eq_true_iff.2 ⟨(Bool.and_eq_true_iff.2 ⟨runCode_k0,runCode_k1⟩),runCode_k2⟩),runCode_k3⟩),runCode_k4⟩),runCode_k5⟩),runCode_k6⟩),runCode_k7⟩),runCode_k8⟩),runCode_k9⟩),runCode_k10⟩),runCode_k11⟩),runCode_k12⟩),runCode_k13⟩),runCode_k14⟩),runCode_k15⟩),runCode_k16⟩),runCode_k17⟩),runCode_k18⟩),runCode_k19⟩),runCode_k20⟩),runCode_k21⟩),runCode_k22⟩),runCode_k23⟩),runCode_k24⟩),runCode_k25⟩),runCode_k26⟩),runCode_k27⟩),runCode_k28⟩),runCode_k29⟩),runCode_k30⟩),runCode_k31⟩)
end Go.Proofs.YtgkcdgaljknohaaGreatDoor
