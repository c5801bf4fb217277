/-
  Proved here: steps towards the statement of this claim, text KResultOf.
  No condition beyond what each statement spells out.
-/
import Derived.Test.YtonajehhfkkglaaGreatDoorF7
import Derived.Lay
import Derived.SevenTiedAt
import Derived.Test.YtonajehhfkkglaaGreatDoorRows
import Derived.Test.YtonajehhfkkglaaGreatDoorCards
import Derived.Test.YtonajehhfkkglaaGreatDoorTie
set_option linter.all false
namespace Go.Proofs.YtonajehhfkkglaaGreatDoor
open Go.Aw
set_option maxRecDepth 100000 in
theorem resultOf_k0 : (Rows.fnExactResultOfRow.wf (OpenSpec.ofChange Rows.fnExactResultOfSpec)) = true := by kernel_rfl
set_option maxRecDepth 100000 in
theorem resultOf_k1 : (laidOutB Tryz.pinned.checked.prog) = true := by kernel_rfl
set_option maxRecDepth 100000 in
theorem resultOf_k2 : (mapsRowed Tryz.pinned.checked.prog) = true := by kernel_rfl
set_option maxRecDepth 100000 in
theorem resultOf_k3 : (Tryz.f3.params.all (Tryz.pinned.checked.prog.readableRec ·)) = true := by kernel_rfl
set_option maxRecDepth 100000 in
theorem resultOf_k4 : (namedTie Tryz.pinned.checked.prog Rows.fnExactResultOfRow.named Rows.fnExactResultOfSpec.vars) = true := by kernel_rfl
set_option maxRecDepth 100000 in
theorem resultOf_k5 : ((Rows.fnExactResultOfRow.stops == [])) = true := by kernel_rfl
set_option maxRecDepth 100000 in
theorem resultOf_k6 : ((Tryz.pinned.checked.prog.stops == [])) = true := by kernel_rfl
set_option maxRecDepth 100000 in
theorem resultOf_k7 : ((Rows.fnExactResultOfRow.knobs == [])) = true := by kernel_rfl
set_option maxRecDepth 100000 in
theorem resultOf_k8 : ((Tryz.pinned.checked.prog.stopKnobs == [])) = true := by kernel_rfl
set_option maxRecDepth 100000 in
theorem resultOf_k9 : ((Rows.fnExactResultOfRow.inPlace == Tryz.pinned.checked.prog.inPlace 3)) = true := by kernel_rfl
set_option maxRecDepth 100000 in
theorem resultOf_k10 : ((Rows.fnExactResultOfRow.unfollowed == Tryz.pinned.checked.prog.unfollowed 3)) = true := by kernel_rfl
set_option maxRecDepth 100000 in
theorem resultOf_k11 : ((Rows.fnExactResultOfRow.recurses == Tryz.pinned.checked.prog.recurses 3)) = true := by kernel_rfl
set_option maxRecDepth 100000 in
theorem resultOf_k12 : ((Rows.fnExactResultOfRow.named == Tryz.pinned.checked.prog.varsNamed 3)) = true := by kernel_rfl
set_option maxRecDepth 100000 in
theorem resultOf_k13 : ((Rows.fnExactResultOfRow.maps == (Tryz.f3.params.toList ++ Rows.fnExactResultOfSpec.plain.varTypes Tryz.pinned.checked.prog).any (Tryz.pinned.checked.prog.mapsRec ·))) = true := by kernel_rfl
set_option maxRecDepth 100000 in
theorem resultOf_k14 : ((Rows.fnExactResultOfRow.ifaces == (Tryz.f3.params.toList ++ Rows.fnExactResultOfSpec.plain.varTypes Tryz.pinned.checked.prog).any (Tryz.pinned.checked.prog.ifacesRec ·))) = true := by kernel_rfl
set_option maxRecDepth 100000 in
theorem resultOf_k15 : ((Rows.fnExactResultOfRow.mapsOut == Tryz.pinned.checked.prog.mapsAmong Tryz.f3.resultTypes.toList)) = true := by kernel_rfl
set_option maxRecDepth 100000 in
theorem resultOf_k16 : ((Rows.fnExactResultOfRow.loops == (Tryz.f3.params.toList ++ Rows.fnExactResultOfSpec.plain.varTypes Tryz.pinned.checked.prog).any (Tryz.pinned.checked.prog.loopsFrom ·))) = true := by kernel_rfl
set_option maxRecDepth 100000 in
theorem resultOf_k17 : ((Rows.fnExactResultOfRow.wideKeys == (Tryz.f3.params.toList ++ Rows.fnExactResultOfSpec.plain.varTypes Tryz.pinned.checked.prog ++ Tryz.f3.resultTypes.toList).any (Tryz.pinned.checked.prog.wideKeysFrom ·))) = true := by kernel_rfl
set_option maxRecDepth 100000 in
theorem resultOf_k18 : (Rows.fnExactResultOfSpec.vars.all (Tryz.pinned.checked.prog.varReadable ·)) = true := by kernel_rfl
set_option maxRecDepth 100000 in
theorem resultOf_k19 : (Tryz.f3.resultTypes.all (fun t => Tryz.pinned.checked.prog.readableRec t && decide (t < Tryz.pinned.checked.prog.types.size))) = true := by kernel_rfl
set_option maxRecDepth 100000 in
theorem resultOf_k20 : ((Rows.fnExactResultOfRow.ifacesOut == Tryz.f3.resultTypes.toList.any (Tryz.pinned.checked.prog.ifacesRec ·))) = true := by kernel_rfl
set_option maxRecDepth 100000 in
theorem resultOf_k21 : ((Rows.fnExactResultOfRow.loopsOut == Tryz.f3.resultTypes.toList.any (Tryz.pinned.checked.prog.loopsFrom ·))) = true := by kernel_rfl
set_option maxRecDepth 100000 in
theorem resultOf_k22 : ((Rows.fnExactResultOfRow.plainKeys == Tryz.pinned.checked.prog.plainKeys)) = true := by kernel_rfl
set_option maxRecDepth 100000 in
theorem resultOf_k23 : (Rows.fnExactResultOfRow.shortTexts.isNone) = true := by kernel_rfl
set_option maxRecDepth 100000 in
theorem resultOf_k24 : (Tryz.pinned.checked.prog.stopsHeard) = true := by kernel_rfl
set_option maxRecDepth 100000 in
theorem resultOf_k25 : (Tryz.pinned.checked.prog.mayEnter) = true := by kernel_rfl
set_option maxRecDepth 100000 in
theorem resultOf_k26 : ((Rows.fnExactResultOfRow.lifted == Tryz.pinned.checked.prog.liftsFinal)) = true := by kernel_rfl
set_option maxRecDepth 100000 in
theorem resultOf_k27 : ((Tryz.pinned.checked.prog.make == some Rows.fnExactResultOfRow.make)) = true := by kernel_rfl
set_option maxRecDepth 100000 in
theorem resultOf_k28 : ((Rows.fnExactResultOfRow.kinds == (if Rows.fnExactResultOfRow.domain.isEmpty then [] else Tryz.f3.params.toList.map fun t => match Tryz.pinned.checked.prog.underlying t with | some (.int k) => some k | _ => none))) = true := by kernel_rfl
set_option maxRecDepth 100000 in
theorem resultOf_k29 : ((Rows.fnExactResultOfRow.pinned == Rows.fnExactResultOfRow.pinnedBy)) = true := by kernel_rfl
set_option maxRecDepth 100000 in
theorem resultOf_k30 : ((Rows.fnExactResultOfRow.veiled == (Tryz.f3.params.toList ++ Rows.fnExactResultOfSpec.plain.varTypes Tryz.pinned.checked.prog ++ Tryz.f3.resultTypes.toList).any (Tryz.pinned.checked.prog.veiledRec ·))) = true := by kernel_rfl
set_option maxRecDepth 100000 in
theorem resultOf_k31 : (Rows.fnExactResultOfRow.veiledFits Tryz.pinned.checked.prog Tryz.f3.params.toList (Tryz.f3.params.toList ++ Rows.fnExactResultOfSpec.plain.varTypes Tryz.pinned.checked.prog ++ Tryz.f3.resultTypes.toList)) = true := by kernel_rfl
set_option maxRecDepth 100000 in
theorem resultOf_closed : joinedFacts Tryz.pinned.checked.prog 3 Tryz.f3 Rows.fnExactResultOfSpec Rows.fnExactResultOfRow = true := by
  unfold joinedFacts
  exact (Bool.and_eq_true_iff.2 ⟨(Bool.and_eq_true_iff.2 ⟨(Bool.and_eq_true_iff.2 ⟨(Bool.and_eq_true_iff.2 ⟨(Bool.and_eq_true_iff.2 ⟨(Bool.and_eq_true_iff.2 ⟨(Bool.and_eq_true_iff.2 ⟨(Bool.and_eq_true_iff.2 ⟨(Bool.and_eq_true_iff.2 ⟨(Bool.and_eq_true_iff.2 ⟨(Bool.and_eq_true_iff.2 ⟨(Bool.and_eq_true_iff.2 ⟨(Bool.and_eq_true_iff.2 ⟨(Bool.and_eq_true_iff.2 ⟨(Bool.and_eq_true_iff.2 ⟨(Bool.and_eq_true_iff.2 ⟨(Bool.and_eq_true_iff.2 ⟨(Bool.and_eq_true_iff.2 ⟨(Bool.and_eq_true_iff.2 ⟨(Bool.and_eq_true_iff.2 ⟨(Bool.and_eq_true_iff.2 ⟨(Bool.and_eq_true_iff.2 ⟨(Bool.and_eq_true_iff.2 ⟨(Bool.and_eq_true_iff.2 ⟨(Bool.and_eq_true_iff.2 ⟨(Bool.and_eq_true_iff.2 ⟨(Bool.and_eq_true_iff.2 ⟨(Bool.and_eq_true_iff.2 ⟨(Bool.and_eq_true_iff.2 ⟨(Bool.and_eq_true_iff.2 ⟨(Bool.and_eq_true_iff.2 ⟨resultOf_k0, resultOf_k1⟩), resultOf_k2⟩), resultOf_k3⟩), resultOf_k4⟩), resultOf_k5⟩), resultOf_k6⟩), resultOf_k7⟩), resultOf_k8⟩), resultOf_k9⟩), resultOf_k10⟩), resultOf_k11⟩), resultOf_k12⟩), resultOf_k13⟩), resultOf_k14⟩), resultOf_k15⟩), resultOf_k16⟩), resultOf_k17⟩), resultOf_k18⟩), resultOf_k19⟩), resultOf_k20⟩), resultOf_k21⟩), resultOf_k22⟩), resultOf_k23⟩), resultOf_k24⟩), resultOf_k25⟩), resultOf_k26⟩), resultOf_k27⟩), resultOf_k28⟩), resultOf_k29⟩), resultOf_k30⟩), resultOf_k31⟩)
end Go.Proofs.YtonajehhfkkglaaGreatDoor
