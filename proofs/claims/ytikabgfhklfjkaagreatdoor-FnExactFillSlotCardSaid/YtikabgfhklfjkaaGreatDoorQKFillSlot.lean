/-
  Proved here: steps towards the statement of this claim, text KFillSlot.
  No condition beyond what each statement spells out.
-/
import Derived.Test.YtikabgfhklfjkaaGreatDoorQF5
import Derived.Lay
import Derived.SevenTiedAt
import Derived.Test.YtikabgfhklfjkaaGreatDoorRows
import Derived.Test.YtikabgfhklfjkaaGreatDoorCards
import Derived.Test.YtikabgfhklfjkaaGreatDoorTie
set_option linter.all false
set_option linter.unusedVariables false
namespace Go.Proofs.YtikabgfhklfjkaaGreatDoor
open Go.Aw
set_option maxRecDepth 100000 in
theorem fillSlot_k0 : (Rows.fnExactFillSlotRow.wf (OpenSpec.ofChange Rows.fnExactFillSlotSpec)) = true := by kernel_rfl
set_option maxRecDepth 100000 in
theorem fillSlot_k1 : (laidOutB Tryz.pinned.checked.prog) = true := by kernel_rfl
set_option maxRecDepth 100000 in
theorem fillSlot_k2 : (mapsRowed Tryz.pinned.checked.prog) = true := by kernel_rfl
set_option maxRecDepth 100000 in
theorem fillSlot_k3 : (Tryz.f5.params.all (Tryz.pinned.checked.prog.readableRec ·)) = true := by kernel_rfl
set_option maxRecDepth 100000 in
theorem fillSlot_k4 : (namedTie Tryz.pinned.checked.prog Rows.fnExactFillSlotRow.named Rows.fnExactFillSlotSpec.vars) = true := by kernel_rfl
set_option maxRecDepth 100000 in
theorem fillSlot_k5 : ((Rows.fnExactFillSlotRow.stops == [])) = true := by kernel_rfl
set_option maxRecDepth 100000 in
theorem fillSlot_k6 : ((Tryz.pinned.checked.prog.stops == [])) = true := by kernel_rfl
set_option maxRecDepth 100000 in
theorem fillSlot_k7 : ((Rows.fnExactFillSlotRow.knobs == [])) = true := by kernel_rfl
set_option maxRecDepth 100000 in
theorem fillSlot_k8 : ((Tryz.pinned.checked.prog.stopKnobs == [])) = true := by kernel_rfl
set_option maxRecDepth 100000 in
theorem fillSlot_k9 : ((Rows.fnExactFillSlotRow.inPlace == Tryz.pinned.checked.prog.inPlace 5)) = true := by kernel_rfl
set_option maxRecDepth 100000 in
theorem fillSlot_k10 : ((Rows.fnExactFillSlotRow.unfollowed == Tryz.pinned.checked.prog.unfollowed 5)) = true := by kernel_rfl
set_option maxRecDepth 100000 in
theorem fillSlot_k11 : ((Rows.fnExactFillSlotRow.recurses == Tryz.pinned.checked.prog.recurses 5)) = true := by kernel_rfl
set_option maxRecDepth 100000 in
theorem fillSlot_k12 : ((Rows.fnExactFillSlotRow.named == Tryz.pinned.checked.prog.varsNamed 5)) = true := by kernel_rfl
set_option maxRecDepth 100000 in
theorem fillSlot_k13 : ((Rows.fnExactFillSlotRow.maps == (Tryz.f5.params.toList ++ Rows.fnExactFillSlotSpec.plain.varTypes Tryz.pinned.checked.prog).any (Tryz.pinned.checked.prog.mapsRec ·))) = true := by kernel_rfl
set_option maxRecDepth 100000 in
theorem fillSlot_k14 : ((Rows.fnExactFillSlotRow.ifaces == (Tryz.f5.params.toList ++ Rows.fnExactFillSlotSpec.plain.varTypes Tryz.pinned.checked.prog).any (Tryz.pinned.checked.prog.ifacesRec ·))) = true := by kernel_rfl
set_option maxRecDepth 100000 in
theorem fillSlot_k15 : ((Rows.fnExactFillSlotRow.mapsOut == Tryz.pinned.checked.prog.mapsAmong Tryz.f5.resultTypes.toList)) = true := by kernel_rfl
set_option maxRecDepth 100000 in
theorem fillSlot_k16 : ((Rows.fnExactFillSlotRow.loops == (Tryz.f5.params.toList ++ Rows.fnExactFillSlotSpec.plain.varTypes Tryz.pinned.checked.prog).any (Tryz.pinned.checked.prog.loopsFrom ·))) = true := by kernel_rfl
set_option maxRecDepth 100000 in
theorem fillSlot_k17 : ((Rows.fnExactFillSlotRow.wideKeys == (Tryz.f5.params.toList ++ Rows.fnExactFillSlotSpec.plain.varTypes Tryz.pinned.checked.prog ++ Tryz.f5.resultTypes.toList).any (Tryz.pinned.checked.prog.wideKeysFrom ·))) = true := by kernel_rfl
set_option maxRecDepth 100000 in
theorem fillSlot_k18 : (Rows.fnExactFillSlotSpec.vars.all (Tryz.pinned.checked.prog.varReadable ·)) = true := by kernel_rfl
set_option maxRecDepth 100000 in
theorem fillSlot_k19 : (Tryz.f5.resultTypes.all (fun t => Tryz.pinned.checked.prog.readableRec t && decide (t < Tryz.pinned.checked.prog.types.size))) = true := by kernel_rfl
set_option maxRecDepth 100000 in
theorem fillSlot_k20 : ((Rows.fnExactFillSlotRow.ifacesOut == Tryz.f5.resultTypes.toList.any (Tryz.pinned.checked.prog.ifacesRec ·))) = true := by kernel_rfl
set_option maxRecDepth 100000 in
theorem fillSlot_k21 : ((Rows.fnExactFillSlotRow.loopsOut == Tryz.f5.resultTypes.toList.any (Tryz.pinned.checked.prog.loopsFrom ·))) = true := by kernel_rfl
set_option maxRecDepth 100000 in
theorem fillSlot_k22 : ((Rows.fnExactFillSlotRow.plainKeys == Tryz.pinned.checked.prog.plainKeys)) = true := by kernel_rfl
set_option maxRecDepth 100000 in
theorem fillSlot_k23 : (Rows.fnExactFillSlotRow.shortTexts.isNone) = true := by kernel_rfl
set_option maxRecDepth 100000 in
theorem fillSlot_k24 : (Tryz.pinned.checked.prog.stopsHeard) = true := by kernel_rfl
set_option maxRecDepth 100000 in
theorem fillSlot_k25 : (Tryz.pinned.checked.prog.mayEnter) = true := by kernel_rfl
set_option maxRecDepth 100000 in
theorem fillSlot_k26 : ((Rows.fnExactFillSlotRow.lifted == Tryz.pinned.checked.prog.liftsFinal)) = true := by kernel_rfl
set_option maxRecDepth 100000 in
theorem fillSlot_k27 : ((Tryz.pinned.checked.prog.make == some Rows.fnExactFillSlotRow.make)) = true := by kernel_rfl
set_option maxRecDepth 100000 in
theorem fillSlot_k28 : ((Rows.fnExactFillSlotRow.kinds == (if Rows.fnExactFillSlotRow.domain.isEmpty then [] else Tryz.f5.params.toList.map fun t => match Tryz.pinned.checked.prog.underlying t with | some (.int k) => some k | _ => none))) = true := by kernel_rfl
set_option maxRecDepth 100000 in
theorem fillSlot_k29 : ((Rows.fnExactFillSlotRow.pinned == Rows.fnExactFillSlotRow.pinnedBy)) = true := by kernel_rfl
set_option maxRecDepth 100000 in
theorem fillSlot_k30 : ((Rows.fnExactFillSlotRow.veiled == (Tryz.f5.params.toList ++ Rows.fnExactFillSlotSpec.plain.varTypes Tryz.pinned.checked.prog ++ Tryz.f5.resultTypes.toList).any (Tryz.pinned.checked.prog.veiledRec ·))) = true := by kernel_rfl
set_option maxRecDepth 100000 in
theorem fillSlot_k31 : (Rows.fnExactFillSlotRow.veiledFits Tryz.pinned.checked.prog Tryz.f5.params.toList (Tryz.f5.params.toList ++ Rows.fnExactFillSlotSpec.plain.varTypes Tryz.pinned.checked.prog ++ Tryz.f5.resultTypes.toList)) = true := by kernel_rfl
set_option maxRecDepth 100000 in
theorem fillSlot_closed : joinedFacts Tryz.pinned.checked.prog 5 Tryz.f5 Rows.fnExactFillSlotSpec Rows.fnExactFillSlotRow = true := by
  unfold joinedFacts
  exact (Bool.and_eq_true_iff.2 ⟨(Bool.and_eq_true_iff.2 ⟨(Bool.and_eq_true_iff.2 ⟨(Bool.and_eq_true_iff.2 ⟨(Bool.and_eq_true_iff.2 ⟨(Bool.and_eq_true_iff.2 ⟨(Bool.and_eq_true_iff.2 ⟨(Bool.and_eq_true_iff.2 ⟨(Bool.and_eq_true_iff.2 ⟨(Bool.and_eq_true_iff.2 ⟨(Bool.and_eq_true_iff.2 ⟨(Bool.and_eq_true_iff.2 ⟨(Bool.and_eq_true_iff.2 ⟨(Bool.and_eq_true_iff.2 ⟨(Bool.and_eq_true_iff.2 ⟨(Bool.and_eq_true_iff.2 ⟨(Bool.and_eq_true_iff.2 ⟨(Bool.and_eq_true_iff.2 ⟨(Bool.and_eq_true_iff.2 ⟨(Bool.and_eq_true_iff.2 ⟨(Bool.and_eq_true_iff.2 ⟨(Bool.and_eq_true_iff.2 ⟨(Bool.and_eq_true_iff.2 ⟨(Bool.and_eq_true_iff.2 ⟨(Bool.and_eq_true_iff.2 ⟨(Bool.and_eq_true_iff.2 ⟨(Bool.and_eq_true_iff.2 ⟨(Bool.and_eq_true_iff.2 ⟨(Bool.and_eq_true_iff.2 ⟨(Bool.and_eq_true_iff.2 ⟨(Bool.and_eq_true_iff.2 ⟨fillSlot_k0, fillSlot_k1⟩), fillSlot_k2⟩), fillSlot_k3⟩), fillSlot_k4⟩), fillSlot_k5⟩), fillSlot_k6⟩), fillSlot_k7⟩), fillSlot_k8⟩), fillSlot_k9⟩), fillSlot_k10⟩), fillSlot_k11⟩), fillSlot_k12⟩), fillSlot_k13⟩), fillSlot_k14⟩), fillSlot_k15⟩), fillSlot_k16⟩), fillSlot_k17⟩), fillSlot_k18⟩), fillSlot_k19⟩), fillSlot_k20⟩), fillSlot_k21⟩), fillSlot_k22⟩), fillSlot_k23⟩), fillSlot_k24⟩), fillSlot_k25⟩), fillSlot_k26⟩), fillSlot_k27⟩), fillSlot_k28⟩), fillSlot_k29⟩), fillSlot_k30⟩), fillSlot_k31⟩)
end Go.Proofs.YtikabgfhklfjkaaGreatDoor
