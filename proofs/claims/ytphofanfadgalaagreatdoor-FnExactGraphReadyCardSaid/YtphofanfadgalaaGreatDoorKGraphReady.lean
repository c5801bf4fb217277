/-
  Proved here: steps towards the statement of this claim, text KGraphReady.
  No condition beyond what each statement spells out.
-/
import Derived.Test.YtphofanfadgalaaGreatDoorF5
import Derived.Lay
import Derived.SevenTiedAt
import Derived.Test.YtphofanfadgalaaGreatDoorRows
import Derived.Test.YtphofanfadgalaaGreatDoorCards
import Derived.Test.YtphofanfadgalaaGreatDoorTie
set_option linter.all false
set_option linter.unusedVariables false
namespace Go.Proofs.YtphofanfadgalaaGreatDoor
open Go.Aw
set_option maxRecDepth 100000 in
theorem graphReady_k0 : (Rows.fnExactGraphReadyRow.wf (OpenSpec.ofChange Rows.fnExactGraphReadySpec)) = true := by kernel_rfl
set_option maxRecDepth 100000 in
theorem graphReady_k1 : (laidOutB Tryz.pinned.checked.prog) = true := by kernel_rfl
set_option maxRecDepth 100000 in
theorem graphReady_k2 : (mapsRowed Tryz.pinned.checked.prog) = true := by kernel_rfl
set_option maxRecDepth 100000 in
theorem graphReady_k3 : (Tryz.f3.params.all (Tryz.pinned.checked.prog.readableRec ·)) = true := by kernel_rfl
set_option maxRecDepth 100000 in
theorem graphReady_k4 : (namedTie Tryz.pinned.checked.prog Rows.fnExactGraphReadyRow.named Rows.fnExactGraphReadySpec.vars) = true := by kernel_rfl
set_option maxRecDepth 100000 in
theorem graphReady_k5 : ((Rows.fnExactGraphReadyRow.stops == [])) = true := by kernel_rfl
set_option maxRecDepth 100000 in
theorem graphReady_k6 : ((Tryz.pinned.checked.prog.stops == [])) = true := by kernel_rfl
set_option maxRecDepth 100000 in
theorem graphReady_k7 : ((Rows.fnExactGraphReadyRow.knobs == [])) = true := by kernel_rfl
set_option maxRecDepth 100000 in
theorem graphReady_k8 : ((Tryz.pinned.checked.prog.stopKnobs == [])) = true := by kernel_rfl
set_option maxRecDepth 100000 in
theorem graphReady_k9 : ((Rows.fnExactGraphReadyRow.inPlace == Tryz.pinned.checked.prog.inPlace 3)) = true := by kernel_rfl
set_option maxRecDepth 100000 in
theorem graphReady_k10 : ((Rows.fnExactGraphReadyRow.unfollowed == Tryz.pinned.checked.prog.unfollowed 3)) = true := by kernel_rfl
set_option maxRecDepth 100000 in
theorem graphReady_k11 : ((Rows.fnExactGraphReadyRow.recurses == Tryz.pinned.checked.prog.recurses 3)) = true := by kernel_rfl
set_option maxRecDepth 100000 in
theorem graphReady_k12 : ((Rows.fnExactGraphReadyRow.named == Tryz.pinned.checked.prog.varsNamed 3)) = true := by kernel_rfl
set_option maxRecDepth 100000 in
theorem graphReady_k13 : ((Rows.fnExactGraphReadyRow.maps == (Tryz.f3.params.toList ++ Rows.fnExactGraphReadySpec.plain.varTypes Tryz.pinned.checked.prog).any (Tryz.pinned.checked.prog.mapsRec ·))) = true := by kernel_rfl
set_option maxRecDepth 100000 in
theorem graphReady_k14 : ((Rows.fnExactGraphReadyRow.ifaces == (Tryz.f3.params.toList ++ Rows.fnExactGraphReadySpec.plain.varTypes Tryz.pinned.checked.prog).any (Tryz.pinned.checked.prog.ifacesRec ·))) = true := by kernel_rfl
set_option maxRecDepth 100000 in
theorem graphReady_k15 : ((Rows.fnExactGraphReadyRow.mapsOut == Tryz.pinned.checked.prog.mapsAmong Tryz.f3.resultTypes.toList)) = true := by kernel_rfl
set_option maxRecDepth 100000 in
theorem graphReady_k16 : ((Rows.fnExactGraphReadyRow.loops == (Tryz.f3.params.toList ++ Rows.fnExactGraphReadySpec.plain.varTypes Tryz.pinned.checked.prog).any (Tryz.pinned.checked.prog.loopsFrom ·))) = true := by kernel_rfl
set_option maxRecDepth 100000 in
theorem graphReady_k17 : ((Rows.fnExactGraphReadyRow.wideKeys == (Tryz.f3.params.toList ++ Rows.fnExactGraphReadySpec.plain.varTypes Tryz.pinned.checked.prog ++ Tryz.f3.resultTypes.toList).any (Tryz.pinned.checked.prog.wideKeysFrom ·))) = true := by kernel_rfl
set_option maxRecDepth 100000 in
theorem graphReady_k18 : (Rows.fnExactGraphReadySpec.vars.all (Tryz.pinned.checked.prog.varReadable ·)) = true := by kernel_rfl
set_option maxRecDepth 100000 in
theorem graphReady_k19 : (Tryz.f3.resultTypes.all (fun t => Tryz.pinned.checked.prog.readableRec t && decide (t < Tryz.pinned.checked.prog.types.size))) = true := by kernel_rfl
set_option maxRecDepth 100000 in
theorem graphReady_k20 : ((Rows.fnExactGraphReadyRow.ifacesOut == Tryz.f3.resultTypes.toList.any (Tryz.pinned.checked.prog.ifacesRec ·))) = true := by kernel_rfl
set_option maxRecDepth 100000 in
theorem graphReady_k21 : ((Rows.fnExactGraphReadyRow.loopsOut == Tryz.f3.resultTypes.toList.any (Tryz.pinned.checked.prog.loopsFrom ·))) = true := by kernel_rfl
set_option maxRecDepth 100000 in
theorem graphReady_k22 : ((Rows.fnExactGraphReadyRow.plainKeys == Tryz.pinned.checked.prog.plainKeys)) = true := by kernel_rfl
set_option maxRecDepth 100000 in
theorem graphReady_k23 : (Rows.fnExactGraphReadyRow.shortTexts.isNone) = true := by kernel_rfl
set_option maxRecDepth 100000 in
theorem graphReady_k24 : (Tryz.pinned.checked.prog.stopsHeard) = true := by kernel_rfl
set_option maxRecDepth 100000 in
theorem graphReady_k25 : (Tryz.pinned.checked.prog.mayEnter) = true := by kernel_rfl
set_option maxRecDepth 100000 in
theorem graphReady_k26 : ((Rows.fnExactGraphReadyRow.lifted == Tryz.pinned.checked.prog.liftsFinal)) = true := by kernel_rfl
set_option maxRecDepth 100000 in
theorem graphReady_k27 : ((Tryz.pinned.checked.prog.make == some Rows.fnExactGraphReadyRow.make)) = true := by kernel_rfl
set_option maxRecDepth 100000 in
theorem graphReady_k28 : ((Rows.fnExactGraphReadyRow.kinds == (if Rows.fnExactGraphReadyRow.domain.isEmpty then [] else Tryz.f3.params.toList.map fun t => match Tryz.pinned.checked.prog.underlying t with | some (.int k) => some k | _ => none))) = true := by kernel_rfl
set_option maxRecDepth 100000 in
theorem graphReady_k29 : ((Rows.fnExactGraphReadyRow.pinned == Rows.fnExactGraphReadyRow.pinnedBy)) = true := by kernel_rfl
set_option maxRecDepth 100000 in
theorem graphReady_k30 : ((Rows.fnExactGraphReadyRow.veiled == (Tryz.f3.params.toList ++ Rows.fnExactGraphReadySpec.plain.varTypes Tryz.pinned.checked.prog ++ Tryz.f3.resultTypes.toList).any (Tryz.pinned.checked.prog.veiledRec ·))) = true := by kernel_rfl
set_option maxRecDepth 100000 in
theorem graphReady_k31 : (Rows.fnExactGraphReadyRow.veiledFits Tryz.pinned.checked.prog Tryz.f3.params.toList (Tryz.f3.params.toList ++ Rows.fnExactGraphReadySpec.plain.varTypes Tryz.pinned.checked.prog ++ Tryz.f3.resultTypes.toList)) = true := by kernel_rfl
set_option maxRecDepth 100000 in
theorem graphReady_closed : joinedFacts Tryz.pinned.checked.prog 3 Tryz.f3 Rows.fnExactGraphReadySpec Rows.fnExactGraphReadyRow = true := by
  unfold joinedFacts
  exact (Bool.and_eq_true_iff.2 ⟨(Bool.and_eq_true_iff.2 ⟨(Bool.and_eq_true_iff.2 ⟨(Bool.and_eq_true_iff.2 ⟨(Bool.and_eq_true_iff.2 ⟨(Bool.and_eq_true_iff.2 ⟨(Bool.and_eq_true_iff.2 ⟨(Bool.and_eq_true_iff.2 ⟨(Bool.and_eq_true_iff.2 ⟨(Bool.and_eq_true_iff.2 ⟨(Bool.and_eq_true_iff.2 ⟨(Bool.and_eq_true_iff.2 ⟨(Bool.and_eq_true_iff.2 ⟨(Bool.and_eq_true_iff.2 ⟨(Bool.and_eq_true_iff.2 ⟨(Bool.and_eq_true_iff.2 ⟨(Bool.and_eq_true_iff.2 ⟨(Bool.and_eq_true_iff.2 ⟨(Bool.and_eq_true_iff.2 ⟨(Bool.and_eq_true_iff.2 ⟨(Bool.and_eq_true_iff.2 ⟨(Bool.and_eq_true_iff.2 ⟨(Bool.and_eq_true_iff.2 ⟨(Bool.and_eq_true_iff.2 ⟨(Bool.and_eq_true_iff.2 ⟨(Bool.and_eq_true_iff.2 ⟨(Bool.and_eq_true_iff.2 ⟨(Bool.and_eq_true_iff.2 ⟨(Bool.and_eq_true_iff.2 ⟨(Bool.and_eq_true_iff.2 ⟨(Bool.and_eq_true_iff.2 ⟨graphReady_k0, graphReady_k1⟩), graphReady_k2⟩), graphReady_k3⟩), graphReady_k4⟩), graphReady_k5⟩), graphReady_k6⟩), graphReady_k7⟩), graphReady_k8⟩), graphReady_k9⟩), graphReady_k10⟩), graphReady_k11⟩), graphReady_k12⟩), graphReady_k13⟩), graphReady_k14⟩), graphReady_k15⟩), graphReady_k16⟩), graphReady_k17⟩), graphReady_k18⟩), graphReady_k19⟩), graphReady_k20⟩), graphReady_k21⟩), graphReady_k22⟩), graphReady_k23⟩), graphReady_k24⟩), graphReady_k25⟩), graphReady_k26⟩), graphReady_k27⟩), graphReady_k28⟩), graphReady_k29⟩), graphReady_k30⟩), graphReady_k31⟩)
end Go.Proofs.YtphofanfadgalaaGreatDoor
