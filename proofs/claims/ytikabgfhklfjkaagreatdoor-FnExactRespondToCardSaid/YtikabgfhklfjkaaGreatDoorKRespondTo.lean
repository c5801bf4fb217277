/-
  Proved here: steps towards the statement of this claim, text KRespondTo.
  No condition beyond what each statement spells out.
-/
import Derived.Test.YtikabgfhklfjkaaGreatDoorF5
import Derived.Lay
import Derived.SevenTiedAt
import Derived.Test.YtikabgfhklfjkaaGreatDoorRows
import Derived.Test.YtikabgfhklfjkaaGreatDoorCards
import Derived.Test.YtikabgfhklfjkaaGreatDoorTie
set_option linter.all false
set_option linter.unusedVariables false
namespace Go.Proofs.YtikabgfhklfjkaaGreatDoor
open Go.Aw
set_option maxRecDepth 100000 in
theorem respondTo_k0 : (Rows.fnExactRespondToRow.wf (OpenSpec.ofChange Rows.fnExactRespondToSpec)) = true := by kernel_rfl
set_option maxRecDepth 100000 in
theorem respondTo_k1 : (laidOutB Tryz.pinned.checked.prog) = true := by kernel_rfl
set_option maxRecDepth 100000 in
theorem respondTo_k2 : (mapsRowed Tryz.pinned.checked.prog) = true := by kernel_rfl
set_option maxRecDepth 100000 in
theorem respondTo_k3 : (Tryz.f7.params.all (Tryz.pinned.checked.prog.readableRec ·)) = true := by kernel_rfl
set_option maxRecDepth 100000 in
theorem respondTo_k4 : (namedTie Tryz.pinned.checked.prog Rows.fnExactRespondToRow.named Rows.fnExactRespondToSpec.vars) = true := by kernel_rfl
set_option maxRecDepth 100000 in
theorem respondTo_k5 : ((Rows.fnExactRespondToRow.stops == [])) = true := by kernel_rfl
set_option maxRecDepth 100000 in
theorem respondTo_k6 : ((Tryz.pinned.checked.prog.stops == [])) = true := by kernel_rfl
set_option maxRecDepth 100000 in
theorem respondTo_k7 : ((Rows.fnExactRespondToRow.knobs == [])) = true := by kernel_rfl
set_option maxRecDepth 100000 in
theorem respondTo_k8 : ((Tryz.pinned.checked.prog.stopKnobs == [])) = true := by kernel_rfl
set_option maxRecDepth 100000 in
theorem respondTo_k9 : ((Rows.fnExactRespondToRow.inPlace == Tryz.pinned.checked.prog.inPlace 7)) = true := by kernel_rfl
set_option maxRecDepth 100000 in
theorem respondTo_k10 : ((Rows.fnExactRespondToRow.unfollowed == Tryz.pinned.checked.prog.unfollowed 7)) = true := by kernel_rfl
set_option maxRecDepth 100000 in
theorem respondTo_k11 : ((Rows.fnExactRespondToRow.recurses == Tryz.pinned.checked.prog.recurses 7)) = true := by kernel_rfl
set_option maxRecDepth 100000 in
theorem respondTo_k12 : ((Rows.fnExactRespondToRow.named == Tryz.pinned.checked.prog.varsNamed 7)) = true := by kernel_rfl
set_option maxRecDepth 100000 in
theorem respondTo_k13 : ((Rows.fnExactRespondToRow.maps == (Tryz.f7.params.toList ++ Rows.fnExactRespondToSpec.plain.varTypes Tryz.pinned.checked.prog).any (Tryz.pinned.checked.prog.mapsRec ·))) = true := by kernel_rfl
set_option maxRecDepth 100000 in
theorem respondTo_k14 : ((Rows.fnExactRespondToRow.ifaces == (Tryz.f7.params.toList ++ Rows.fnExactRespondToSpec.plain.varTypes Tryz.pinned.checked.prog).any (Tryz.pinned.checked.prog.ifacesRec ·))) = true := by kernel_rfl
set_option maxRecDepth 100000 in
theorem respondTo_k15 : ((Rows.fnExactRespondToRow.mapsOut == Tryz.pinned.checked.prog.mapsAmong Tryz.f7.resultTypes.toList)) = true := by kernel_rfl
set_option maxRecDepth 100000 in
theorem respondTo_k16 : ((Rows.fnExactRespondToRow.loops == (Tryz.f7.params.toList ++ Rows.fnExactRespondToSpec.plain.varTypes Tryz.pinned.checked.prog).any (Tryz.pinned.checked.prog.loopsFrom ·))) = true := by kernel_rfl
set_option maxRecDepth 100000 in
theorem respondTo_k17 : ((Rows.fnExactRespondToRow.wideKeys == (Tryz.f7.params.toList ++ Rows.fnExactRespondToSpec.plain.varTypes Tryz.pinned.checked.prog ++ Tryz.f7.resultTypes.toList).any (Tryz.pinned.checked.prog.wideKeysFrom ·))) = true := by kernel_rfl
set_option maxRecDepth 100000 in
theorem respondTo_k18 : (Rows.fnExactRespondToSpec.vars.all (Tryz.pinned.checked.prog.varReadable ·)) = true := by kernel_rfl
set_option maxRecDepth 100000 in
theorem respondTo_k19 : (Tryz.f7.resultTypes.all (fun t => Tryz.pinned.checked.prog.readableRec t && decide (t < Tryz.pinned.checked.prog.types.size))) = true := by kernel_rfl
set_option maxRecDepth 100000 in
theorem respondTo_k20 : ((Rows.fnExactRespondToRow.ifacesOut == Tryz.f7.resultTypes.toList.any (Tryz.pinned.checked.prog.ifacesRec ·))) = true := by kernel_rfl
set_option maxRecDepth 100000 in
theorem respondTo_k21 : ((Rows.fnExactRespondToRow.loopsOut == Tryz.f7.resultTypes.toList.any (Tryz.pinned.checked.prog.loopsFrom ·))) = true := by kernel_rfl
set_option maxRecDepth 100000 in
theorem respondTo_k22 : ((Rows.fnExactRespondToRow.plainKeys == Tryz.pinned.checked.prog.plainKeys)) = true := by kernel_rfl
set_option maxRecDepth 100000 in
theorem respondTo_k23 : (Rows.fnExactRespondToRow.shortTexts.isNone) = true := by kernel_rfl
set_option maxRecDepth 100000 in
theorem respondTo_k24 : (Tryz.pinned.checked.prog.stopsHeard) = true := by kernel_rfl
set_option maxRecDepth 100000 in
theorem respondTo_k25 : (Tryz.pinned.checked.prog.mayEnter) = true := by kernel_rfl
set_option maxRecDepth 100000 in
theorem respondTo_k26 : ((Rows.fnExactRespondToRow.lifted == Tryz.pinned.checked.prog.liftsFinal)) = true := by kernel_rfl
set_option maxRecDepth 100000 in
theorem respondTo_k27 : ((Tryz.pinned.checked.prog.make == some Rows.fnExactRespondToRow.make)) = true := by kernel_rfl
set_option maxRecDepth 100000 in
theorem respondTo_k28 : ((Rows.fnExactRespondToRow.kinds == (if Rows.fnExactRespondToRow.domain.isEmpty then [] else Tryz.f7.params.toList.map fun t => match Tryz.pinned.checked.prog.underlying t with | some (.int k) => some k | _ => none))) = true := by kernel_rfl
set_option maxRecDepth 100000 in
theorem respondTo_k29 : ((Rows.fnExactRespondToRow.pinned == Rows.fnExactRespondToRow.pinnedBy)) = true := by kernel_rfl
set_option maxRecDepth 100000 in
theorem respondTo_k30 : ((Rows.fnExactRespondToRow.veiled == (Tryz.f7.params.toList ++ Rows.fnExactRespondToSpec.plain.varTypes Tryz.pinned.checked.prog ++ Tryz.f7.resultTypes.toList).any (Tryz.pinned.checked.prog.veiledRec ·))) = true := by kernel_rfl
set_option maxRecDepth 100000 in
theorem respondTo_k31 : (Rows.fnExactRespondToRow.veiledFits Tryz.pinned.checked.prog Tryz.f7.params.toList (Tryz.f7.params.toList ++ Rows.fnExactRespondToSpec.plain.varTypes Tryz.pinned.checked.prog ++ Tryz.f7.resultTypes.toList)) = true := by kernel_rfl
set_option maxRecDepth 100000 in
theorem respondTo_closed : joinedFacts Tryz.pinned.checked.prog 7 Tryz.f7 Rows.fnExactRespondToSpec Rows.fnExactRespondToRow = true := by
  unfold joinedFacts
  exact (Bool.and_eq_true_iff.2 ⟨(Bool.and_eq_true_iff.2 ⟨(Bool.and_eq_true_iff.2 ⟨(Bool.and_eq_true_iff.2 ⟨(Bool.and_eq_true_iff.2 ⟨(Bool.and_eq_true_iff.2 ⟨(Bool.and_eq_true_iff.2 ⟨(Bool.and_eq_true_iff.2 ⟨(Bool.and_eq_true_iff.2 ⟨(Bool.and_eq_true_iff.2 ⟨(Bool.and_eq_true_iff.2 ⟨(Bool.and_eq_true_iff.2 ⟨(Bool.and_eq_true_iff.2 ⟨(Bool.and_eq_true_iff.2 ⟨(Bool.and_eq_true_iff.2 ⟨(Bool.and_eq_true_iff.2 ⟨(Bool.and_eq_true_iff.2 ⟨(Bool.and_eq_true_iff.2 ⟨(Bool.and_eq_true_iff.2 ⟨(Bool.and_eq_true_iff.2 ⟨(Bool.and_eq_true_iff.2 ⟨(Bool.and_eq_true_iff.2 ⟨(Bool.and_eq_true_iff.2 ⟨(Bool.and_eq_true_iff.2 ⟨(Bool.and_eq_true_iff.2 ⟨(Bool.and_eq_true_iff.2 ⟨(Bool.and_eq_true_iff.2 ⟨(Bool.and_eq_true_iff.2 ⟨(Bool.and_eq_true_iff.2 ⟨(Bool.and_eq_true_iff.2 ⟨(Bool.and_eq_true_iff.2 ⟨respondTo_k0, respondTo_k1⟩), respondTo_k2⟩), respondTo_k3⟩), respondTo_k4⟩), respondTo_k5⟩), respondTo_k6⟩), respondTo_k7⟩), respondTo_k8⟩), respondTo_k9⟩), respondTo_k10⟩), respondTo_k11⟩), respondTo_k12⟩), respondTo_k13⟩), respondTo_k14⟩), respondTo_k15⟩), respondTo_k16⟩), respondTo_k17⟩), respondTo_k18⟩), respondTo_k19⟩), respondTo_k20⟩), respondTo_k21⟩), respondTo_k22⟩), respondTo_k23⟩), respondTo_k24⟩), respondTo_k25⟩), respondTo_k26⟩), respondTo_k27⟩), respondTo_k28⟩), respondTo_k29⟩), respondTo_k30⟩), respondTo_k31⟩)
end Go.Proofs.YtikabgfhklfjkaaGreatDoor
