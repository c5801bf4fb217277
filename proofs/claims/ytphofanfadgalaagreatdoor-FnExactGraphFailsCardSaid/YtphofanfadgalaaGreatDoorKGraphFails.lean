/-
  Proved here: steps towards the statement of this claim, text KGraphFails.
  No condition beyond what each statement spells out.
-/
import Derived.Test.YtphofanfadgalaaGreatDoorF5
import Derived.Lay
import Derived.SevenTiedAt
import Derived.Test.YtphofanfadgalaaGreatDoorRows
import Derived.Test.YtphofanfadgalaaGreatDoorCards
import Derived.Test.YtphofanfadgalaaGreatDoorTie
set_option linter.all false
set_option linter.unusedVariables false
namespace Go.Proofs.YtphofanfadgalaaGreatDoor
open Go.Aw
set_option maxRecDepth 100000 in
theorem graphFails_k0 : (Rows.fnExactGraphFailsRow.wf (OpenSpec.ofChange Rows.fnExactGraphFailsSpec)) = true := by kernel_rfl
set_option maxRecDepth 100000 in
theorem graphFails_k1 : (laidOutB Tryz.pinned.checked.prog) = true := by kernel_rfl
set_option maxRecDepth 100000 in
theorem graphFails_k2 : (mapsRowed Tryz.pinned.checked.prog) = true := by kernel_rfl
set_option maxRecDepth 100000 in
theorem graphFails_k3 : (Tryz.f4.params.all (Tryz.pinned.checked.prog.readableRec ·)) = true := by kernel_rfl
set_option maxRecDepth 100000 in
theorem graphFails_k4 : (namedTie Tryz.pinned.checked.prog Rows.fnExactGraphFailsRow.named Rows.fnExactGraphFailsSpec.vars) = true := by kernel_rfl
set_option maxRecDepth 100000 in
theorem graphFails_k5 : ((Rows.fnExactGraphFailsRow.stops == [])) = true := by kernel_rfl
set_option maxRecDepth 100000 in
theorem graphFails_k6 : ((Tryz.pinned.checked.prog.stops == [])) = true := by kernel_rfl
set_option maxRecDepth 100000 in
theorem graphFails_k7 : ((Rows.fnExactGraphFailsRow.knobs == [])) = true := by kernel_rfl
set_option maxRecDepth 100000 in
theorem graphFails_k8 : ((Tryz.pinned.checked.prog.stopKnobs == [])) = true := by kernel_rfl
set_option maxRecDepth 100000 in
theorem graphFails_k9 : ((Rows.fnExactGraphFailsRow.inPlace == Tryz.pinned.checked.prog.inPlace 4)) = true := by kernel_rfl
set_option maxRecDepth 100000 in
theorem graphFails_k10 : ((Rows.fnExactGraphFailsRow.unfollowed == Tryz.pinned.checked.prog.unfollowed 4)) = true := by kernel_rfl
set_option maxRecDepth 100000 in
theorem graphFails_k11 : ((Rows.fnExactGraphFailsRow.recurses == Tryz.pinned.checked.prog.recurses 4)) = true := by kernel_rfl
set_option maxRecDepth 100000 in
theorem graphFails_k12 : ((Rows.fnExactGraphFailsRow.named == Tryz.pinned.checked.prog.varsNamed 4)) = true := by kernel_rfl
set_option maxRecDepth 100000 in
theorem graphFails_k13 : ((Rows.fnExactGraphFailsRow.maps == (Tryz.f4.params.toList ++ Rows.fnExactGraphFailsSpec.plain.varTypes Tryz.pinned.checked.prog).any (Tryz.pinned.checked.prog.mapsRec ·))) = true := by kernel_rfl
set_option maxRecDepth 100000 in
theorem graphFails_k14 : ((Rows.fnExactGraphFailsRow.ifaces == (Tryz.f4.params.toList ++ Rows.fnExactGraphFailsSpec.plain.varTypes Tryz.pinned.checked.prog).any (Tryz.pinned.checked.prog.ifacesRec ·))) = true := by kernel_rfl
set_option maxRecDepth 100000 in
theorem graphFails_k15 : ((Rows.fnExactGraphFailsRow.mapsOut == Tryz.pinned.checked.prog.mapsAmong Tryz.f4.resultTypes.toList)) = true := by kernel_rfl
set_option maxRecDepth 100000 in
theorem graphFails_k16 : ((Rows.fnExactGraphFailsRow.loops == (Tryz.f4.params.toList ++ Rows.fnExactGraphFailsSpec.plain.varTypes Tryz.pinned.checked.prog).any (Tryz.pinned.checked.prog.loopsFrom ·))) = true := by kernel_rfl
set_option maxRecDepth 100000 in
theorem graphFails_k17 : ((Rows.fnExactGraphFailsRow.wideKeys == (Tryz.f4.params.toList ++ Rows.fnExactGraphFailsSpec.plain.varTypes Tryz.pinned.checked.prog ++ Tryz.f4.resultTypes.toList).any (Tryz.pinned.checked.prog.wideKeysFrom ·))) = true := by kernel_rfl
set_option maxRecDepth 100000 in
theorem graphFails_k18 : (Rows.fnExactGraphFailsSpec.vars.all (Tryz.pinned.checked.prog.varReadable ·)) = true := by kernel_rfl
set_option maxRecDepth 100000 in
theorem graphFails_k19 : (Tryz.f4.resultTypes.all (fun t => Tryz.pinned.checked.prog.readableRec t && decide (t < Tryz.pinned.checked.prog.types.size))) = true := by kernel_rfl
set_option maxRecDepth 100000 in
theorem graphFails_k20 : ((Rows.fnExactGraphFailsRow.ifacesOut == Tryz.f4.resultTypes.toList.any (Tryz.pinned.checked.prog.ifacesRec ·))) = true := by kernel_rfl
set_option maxRecDepth 100000 in
theorem graphFails_k21 : ((Rows.fnExactGraphFailsRow.loopsOut == Tryz.f4.resultTypes.toList.any (Tryz.pinned.checked.prog.loopsFrom ·))) = true := by kernel_rfl
set_option maxRecDepth 100000 in
theorem graphFails_k22 : ((Rows.fnExactGraphFailsRow.plainKeys == Tryz.pinned.checked.prog.plainKeys)) = true := by kernel_rfl
set_option maxRecDepth 100000 in
theorem graphFails_k23 : (Rows.fnExactGraphFailsRow.shortTexts.isNone) = true := by kernel_rfl
set_option maxRecDepth 100000 in
theorem graphFails_k24 : (Tryz.pinned.checked.prog.stopsHeard) = true := by kernel_rfl
set_option maxRecDepth 100000 in
theorem graphFails_k25 : (Tryz.pinned.checked.prog.mayEnter) = true := by kernel_rfl
set_option maxRecDepth 100000 in
theorem graphFails_k26 : ((Rows.fnExactGraphFailsRow.lifted == Tryz.pinned.checked.prog.liftsFinal)) = true := by kernel_rfl
set_option maxRecDepth 100000 in
theorem graphFails_k27 : ((Tryz.pinned.checked.prog.make == some Rows.fnExactGraphFailsRow.make)) = true := by kernel_rfl
set_option maxRecDepth 100000 in
theorem graphFails_k28 : ((Rows.fnExactGraphFailsRow.kinds == (if Rows.fnExactGraphFailsRow.domain.isEmpty then [] else Tryz.f4.params.toList.map fun t => match Tryz.pinned.checked.prog.underlying t with | some (.int k) => some k | _ => none))) = true := by kernel_rfl
set_option maxRecDepth 100000 in
theorem graphFails_k29 : ((Rows.fnExactGraphFailsRow.pinned == Rows.fnExactGraphFailsRow.pinnedBy)) = true := by kernel_rfl
set_option maxRecDepth 100000 in
theorem graphFails_k30 : ((Rows.fnExactGraphFailsRow.veiled == (Tryz.f4.params.toList ++ Rows.fnExactGraphFailsSpec.plain.varTypes Tryz.pinned.checked.prog ++ Tryz.f4.resultTypes.toList).any (Tryz.pinned.checked.prog.veiledRec ·))) = true := by kernel_rfl
set_option maxRecDepth 100000 in
theorem graphFails_k31 : (Rows.fnExactGraphFailsRow.veiledFits Tryz.pinned.checked.prog Tryz.f4.params.toList (Tryz.f4.params.toList ++ Rows.fnExactGraphFailsSpec.plain.varTypes Tryz.pinned.checked.prog ++ Tryz.f4.resultTypes.toList)) = true := by kernel_rfl
set_option maxRecDepth 100000 in
theorem graphFails_closed : joinedFacts Tryz.pinned.checked.prog 4 Tryz.f4 Rows.fnExactGraphFailsSpec Rows.fnExactGraphFailsRow = true := by
  unfold joinedFacts
  exact (Bool.and_eq_true_iff.2 ⟨(Bool.and_eq_true_iff.2 ⟨(Bool.and_eq_true_iff.2 ⟨(Bool.and_eq_true_iff.2 ⟨(Bool.and_eq_true_iff.2 ⟨(Bool.and_eq_true_iff.2 ⟨(Bool.and_eq_true_iff.2 ⟨(Bool.and_eq_true_iff.2 ⟨(Bool.and_eq_true_iff.2 ⟨(Bool.and_eq_true_iff.2 ⟨(Bool.and_eq_true_iff.2 ⟨(Bool.and_eq_true_iff.2 ⟨(Bool.and_eq_true_iff.2 ⟨(Bool.and_eq_true_iff.2 ⟨(Bool.and_eq_true_iff.2 ⟨(Bool.and_eq_true_iff.2 ⟨(Bool.and_eq_true_iff.2 ⟨(Bool.and_eq_true_iff.2 ⟨(Bool.and_eq_true_iff.2 ⟨(Bool.and_eq_true_iff.2 ⟨(Bool.and_eq_true_iff.2 ⟨(Bool.and_eq_true_iff.2 ⟨(Bool.and_eq_true_iff.2 ⟨(Bool.and_eq_true_iff.2 ⟨(Bool.and_eq_true_iff.2 ⟨(Bool.and_eq_true_iff.2 ⟨(Bool.and_eq_true_iff.2 ⟨(Bool.and_eq_true_iff.2 ⟨(Bool.and_eq_true_iff.2 ⟨(Bool.and_eq_true_iff.2 ⟨(Bool.and_eq_true_iff.2 ⟨graphFails_k0, graphFails_k1⟩), graphFails_k2⟩), graphFails_k3⟩), graphFails_k4⟩), graphFails_k5⟩), graphFails_k6⟩), graphFails_k7⟩), graphFails_k8⟩), graphFails_k9⟩), graphFails_k10⟩), graphFails_k11⟩), graphFails_k12⟩), graphFails_k13⟩), graphFails_k14⟩), graphFails_k15⟩), graphFails_k16⟩), graphFails_k17⟩), graphFails_k18⟩), graphFails_k19⟩), graphFails_k20⟩), graphFails_k21⟩), graphFails_k22⟩), graphFails_k23⟩), graphFails_k24⟩), graphFails_k25⟩), graphFails_k26⟩), graphFails_k27⟩), graphFails_k28⟩), graphFails_k29⟩), graphFails_k30⟩), graphFails_k31⟩)
end Go.Proofs.YtphofanfadgalaaGreatDoor
