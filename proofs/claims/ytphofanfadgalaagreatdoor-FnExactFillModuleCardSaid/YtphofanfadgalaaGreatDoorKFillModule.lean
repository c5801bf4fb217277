/-
  Proved here: steps towards the statement of this claim, text KFillModule.
  No condition beyond what each statement spells out.
-/
import Derived.Test.YtphofanfadgalaaGreatDoorF5
import Derived.Lay
import Derived.SevenTiedAt
import Derived.Test.YtphofanfadgalaaGreatDoorRows
import Derived.Test.YtphofanfadgalaaGreatDoorCards
import Derived.Test.YtphofanfadgalaaGreatDoorTie
set_option linter.all false
namespace Go.Proofs.YtphofanfadgalaaGreatDoor
open Go.Aw
set_option maxRecDepth 100000 in
theorem fillModule_k0 : (Rows.fnExactFillModuleRow.wf (OpenSpec.ofChange Rows.fnExactFillModuleSpec)) = true := by kernel_rfl
set_option maxRecDepth 100000 in
theorem fillModule_k1 : (laidOutB Tryz.pinned.checked.prog) = true := by kernel_rfl
set_option maxRecDepth 100000 in
theorem fillModule_k2 : (mapsRowed Tryz.pinned.checked.prog) = true := by kernel_rfl
set_option maxRecDepth 100000 in
theorem fillModule_k3 : (Tryz.f6.params.all (Tryz.pinned.checked.prog.readableRec ·)) = true := by kernel_rfl
set_option maxRecDepth 100000 in
theorem fillModule_k4 : (namedTie Tryz.pinned.checked.prog Rows.fnExactFillModuleRow.named Rows.fnExactFillModuleSpec.vars) = true := by kernel_rfl
set_option maxRecDepth 100000 in
theorem fillModule_k5 : ((Rows.fnExactFillModuleRow.stops == [])) = true := by kernel_rfl
set_option maxRecDepth 100000 in
theorem fillModule_k6 : ((Tryz.pinned.checked.prog.stops == [])) = true := by kernel_rfl
set_option maxRecDepth 100000 in
theorem fillModule_k7 : ((Rows.fnExactFillModuleRow.knobs == [])) = true := by kernel_rfl
set_option maxRecDepth 100000 in
theorem fillModule_k8 : ((Tryz.pinned.checked.prog.stopKnobs == [])) = true := by kernel_rfl
set_option maxRecDepth 100000 in
theorem fillModule_k9 : ((Rows.fnExactFillModuleRow.inPlace == Tryz.pinned.checked.prog.inPlace 6)) = true := by kernel_rfl
set_option maxRecDepth 100000 in
theorem fillModule_k10 : ((Rows.fnExactFillModuleRow.unfollowed == Tryz.pinned.checked.prog.unfollowed 6)) = true := by kernel_rfl
set_option maxRecDepth 100000 in
theorem fillModule_k11 : ((Rows.fnExactFillModuleRow.recurses == Tryz.pinned.checked.prog.recurses 6)) = true := by kernel_rfl
set_option maxRecDepth 100000 in
theorem fillModule_k12 : ((Rows.fnExactFillModuleRow.named == Tryz.pinned.checked.prog.varsNamed 6)) = true := by kernel_rfl
set_option maxRecDepth 100000 in
theorem fillModule_k13 : ((Rows.fnExactFillModuleRow.maps == (Tryz.f6.params.toList ++ Rows.fnExactFillModuleSpec.plain.varTypes Tryz.pinned.checked.prog).any (Tryz.pinned.checked.prog.mapsRec ·))) = true := by kernel_rfl
set_option maxRecDepth 100000 in
theorem fillModule_k14 : ((Rows.fnExactFillModuleRow.ifaces == (Tryz.f6.params.toList ++ Rows.fnExactFillModuleSpec.plain.varTypes Tryz.pinned.checked.prog).any (Tryz.pinned.checked.prog.ifacesRec ·))) = true := by kernel_rfl
set_option maxRecDepth 100000 in
theorem fillModule_k15 : ((Rows.fnExactFillModuleRow.mapsOut == Tryz.pinned.checked.prog.mapsAmong Tryz.f6.resultTypes.toList)) = true := by kernel_rfl
set_option maxRecDepth 100000 in
theorem fillModule_k16 : ((Rows.fnExactFillModuleRow.loops == (Tryz.f6.params.toList ++ Rows.fnExactFillModuleSpec.plain.varTypes Tryz.pinned.checked.prog).any (Tryz.pinned.checked.prog.loopsFrom ·))) = true := by kernel_rfl
set_option maxRecDepth 100000 in
theorem fillModule_k17 : ((Rows.fnExactFillModuleRow.wideKeys == (Tryz.f6.params.toList ++ Rows.fnExactFillModuleSpec.plain.varTypes Tryz.pinned.checked.prog ++ Tryz.f6.resultTypes.toList).any (Tryz.pinned.checked.prog.wideKeysFrom ·))) = true := by kernel_rfl
set_option maxRecDepth 100000 in
theorem fillModule_k18 : (Rows.fnExactFillModuleSpec.vars.all (Tryz.pinned.checked.prog.varReadable ·)) = true := by kernel_rfl
set_option maxRecDepth 100000 in
theorem fillModule_k19 : (Tryz.f6.resultTypes.all (fun t => Tryz.pinned.checked.prog.readableRec t && decide (t < Tryz.pinned.checked.prog.types.size))) = true := by kernel_rfl
set_option maxRecDepth 100000 in
theorem fillModule_k20 : ((Rows.fnExactFillModuleRow.ifacesOut == Tryz.f6.resultTypes.toList.any (Tryz.pinned.checked.prog.ifacesRec ·))) = true := by kernel_rfl
set_option maxRecDepth 100000 in
theorem fillModule_k21 : ((Rows.fnExactFillModuleRow.loopsOut == Tryz.f6.resultTypes.toList.any (Tryz.pinned.checked.prog.loopsFrom ·))) = true := by kernel_rfl
set_option maxRecDepth 100000 in
theorem fillModule_k22 : ((Rows.fnExactFillModuleRow.plainKeys == Tryz.pinned.checked.prog.plainKeys)) = true := by kernel_rfl
set_option maxRecDepth 100000 in
theorem fillModule_k23 : (Rows.fnExactFillModuleRow.shortTexts.isNone) = true := by kernel_rfl
set_option maxRecDepth 100000 in
theorem fillModule_k24 : (Tryz.pinned.checked.prog.stopsHeard) = true := by kernel_rfl
set_option maxRecDepth 100000 in
theorem fillModule_k25 : (Tryz.pinned.checked.prog.mayEnter) = true := by kernel_rfl
set_option maxRecDepth 100000 in
theorem fillModule_k26 : ((Rows.fnExactFillModuleRow.lifted == Tryz.pinned.checked.prog.liftsFinal)) = true := by kernel_rfl
set_option maxRecDepth 100000 in
theorem fillModule_k27 : ((Tryz.pinned.checked.prog.make == some Rows.fnExactFillModuleRow.make)) = true := by kernel_rfl
set_option maxRecDepth 100000 in
theorem fillModule_k28 : ((Rows.fnExactFillModuleRow.kinds == (if Rows.fnExactFillModuleRow.domain.isEmpty then [] else Tryz.f6.params.toList.map fun t => match Tryz.pinned.checked.prog.underlying t with | some (.int k) => some k | _ => none))) = true := by kernel_rfl
set_option maxRecDepth 100000 in
theorem fillModule_k29 : ((Rows.fnExactFillModuleRow.pinned == Rows.fnExactFillModuleRow.pinnedBy)) = true := by kernel_rfl
set_option maxRecDepth 100000 in
theorem fillModule_k30 : ((Rows.fnExactFillModuleRow.veiled == (Tryz.f6.params.toList ++ Rows.fnExactFillModuleSpec.plain.varTypes Tryz.pinned.checked.prog ++ Tryz.f6.resultTypes.toList).any (Tryz.pinned.checked.prog.veiledRec ·))) = true := by kernel_rfl
set_option maxRecDepth 100000 in
theorem fillModule_k31 : (Rows.fnExactFillModuleRow.veiledFits Tryz.pinned.checked.prog Tryz.f6.params.toList (Tryz.f6.params.toList ++ Rows.fnExactFillModuleSpec.plain.varTypes Tryz.pinned.checked.prog ++ Tryz.f6.resultTypes.toList)) = true := by kernel_rfl
set_option maxRecDepth 100000 in
theorem fillModule_closed : joinedFacts Tryz.pinned.checked.prog 6 Tryz.f6 Rows.fnExactFillModuleSpec Rows.fnExactFillModuleRow = true := by
  unfold joinedFacts
  exact (Bool.and_eq_true_iff.2 ⟨(Bool.and_eq_true_iff.2 ⟨(Bool.and_eq_true_iff.2 ⟨(Bool.and_eq_true_iff.2 ⟨(Bool.and_eq_true_iff.2 ⟨(Bool.and_eq_true_iff.2 ⟨(Bool.and_eq_true_iff.2 ⟨(Bool.and_eq_true_iff.2 ⟨(Bool.and_eq_true_iff.2 ⟨(Bool.and_eq_true_iff.2 ⟨(Bool.and_eq_true_iff.2 ⟨(Bool.and_eq_true_iff.2 ⟨(Bool.and_eq_true_iff.2 ⟨(Bool.and_eq_true_iff.2 ⟨(Bool.and_eq_true_iff.2 ⟨(Bool.and_eq_true_iff.2 ⟨(Bool.and_eq_true_iff.2 ⟨(Bool.and_eq_true_iff.2 ⟨(Bool.and_eq_true_iff.2 ⟨(Bool.and_eq_true_iff.2 ⟨(Bool.and_eq_true_iff.2 ⟨(Bool.and_eq_true_iff.2 ⟨(Bool.and_eq_true_iff.2 ⟨(Bool.and_eq_true_iff.2 ⟨(Bool.and_eq_true_iff.2 ⟨(Bool.and_eq_true_iff.2 ⟨(Bool.and_eq_true_iff.2 ⟨(Bool.and_eq_true_iff.2 ⟨(Bool.and_eq_true_iff.2 ⟨(Bool.and_eq_true_iff.2 ⟨(Bool.and_eq_true_iff.2 ⟨fillModule_k0, fillModule_k1⟩), fillModule_k2⟩), fillModule_k3⟩), fillModule_k4⟩), fillModule_k5⟩), fillModule_k6⟩), fillModule_k7⟩), fillModule_k8⟩), fillModule_k9⟩), fillModule_k10⟩), fillModule_k11⟩), fillModule_k12⟩), fillModule_k13⟩), fillModule_k14⟩), fillModule_k15⟩), fillModule_k16⟩), fillModule_k17⟩), fillModule_k18⟩), fillModule_k19⟩), fillModule_k20⟩), fillModule_k21⟩), fillModule_k22⟩), fillModule_k23⟩), fillModule_k24⟩), fillModule_k25⟩), fillModule_k26⟩), fillModule_k27⟩), fillModule_k28⟩), fillModule_k29⟩), fillModule_k30⟩), fillModule_k31⟩)
end Go.Proofs.YtphofanfadgalaaGreatDoor
