/-
  Proved here: steps towards the statement of this claim, text KFillAll.
  No condition beyond what each statement spells out.
-/
import Derived.Test.YtikabgfhklfjkaaGreatDoorQF5
import Derived.Lay
import Derived.SevenTiedAt
import Derived.Test.YtikabgfhklfjkaaGreatDoorRows
import Derived.Test.YtikabgfhklfjkaaGreatDoorCards
import Derived.Test.YtikabgfhklfjkaaGreatDoorTie
set_option linter.all false
set_option linter.unusedVariables false
namespace Go.Proofs.YtikabgfhklfjkaaGreatDoor
open Go.Aw
set_option maxRecDepth 100000 in
theorem fillAll_k0 : (Rows.fnExactFillAllRow.wf (OpenSpec.ofChange Rows.fnExactFillAllSpec)) = true := by kernel_rfl
set_option maxRecDepth 100000 in
theorem fillAll_k1 : (laidOutB Tryz.pinned.checked.prog) = true := by kernel_rfl
set_option maxRecDepth 100000 in
theorem fillAll_k2 : (mapsRowed Tryz.pinned.checked.prog) = true := by kernel_rfl
set_option maxRecDepth 100000 in
theorem fillAll_k3 : (Tryz.f6.params.all (Tryz.pinned.checked.prog.readableRec ·)) = true := by kernel_rfl
set_option maxRecDepth 100000 in
theorem fillAll_k4 : (namedTie Tryz.pinned.checked.prog Rows.fnExactFillAllRow.named Rows.fnExactFillAllSpec.vars) = true := by kernel_rfl
set_option maxRecDepth 100000 in
theorem fillAll_k5 : ((Rows.fnExactFillAllRow.stops == [])) = true := by kernel_rfl
set_option maxRecDepth 100000 in
theorem fillAll_k6 : ((Tryz.pinned.checked.prog.stops == [])) = true := by kernel_rfl
set_option maxRecDepth 100000 in
theorem fillAll_k7 : ((Rows.fnExactFillAllRow.knobs == [])) = true := by kernel_rfl
set_option maxRecDepth 100000 in
theorem fillAll_k8 : ((Tryz.pinned.checked.prog.stopKnobs == [])) = true := by kernel_rfl
set_option maxRecDepth 100000 in
theorem fillAll_k9 : ((Rows.fnExactFillAllRow.inPlace == Tryz.pinned.checked.prog.inPlace 6)) = true := by kernel_rfl
set_option maxRecDepth 100000 in
theorem fillAll_k10 : ((Rows.fnExactFillAllRow.unfollowed == Tryz.pinned.checked.prog.unfollowed 6)) = true := by kernel_rfl
set_option maxRecDepth 100000 in
theorem fillAll_k11 : ((Rows.fnExactFillAllRow.recurses == Tryz.pinned.checked.prog.recurses 6)) = true := by kernel_rfl
set_option maxRecDepth 100000 in
theorem fillAll_k12 : ((Rows.fnExactFillAllRow.named == Tryz.pinned.checked.prog.varsNamed 6)) = true := by kernel_rfl
set_option maxRecDepth 100000 in
theorem fillAll_k13 : ((Rows.fnExactFillAllRow.maps == (Tryz.f6.params.toList ++ Rows.fnExactFillAllSpec.plain.varTypes Tryz.pinned.checked.prog).any (Tryz.pinned.checked.prog.mapsRec ·))) = true := by kernel_rfl
set_option maxRecDepth 100000 in
theorem fillAll_k14 : ((Rows.fnExactFillAllRow.ifaces == (Tryz.f6.params.toList ++ Rows.fnExactFillAllSpec.plain.varTypes Tryz.pinned.checked.prog).any (Tryz.pinned.checked.prog.ifacesRec ·))) = true := by kernel_rfl
set_option maxRecDepth 100000 in
theorem fillAll_k15 : ((Rows.fnExactFillAllRow.mapsOut == Tryz.pinned.checked.prog.mapsAmong Tryz.f6.resultTypes.toList)) = true := by kernel_rfl
set_option maxRecDepth 100000 in
theorem fillAll_k16 : ((Rows.fnExactFillAllRow.loops == (Tryz.f6.params.toList ++ Rows.fnExactFillAllSpec.plain.varTypes Tryz.pinned.checked.prog).any (Tryz.pinned.checked.prog.loopsFrom ·))) = true := by kernel_rfl
set_option maxRecDepth 100000 in
theorem fillAll_k17 : ((Rows.fnExactFillAllRow.wideKeys == (Tryz.f6.params.toList ++ Rows.fnExactFillAllSpec.plain.varTypes Tryz.pinned.checked.prog ++ Tryz.f6.resultTypes.toList).any (Tryz.pinned.checked.prog.wideKeysFrom ·))) = true := by kernel_rfl
set_option maxRecDepth 100000 in
theorem fillAll_k18 : (Rows.fnExactFillAllSpec.vars.all (Tryz.pinned.checked.prog.varReadable ·)) = true := by kernel_rfl
set_option maxRecDepth 100000 in
theorem fillAll_k19 : (Tryz.f6.resultTypes.all (fun t => Tryz.pinned.checked.prog.readableRec t && decide (t < Tryz.pinned.checked.prog.types.size))) = true := by kernel_rfl
set_option maxRecDepth 100000 in
theorem fillAll_k20 : ((Rows.fnExactFillAllRow.ifacesOut == Tryz.f6.resultTypes.toList.any (Tryz.pinned.checked.prog.ifacesRec ·))) = true := by kernel_rfl
set_option maxRecDepth 100000 in
theorem fillAll_k21 : ((Rows.fnExactFillAllRow.loopsOut == Tryz.f6.resultTypes.toList.any (Tryz.pinned.checked.prog.loopsFrom ·))) = true := by kernel_rfl
set_option maxRecDepth 100000 in
theorem fillAll_k22 : ((Rows.fnExactFillAllRow.plainKeys == Tryz.pinned.checked.prog.plainKeys)) = true := by kernel_rfl
set_option maxRecDepth 100000 in
theorem fillAll_k23 : (Rows.fnExactFillAllRow.shortTexts.isNone) = true := by kernel_rfl
set_option maxRecDepth 100000 in
theorem fillAll_k24 : (Tryz.pinned.checked.prog.stopsHeard) = true := by kernel_rfl
set_option maxRecDepth 100000 in
theorem fillAll_k25 : (Tryz.pinned.checked.prog.mayEnter) = true := by kernel_rfl
set_option maxRecDepth 100000 in
theorem fillAll_k26 : ((Rows.fnExactFillAllRow.lifted == Tryz.pinned.checked.prog.liftsFinal)) = true := by kernel_rfl
set_option maxRecDepth 100000 in
theorem fillAll_k27 : ((Tryz.pinned.checked.prog.make == some Rows.fnExactFillAllRow.make)) = true := by kernel_rfl
set_option maxRecDepth 100000 in
theorem fillAll_k28 : ((Rows.fnExactFillAllRow.kinds == (if Rows.fnExactFillAllRow.domain.isEmpty then [] else Tryz.f6.params.toList.map fun t => match Tryz.pinned.checked.prog.underlying t with | some (.int k) => some k | _ => none))) = true := by kernel_rfl
set_option maxRecDepth 100000 in
theorem fillAll_k29 : ((Rows.fnExactFillAllRow.pinned == Rows.fnExactFillAllRow.pinnedBy)) = true := by kernel_rfl
set_option maxRecDepth 100000 in
theorem fillAll_k30 : ((Rows.fnExactFillAllRow.veiled == (Tryz.f6.params.toList ++ Rows.fnExactFillAllSpec.plain.varTypes Tryz.pinned.checked.prog ++ Tryz.f6.resultTypes.toList).any (Tryz.pinned.checked.prog.veiledRec ·))) = true := by kernel_rfl
set_option maxRecDepth 100000 in
theorem fillAll_k31 : (Rows.fnExactFillAllRow.veiledFits Tryz.pinned.checked.prog Tryz.f6.params.toList (Tryz.f6.params.toList ++ Rows.fnExactFillAllSpec.plain.varTypes Tryz.pinned.checked.prog ++ Tryz.f6.resultTypes.toList)) = true := by kernel_rfl
set_option maxRecDepth 100000 in
theorem fillAll_closed : joinedFacts Tryz.pinned.checked.prog 6 Tryz.f6 Rows.fnExactFillAllSpec Rows.fnExactFillAllRow = true := by
  unfold joinedFacts
  exact (Bool.and_eq_true_iff.2 ⟨(Bool.and_eq_true_iff.2 ⟨(Bool.and_eq_true_iff.2 ⟨(Bool.and_eq_true_iff.2 ⟨(Bool.and_eq_true_iff.2 ⟨(Bool.and_eq_true_iff.2 ⟨(Bool.and_eq_true_iff.2 ⟨(Bool.and_eq_true_iff.2 ⟨(Bool.and_eq_true_iff.2 ⟨(Bool.and_eq_true_iff.2 ⟨(Bool.and_eq_true_iff.2 ⟨(Bool.and_eq_true_iff.2 ⟨(Bool.and_eq_true_iff.2 ⟨(Bool.and_eq_true_iff.2 ⟨(Bool.and_eq_true_iff.2 ⟨(Bool.and_eq_true_iff.2 ⟨(Bool.and_eq_true_iff.2 ⟨(Bool.and_eq_true_iff.2 ⟨(Bool.and_eq_true_iff.2 ⟨(Bool.and_eq_true_iff.2 ⟨(Bool.and_eq_true_iff.2 ⟨(Bool.and_eq_true_iff.2 ⟨(Bool.and_eq_true_iff.2 ⟨(Bool.and_eq_true_iff.2 ⟨(Bool.and_eq_true_iff.2 ⟨(Bool.and_eq_true_iff.2 ⟨(Bool.and_eq_true_iff.2 ⟨(Bool.and_eq_true_iff.2 ⟨(Bool.and_eq_true_iff.2 ⟨(Bool.and_eq_true_iff.2 ⟨(Bool.and_eq_true_iff.2 ⟨fillAll_k0, fillAll_k1⟩), fillAll_k2⟩), fillAll_k3⟩), fillAll_k4⟩), fillAll_k5⟩), fillAll_k6⟩), fillAll_k7⟩), fillAll_k8⟩), fillAll_k9⟩), fillAll_k10⟩), fillAll_k11⟩), fillAll_k12⟩), fillAll_k13⟩), fillAll_k14⟩), fillAll_k15⟩), fillAll_k16⟩), fillAll_k17⟩), fillAll_k18⟩), fillAll_k19⟩), fillAll_k20⟩), fillAll_k21⟩), fillAll_k22⟩), fillAll_k23⟩), fillAll_k24⟩), fillAll_k25⟩), fillAll_k26⟩), fillAll_k27⟩), fillAll_k28⟩), fillAll_k29⟩), fillAll_k30⟩), fillAll_k31⟩)
end Go.Proofs.YtikabgfhklfjkaaGreatDoor
