/-
  Proved here: steps towards the statement of this claim, text KNewPage.
  No condition beyond what each statement spells out.
-/
import Derived.Test.YtikabgfhklfjkaaGreatDoorF5
import Derived.Lay
import Derived.SevenTiedAt
import Derived.Test.YtikabgfhklfjkaaGreatDoorRows
import Derived.Test.YtikabgfhklfjkaaGreatDoorCards
import Derived.Test.YtikabgfhklfjkaaGreatDoorTie
set_option linter.all false
set_option linter.unusedVariables false
namespace Go.Proofs.YtikabgfhklfjkaaGreatDoor
open Go.Aw
set_option maxRecDepth 100000 in
theorem newPage_k0 : (Rows.fnExactNewPageRow.wf (OpenSpec.ofChange Rows.fnExactNewPageSpec)) = true := by kernel_rfl
set_option maxRecDepth 100000 in
theorem newPage_k1 : (laidOutB Tryz.pinned.checked.prog) = true := by kernel_rfl
set_option maxRecDepth 100000 in
theorem newPage_k2 : (mapsRowed Tryz.pinned.checked.prog) = true := by kernel_rfl
set_option maxRecDepth 100000 in
theorem newPage_k3 : (Tryz.f4.params.all (Tryz.pinned.checked.prog.readableRec ·)) = true := by kernel_rfl
set_option maxRecDepth 100000 in
theorem newPage_k4 : (namedTie Tryz.pinned.checked.prog Rows.fnExactNewPageRow.named Rows.fnExactNewPageSpec.vars) = true := by kernel_rfl
set_option maxRecDepth 100000 in
theorem newPage_k5 : ((Rows.fnExactNewPageRow.stops == [])) = true := by kernel_rfl
set_option maxRecDepth 100000 in
theorem newPage_k6 : ((Tryz.pinned.checked.prog.stops == [])) = true := by kernel_rfl
set_option maxRecDepth 100000 in
theorem newPage_k7 : ((Rows.fnExactNewPageRow.knobs == [])) = true := by kernel_rfl
set_option maxRecDepth 100000 in
theorem newPage_k8 : ((Tryz.pinned.checked.prog.stopKnobs == [])) = true := by kernel_rfl
set_option maxRecDepth 100000 in
theorem newPage_k9 : ((Rows.fnExactNewPageRow.inPlace == Tryz.pinned.checked.prog.inPlace 4)) = true := by kernel_rfl
set_option maxRecDepth 100000 in
theorem newPage_k10 : ((Rows.fnExactNewPageRow.unfollowed == Tryz.pinned.checked.prog.unfollowed 4)) = true := by kernel_rfl
set_option maxRecDepth 100000 in
theorem newPage_k11 : ((Rows.fnExactNewPageRow.recurses == Tryz.pinned.checked.prog.recurses 4)) = true := by kernel_rfl
set_option maxRecDepth 100000 in
theorem newPage_k12 : ((Rows.fnExactNewPageRow.named == Tryz.pinned.checked.prog.varsNamed 4)) = true := by kernel_rfl
set_option maxRecDepth 100000 in
theorem newPage_k13 : ((Rows.fnExactNewPageRow.maps == (Tryz.f4.params.toList ++ Rows.fnExactNewPageSpec.plain.varTypes Tryz.pinned.checked.prog).any (Tryz.pinned.checked.prog.mapsRec ·))) = true := by kernel_rfl
set_option maxRecDepth 100000 in
theorem newPage_k14 : ((Rows.fnExactNewPageRow.ifaces == (Tryz.f4.params.toList ++ Rows.fnExactNewPageSpec.plain.varTypes Tryz.pinned.checked.prog).any (Tryz.pinned.checked.prog.ifacesRec ·))) = true := by kernel_rfl
set_option maxRecDepth 100000 in
theorem newPage_k15 : ((Rows.fnExactNewPageRow.mapsOut == Tryz.pinned.checked.prog.mapsAmong Tryz.f4.resultTypes.toList)) = true := by kernel_rfl
set_option maxRecDepth 100000 in
theorem newPage_k16 : ((Rows.fnExactNewPageRow.loops == (Tryz.f4.params.toList ++ Rows.fnExactNewPageSpec.plain.varTypes Tryz.pinned.checked.prog).any (Tryz.pinned.checked.prog.loopsFrom ·))) = true := by kernel_rfl
set_option maxRecDepth 100000 in
theorem newPage_k17 : ((Rows.fnExactNewPageRow.wideKeys == (Tryz.f4.params.toList ++ Rows.fnExactNewPageSpec.plain.varTypes Tryz.pinned.checked.prog ++ Tryz.f4.resultTypes.toList).any (Tryz.pinned.checked.prog.wideKeysFrom ·))) = true := by kernel_rfl
set_option maxRecDepth 100000 in
theorem newPage_k18 : (Rows.fnExactNewPageSpec.vars.all (Tryz.pinned.checked.prog.varReadable ·)) = true := by kernel_rfl
set_option maxRecDepth 100000 in
theorem newPage_k19 : (Tryz.f4.resultTypes.all (fun t => Tryz.pinned.checked.prog.readableRec t && decide (t < Tryz.pinned.checked.prog.types.size))) = true := by kernel_rfl
set_option maxRecDepth 100000 in
theorem newPage_k20 : ((Rows.fnExactNewPageRow.ifacesOut == Tryz.f4.resultTypes.toList.any (Tryz.pinned.checked.prog.ifacesRec ·))) = true := by kernel_rfl
set_option maxRecDepth 100000 in
theorem newPage_k21 : ((Rows.fnExactNewPageRow.loopsOut == Tryz.f4.resultTypes.toList.any (Tryz.pinned.checked.prog.loopsFrom ·))) = true := by kernel_rfl
set_option maxRecDepth 100000 in
theorem newPage_k22 : ((Rows.fnExactNewPageRow.plainKeys == Tryz.pinned.checked.prog.plainKeys)) = true := by kernel_rfl
set_option maxRecDepth 100000 in
theorem newPage_k23 : (Rows.fnExactNewPageRow.shortTexts.isNone) = true := by kernel_rfl
set_option maxRecDepth 100000 in
theorem newPage_k24 : (Tryz.pinned.checked.prog.stopsHeard) = true := by kernel_rfl
set_option maxRecDepth 100000 in
theorem newPage_k25 : (Tryz.pinned.checked.prog.mayEnter) = true := by kernel_rfl
set_option maxRecDepth 100000 in
theorem newPage_k26 : ((Rows.fnExactNewPageRow.lifted == Tryz.pinned.checked.prog.liftsFinal)) = true := by kernel_rfl
set_option maxRecDepth 100000 in
theorem newPage_k27 : ((Tryz.pinned.checked.prog.make == some Rows.fnExactNewPageRow.make)) = true := by kernel_rfl
set_option maxRecDepth 100000 in
theorem newPage_k28 : ((Rows.fnExactNewPageRow.kinds == (if Rows.fnExactNewPageRow.domain.isEmpty then [] else Tryz.f4.params.toList.map fun t => match Tryz.pinned.checked.prog.underlying t with | some (.int k) => some k | _ => none))) = true := by kernel_rfl
set_option maxRecDepth 100000 in
theorem newPage_k29 : ((Rows.fnExactNewPageRow.pinned == Rows.fnExactNewPageRow.pinnedBy)) = true := by kernel_rfl
set_option maxRecDepth 100000 in
theorem newPage_k30 : ((Rows.fnExactNewPageRow.veiled == (Tryz.f4.params.toList ++ Rows.fnExactNewPageSpec.plain.varTypes Tryz.pinned.checked.prog ++ Tryz.f4.resultTypes.toList).any (Tryz.pinned.checked.prog.veiledRec ·))) = true := by kernel_rfl
set_option maxRecDepth 100000 in
theorem newPage_k31 : (Rows.fnExactNewPageRow.veiledFits Tryz.pinned.checked.prog Tryz.f4.params.toList (Tryz.f4.params.toList ++ Rows.fnExactNewPageSpec.plain.varTypes Tryz.pinned.checked.prog ++ Tryz.f4.resultTypes.toList)) = true := by kernel_rfl
set_option maxRecDepth 100000 in
theorem newPage_closed : joinedFacts Tryz.pinned.checked.prog 4 Tryz.f4 Rows.fnExactNewPageSpec Rows.fnExactNewPageRow = true := by
  unfold joinedFacts
  exact (Bool.and_eq_true_iff.2 ⟨(Bool.and_eq_true_iff.2 ⟨(Bool.and_eq_true_iff.2 ⟨(Bool.and_eq_true_iff.2 ⟨(Bool.and_eq_true_iff.2 ⟨(Bool.and_eq_true_iff.2 ⟨(Bool.and_eq_true_iff.2 ⟨(Bool.and_eq_true_iff.2 ⟨(Bool.and_eq_true_iff.2 ⟨(Bool.and_eq_true_iff.2 ⟨(Bool.and_eq_true_iff.2 ⟨(Bool.and_eq_true_iff.2 ⟨(Bool.and_eq_true_iff.2 ⟨(Bool.and_eq_true_iff.2 ⟨(Bool.and_eq_true_iff.2 ⟨(Bool.and_eq_true_iff.2 ⟨(Bool.and_eq_true_iff.2 ⟨(Bool.and_eq_true_iff.2 ⟨(Bool.and_eq_true_iff.2 ⟨(Bool.and_eq_true_iff.2 ⟨(Bool.and_eq_true_iff.2 ⟨(Bool.and_eq_true_iff.2 ⟨(Bool.and_eq_true_iff.2 ⟨(Bool.and_eq_true_iff.2 ⟨(Bool.and_eq_true_iff.2 ⟨(Bool.and_eq_true_iff.2 ⟨(Bool.and_eq_true_iff.2 ⟨(Bool.and_eq_true_iff.2 ⟨(Bool.and_eq_true_iff.2 ⟨(Bool.and_eq_true_iff.2 ⟨(Bool.and_eq_true_iff.2 ⟨newPage_k0, newPage_k1⟩), newPage_k2⟩), newPage_k3⟩), newPage_k4⟩), newPage_k5⟩), newPage_k6⟩), newPage_k7⟩), newPage_k8⟩), newPage_k9⟩), newPage_k10⟩), newPage_k11⟩), newPage_k12⟩), newPage_k13⟩), newPage_k14⟩), newPage_k15⟩), newPage_k16⟩), newPage_k17⟩), newPage_k18⟩), newPage_k19⟩), newPage_k20⟩), newPage_k21⟩), newPage_k22⟩), newPage_k23⟩), newPage_k24⟩), newPage_k25⟩), newPage_k26⟩), newPage_k27⟩), newPage_k28⟩), newPage_k29⟩), newPage_k30⟩), newPage_k31⟩)
end Go.Proofs.YtikabgfhklfjkaaGreatDoor
