/-
  Proved here: steps towards the statement of this claim, text KReachOf.
  No condition beyond what each statement spells out.
-/
import Derived.Test.YtphofanfadgalaaGreatDoorF5
import Derived.Lay
import Derived.SevenTiedAt
import Derived.Test.YtphofanfadgalaaGreatDoorRows
import Derived.Test.YtphofanfadgalaaGreatDoorCards
import Derived.Test.YtphofanfadgalaaGreatDoorTie
set_option linter.all false
set_option linter.unusedVariables false
namespace Go.Proofs.YtphofanfadgalaaGreatDoor
open Go.Aw
set_option maxRecDepth 100000 in
theorem reachOf_k0 : (Rows.fnExactReachOfRow.wf (OpenSpec.ofChange Rows.fnExactReachOfSpec)) = true := by kernel_rfl
set_option maxRecDepth 100000 in
theorem reachOf_k1 : (laidOutB Tryz.pinned.checked.prog) = true := by kernel_rfl
set_option maxRecDepth 100000 in
theorem reachOf_k2 : (mapsRowed Tryz.pinned.checked.prog) = true := by kernel_rfl
set_option maxRecDepth 100000 in
theorem reachOf_k3 : (Tryz.f5.params.all (Tryz.pinned.checked.prog.readableRec ·)) = true := by kernel_rfl
set_option maxRecDepth 100000 in
theorem reachOf_k4 : (namedTie Tryz.pinned.checked.prog Rows.fnExactReachOfRow.named Rows.fnExactReachOfSpec.vars) = true := by kernel_rfl
set_option maxRecDepth 100000 in
theorem reachOf_k5 : ((Rows.fnExactReachOfRow.stops == [])) = true := by kernel_rfl
set_option maxRecDepth 100000 in
theorem reachOf_k6 : ((Tryz.pinned.checked.prog.stops == [])) = true := by kernel_rfl
set_option maxRecDepth 100000 in
theorem reachOf_k7 : ((Rows.fnExactReachOfRow.knobs == [])) = true := by kernel_rfl
set_option maxRecDepth 100000 in
theorem reachOf_k8 : ((Tryz.pinned.checked.prog.stopKnobs == [])) = true := by kernel_rfl
set_option maxRecDepth 100000 in
theorem reachOf_k9 : ((Rows.fnExactReachOfRow.inPlace == Tryz.pinned.checked.prog.inPlace 5)) = true := by kernel_rfl
set_option maxRecDepth 100000 in
theorem reachOf_k10 : ((Rows.fnExactReachOfRow.unfollowed == Tryz.pinned.checked.prog.unfollowed 5)) = true := by kernel_rfl
set_option maxRecDepth 100000 in
theorem reachOf_k11 : ((Rows.fnExactReachOfRow.recurses == Tryz.pinned.checked.prog.recurses 5)) = true := by kernel_rfl
set_option maxRecDepth 100000 in
theorem reachOf_k12 : ((Rows.fnExactReachOfRow.named == Tryz.pinned.checked.prog.varsNamed 5)) = true := by kernel_rfl
set_option maxRecDepth 100000 in
theorem reachOf_k13 : ((Rows.fnExactReachOfRow.maps == (Tryz.f5.params.toList ++ Rows.fnExactReachOfSpec.plain.varTypes Tryz.pinned.checked.prog).any (Tryz.pinned.checked.prog.mapsRec ·))) = true := by kernel_rfl
set_option maxRecDepth 100000 in
theorem reachOf_k14 : ((Rows.fnExactReachOfRow.ifaces == (Tryz.f5.params.toList ++ Rows.fnExactReachOfSpec.plain.varTypes Tryz.pinned.checked.prog).any (Tryz.pinned.checked.prog.ifacesRec ·))) = true := by kernel_rfl
set_option maxRecDepth 100000 in
theorem reachOf_k15 : ((Rows.fnExactReachOfRow.mapsOut == Tryz.pinned.checked.prog.mapsAmong Tryz.f5.resultTypes.toList)) = true := by kernel_rfl
set_option maxRecDepth 100000 in
theorem reachOf_k16 : ((Rows.fnExactReachOfRow.loops == (Tryz.f5.params.toList ++ Rows.fnExactReachOfSpec.plain.varTypes Tryz.pinned.checked.prog).any (Tryz.pinned.checked.prog.loopsFrom ·))) = true := by kernel_rfl
set_option maxRecDepth 100000 in
theorem reachOf_k17 : ((Rows.fnExactReachOfRow.wideKeys == (Tryz.f5.params.toList ++ Rows.fnExactReachOfSpec.plain.varTypes Tryz.pinned.checked.prog ++ Tryz.f5.resultTypes.toList).any (Tryz.pinned.checked.prog.wideKeysFrom ·))) = true := by kernel_rfl
set_option maxRecDepth 100000 in
theorem reachOf_k18 : (Rows.fnExactReachOfSpec.vars.all (Tryz.pinned.checked.prog.varReadable ·)) = true := by kernel_rfl
set_option maxRecDepth 100000 in
theorem reachOf_k19 : (Tryz.f5.resultTypes.all (fun t => Tryz.pinned.checked.prog.readableRec t && decide (t < Tryz.pinned.checked.prog.types.size))) = true := by kernel_rfl
set_option maxRecDepth 100000 in
theorem reachOf_k20 : ((Rows.fnExactReachOfRow.ifacesOut == Tryz.f5.resultTypes.toList.any (Tryz.pinned.checked.prog.ifacesRec ·))) = true := by kernel_rfl
set_option maxRecDepth 100000 in
theorem reachOf_k21 : ((Rows.fnExactReachOfRow.loopsOut == Tryz.f5.resultTypes.toList.any (Tryz.pinned.checked.prog.loopsFrom ·))) = true := by kernel_rfl
set_option maxRecDepth 100000 in
theorem reachOf_k22 : ((Rows.fnExactReachOfRow.plainKeys == Tryz.pinned.checked.prog.plainKeys)) = true := by kernel_rfl
set_option maxRecDepth 100000 in
theorem reachOf_k23 : (Rows.fnExactReachOfRow.shortTexts.isNone) = true := by kernel_rfl
set_option maxRecDepth 100000 in
theorem reachOf_k24 : (Tryz.pinned.checked.prog.stopsHeard) = true := by kernel_rfl
set_option maxRecDepth 100000 in
theorem reachOf_k25 : (Tryz.pinned.checked.prog.mayEnter) = true := by kernel_rfl
set_option maxRecDepth 100000 in
theorem reachOf_k26 : ((Rows.fnExactReachOfRow.lifted == Tryz.pinned.checked.prog.liftsFinal)) = true := by kernel_rfl
set_option maxRecDepth 100000 in
theorem reachOf_k27 : ((Tryz.pinned.checked.prog.make == some Rows.fnExactReachOfRow.make)) = true := by kernel_rfl
set_option maxRecDepth 100000 in
theorem reachOf_k28 : ((Rows.fnExactReachOfRow.kinds == (if Rows.fnExactReachOfRow.domain.isEmpty then [] else Tryz.f5.params.toList.map fun t => match Tryz.pinned.checked.prog.underlying t with | some (.int k) => some k | _ => none))) = true := by kernel_rfl
set_option maxRecDepth 100000 in
theorem reachOf_k29 : ((Rows.fnExactReachOfRow.pinned == Rows.fnExactReachOfRow.pinnedBy)) = true := by kernel_rfl
set_option maxRecDepth 100000 in
theorem reachOf_k30 : ((Rows.fnExactReachOfRow.veiled == (Tryz.f5.params.toList ++ Rows.fnExactReachOfSpec.plain.varTypes Tryz.pinned.checked.prog ++ Tryz.f5.resultTypes.toList).any (Tryz.pinned.checked.prog.veiledRec ·))) = true := by kernel_rfl
set_option maxRecDepth 100000 in
theorem reachOf_k31 : (Rows.fnExactReachOfRow.veiledFits Tryz.pinned.checked.prog Tryz.f5.params.toList (Tryz.f5.params.toList ++ Rows.fnExactReachOfSpec.plain.varTypes Tryz.pinned.checked.prog ++ Tryz.f5.resultTypes.toList)) = true := by kernel_rfl
set_option maxRecDepth 100000 in
theorem reachOf_closed : joinedFacts Tryz.pinned.checked.prog 5 Tryz.f5 Rows.fnExactReachOfSpec Rows.fnExactReachOfRow = true := by
  unfold joinedFacts
  exact (Bool.and_eq_true_iff.2 ⟨(Bool.and_eq_true_iff.2 ⟨(Bool.and_eq_true_iff.2 ⟨(Bool.and_eq_true_iff.2 ⟨(Bool.and_eq_true_iff.2 ⟨(Bool.and_eq_true_iff.2 ⟨(Bool.and_eq_true_iff.2 ⟨(Bool.and_eq_true_iff.2 ⟨(Bool.and_eq_true_iff.2 ⟨(Bool.and_eq_true_iff.2 ⟨(Bool.and_eq_true_iff.2 ⟨(Bool.and_eq_true_iff.2 ⟨(Bool.and_eq_true_iff.2 ⟨(Bool.and_eq_true_iff.2 ⟨(Bool.and_eq_true_iff.2 ⟨(Bool.and_eq_true_iff.2 ⟨(Bool.and_eq_true_iff.2 ⟨(Bool.and_eq_true_iff.2 ⟨(Bool.and_eq_true_iff.2 ⟨(Bool.and_eq_true_iff.2 ⟨(Bool.and_eq_true_iff.2 ⟨(Bool.and_eq_true_iff.2 ⟨(Bool.and_eq_true_iff.2 ⟨(Bool.and_eq_true_iff.2 ⟨(Bool.and_eq_true_iff.2 ⟨(Bool.and_eq_true_iff.2 ⟨(Bool.and_eq_true_iff.2 ⟨(Bool.and_eq_true_iff.2 ⟨(Bool.and_eq_true_iff.2 ⟨(Bool.and_eq_true_iff.2 ⟨(Bool.and_eq_true_iff.2 ⟨reachOf_k0, reachOf_k1⟩), reachOf_k2⟩), reachOf_k3⟩), reachOf_k4⟩), reachOf_k5⟩), reachOf_k6⟩), reachOf_k7⟩), reachOf_k8⟩), reachOf_k9⟩), reachOf_k10⟩), reachOf_k11⟩), reachOf_k12⟩), reachOf_k13⟩), reachOf_k14⟩), reachOf_k15⟩), reachOf_k16⟩), reachOf_k17⟩), reachOf_k18⟩), reachOf_k19⟩), reachOf_k20⟩), reachOf_k21⟩), reachOf_k22⟩), reachOf_k23⟩), reachOf_k24⟩), reachOf_k25⟩), reachOf_k26⟩), reachOf_k27⟩), reachOf_k28⟩), reachOf_k29⟩), reachOf_k30⟩), reachOf_k31⟩)
end Go.Proofs.YtphofanfadgalaaGreatDoor
