/-
  Proved here: contracts of the findings of marks in policies, builders and pages.
  No condition beyond what each statement spells out.
-/
import Derived.Test.YtonajehhfkkglabGreatSX1
import Derived.Test.YtonajehhfkkglabGreatW6
set_option linter.all false
set_option maxRecDepth 8000
set_option maxHeartbeats 8000000
namespace Go.Proofs.YtonajehhfkkglabGreat
open Go.Aw
theorem heldPolicy_ok [Tabs Tryz.prog] (a : DPolicy) (k : Int) (h0 : 0 ≤ k) (hl : k + (cPolicy a : Nat) ≤ 4611686018427387000) :
    Ok Tryz.prog 54 [.agg (ePolicy .view (mkPolicy k a)), .int .i64 k] (.int .i64 (k + (cPolicy a : Nat))) := by
  simp only [cPolicy] at hl
  have l1 := sumN_const 1 a.scripts
  have l2 := sumN_const 1 a.styles
  have l3 := sumN_const 1 a.images
  simp only [mkPolicy, ePolicy]
  refine ent Tryz.mix Tryz.func54 Tryz.ntmps54 ?_
  have W := trivial
  repeat' first|refine st ?_|(refine nx ?_;first|refine so ?_|refine sk (hc:=heldStringS_ok a.scripts _ (by omega) (by omega) (by omega)) (h:=?_)|refine sk (hc:=heldStringS_ok a.styles _ (by omega) (by omega) (by omega)) (h:=?_)|refine sk (hc:=heldStringS_ok a.images _ (by omega) (by omega) (by omega)) (h:=?_))|(refine cx ?_;refine sc (fun hc=>?_) (fun hc=>?_)<;>try exact hc.elim)|(refine lx ?_;refine sp (fun hc=>?_) (fun hc=>?_)<;>try exact hc.elim)|refine sx ?_ ?_|refine sy ?_ ?_|fail
  all_goals (try (refine ⟨.inr rfl, ?_⟩; simp [Hands, Tryz.results54, cPolicy]))
  all_goals omega
theorem heldBuilder_ok [Tabs Tryz.prog] (a : DBuilder) (k : Int) (h0 : 0 ≤ k) (hl : k + (cBuilder a : Nat) ≤ 4611686018427387000) (hb : a.nodes.length ≤ 4611686018427387904) (hba : ∀ x ∈ a.nodes, x.attrs.length ≤ 4611686018427387904) :
    Ok Tryz.prog 56 [.agg (eBuilder .view (mkBuilder k a)), .int .i64 k] (.int .i64 (k + (cBuilder a : Nat))) := by
  simp only [cBuilder] at hl
  have l1 := sumN_const 1 a.opens
  simp only [mkBuilder, eBuilder]
  refine ent Tryz.mix Tryz.func56 Tryz.ntmps56 ?_
  have W := trivial
  repeat' first|refine st ?_|(refine nx ?_;first|refine so ?_|refine sk (hc:=heldNodeS_ok a.nodes _ (by omega) (by omega) hb hba) (h:=?_)|refine sk (hc:=heldIntS_ok a.opens _ (by omega) (by omega) (by omega)) (h:=?_))|(refine cx ?_;refine sc (fun hc=>?_) (fun hc=>?_)<;>try exact hc.elim)|(refine lx ?_;refine sp (fun hc=>?_) (fun hc=>?_)<;>try exact hc.elim)|refine sx ?_ ?_|refine sy ?_ ?_|fail
  all_goals (try (refine ⟨.inr rfl, ?_⟩; simp [Hands, Tryz.results56, cBuilder]))
  all_goals omega
theorem heldPage_ok [Tabs Tryz.prog] (a : DPage) (k : Int) (h0 : 0 ≤ k) (hl : k + (cPage a : Nat) ≤ 4611686018427387000) (hq : a.queue.length ≤ 4611686018427387904) (hqa : ∀ x ∈ a.queue, x.attrs.length ≤ 4611686018427387904)
    (hb : a.builder.nodes.length ≤ 4611686018427387904) (hba : ∀ x ∈ a.builder.nodes, x.attrs.length ≤ 4611686018427387904) :
    Ok Tryz.prog 10 [.agg (ePage .view (mkPage k a)), .int .i64 k] (.int .i64 (k + (cPage a : Nat))) := by
  simp only [cPage] at hl
  have l1 := sumN_const 8 a.slots
  have l2 := sumN_const 5 a.mods
  have l3 := sumN_const 2 a.entries
  have l4 := sumN_const 2 a.ran
  have l5 := sumN_const 1 a.log
  simp only [mkPage, ePage, mkPolicy, mkBuilder]
  refine ent Tryz.mix Tryz.func10 Tryz.ntmps10 ?_
  have W := trivial
  repeat' first|refine st ?_|(refine nx ?_;first|refine so ?_|refine sk (hc:=heldPolicy_ok a.policy _ (by omega) (by omega)) (h:=?_)|refine sk (hc:=heldTokenS_ok a.queue _ (by omega) (by omega) hq hqa) (h:=?_)|refine sk (hc:=heldBuilder_ok a.builder _ (by omega) (by omega) hb hba) (h:=?_)|refine sk (hc:=heldSlotS_ok a.slots _ (by omega) (by omega) (by omega)) (h:=?_)|refine sk (hc:=heldModuleS_ok a.mods _ (by omega) (by omega) (by omega)) (h:=?_)|refine sk (hc:=heldAddrS_ok a.entries _ (by omega) (by omega) (by omega)) (h:=?_)|refine sk (hc:=heldAddrS_ok a.ran _ (by omega) (by omega) (by omega)) (h:=?_)|refine sk (hc:=heldStringS_ok a.log _ (by omega) (by omega) (by omega)) (h:=?_))|(refine cx ?_;refine sc (fun hc=>?_) (fun hc=>?_)<;>try exact hc.elim)|(refine lx ?_;refine sp (fun hc=>?_) (fun hc=>?_)<;>try exact hc.elim)|refine sx ?_ ?_|refine sy ?_ ?_|fail
  all_goals (try (refine ⟨.inr rfl, ?_⟩; simp [Hands, Tryz.results10, cPage]))
  all_goals omega
end Go.Proofs.YtonajehhfkkglabGreat
