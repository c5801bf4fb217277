/-
  Proved here: contracts of the findings of marks in tokens and nodes.
  No condition beyond what each statement spells out.
-/
import Derived.Test.YtonajehhfkkglaaGreatDoorW4
import Derived.Test.YtonajehhfkkglaaGreatDoorSA0
import Derived.Test.YtonajehhfkkglaaGreatDoorF4
import Derived.Test.YtonajehhfkkglaaGreatDoorSW5
set_option linter.all false
set_option maxRecDepth 4000
set_option maxHeartbeats 4000000
namespace Go.Proofs.YtonajehhfkkglaaGreatDoor
open Go.Aw
theorem heldNodeS_ok [Tabs Tryz.prog] (l0 : List DNode) (k : Int) (h0 : 0 ≤ k) (hl : k + (sumN cNode l0 : Nat) ≤ 4611686018427387000) (hll : l0.length ≤ 4611686018427387904) (hla : ∀ x ∈ l0, x.attrs.length ≤ 4611686018427387904) :
    Ok Tryz.prog 92 [.sl .view 4 ((mkL mkNode cNode k l0).map (eNode .view)), .int .i64 k] (.int .i64 (k + (sumN cNode l0 : Nat))) := by
  have hget : ∀ j (h : j < l0.length), (mkL mkNode cNode k l0)[j]? = some (mkNode (k + (sumN cNode (l0.take j) : Nat)) l0[j]) := fun j h => by
    rw [List.getElem?_eq_getElem (by rw [mkL_length]; exact h), mkL_get]
  generalize hu : mkL mkNode cNode k l0 = l at *
  have hlen : l.length = l0.length := by rw [← hu, mkL_length]
  refine ent Tryz.mix Tryz.func92 Tryz.ntmps92 ?_
  have W := trivial
  repeat' first|refine st ?_|(refine nx ?_;refine so ?_)|(refine cx ?_;refine sc (fun hc=>?_) (fun hc=>?_)<;>try exact hc.elim)|(refine lx ?_;refine sp (fun hc=>?_) (fun hc=>?_)<;>try exact hc.elim)|refine sx ?_ ?_|refine sy ?_ ?_|fail
  refine awp_loop' (ι := { j : Nat // j ≤ l0.length }) (fun t o i => ⟨upds t [(1, .int .i64 (k + (sumN cNode (l0.take i.1) : Nat))), (5, .int .i64 i.1)], o⟩)
    (fun i => l0.length - i.1) ⟨0, by simp⟩ (weak_o (by simp) (by simp [sumN])) ?_
  rintro ⟨j, hj⟩ K1 hK1
  simp only [upds, List.set_cons_succ, List.set_cons_zero] at hK1 ⊢
  have hj1 : IntKind.i64.wrap ((j : Int) + 1) = ((j + 1 : Nat) : Int) := by rw [wrap64] <;> omega
  have hle := sumN_take_le cNode l0 (j + 1)
  by_cases hlt : j < l0.length
  · have hts := sumN_take_succ cNode l0 j hlt
    have hg : l[j]? = some (mkNode (k + (sumN cNode (l0.take j) : Nat)) l0[j]) := hget j hlt
    have hcx : cNode l0[j] = 3 + sumN (fun _ => 2) l0[j].attrs := rfl
    have hax := hla _ (List.getElem_mem hlt)
    generalize hq : k + (sumN cNode (l0.take j) : Nat) = q at *
    have e2 : q + 1 + 1 = q + 2 := by omega
    have e3 : q + 2 + 1 = q + 3 := by omega
    simp only [mkNode, markB] at hg
    have W := And.intro hlen (And.intro hj1 (And.intro hg (And.intro e2 e3)))
    have V := And.intro hlen (And.intro hj1 (And.intro hg (And.intro hlt (And.intro e2 e3))))
    repeat' first|refine st ?_|(refine nx ?_;first|refine so ?_|refine sk (hc:=heldAttrS_ok l0[j].attrs _ (by omega) (by omega) (by omega)) (h:=?_)|refine sk (hc:=markText_ok _ (by omega)) (h:=?_))|(refine cx ?_;refine sc (fun hc=>?_) (fun hc=>?_)<;>try exact hc.elim)|(refine lx ?_;refine sp (fun hc=>?_) (fun hc=>?_)<;>try exact hc.elim)|refine sx ?_ ?_|refine sy ?_ ?_|fail
    all_goals first | (exfalso; omega) | refine hK1 _ ⟨j + 1, by omega⟩ (weak_o (by simp) ?_) (by simp only; omega)
    all_goals (simp; omega)
  · have htk : l0.take j = l0 := List.take_of_length_le (by omega)
    have hjl : j = l0.length := by omega
    rw [htk] at *
    have W := And.intro hlen hj1
    repeat' first|refine st ?_|(refine nx ?_;refine so ?_)|(refine cx ?_;refine sc (fun hc=>?_) (fun hc=>?_)<;>try exact hc.elim)|(refine lx ?_;refine sp (fun hc=>?_) (fun hc=>?_)<;>try exact hc.elim)|refine sx ?_ ?_|refine sy ?_ ?_|fail
    all_goals (try (refine ⟨.inr rfl, ?_⟩; simp [Hands, Tryz.results92]))
end Go.Proofs.YtonajehhfkkglaaGreatDoor

set_option maxRecDepth 4000
set_option maxHeartbeats 4000000
namespace Go.Proofs.YtonajehhfkkglaaGreatDoor
open Go.Aw
end Go.Proofs.YtonajehhfkkglaaGreatDoor

set_option maxRecDepth 8000
set_option maxHeartbeats 8000000
namespace Go.Proofs.YtonajehhfkkglaaGreatDoor
open Go.Aw
theorem heldBuilderR_ok [Tabs Tryz.prog] (a : DBuilder) (k : Int) (h0 : 0 ≤ k) (hl : k + (cBuilder a : Nat) ≤ 4611686018427387000) (hb : a.nodes.length ≤ 4611686018427387904) (hba : ∀ x ∈ a.nodes, x.attrs.length ≤ 4611686018427387904) :
    Ok Tryz.prog 57 [.agg (eBuilder .view (mkBuilder k a)), .int .i64 k] (.int .i64 (k + (cBuilder a : Nat))) := by
  simp only [cBuilder] at hl
  have l1 := sumN_const 1 a.opens
  simp only [mkBuilder, eBuilder]
  refine ent Tryz.mix Tryz.func57 Tryz.ntmps57 ?_
  have W := trivial
  repeat' first|refine st ?_|(refine nx ?_;first|refine so ?_|refine sk (hc:=heldNodeS_ok a.nodes _ (by omega) (by omega) hb hba) (h:=?_)|refine sk (hc:=heldIntS_ok a.opens _ (by omega) (by omega) (by omega)) (h:=?_))|(refine cx ?_;refine sc (fun hc=>?_) (fun hc=>?_)<;>try exact hc.elim)|(refine lx ?_;refine sp (fun hc=>?_) (fun hc=>?_)<;>try exact hc.elim)|refine sx ?_ ?_|refine sy ?_ ?_|fail
  all_goals (try (refine ⟨.inr rfl, ?_⟩; simp [Hands, Tryz.results57, cBuilder]))
  all_goals omega
theorem heldResult_ok [Tabs Tryz.prog] (a : DResult) (k : Int) (h0 : 0 ≤ k) (hl : k + (cResult a : Nat) ≤ 4611686018427387000) (hb : a.builder.nodes.length ≤ 4611686018427387904) (hba : ∀ x ∈ a.builder.nodes, x.attrs.length ≤ 4611686018427387904) : Ok Tryz.prog 12 [.agg (eResult .view (mkResult k a)), .int .i64 k] (.int .i64 (k + (cResult a : Nat))) := by
  simp only [cResult] at hl
  have l1 := sumN_const 1 a.log
  have l2 := sumN_const 1 a.verdicts
  have c1 := heldBuilderR_ok a.builder k h0 (by omega) hb hba
  have c2 := heldSheet_ok a.sheet (k + (cBuilder a.builder : Nat) + (sumN (fun _ => 1) a.log : Nat) + (sumN (fun _ => 1) a.verdicts : Nat)) (by omega) (by omega)
  simp only [eBuilder, mkBuilder] at c1
  simp only [eSheet, mkSheet] at c2
  simp only [mkResult, eResult, mkBuilder, mkSheet]
  refine ent Tryz.mix Tryz.func12 Tryz.ntmps12 ?_
  have W := trivial
  have c0 := c1
  have c1 := c2
  repeat' first|refine st ?_|(refine nx ?_;first|refine so ?_|refine sk (hc:=heldStringS_ok a.log _ (by omega) (by omega) (by omega)) (h:=?_)|refine sk (hc:=heldStringS_ok a.verdicts _ (by omega) (by omega) (by omega)) (h:=?_))|(refine cx ?_;refine sc (fun hc=>?_) (fun hc=>?_)<;>try exact hc.elim)|(refine lx ?_;refine sp (fun hc=>?_) (fun hc=>?_)<;>try exact hc.elim)|refine sx ?_ ?_|refine sy ?_ ?_|fail
  all_goals (try (refine ⟨.inr rfl, ?_⟩; simp [Hands, Tryz.results12, cResult]))
  all_goals omega
end Go.Proofs.YtonajehhfkkglaaGreatDoor
