/-
  Proved here: steps towards the statement of this claim, text W4.
  No condition beyond what each statement spells out.
-/
import Derived.Test.YtonajehhfkkglabGreatSV3
import Derived.Test.YtonajehhfkkglabGreatF4
set_option linter.all false
set_option maxRecDepth 4000
set_option maxHeartbeats 4000000
namespace Go.Proofs.YtonajehhfkkglabGreat
open Go.Aw
theorem heldStringS_ok [Tabs Tryz.prog] (l0 : List Str) (k : Int) (h0 : 0 ≤ k) (hl : k + (sumN (fun _ => 1) l0 : Nat) ≤ 4611686018427387000) (hll : l0.length ≤ 4611686018427387904) : Ok Tryz.prog 60 [.sl .view 1 ((mkL mkstring (fun _ => 1) k l0).map eStr), .int .i64 k] (.int .i64 (k + (sumN (fun _ => 1) l0 : Nat))) := by
  have hget : ∀ j (h : j < l0.length), (mkL mkstring (fun _ => 1) k l0)[j]? = some (mkstring (k + (sumN (fun _ => 1) (l0.take j) : Nat)) l0[j]) := fun j h => by
    rw [List.getElem?_eq_getElem (by rw [mkL_length]; exact h), mkL_get]
  generalize hu : mkL mkstring (fun _ => 1) k l0 = l at *
  have hlen : l.length = l0.length := by rw [← hu, mkL_length]
  refine ent Tryz.mix Tryz.func60 Tryz.ntmps60 ?_
  have W := trivial
  repeat' first|refine st ?_|(refine nx ?_;refine so ?_)|(refine cx ?_;refine sc (fun hc=>?_) (fun hc=>?_)<;>try exact hc.elim)|(refine lx ?_;refine sp (fun hc=>?_) (fun hc=>?_)<;>try exact hc.elim)|refine sx ?_ ?_|refine sy ?_ ?_|fail
  refine awp_loop' (ι := { j : Nat // j ≤ l0.length }) (fun t o i => ⟨upds t [(1, .int .i64 (k + (sumN (fun _ => 1) (l0.take i.1) : Nat))), (5, .int .i64 i.1)], o⟩)
    (fun i => l0.length - i.1) ⟨0, by simp⟩ (weak_o (by simp) (by simp [sumN])) ?_
  rintro ⟨j, hj⟩ K1 hK1
  simp only [upds, List.set_cons_succ, List.set_cons_zero] at hK1 ⊢
  have hj1 : IntKind.i64.wrap ((j : Int) + 1) = ((j + 1 : Nat) : Int) := by rw [wrap64] <;> omega
  have hle := sumN_take_le (fun _ => 1) l0 (j + 1)
  by_cases hlt : j < l0.length
  · have hts := sumN_take_succ (fun _ => 1) l0 j hlt
    have hg : l[j]? = some (mkstring (k + (sumN (fun _ => 1) (l0.take j) : Nat)) l0[j]) := hget j hlt
    generalize hq : k + (sumN (fun _ => 1) (l0.take j) : Nat) = q at *
    simp only [mkstring, markB] at hg
    have W := And.intro hlen (And.intro hj1 hg)
    have V := And.intro hlen (And.intro hj1 (And.intro hg hlt))
    repeat' first|refine st ?_|(refine nx ?_;first|refine so ?_|refine sk (hc:=markText_ok _ (by omega)) (h:=?_))|(refine cx ?_;refine sc (fun hc=>?_) (fun hc=>?_)<;>try exact hc.elim)|(refine lx ?_;refine sp (fun hc=>?_) (fun hc=>?_)<;>try exact hc.elim)|refine sx ?_ ?_|refine sy ?_ ?_|fail
    refine hK1 _ ⟨j + 1, by omega⟩ (weak_o (by simp) ?_) (by simp only; omega)
    simp
    omega
  · have htk : l0.take j = l0 := List.take_of_length_le (by omega)
    have hjl : j = l0.length := by omega
    rw [htk] at *
    have W := And.intro hlen hj1
    repeat' first|refine st ?_|(refine nx ?_;refine so ?_)|(refine cx ?_;refine sc (fun hc=>?_) (fun hc=>?_)<;>try exact hc.elim)|(refine lx ?_;refine sp (fun hc=>?_) (fun hc=>?_)<;>try exact hc.elim)|refine sx ?_ ?_|refine sy ?_ ?_|fail
    all_goals (try (refine ⟨.inr rfl, ?_⟩; simp [Hands, Tryz.results60]))
theorem heldAddrS_ok [Tabs Tryz.prog] (l0 : List DAddr) (k : Int) (h0 : 0 ≤ k) (hl : k + (sumN (fun _ => 2) l0 : Nat) ≤ 4611686018427387000) (hll : l0.length ≤ 4611686018427387904) : Ok Tryz.prog 59 [.sl .view 2 ((mkL mkAddr (fun _ => 2) k l0).map eAddr), .int .i64 k] (.int .i64 (k + (sumN (fun _ => 2) l0 : Nat))) := by
  have hget : ∀ j (h : j < l0.length), (mkL mkAddr (fun _ => 2) k l0)[j]? = some (mkAddr (k + (sumN (fun _ => 2) (l0.take j) : Nat)) l0[j]) := fun j h => by
    rw [List.getElem?_eq_getElem (by rw [mkL_length]; exact h), mkL_get]
  generalize hu : mkL mkAddr (fun _ => 2) k l0 = l at *
  have hlen : l.length = l0.length := by rw [← hu, mkL_length]
  refine ent Tryz.mix Tryz.func59 Tryz.ntmps59 ?_
  have W := trivial
  repeat' first|refine st ?_|(refine nx ?_;refine so ?_)|(refine cx ?_;refine sc (fun hc=>?_) (fun hc=>?_)<;>try exact hc.elim)|(refine lx ?_;refine sp (fun hc=>?_) (fun hc=>?_)<;>try exact hc.elim)|refine sx ?_ ?_|refine sy ?_ ?_|fail
  refine awp_loop' (ι := { j : Nat // j ≤ l0.length }) (fun t o i => ⟨upds t [(1, .int .i64 (k + (sumN (fun _ => 2) (l0.take i.1) : Nat))), (5, .int .i64 i.1)], o⟩)
    (fun i => l0.length - i.1) ⟨0, by simp⟩ (weak_o (by simp) (by simp [sumN])) ?_
  rintro ⟨j, hj⟩ K1 hK1
  simp only [upds, List.set_cons_succ, List.set_cons_zero] at hK1 ⊢
  have hj1 : IntKind.i64.wrap ((j : Int) + 1) = ((j + 1 : Nat) : Int) := by rw [wrap64] <;> omega
  have hle := sumN_take_le (fun _ => 2) l0 (j + 1)
  by_cases hlt : j < l0.length
  · have hts := sumN_take_succ (fun _ => 2) l0 j hlt
    have hg : l[j]? = some (mkAddr (k + (sumN (fun _ => 2) (l0.take j) : Nat)) l0[j]) := hget j hlt
    generalize hq : k + (sumN (fun _ => 2) (l0.take j) : Nat) = q at *
    have e2 : q + 1 + 1 = q + 2 := by omega
    simp only [mkAddr, markB] at hg
    have W := And.intro hlen (And.intro hj1 (And.intro hg e2))
    have V := And.intro hlen (And.intro hj1 (And.intro hg (And.intro hlt e2)))
    repeat' first|refine st ?_|(refine nx ?_;first|refine so ?_|refine sk (hc:=markText_ok _ (by omega)) (h:=?_))|(refine cx ?_;refine sc (fun hc=>?_) (fun hc=>?_)<;>try exact hc.elim)|(refine lx ?_;refine sp (fun hc=>?_) (fun hc=>?_)<;>try exact hc.elim)|refine sx ?_ ?_|refine sy ?_ ?_|fail
    refine hK1 _ ⟨j + 1, by omega⟩ (weak_o (by simp) ?_) (by simp only; omega)
    simp
    omega
  · have htk : l0.take j = l0 := List.take_of_length_le (by omega)
    have hjl : j = l0.length := by omega
    rw [htk] at *
    have W := And.intro hlen hj1
    repeat' first|refine st ?_|(refine nx ?_;refine so ?_)|(refine cx ?_;refine sc (fun hc=>?_) (fun hc=>?_)<;>try exact hc.elim)|(refine lx ?_;refine sp (fun hc=>?_) (fun hc=>?_)<;>try exact hc.elim)|refine sx ?_ ?_|refine sy ?_ ?_|fail
    all_goals (try (refine ⟨.inr rfl, ?_⟩; simp [Hands, Tryz.results59]))
theorem heldAttrS_ok [Tabs Tryz.prog] (l0 : List DAttr) (k : Int) (h0 : 0 ≤ k) (hl : k + (sumN (fun _ => 2) l0 : Nat) ≤ 4611686018427387000) (hll : l0.length ≤ 4611686018427387904) : Ok Tryz.prog 98 [.sl .view 2 ((mkL mkAttr (fun _ => 2) k l0).map eAttr), .int .i64 k] (.int .i64 (k + (sumN (fun _ => 2) l0 : Nat))) := by
  have hget : ∀ j (h : j < l0.length), (mkL mkAttr (fun _ => 2) k l0)[j]? = some (mkAttr (k + (sumN (fun _ => 2) (l0.take j) : Nat)) l0[j]) := fun j h => by
    rw [List.getElem?_eq_getElem (by rw [mkL_length]; exact h), mkL_get]
  generalize hu : mkL mkAttr (fun _ => 2) k l0 = l at *
  have hlen : l.length = l0.length := by rw [← hu, mkL_length]
  refine ent Tryz.mix Tryz.func98 Tryz.ntmps98 ?_
  have W := trivial
  repeat' first|refine st ?_|(refine nx ?_;refine so ?_)|(refine cx ?_;refine sc (fun hc=>?_) (fun hc=>?_)<;>try exact hc.elim)|(refine lx ?_;refine sp (fun hc=>?_) (fun hc=>?_)<;>try exact hc.elim)|refine sx ?_ ?_|refine sy ?_ ?_|fail
  refine awp_loop' (ι := { j : Nat // j ≤ l0.length }) (fun t o i => ⟨upds t [(1, .int .i64 (k + (sumN (fun _ => 2) (l0.take i.1) : Nat))), (5, .int .i64 i.1)], o⟩)
    (fun i => l0.length - i.1) ⟨0, by simp⟩ (weak_o (by simp) (by simp [sumN])) ?_
  rintro ⟨j, hj⟩ K1 hK1
  simp only [upds, List.set_cons_succ, List.set_cons_zero] at hK1 ⊢
  have hj1 : IntKind.i64.wrap ((j : Int) + 1) = ((j + 1 : Nat) : Int) := by rw [wrap64] <;> omega
  have hle := sumN_take_le (fun _ => 2) l0 (j + 1)
  by_cases hlt : j < l0.length
  · have hts := sumN_take_succ (fun _ => 2) l0 j hlt
    have hg : l[j]? = some (mkAttr (k + (sumN (fun _ => 2) (l0.take j) : Nat)) l0[j]) := hget j hlt
    generalize hq : k + (sumN (fun _ => 2) (l0.take j) : Nat) = q at *
    have e2 : q + 1 + 1 = q + 2 := by omega
    simp only [mkAttr, markB] at hg
    have W := And.intro hlen (And.intro hj1 (And.intro hg e2))
    have V := And.intro hlen (And.intro hj1 (And.intro hg (And.intro hlt e2)))
    repeat' first|refine st ?_|(refine nx ?_;first|refine so ?_|refine sk (hc:=markText_ok _ (by omega)) (h:=?_))|(refine cx ?_;refine sc (fun hc=>?_) (fun hc=>?_)<;>try exact hc.elim)|(refine lx ?_;refine sp (fun hc=>?_) (fun hc=>?_)<;>try exact hc.elim)|refine sx ?_ ?_|refine sy ?_ ?_|fail
    refine hK1 _ ⟨j + 1, by omega⟩ (weak_o (by simp) ?_) (by simp only; omega)
    simp
    omega
  · have htk : l0.take j = l0 := List.take_of_length_le (by omega)
    have hjl : j = l0.length := by omega
    rw [htk] at *
    have W := And.intro hlen hj1
    repeat' first|refine st ?_|(refine nx ?_;refine so ?_)|(refine cx ?_;refine sc (fun hc=>?_) (fun hc=>?_)<;>try exact hc.elim)|(refine lx ?_;refine sp (fun hc=>?_) (fun hc=>?_)<;>try exact hc.elim)|refine sx ?_ ?_|refine sy ?_ ?_|fail
    all_goals (try (refine ⟨.inr rfl, ?_⟩; simp [Hands, Tryz.results98]))
end Go.Proofs.YtonajehhfkkglabGreat
