/-
  Proved here: steps towards the statement of this claim, text SW5.
  No condition beyond what each statement spells out.
-/
import Derived.Test.YtonajehhfkkglaaGreatDoorSA0
import Derived.Test.YtonajehhfkkglaaGreatDoorF4
import Derived.Test.YtonajehhfkkglaaGreatDoorSM6
import Derived.Test.YtonajehhfkkglaaGreatDoorW1
import Derived.Test.YtonajehhfkkglaaGreatDoorW4
set_option linter.all false
set_option maxRecDepth 4000
set_option maxHeartbeats 4000000
namespace Go.Proofs.YtonajehhfkkglaaGreatDoor
open Go.Aw
end Go.Proofs.YtonajehhfkkglaaGreatDoor

set_option maxRecDepth 4000
set_option maxHeartbeats 4000000
namespace Go.Proofs.YtonajehhfkkglaaGreatDoor
open Go.Aw
theorem heldIntS_ok [Tabs Tryz.prog] (l0 : List Int) (k : Int) (h0 : 0 ≤ k) (hl : k + (sumN (fun _ => 1) l0 : Nat) ≤ 4611686018427387000) (hll : l0.length ≤ 4611686018427387904) : Ok Tryz.prog 93 [.sl .view 1 ((mkL mkint (fun _ => 1) k l0).map eInt), .int .i64 k] (.int .i64 (k + (sumN (fun _ => 1) l0 : Nat))) := by
  have hget : ∀ j (h : j < l0.length), (mkL mkint (fun _ => 1) k l0)[j]? = some (mkint (k + (sumN (fun _ => 1) (l0.take j) : Nat)) l0[j]) := fun j h => by
    rw [List.getElem?_eq_getElem (by rw [mkL_length]; exact h), mkL_get]
  generalize hu : mkL mkint (fun _ => 1) k l0 = l at *
  have hlen : l.length = l0.length := by rw [← hu, mkL_length]
  refine ent Tryz.mix Tryz.func93 Tryz.ntmps93 ?_
  have W := trivial
  repeat' first|refine st ?_|(refine nx ?_;refine so ?_)|(refine cx ?_;refine sc (fun hc=>?_) (fun hc=>?_)<;>try exact hc.elim)|(refine lx ?_;refine sp (fun hc=>?_) (fun hc=>?_)<;>try exact hc.elim)|refine sx ?_ ?_|refine sy ?_ ?_|fail
  refine awp_loop' (ι := { j : Nat // j ≤ l0.length }) (fun t o i => ⟨upds t [(1, .int .i64 (k + (sumN (fun _ => 1) (l0.take i.1) : Nat))), (5, .int .i64 i.1)], o⟩)
    (fun i => l0.length - i.1) ⟨0, by simp⟩ (weak_o (by simp) (by simp [sumN])) ?_
  rintro ⟨j, hj⟩ K1 hK1
  simp only [upds, List.set_cons_succ, List.set_cons_zero] at hK1 ⊢
  have hj1 : IntKind.i64.wrap ((j : Int) + 1) = ((j + 1 : Nat) : Int) := by rw [wrap64] <;> omega
  have hle := sumN_take_le (fun _ => 1) l0 (j + 1)
  by_cases hlt : j < l0.length
  · have hts := sumN_take_succ (fun _ => 1) l0 j hlt
    have hg : l[j]? = some (mkint (k + (sumN (fun _ => 1) (l0.take j) : Nat)) l0[j]) := hget j hlt
    generalize hq : k + (sumN (fun _ => 1) (l0.take j) : Nat) = q at *
    simp only [mkint, markB] at hg
    have W := And.intro hlen (And.intro hj1 hg)
    have V := And.intro hlen (And.intro hj1 (And.intro hg hlt))
    repeat' first|refine st ?_|(refine nx ?_;refine so ?_)|(refine cx ?_;refine sc (fun hc=>?_) (fun hc=>?_)<;>try exact hc.elim)|(refine lx ?_;refine sp (fun hc=>?_) (fun hc=>?_)<;>try exact hc.elim)|refine sx ?_ ?_|refine sy ?_ ?_|fail
    refine hK1 _ ⟨j + 1, by omega⟩ (weak_o (by simp) ?_) (by simp only; omega)
    simp
    omega
  · have htk : l0.take j = l0 := List.take_of_length_le (by omega)
    have hjl : j = l0.length := by omega
    rw [htk] at *
    have W := And.intro hlen hj1
    repeat' first|refine st ?_|(refine nx ?_;refine so ?_)|(refine cx ?_;refine sc (fun hc=>?_) (fun hc=>?_)<;>try exact hc.elim)|(refine lx ?_;refine sp (fun hc=>?_) (fun hc=>?_)<;>try exact hc.elim)|refine sx ?_ ?_|refine sy ?_ ?_|fail
    all_goals (try (refine ⟨.inr rfl, ?_⟩; simp [Hands, Tryz.results93]))
end Go.Proofs.YtonajehhfkkglaaGreatDoor

set_option maxRecDepth 8000
set_option maxHeartbeats 8000000
namespace Go.Proofs.YtonajehhfkkglaaGreatDoor
open Go.Aw
def cSheet (a : DSheet) : Nat := sumN (fun _ => 2) a.rules
def mkSheet (k : Int) (a : DSheet) : DSheet := ⟨mkL mkRule (fun _ => 2) k a.rules⟩
def cResult (a : DResult) : Nat := cBuilder a.builder + sumN (fun _ => 1) a.log + sumN (fun _ => 1) a.verdicts + cSheet a.sheet
def mkResult (k : Int) (a : DResult) : DResult := { a with
  builder := mkBuilder k a.builder
  log := mkL mkstring (fun _ => 1) (k + (cBuilder a.builder : Nat)) a.log
  verdicts := mkL mkstring (fun _ => 1) (k + (cBuilder a.builder : Nat) + (sumN (fun _ => 1) a.log : Nat)) a.verdicts
  sheet := mkSheet (k + (cBuilder a.builder : Nat) + (sumN (fun _ => 1) a.log : Nat) + (sumN (fun _ => 1) a.verdicts : Nat)) a.sheet }
theorem markSheet_ok [Tabs Tryz.prog] (a : DSheet) (k : Int) (h0 : 0 ≤ k) (hl : k + (cSheet a : Nat) ≤ 4611686018427387000) : OkM Tryz.prog 56 (.agg (eSheet .own a)) (.agg (eSheet .own (mkSheet k a))) [.int .i64 k] (.int .i64 (k + (cSheet a : Nat))) := by
  simp only [cSheet] at hl
  have l2 := sumN_const 2 a.rules
  refine entM Tryz.mix Tryz.func56 Tryz.ntmps56 ?_
  have W := trivial
  repeat' first|refine st ?_|(refine nx ?_;first|refine so ?_|refine sm (hc:=markRuleS_ok a.rules _ (by omega) (by omega) (by omega)) (h:=?_))|(refine cx ?_;refine sc (fun hc=>?_) (fun hc=>?_)<;>try exact hc.elim)|(refine lx ?_;refine sp (fun hc=>?_) (fun hc=>?_)<;>try exact hc.elim)|refine sx ?_ ?_|refine sy ?_ ?_|fail
  all_goals (try (refine ⟨.inr rfl, ?_⟩; simp [HandsM, Tryz.results56, mkSheet, cSheet]))
  all_goals (try omega)
theorem markResult_ok [Tabs Tryz.prog] (a : DResult) (k : Int) (h0 : 0 ≤ k) (hl : k + (cResult a : Nat) ≤ 4611686018427387000) (hb : a.builder.nodes.length ≤ 4611686018427387904) (hba : ∀ x ∈ a.builder.nodes, x.attrs.length ≤ 4611686018427387904) : OkM Tryz.prog 11 (.agg (eResult .own a)) (.agg (eResult .own (mkResult k a))) [.int .i64 k] (.int .i64 (k + (cResult a : Nat))) := by
  simp only [cResult] at hl
  have l1 := sumN_const 1 a.log
  have l2 := sumN_const 1 a.verdicts
  refine entM Tryz.mix Tryz.func11 Tryz.ntmps11 ?_
  have W := trivial
  repeat' first|refine st ?_|(refine nx ?_;first|refine so ?_|refine sm (hc:=markBuilder_ok a.builder _ (by omega) (by omega) hb hba) (h:=?_)|refine sm (hc:=markStringS_ok a.log _ (by omega) (by omega) (by omega)) (h:=?_)|refine sm (hc:=markStringS_ok a.verdicts _ (by omega) (by omega) (by omega)) (h:=?_)|refine sm (hc:=markSheet_ok a.sheet _ (by omega) (by omega)) (h:=?_))|(refine cx ?_;refine sc (fun hc=>?_) (fun hc=>?_)<;>try exact hc.elim)|(refine lx ?_;refine sp (fun hc=>?_) (fun hc=>?_)<;>try exact hc.elim)|refine sx ?_ ?_|refine sy ?_ ?_|fail
  all_goals (try (refine ⟨.inr rfl, ?_⟩; simp [HandsM, Tryz.results11, mkResult, mkBuilder, mkSheet, cResult, cBuilder, cSheet]))
  all_goals (try omega)
theorem heldSheet_ok [Tabs Tryz.prog] (a : DSheet) (k : Int) (h0 : 0 ≤ k) (hl : k + (cSheet a : Nat) ≤ 4611686018427387000) : Ok Tryz.prog 59 [.agg (eSheet .view (mkSheet k a)), .int .i64 k] (.int .i64 (k + (cSheet a : Nat))) := by
  simp only [cSheet] at hl
  have l1 := sumN_const 2 a.rules
  simp only [mkSheet, eSheet]
  refine ent Tryz.mix Tryz.func59 Tryz.ntmps59 ?_
  have W := trivial
  repeat' first|refine st ?_|(refine nx ?_;first|refine so ?_|refine sk (hc:=heldRuleS_ok a.rules _ (by omega) (by omega) (by omega)) (h:=?_))|(refine cx ?_;refine sc (fun hc=>?_) (fun hc=>?_)<;>try exact hc.elim)|(refine lx ?_;refine sp (fun hc=>?_) (fun hc=>?_)<;>try exact hc.elim)|refine sx ?_ ?_|refine sy ?_ ?_|fail
  all_goals (try (refine ⟨.inr rfl, ?_⟩; simp [Hands, Tryz.results59, cSheet]))
  all_goals omega
end Go.Proofs.YtonajehhfkkglaaGreatDoor
