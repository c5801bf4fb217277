/-
  Proved here: steps towards the statement of this claim, text Z3.
  No condition beyond what each statement spells out.
-/
import Derived.Test.YtkjhhcgnfppdiaaGreatDoorW1
import Derived.Test.YtkjhhcgnfppdiaaGreatDoorW4
import Derived.Test.YtkjhhcgnfppdiaaGreatDoorM5
import Derived.Test.YtkjhhcgnfppdiaaGreatDoorU3
set_option linter.all false
set_option linter.unusedSimpArgs false
set_option linter.unusedVariables false
set_option maxRecDepth 4000
set_option maxHeartbeats 4000000
namespace Go.Proofs.YtkjhhcgnfppdiaaGreatDoor
open Go.Aw
theorem eqSheetS_ok [Tabs Tryz.prog] (a b : List DSheet) (hs : szL szSheet a ≤ 1099511627776) : Ok Tryz.prog 24 [.sl .view 1 (a.map (eSheet .view)), .sl .view 1 (b.map (eSheet .view))] (.bool (decide (a = b))) := by
  have hl : a.length ≤ 1099511627776 := by (try simp only [szL] at hs); omega
  refine ent Tryz.mix Tryz.func24 Tryz.ntmps24 ?_
  have W := trivial
  repeat' first|refine st ?_|(refine nx ?_;refine so ?_)|(refine cx ?_;refine sc (fun hc=>?_) (fun hc=>?_)<;>try exact hc.elim)|(refine lx ?_;refine sp (fun hc=>?_) (fun hc=>?_)<;>try exact hc.elim)|refine sx ?_ ?_|refine sy ?_ ?_|fail
  · all_goals (try (refine ⟨.inr rfl, ?_⟩; simp [Hands, Tryz.results24]))
    intro h; subst h; exact absurd rfl hc
  · have hlen : a.length = b.length := by omega
    refine awp_loop' (ι := { k : Nat // k ≤ a.length ∧ a.take k = b.take k }) (fun t o i => ⟨upds t [(5, .int .i64 i.1)], []⟩)
      (fun i => a.length - i.1) ⟨0, by simp⟩ (weak_o (by simp) (by simp)) ?_
    rintro ⟨k, hk, hpre⟩ K1 hK1
    simp only [upds, List.set_cons_succ, List.set_cons_zero] at hK1 ⊢
    have hk1 : IntKind.i64.wrap ((k : Int) + 1) = ((k + 1 : Nat) : Int) := by rw [wrap64] <;> omega
    by_cases hlt : k < a.length
    · have hg := List.getElem?_eq_getElem hlt
      have hltb : k < b.length := by omega
      have hgb := List.getElem?_eq_getElem hltb
      have W := And.intro hk1 (And.intro hg (And.intro hlt (And.intro hgb hltb)))
      repeat' first|refine st ?_|(refine nx ?_;first|refine so ?_|refine sk (hc:=eqSheet_ok a[k] b[k] (by have := sumN_get_le szSheet a k hlt; (try simp only [szL] at hs); omega)) (h:=?_))|(refine cx ?_;refine sc (fun hc=>?_) (fun hc=>?_)<;>try exact hc.elim)|(refine lx ?_;refine sp (fun hc=>?_) (fun hc=>?_)<;>try exact hc.elim)|refine sx ?_ ?_|refine sy ?_ ?_|fail
      · all_goals (try (refine ⟨.inr rfl, ?_⟩; simp [Hands, Tryz.results24]))
        intro h; subst h; exact hc rfl
      · have hts : a.take (k + 1) = b.take (k + 1) := by
          rw [List.take_succ_eq_append_getElem hlt, List.take_succ_eq_append_getElem hltb, hpre, hc]
        refine hK1 _ ⟨k + 1, by omega, hts⟩ (weak_o (by simp) (by simp)) (by simp only; omega)
    · have hka : a.length ≤ k := by omega
      rw [List.take_of_length_le hka, List.take_of_length_le (by omega)] at hpre
      subst hpre
      have W := hk1
      repeat' first|refine st ?_|(refine nx ?_;refine so ?_)|(refine cx ?_;refine sc (fun hc=>?_) (fun hc=>?_)<;>try exact hc.elim)|(refine lx ?_;refine sp (fun hc=>?_) (fun hc=>?_)<;>try exact hc.elim)|refine sx ?_ ?_|refine sy ?_ ?_|fail
      all_goals (try (refine ⟨.inr rfl, ?_⟩; simp [Hands, Tryz.results24]))
def mkSheet (k : Int) (x : DSheet) : DSheet := { rules := mkL mkRule (fun _ => 2) k x.rules }
def cSheet (x : DSheet) : Nat := sumN (fun _ => 2) x.rules
theorem pure_Sheet (l : List DSheet) : ((l.map (eSheet .own)).all fun r => r.all AV.pureA) = true := by simp [AV.pureA]
theorem nd_Sheet (l : List DSheet) : ((l.map (eSheet .own)).all fun r => r.all AV.nd) = true := by simp [AV.nd]
theorem markSheetS_ok [Tabs Tryz.prog] (l : List DSheet) (k : Int) (h0 : 0 ≤ k) (hl : k + (sumN cSheet l : Nat) ≤ 4611686018427387000) (hll : l.length ≤ 4611686018427387904) (hla : ∀ x ∈ l, x.rules.length ≤ 4611686018427387904) :
    OkM Tryz.prog 25 (.sl .own 1 (l.map (eSheet .own))) (.sl .own 1 ((mkL mkSheet cSheet k l).map (eSheet .own))) [.int .i64 k] (.int .i64 (k + (sumN cSheet l : Nat))) := by
  have hpR := pure_Sheet l
  have hpL := pure_Sheet (mkL mkSheet cSheet k l)
  have hnR := nd_Sheet l
  have hnL := nd_Sheet (mkL mkSheet cSheet k l)
  have hcl : cleanr ((mkL mkSheet cSheet k l).map (eSheet .own)) = true := by simp
  generalize hu : (mkL mkSheet cSheet k l).map (eSheet .own) = l' at *
  generalize hR : l.map (eSheet .own) = R at *
  have hRl : R.length = l.length := by rw [← hR]; simp
  have hul : l'.length = R.length := by rw [← hu, hRl]; simp [mkL_length]
  let OB : Nat → List AObj := fun j => if h : j < l.length then [⟨true, true, 1, 0, (mixL R l' j).set j [.obj 1 1]⟩, ⟨true, false, 2, 1, l[j].rules.map eRule⟩] else [⟨true, false, 1, 0, l'⟩]
  have open_j : ∀ (t t' : List AV) (j : Nat), j ≤ l.length → wk (rtc (dropf [0]) true t) t' → wk t t' → Weak ⟨t, [⟨true, false, 1, 0, mixL R l' j⟩]⟩ ⟨t', OB j⟩ := by
    intro t t' j hj h1 h2
    by_cases h : j < l.length
    · have e1 : OB j = [⟨true, true, 1, 0, (mixL R l' j).set j [.obj 1 1]⟩, ⟨true, false, 2, 1, l[j].rules.map eRule⟩] := dif_pos h
      rw [e1]
      have hg := mixL_get R l' j (by omega) (by omega)
      have hRj : R[j]'(by omega) = eSheet .own l[j] := by subst hR; simp
      rw [hRj] at hg
      exact weak_open 0 j 0 rfl rfl rfl hg rfl rfl h1
    · have e1 : OB j = [⟨true, false, 1, 0, l'⟩] := dif_neg h
      rw [e1, mixL_all R l' j hul (by omega)]
      exact weak_t h2
  refine entM Tryz.mix Tryz.func25 Tryz.ntmps25 ?_
  have W := trivial
  repeat' first|refine st ?_|(refine nx ?_;refine so ?_)|(refine cx ?_;refine sc (fun hc=>?_) (fun hc=>?_)<;>try exact hc.elim)|(refine lx ?_;refine sp (fun hc=>?_) (fun hc=>?_)<;>try exact hc.elim)|refine sx ?_ ?_|refine sy ?_ ?_|fail
  refine awp_loop' (ι := { j : Nat // j ≤ l.length }) (fun t o i => ⟨upds t [(1, .int .i64 (k + (sumN cSheet (l.take i.1) : Nat))), (5, .int .i64 i.1)], OB i.1⟩)
    (fun i => l.length - i.1) ⟨0, by simp⟩ (by rw [← mixL_zero R l']; exact open_j _ _ 0 (by omega) (by simp [sumN]) (by simp [sumN])) ?_
  rintro ⟨j, hj⟩ K1 hK1
  simp only [upds, List.set_cons_succ, List.set_cons_zero] at hK1 ⊢
  have hj1 : IntKind.i64.wrap ((j : Int) + 1) = ((j + 1 : Nat) : Int) := by rw [wrap64] <;> omega
  have hml : (mixL R l' j).length = l.length := by rw [mixL_length _ _ _ hul, hRl]
  have hle := sumN_take_le cSheet l (j + 1)
  by_cases hlt : j < l.length
  · have hts := sumN_take_succ cSheet l j hlt
    have hms := mixL_set R l' j (by omega) (by omega)
    have he : l'[j]'(by omega) = eSheet .own (mkSheet (k + (sumN cSheet (l.take j) : Nat)) l[j]) := by
      subst hu
      rw [List.getElem_map, mkL_get]
    rw [he] at hms
    have hnm : rowsNd (mixL R l' j) = true := mix_all (p := fun r : List AV => r.all AV.nd) hnR hnL
    have hpm : ((mixL R l' j).all fun r => r.all AV.pureA) = true := mix_all (p := fun r : List AV => r.all AV.pureA) hpR hpL
    have hOB : OB j = [⟨true, true, 1, 0, (mixL R l' j).set j [.obj 1 1]⟩, ⟨true, false, 2, 1, l[j].rules.map eRule⟩] := dif_pos hlt
    rw [hOB]
    clear_value OB
    have hcx : cSheet l[j] = sumN (fun _ => 2) l[j].rules := rfl
    have hax := hla _ (List.getElem_mem hlt)
    have hopen := open_j
    generalize hq : k + (sumN cSheet (l.take j) : Nat) = q at *
    simp only [eSheet, mkSheet] at hms
    have W := And.intro hml (And.intro hj1 hnm)
    have V := And.intro hml (And.intro hj1 (And.intro hlt hnm))
    repeat' first|refine st ?_|(refine nx ?_;first|refine so ?_|refine sm (hc:=markRuleS_ok l[j].rules _ (by omega) (by omega) (by omega)) (h:=?_))|(refine cx ?_;refine sc (fun hc=>?_) (fun hc=>?_)<;>try exact hc.elim)|(refine lx ?_;refine sp (fun hc=>?_) (fun hc=>?_)<;>try exact hc.elim)|refine sx ?_ ?_|refine sy ?_ ?_|fail
    refine hK1 _ ⟨j + 1, by omega⟩ (Weak.trans (weak_close 0 1 j 0 rfl rfl (by decide) rfl rfl rfl (by rw [List.getElem?_set_self (by omega)]) rfl rfl (by rw [List.set_set]; exact set_all (p := fun r : List AV => r.all AV.pureA) hpm (by simp [AV.pureA])) rfl rfl (wk_rfl _)) (Weak.trans (weak_take 1 (o' := [⟨true, false, 1, 0, mixL R l' (j + 1)⟩]) ?go ?gw ?gc ?gb) (hopen _ _ (j + 1) (by omega) ?gr (wk_rfl _)))) (by simp only; omega)
    case go => simp [List.set_set, hms]
    case gw => (simp; omega)
    case gc => simp
    case gb => simp
    case gr => simp
  · have hjl : j = l.length := by omega
    have hma := mixL_all R l' j hul (by omega)
    have htk : l.take j = l := List.take_of_length_le (by omega)
    rw [htk] at *
    have hOB : OB j = [⟨true, false, 1, 0, l'⟩] := dif_neg hlt
    rw [hOB]
    clear_value OB
    have hl'l : l'.length = l.length := by omega
    have W := And.intro hl'l hj1
    repeat' first|refine st ?_|(refine nx ?_;refine so ?_)|(refine cx ?_;refine sc (fun hc=>?_) (fun hc=>?_)<;>try exact hc.elim)|(refine lx ?_;refine sp (fun hc=>?_) (fun hc=>?_)<;>try exact hc.elim)|refine sx ?_ ?_|refine sy ?_ ?_|fail
    all_goals (try (refine ⟨.inr rfl, ?_⟩; simp [HandsM, Tryz.results25, hcl]))
theorem heldSheetS_ok [Tabs Tryz.prog] (l0 : List DSheet) (k : Int) (h0 : 0 ≤ k) (hl : k + (sumN cSheet l0 : Nat) ≤ 4611686018427387000) (hll : l0.length ≤ 4611686018427387904) (hla : ∀ x ∈ l0, x.rules.length ≤ 4611686018427387904) :
    Ok Tryz.prog 26 [.sl .view 1 ((mkL mkSheet cSheet k l0).map (eSheet .view)), .int .i64 k] (.int .i64 (k + (sumN cSheet l0 : Nat))) := by
  have hget : ∀ j (h : j < l0.length), (mkL mkSheet cSheet k l0)[j]? = some (mkSheet (k + (sumN cSheet (l0.take j) : Nat)) l0[j]) := fun j h => by
    rw [List.getElem?_eq_getElem (by rw [mkL_length]; exact h), mkL_get]
  generalize hu : mkL mkSheet cSheet k l0 = l at *
  have hlen : l.length = l0.length := by rw [← hu, mkL_length]
  refine ent Tryz.mix Tryz.func26 Tryz.ntmps26 ?_
  have W := trivial
  repeat' first|refine st ?_|(refine nx ?_;refine so ?_)|(refine cx ?_;refine sc (fun hc=>?_) (fun hc=>?_)<;>try exact hc.elim)|(refine lx ?_;refine sp (fun hc=>?_) (fun hc=>?_)<;>try exact hc.elim)|refine sx ?_ ?_|refine sy ?_ ?_|fail
  refine awp_loop' (ι := { j : Nat // j ≤ l0.length }) (fun t o i => ⟨upds t [(1, .int .i64 (k + (sumN cSheet (l0.take i.1) : Nat))), (5, .int .i64 i.1)], o⟩)
    (fun i => l0.length - i.1) ⟨0, by simp⟩ (weak_o (by simp) (by simp [sumN])) ?_
  rintro ⟨j, hj⟩ K1 hK1
  simp only [upds, List.set_cons_succ, List.set_cons_zero] at hK1 ⊢
  have hj1 : IntKind.i64.wrap ((j : Int) + 1) = ((j + 1 : Nat) : Int) := by rw [wrap64] <;> omega
  have hle := sumN_take_le cSheet l0 (j + 1)
  by_cases hlt : j < l0.length
  · have hts := sumN_take_succ cSheet l0 j hlt
    have hg : l[j]? = some (mkSheet (k + (sumN cSheet (l0.take j) : Nat)) l0[j]) := hget j hlt
    have hcx : cSheet l0[j] = sumN (fun _ => 2) l0[j].rules := rfl
    have hax := hla _ (List.getElem_mem hlt)
    generalize hq : k + (sumN cSheet (l0.take j) : Nat) = q at *
    simp only [mkSheet] at hg
    have W := And.intro hlen (And.intro hj1 hg)
    have V := And.intro hlen (And.intro hj1 (And.intro hg hlt))
    repeat' first|refine st ?_|(refine nx ?_;first|refine so ?_|refine sk (hc:=heldRuleS_ok l0[j].rules _ (by omega) (by omega) (by omega)) (h:=?_))|(refine cx ?_;refine sc (fun hc=>?_) (fun hc=>?_)<;>try exact hc.elim)|(refine lx ?_;refine sp (fun hc=>?_) (fun hc=>?_)<;>try exact hc.elim)|refine sx ?_ ?_|refine sy ?_ ?_|fail
    all_goals first | (exfalso; omega) | refine hK1 _ ⟨j + 1, by omega⟩ (weak_o (by simp) ?_) (by simp only; omega)
    all_goals (simp; omega)
  · have htk : l0.take j = l0 := List.take_of_length_le (by omega)
    have hjl : j = l0.length := by omega
    rw [htk] at *
    have W := And.intro hlen hj1
    repeat' first|refine st ?_|(refine nx ?_;refine so ?_)|(refine cx ?_;refine sc (fun hc=>?_) (fun hc=>?_)<;>try exact hc.elim)|(refine lx ?_;refine sp (fun hc=>?_) (fun hc=>?_)<;>try exact hc.elim)|refine sx ?_ ?_|refine sy ?_ ?_|fail
    all_goals (try (refine ⟨.inr rfl, ?_⟩; simp [Hands, Tryz.results26]))
end Go.Proofs.YtkjhhcgnfppdiaaGreatDoor
