/-
  Proved here: steps towards the statement of this claim, text C2.
  No condition beyond what each statement spells out.
-/
import Derived.Test.YtkjhhcgnfppdiaaGreatDoorC1
set_option linter.all false
set_option linter.unusedSimpArgs false
set_option linter.unusedVariables false
set_option maxRecDepth 4000
set_option maxHeartbeats 4000000
namespace Go.Proofs.YtkjhhcgnfppdiaaGreatDoor
open Go.Aw
def colorAt (ss : List DSheet) (l : List DNode) : Nat → Int → Int
  | 0, _ => 0
  | f + 1, a => if 0 ≤ a then (match l[a.toNat]? with
      | some x => if colorOf ss x.name ≠ 0 then colorOf ss x.name else colorAt ss l f x.parent
      | none => 0) else 0
theorem colorAt_neg (ss : List DSheet) (l : List DNode) (f : Nat) {a : Int} (h : ¬ 0 ≤ a) : colorAt ss l f a = 0 := by
  cases f with
  | zero => rfl
  | succ f => rw [colorAt, if_neg h]
theorem colorAt_out (ss : List DSheet) (l : List DNode) (f : Nat) {m : Nat} (h : ¬ m < l.length) : colorAt ss l f (m : Int) = 0 := by
  cases f with
  | zero => rfl
  | succ f => rw [colorAt, if_pos (by omega), Int.toNat_natCast, List.getElem?_eq_none (by omega)]
theorem colorAt_in (ss : List DSheet) (l : List DNode) (f : Nat) {m : Nat} (h : m < l.length) : colorAt ss l (f + 1) (m : Int) = if colorOf ss l[m].name ≠ 0 then colorOf ss l[m].name else colorAt ss l f l[m].parent := by
  rw [colorAt, if_pos (by omega), Int.toNat_natCast, List.getElem?_eq_getElem h]
theorem implColorAt_ok [Tabs Tryz.prog] (ss : List DSheet) (b : DBuilder) (a0 : Int) (hl : ss.length ≤ 1099511627776) (hr : ∀ x ∈ ss, x.rules.length ≤ 1099511627776) (hb : b.nodes.length ≤ 1099511627776) :
    Ok Tryz.prog 100 [.sl .view 1 (ss.map (eSheet .view)), .agg (eBuilder .view b), .int .i64 a0] (.int .i64 (colorAt ss b.nodes 40 a0)) := by
  obtain ⟨l, opens⟩ := b
  simp only at hb ⊢
  simp only [eBuilder]
  refine ent Tryz.mix Tryz.func100 Tryz.ntmps100 ?_
  have W := trivial
  repeat' first|refine st ?_|(refine nx ?_;refine so ?_)|(refine cx ?_;refine sc (fun hc=>?_) (fun hc=>?_)<;>try exact hc.elim)|(refine lx ?_;refine sp (fun hc=>?_) (fun hc=>?_)<;>try exact hc.elim)|refine sx ?_ ?_|refine sy ?_ ?_|fail
  refine awp_loop' (ι := { q : Nat × Int // q.1 ≤ 40 ∧ colorAt ss l 40 a0 = colorAt ss l (40 - q.1) q.2 }) (fun t o i => ⟨upds t [(7, .int .i64 i.1.1), (2, .int .i64 i.1.2)], o⟩)
    (fun i => 40 - i.1.1) ⟨(0, a0), by simp, rfl⟩ (weak_o (by simp) (by simp)) ?_
  rintro ⟨⟨k, a⟩, hk, hi⟩ K1 hK1
  simp only at hk hi
  simp only [upds, List.set_cons_succ, List.set_cons_zero] at hK1 ⊢
  have hk1 : IntKind.i64.wrap ((k : Int) + 1) = ((k + 1 : Nat) : Int) := by rw [wrap64] <;> omega
  by_cases hlt : k < 40
  · have hki : (k : Int) < 40 := by omega
    by_cases h0 : 0 ≤ a
    · obtain ⟨m, rfl⟩ := Int.eq_ofNat_of_zero_le h0
      by_cases hm : m < l.length
      · have hg := List.getElem?_eq_getElem hm
        have cC := implColorOf_ok ss l[m].name hl hr
        obtain ⟨f, hf⟩ : ∃ f, 40 - k = f + 1 := ⟨39 - k, by omega⟩
        rw [hf, colorAt_in ss l f hm] at hi
        by_cases hc0 : colorOf ss l[m].name = 0
        · rw [if_neg (by simpa using hc0)] at hi
          rw [hc0] at cC
          have W := And.intro hk1 (And.intro hki (And.intro hm hg))
          repeat' first|refine st ?_|(refine nx ?_;refine so ?_)|(refine cx ?_;refine sc (fun hc=>?_) (fun hc=>?_)<;>try exact hc.elim)|(refine lx ?_;refine sp (fun hc=>?_) (fun hc=>?_)<;>try exact hc.elim)|refine sx ?_ ?_|refine sy ?_ ?_|fail
          exact hK1 _ ⟨(k + 1, l[m].parent), by simp only; omega, by simp only; rw [hi]; congr 1; omega⟩ (weak_o (by simp) (by simp)) (by simp only; omega)
        · rw [if_pos hc0] at hi
          rw [hi]
          generalize colorOf ss l[m].name = c at *
          have W := And.intro hk1 (And.intro hki (And.intro hm (And.intro hg hc0)))
          repeat' first|refine st ?_|(refine nx ?_;refine so ?_)|(refine cx ?_;refine sc (fun hc=>?_) (fun hc=>?_)<;>try exact hc.elim)|(refine lx ?_;refine sp (fun hc=>?_) (fun hc=>?_)<;>try exact hc.elim)|refine sx ?_ ?_|refine sy ?_ ?_|fail
          all_goals (try (refine ⟨.inr rfl, ?_⟩; simp [Hands, Tryz.results100]))
      · rw [hi, colorAt_out ss l _ hm]
        have hmi : ¬ (m : Int) < (l.length : Int) := by omega
        have W := And.intro hki hmi
        repeat' first|refine st ?_|(refine nx ?_;refine so ?_)|(refine cx ?_;refine sc (fun hc=>?_) (fun hc=>?_)<;>try exact hc.elim)|(refine lx ?_;refine sp (fun hc=>?_) (fun hc=>?_)<;>try exact hc.elim)|refine sx ?_ ?_|refine sy ?_ ?_|fail
        all_goals (try (refine ⟨.inr rfl, ?_⟩; simp [Hands, Tryz.results100]))
    · rw [hi, colorAt_neg ss l _ h0]
      have W := And.intro hki h0
      repeat' first|refine st ?_|(refine nx ?_;refine so ?_)|(refine cx ?_;refine sc (fun hc=>?_) (fun hc=>?_)<;>try exact hc.elim)|(refine lx ?_;refine sp (fun hc=>?_) (fun hc=>?_)<;>try exact hc.elim)|refine sx ?_ ?_|refine sy ?_ ?_|fail
      all_goals (try (refine ⟨.inr rfl, ?_⟩; simp [Hands, Tryz.results100]))
  · have hke : k = 40 := by omega
    subst hke
    have hz : colorAt ss l 40 a0 = 0 := by rw [hi]; rfl
    rw [hz]
    have W := trivial
    repeat' first|refine st ?_|(refine nx ?_;refine so ?_)|(refine cx ?_;refine sc (fun hc=>?_) (fun hc=>?_)<;>try exact hc.elim)|(refine lx ?_;refine sp (fun hc=>?_) (fun hc=>?_)<;>try exact hc.elim)|refine sx ?_ ?_|refine sy ?_ ?_|fail
    all_goals (try (refine ⟨.inr rfl, ?_⟩; simp [Hands, Tryz.results100]))
theorem specColorAt_ok [Tabs Tryz.prog] (ss : List DSheet) (b : DBuilder) (a0 : Int) (hl : ss.length ≤ 1099511627776) (hr : ∀ x ∈ ss, x.rules.length ≤ 1099511627776) (hb : b.nodes.length ≤ 1099511627776) :
    Ok Tryz.prog 99 [.sl .view 1 (ss.map (eSheet .view)), .agg (eBuilder .view b), .int .i64 a0] (.int .i64 (colorAt ss b.nodes 40 a0)) := by
  obtain ⟨l, opens⟩ := b
  simp only at hb ⊢
  simp only [eBuilder]
  refine ent Tryz.mix Tryz.func99 Tryz.ntmps99 ?_
  have W := trivial
  repeat' first|refine st ?_|(refine nx ?_;refine so ?_)|(refine cx ?_;refine sc (fun hc=>?_) (fun hc=>?_)<;>try exact hc.elim)|(refine lx ?_;refine sp (fun hc=>?_) (fun hc=>?_)<;>try exact hc.elim)|refine sx ?_ ?_|refine sy ?_ ?_|fail
  refine awp_loop' (ι := { q : Nat × Int // q.1 ≤ 40 ∧ colorAt ss l 40 a0 = colorAt ss l (40 - q.1) q.2 }) (fun t o i => ⟨upds t [(7, .int .i64 i.1.1), (2, .int .i64 i.1.2)], o⟩)
    (fun i => 40 - i.1.1) ⟨(0, a0), by simp, rfl⟩ (weak_o (by simp) (by simp)) ?_
  rintro ⟨⟨k, a⟩, hk, hi⟩ K1 hK1
  simp only at hk hi
  simp only [upds, List.set_cons_succ, List.set_cons_zero] at hK1 ⊢
  have hk1 : IntKind.i64.wrap ((k : Int) + 1) = ((k + 1 : Nat) : Int) := by rw [wrap64] <;> omega
  have hw : IntKind.i64.wrap ((l.length : Int) - 1) = (l.length : Int) - 1 := by rw [wrap64] <;> omega
  have cI := specIn_ok a 0 ((l.length : Int) - 1)
  by_cases hlt : k < 40
  · have hki : (k : Int) < 40 := by omega
    by_cases h0 : 0 ≤ a
    · obtain ⟨m, rfl⟩ := Int.eq_ofNat_of_zero_le h0
      by_cases hm : m < l.length
      · have hg := List.getElem?_eq_getElem hm
        have hb1 : (decide ((0 : Int) ≤ (m : Int)) && decide ((m : Int) ≤ (l.length : Int) - 1)) = true := by simp; omega
        rw [hb1] at cI
        have cC := specColorOf_ok ss l[m].name hl hr
        obtain ⟨f, hf⟩ : ∃ f, 40 - k = f + 1 := ⟨39 - k, by omega⟩
        rw [hf, colorAt_in ss l f hm] at hi
        by_cases hc0 : colorOf ss l[m].name = 0
        · rw [if_neg (by simpa using hc0)] at hi
          rw [hc0] at cC
          have W := And.intro hk1 (And.intro hki (And.intro hm (And.intro hg hw)))
          repeat' first|refine st ?_|(refine nx ?_;refine so ?_)|(refine cx ?_;refine sc (fun hc=>?_) (fun hc=>?_)<;>try exact hc.elim)|(refine lx ?_;refine sp (fun hc=>?_) (fun hc=>?_)<;>try exact hc.elim)|refine sx ?_ ?_|refine sy ?_ ?_|fail
          exact hK1 _ ⟨(k + 1, l[m].parent), by simp only; omega, by simp only; rw [hi]; congr 1; omega⟩ (weak_o (by simp) (by simp)) (by simp only; omega)
        · rw [if_pos hc0] at hi
          rw [hi]
          generalize colorOf ss l[m].name = c at *
          have W := And.intro hk1 (And.intro hki (And.intro hm (And.intro hg (And.intro hw hc0))))
          repeat' first|refine st ?_|(refine nx ?_;refine so ?_)|(refine cx ?_;refine sc (fun hc=>?_) (fun hc=>?_)<;>try exact hc.elim)|(refine lx ?_;refine sp (fun hc=>?_) (fun hc=>?_)<;>try exact hc.elim)|refine sx ?_ ?_|refine sy ?_ ?_|fail
          all_goals (try (refine ⟨.inr rfl, ?_⟩; simp [Hands, Tryz.results99]))
      · rw [hi, colorAt_out ss l _ hm]
        have hb1 : (decide ((0 : Int) ≤ (m : Int)) && decide ((m : Int) ≤ (l.length : Int) - 1)) = false := by simp only [Bool.and_eq_false_iff, decide_eq_false_iff_not]; omega
        rw [hb1] at cI
        have W := And.intro hki hw
        repeat' first|refine st ?_|(refine nx ?_;refine so ?_)|(refine cx ?_;refine sc (fun hc=>?_) (fun hc=>?_)<;>try exact hc.elim)|(refine lx ?_;refine sp (fun hc=>?_) (fun hc=>?_)<;>try exact hc.elim)|refine sx ?_ ?_|refine sy ?_ ?_|fail
        all_goals (try (refine ⟨.inr rfl, ?_⟩; simp [Hands, Tryz.results99]))
    · rw [hi, colorAt_neg ss l _ h0]
      have hb1 : (decide ((0 : Int) ≤ a) && decide (a ≤ (l.length : Int) - 1)) = false := by simp only [Bool.and_eq_false_iff, decide_eq_false_iff_not]; omega
      rw [hb1] at cI
      have W := And.intro hki hw
      repeat' first|refine st ?_|(refine nx ?_;refine so ?_)|(refine cx ?_;refine sc (fun hc=>?_) (fun hc=>?_)<;>try exact hc.elim)|(refine lx ?_;refine sp (fun hc=>?_) (fun hc=>?_)<;>try exact hc.elim)|refine sx ?_ ?_|refine sy ?_ ?_|fail
      all_goals (try (refine ⟨.inr rfl, ?_⟩; simp [Hands, Tryz.results99]))
  · have hke : k = 40 := by omega
    subst hke
    have hz : colorAt ss l 40 a0 = 0 := by rw [hi]; rfl
    rw [hz]
    have W := trivial
    repeat' first|refine st ?_|(refine nx ?_;refine so ?_)|(refine cx ?_;refine sc (fun hc=>?_) (fun hc=>?_)<;>try exact hc.elim)|(refine lx ?_;refine sp (fun hc=>?_) (fun hc=>?_)<;>try exact hc.elim)|refine sx ?_ ?_|refine sy ?_ ?_|fail
    all_goals (try (refine ⟨.inr rfl, ?_⟩; simp [Hands, Tryz.results99]))
end Go.Proofs.YtkjhhcgnfppdiaaGreatDoor
