/-
  Proved here: steps towards the statement of this claim, text C1.
  No condition beyond what each statement spells out.
-/
import Derived.Test.YtonajehhfkkglaaGreatDoorT5
set_option linter.all false
set_option maxRecDepth 4000
set_option maxHeartbeats 4000000
namespace Go.Proofs.YtonajehhfkkglaaGreatDoor
open Go.Aw
def look {α : Type} (f : α → Option Int) (l : List α) (k : Nat) : Option Int := ((l.take k).reverse).findSome? f
theorem look_succ {α : Type} (f : α → Option Int) {l : List α} {k : Nat} (h : k < l.length) : look f l (k + 1) = match f l[k] with | some x => some x | none => look f l k := by
  unfold look
  rw [List.take_succ_eq_append_getElem h, List.reverse_append]
  simp only [List.reverse_cons, List.reverse_nil, List.nil_append, List.singleton_append, List.findSome?_cons]
  cases f l[k] <;> rfl
theorem look_zero {α : Type} (f : α → Option Int) (l : List α) : look f l 0 = none := rfl
def ruleC (n : Str) (r : DRule) : Option Int := if r.name = n then some r.color else none
def sheetC (n : Str) (s : DSheet) : Option Int := look (ruleC n) s.rules s.rules.length
def colorOf (ss : List DSheet) (n : Str) : Int := (look (sheetC n) ss ss.length).getD 0
theorem implColorOf_ok [Tabs Tryz.prog] (ss : List DSheet) (n : Str) (hl : ss.length ≤ 1099511627776) (hr : ∀ x ∈ ss, x.rules.length ≤ 1099511627776) : Ok Tryz.prog 79 [.sl .view 1 (ss.map (eSheet .view)), .str n] (.int .i64 (colorOf ss n)) := by
  unfold colorOf
  refine ent Tryz.mix Tryz.func79 Tryz.ntmps79 ?_
  have W := trivial
  repeat' first|refine st ?_|(refine nx ?_;refine so ?_)|(refine cx ?_;refine sc (fun hc=>?_) (fun hc=>?_)<;>try exact hc.elim)|(refine lx ?_;refine sp (fun hc=>?_) (fun hc=>?_)<;>try exact hc.elim)|refine sx ?_ ?_|refine sy ?_ ?_|fail
  refine awp_loop' (ι := { k : Nat // k ≤ ss.length ∧ look (sheetC n) ss ss.length = look (sheetC n) ss k }) (fun t o i => ⟨upds t [(5, .int .i64 ((i.1 : Int) - 1))], o⟩)
    (fun i => i.1) ⟨ss.length, by simp, rfl⟩ (weak_o (by simp) (by simp)) ?_
  rintro ⟨k, hk, hi⟩ K1 hK1
  simp only [upds, List.set_cons_succ, List.set_cons_zero] at hK1 hi hk ⊢
  cases k with
  | zero =>
    rw [hi, look_zero]
    have W := trivial
    repeat' first|refine st ?_|(refine nx ?_;refine so ?_)|(refine cx ?_;refine sc (fun hc=>?_) (fun hc=>?_)<;>try exact hc.elim)|(refine lx ?_;refine sp (fun hc=>?_) (fun hc=>?_)<;>try exact hc.elim)|refine sx ?_ ?_|refine sy ?_ ?_|fail
    all_goals (try (refine ⟨.inr rfl, ?_⟩; simp [Hands, Tryz.results79]))
  | succ k =>
    have hlt : k < ss.length := by omega
    have hk0 : (((k + 1 : Nat) : Int) - 1) = (k : Int) := by omega
    have hg := List.getElem?_eq_getElem hlt
    have hk1 : IntKind.i64.wrap ((k : Int) - 1) = (k : Int) - 1 := by rw [wrap64] <;> omega
    have hrl := hr _ (List.getElem_mem hlt)
    have hls := look_succ (sheetC n) hlt
    have hsc : sheetC n ss[k] = look (ruleC n) ss[k].rules ss[k].rules.length := rfl
    have hw6 : IntKind.i64.wrap ((ss[k].rules.length : Int) - 1) = (ss[k].rules.length : Int) - 1 := by rw [wrap64] <;> omega
    rw [hk0]
    have W := And.intro hlt (And.intro hg hw6)
    repeat' first|refine st ?_|(refine nx ?_;refine so ?_)|(refine cx ?_;refine sc (fun hc=>?_) (fun hc=>?_)<;>try exact hc.elim)|(refine lx ?_;refine sp (fun hc=>?_) (fun hc=>?_)<;>try exact hc.elim)|refine sx ?_ ?_|refine sy ?_ ?_|fail
    refine awp_loop' (ι := { m : Nat // m ≤ ss[k].rules.length ∧ sheetC n ss[k] = look (ruleC n) ss[k].rules m }) (fun t o i => ⟨upds t [(6, .int .i64 ((i.1 : Int) - 1))], o⟩)
      (fun i => i.1) ⟨ss[k].rules.length, by simp, rfl⟩ (weak_o (by simp) (by simp)) ?_
    rintro ⟨m, hm, hj⟩ K2 hK2
    simp only [upds, List.set_cons_succ, List.set_cons_zero] at hK2 hm hj ⊢
    cases m with
    | zero =>
      rw [hj, look_zero] at hls
      simp only at hls
      have W := hk1
      repeat' first|refine st ?_|(refine nx ?_;refine so ?_)|(refine cx ?_;refine sc (fun hc=>?_) (fun hc=>?_)<;>try exact hc.elim)|(refine lx ?_;refine sp (fun hc=>?_) (fun hc=>?_)<;>try exact hc.elim)|refine sx ?_ ?_|refine sy ?_ ?_|fail
      exact hK1 _ ⟨k, by omega, by rw [hi, hls]⟩ (weak_o (by simp) (by simp)) (by simp only; omega)
    | succ m =>
      have hlm : m < ss[k].rules.length := by omega
      have hm0 : (((m + 1 : Nat) : Int) - 1) = (m : Int) := by omega
      have hgm := List.getElem?_eq_getElem hlm
      have hm1 : IntKind.i64.wrap ((m : Int) - 1) = (m : Int) - 1 := by rw [wrap64] <;> omega
      have hlr := look_succ (ruleC n) hlm
      have hrc : ruleC n ss[k].rules[m] = if ss[k].rules[m].name = n then some ss[k].rules[m].color else none := rfl
      rw [hm0]
      by_cases hn : ss[k].rules[m].name = n
      · rw [if_pos hn] at hrc
        rw [hrc] at hlr
        simp only at hlr
        rw [hj, hlr] at hls
        simp only at hls
        rw [hi, hls]
        have W := And.intro hlt (And.intro hg (And.intro hlm (And.intro hgm hn)))
        repeat' first|refine st ?_|(refine nx ?_;refine so ?_)|(refine cx ?_;refine sc (fun hc=>?_) (fun hc=>?_)<;>try exact hc.elim)|(refine lx ?_;refine sp (fun hc=>?_) (fun hc=>?_)<;>try exact hc.elim)|refine sx ?_ ?_|refine sy ?_ ?_|fail
        all_goals (try (refine ⟨.inr rfl, ?_⟩; simp [Hands, Tryz.results79]))
      · rw [if_neg hn] at hrc
        rw [hrc] at hlr
        simp only at hlr
        have W := And.intro hlt (And.intro hg (And.intro hlm (And.intro hgm (And.intro hn hm1))))
        repeat' first|refine st ?_|(refine nx ?_;refine so ?_)|(refine cx ?_;refine sc (fun hc=>?_) (fun hc=>?_)<;>try exact hc.elim)|(refine lx ?_;refine sp (fun hc=>?_) (fun hc=>?_)<;>try exact hc.elim)|refine sx ?_ ?_|refine sy ?_ ?_|fail
        · exact absurd hc hn
        · exact hK2 _ ⟨m, by omega, by rw [hj, hlr]⟩ (weak_o (by simp) (by simp)) (by simp only; omega)
theorem specColorOf_ok [Tabs Tryz.prog] (ss : List DSheet) (n : Str) (hl : ss.length ≤ 1099511627776) (hr : ∀ x ∈ ss, x.rules.length ≤ 1099511627776) : Ok Tryz.prog 68 [.sl .view 1 (ss.map (eSheet .view)), .str n] (.int .i64 (colorOf ss n)) := by
  unfold colorOf
  refine ent Tryz.mix Tryz.func68 Tryz.ntmps68 ?_
  have W := trivial
  repeat' first|refine st ?_|(refine nx ?_;refine so ?_)|(refine cx ?_;refine sc (fun hc=>?_) (fun hc=>?_)<;>try exact hc.elim)|(refine lx ?_;refine sp (fun hc=>?_) (fun hc=>?_)<;>try exact hc.elim)|refine sx ?_ ?_|refine sy ?_ ?_|fail
  refine awp_loop' (ι := { k : Nat // k ≤ ss.length ∧ look (sheetC n) ss ss.length = look (sheetC n) ss k }) (fun t o i => ⟨upds t [(5, .int .i64 ((i.1 : Int) - 1))], o⟩)
    (fun i => i.1) ⟨ss.length, by simp, rfl⟩ (weak_o (by simp) (by simp)) ?_
  rintro ⟨k, hk, hi⟩ K1 hK1
  simp only [upds, List.set_cons_succ, List.set_cons_zero] at hK1 hi hk ⊢
  cases k with
  | zero =>
    rw [hi, look_zero]
    have W := trivial
    repeat' first|refine st ?_|(refine nx ?_;refine so ?_)|(refine cx ?_;refine sc (fun hc=>?_) (fun hc=>?_)<;>try exact hc.elim)|(refine lx ?_;refine sp (fun hc=>?_) (fun hc=>?_)<;>try exact hc.elim)|refine sx ?_ ?_|refine sy ?_ ?_|fail
    all_goals (try (refine ⟨.inr rfl, ?_⟩; simp [Hands, Tryz.results68]))
  | succ k =>
    have hlt : k < ss.length := by omega
    have hk0 : (((k + 1 : Nat) : Int) - 1) = (k : Int) := by omega
    have hg := List.getElem?_eq_getElem hlt
    have hk1 : IntKind.i64.wrap ((k : Int) - 1) = (k : Int) - 1 := by rw [wrap64] <;> omega
    have hrl := hr _ (List.getElem_mem hlt)
    have hls := look_succ (sheetC n) hlt
    have hsc : sheetC n ss[k] = look (ruleC n) ss[k].rules ss[k].rules.length := rfl
    have hw6 : IntKind.i64.wrap ((ss[k].rules.length : Int) - 1) = (ss[k].rules.length : Int) - 1 := by rw [wrap64] <;> omega
    rw [hk0]
    have W := And.intro hlt (And.intro hg hw6)
    repeat' first|refine st ?_|(refine nx ?_;refine so ?_)|(refine cx ?_;refine sc (fun hc=>?_) (fun hc=>?_)<;>try exact hc.elim)|(refine lx ?_;refine sp (fun hc=>?_) (fun hc=>?_)<;>try exact hc.elim)|refine sx ?_ ?_|refine sy ?_ ?_|fail
    refine awp_loop' (ι := { m : Nat // m ≤ ss[k].rules.length ∧ sheetC n ss[k] = look (ruleC n) ss[k].rules m }) (fun t o i => ⟨upds t [(6, .int .i64 ((i.1 : Int) - 1))], o⟩)
      (fun i => i.1) ⟨ss[k].rules.length, by simp, rfl⟩ (weak_o (by simp) (by simp)) ?_
    rintro ⟨m, hm, hj⟩ K2 hK2
    simp only [upds, List.set_cons_succ, List.set_cons_zero] at hK2 hm hj ⊢
    cases m with
    | zero =>
      rw [hj, look_zero] at hls
      simp only at hls
      have W := hk1
      repeat' first|refine st ?_|(refine nx ?_;refine so ?_)|(refine cx ?_;refine sc (fun hc=>?_) (fun hc=>?_)<;>try exact hc.elim)|(refine lx ?_;refine sp (fun hc=>?_) (fun hc=>?_)<;>try exact hc.elim)|refine sx ?_ ?_|refine sy ?_ ?_|fail
      exact hK1 _ ⟨k, by omega, by rw [hi, hls]⟩ (weak_o (by simp) (by simp)) (by simp only; omega)
    | succ m =>
      have hlm : m < ss[k].rules.length := by omega
      have hm0 : (((m + 1 : Nat) : Int) - 1) = (m : Int) := by omega
      have hgm := List.getElem?_eq_getElem hlm
      have hm1 : IntKind.i64.wrap ((m : Int) - 1) = (m : Int) - 1 := by rw [wrap64] <;> omega
      have hlr := look_succ (ruleC n) hlm
      have hrc : ruleC n ss[k].rules[m] = if ss[k].rules[m].name = n then some ss[k].rules[m].color else none := rfl
      rw [hm0]
      by_cases hn : ss[k].rules[m].name = n
      · rw [if_pos hn] at hrc
        rw [hrc] at hlr
        simp only at hlr
        rw [hj, hlr] at hls
        simp only at hls
        rw [hi, hls]
        have W := And.intro hlt (And.intro hg (And.intro hlm (And.intro hgm hn)))
        repeat' first|refine st ?_|(refine nx ?_;refine so ?_)|(refine cx ?_;refine sc (fun hc=>?_) (fun hc=>?_)<;>try exact hc.elim)|(refine lx ?_;refine sp (fun hc=>?_) (fun hc=>?_)<;>try exact hc.elim)|refine sx ?_ ?_|refine sy ?_ ?_|fail
        all_goals (try (refine ⟨.inr rfl, ?_⟩; simp [Hands, Tryz.results68]))
      · rw [if_neg hn] at hrc
        rw [hrc] at hlr
        simp only at hlr
        have W := And.intro hlt (And.intro hg (And.intro hlm (And.intro hgm (And.intro hn hm1))))
        repeat' first|refine st ?_|(refine nx ?_;refine so ?_)|(refine cx ?_;refine sc (fun hc=>?_) (fun hc=>?_)<;>try exact hc.elim)|(refine lx ?_;refine sp (fun hc=>?_) (fun hc=>?_)<;>try exact hc.elim)|refine sx ?_ ?_|refine sy ?_ ?_|fail
        · exact absurd hc hn
        · exact hK2 _ ⟨m, by omega, by rw [hj, hlr]⟩ (weak_o (by simp) (by simp)) (by simp only; omega)
end Go.Proofs.YtonajehhfkkglaaGreatDoor
