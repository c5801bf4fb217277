/-
  Proved here: steps towards the statement of this claim, text D4.
  No condition beyond what each statement spells out.
-/
import Derived.Test.YtedhenfipalhaaaDoorD2
set_option linter.all false
set_option linter.unusedSimpArgs false
set_option linter.unusedVariables false
set_option maxRecDepth 4000
set_option maxHeartbeats 400000
namespace Go.Proofs.YtedhenfipalhaaaDoor
open Go.Aw

def fmtRule (x : DRule) : Str := x.name ++ (58 :: Lib.itoa x.color)
def formatSheet (x : DSheet) : Str := Lib.join (mapL fmtRule x.rules) [59]
theorem fmtRule_len (x : DRule) (h : rgRule x) : (fmtRule x).length ≤ 21 + szRule x := by
  have := itoa_len x.color h.1 h.2
  unfold fmtRule szRule
  simp only [List.length_append, List.length_cons]; omega
theorem fmtRules_len : ∀ (l : List DRule), (∀ y ∈ l, rgRule y) → ((mapL fmtRule l).map (fun x => x.length)).sum ≤ 21 * l.length + sumN szRule l
  | [], _ => by simp [mapL, sumN]
  | x :: l, h => by
    have h1 := fmtRule_len x (h x (by simp))
    have ih := fmtRules_len l (fun y hy => h y (by simp [hy]))
    simp only [mapL, List.map_cons, List.sum_cons, sumN, List.length_cons] at ih ⊢
    omega
theorem formatSheet_len (b : DSheet) (h : ∀ y ∈ b.rules, rgRule y) : (formatSheet b).length ≤ 22 * b.rules.length + sumN szRule b.rules := by
  have h1 := join_len (mapL fmtRule b.rules) [59]
  have h2 := fmtRules_len b.rules h
  have h3 := mapL_length fmtRule b.rules
  simp only [List.length_singleton, h3] at h1
  unfold formatSheet
  omega
theorem join_takeR (l : List DRule) (k : Nat) (h : k < l.length) : Lib.join (mapL fmtRule (l.take (k + 1))) [59] = if k = 0 then fmtRule l[k] else Lib.join (mapL fmtRule (l.take k)) [59] ++ [59] ++ fmtRule l[k] := by
  rw [mapL_succ fmtRule l k h, join_snoc]
  have hl := mapL_length fmtRule (l.take k)
  by_cases h0 : k = 0
  · subst h0; simp
  · have hne : ¬ mapL fmtRule (l.take k) = [] := fun e => by
      rw [e] at hl
      simp at hl
      omega
    rw [if_neg hne, if_neg h0]
theorem takeR_len (b : DSheet) (k : Nat) (h : ∀ y ∈ b.rules, rgRule y) : (Lib.join (mapL fmtRule (b.rules.take k)) [59]).length ≤ 22 * b.rules.length + sumN szRule b.rules := by
  have := formatSheet_len ⟨b.rules.take k⟩ (fun y hy => h y (List.mem_of_mem_take hy))
  have h2 : sumN szRule (b.rules.take k) ≤ sumN szRule b.rules := sumN_take_le szRule b.rules k
  have h3 : (b.rules.take k).length ≤ b.rules.length := by simp; omega
  unfold formatSheet at this
  simp only at this
  omega
theorem specFormatSheet_ok [Tabs Tryd.prog] [HasPow Tryd.prog] (b : DSheet) (hl : szL szRule b.rules ≤ 1048576) (hr : ∀ y ∈ b.rules, rgRule y) : Ok Tryd.prog 57 [.agg (eSheet .view b)] (.str (formatSheet b)) := by
  simp only [szL] at hl
  refine ent Tryd.mix Tryd.func57 Tryd.ntmps57 ?_
  have W := trivial
  repeat' first|refine st ?_|(refine nx ?_;refine so ?_)|(refine cx ?_;refine sc (fun hc=>?_) (fun hc=>?_)<;>try exact hc.elim)|(refine lx ?_;refine sp (fun hc=>?_) (fun hc=>?_)<;>try exact hc.elim)|refine sx ?_ ?_|refine sy ?_ ?_|fail
  refine awp_loop' (ι := { k : Nat // k ≤ b.rules.length }) (fun t o i => ⟨upds t [(4, .int .i64 i.1), (3, .str (Lib.join (mapL fmtRule (b.rules.take i.1)) [59]))], o⟩)
    (fun i => b.rules.length - i.1) ⟨0, by simp⟩ (weak_o (by simp) (by simp [Lib.join_nil])) ?_
  rintro ⟨k, hk⟩ K1 hK1
  simp only [upds, List.set_cons_succ, List.set_cons_zero] at hK1 ⊢
  have hk1 : IntKind.i64.wrap ((k : Int) + 1) = ((k + 1 : Nat) : Int) := by rw [wrap64] <;> omega
  by_cases hlt : k < b.rules.length
  · have hg := List.getElem?_eq_getElem hlt
    have hps := join_takeR b.rules k hlt
    have hpl := takeR_len b k hr
    have hz := sumN_get_le szRule b.rules k hlt
    simp only [szRule] at hz
    have hrk := hr b.rules[k] (List.getElem_mem hlt)
    have c1 := specFormatInt_ok b.rules[k].color hrk
    have hil := itoa_len b.rules[k].color hrk.1 hrk.2
    have hfn : fmtRule b.rules[k] = b.rules[k].name ++ (58 :: Lib.itoa b.rules[k].color) := rfl
    rw [hfn] at hps
    clear hfn
    generalize Lib.itoa b.rules[k].color = q at *
    have hg0 : k = 0 → Lib.join (mapL fmtRule (b.rules.take k)) [59] = [] := fun e => by subst e; rfl
    generalize Lib.join (mapL fmtRule (b.rules.take k)) [59] = g at *
    by_cases h0 : k = 0
    · have e0 := hg0 h0
      rw [if_pos h0] at hps
      subst e0
      subst h0
      have W := And.intro hk1 (And.intro hg hlt)
      repeat' first|refine st ?_|(refine nx ?_;refine so ?_)|(refine cx ?_;refine sc (fun hc=>?_) (fun hc=>?_)<;>try exact hc.elim)|(refine lx ?_;refine sp (fun hc=>?_) (fun hc=>?_)<;>try exact hc.elim)|refine sx ?_ ?_|refine sy ?_ ?_|fail
      all_goals refine hK1 _ ⟨0 + 1, by omega⟩ (weak_o (by simp) (by simp [hps])) (by simp only; omega)
    · rw [if_neg h0] at hps
      have h0' : 0 < k := by omega
      have W := And.intro hk1 (And.intro hg (And.intro hlt h0'))
      repeat' first|refine st ?_|(refine nx ?_;refine so ?_)|(refine cx ?_;refine sc (fun hc=>?_) (fun hc=>?_)<;>try exact hc.elim)|(refine lx ?_;refine sp (fun hc=>?_) (fun hc=>?_)<;>try exact hc.elim)|refine sx ?_ ?_|refine sy ?_ ?_|fail
      all_goals refine hK1 _ ⟨k + 1, by omega⟩ (weak_o (by simp) (by simp [hps])) (by simp only; omega)
  · have htk : b.rules.take k = b.rules := List.take_of_length_le (by omega)
    rw [htk]
    have W := hk1
    repeat' first|refine st ?_|(refine nx ?_;refine so ?_)|(refine cx ?_;refine sc (fun hc=>?_) (fun hc=>?_)<;>try exact hc.elim)|(refine lx ?_;refine sp (fun hc=>?_) (fun hc=>?_)<;>try exact hc.elim)|refine sx ?_ ?_|refine sy ?_ ?_|fail
    all_goals (try (refine ⟨.inr rfl, ?_⟩; simp [Hands, Tryd.results57, formatSheet]))
theorem implFormatSheet_ok [Tabs Tryd.prog] [HasPow Tryd.prog] (b : DSheet) (hl : szL szRule b.rules ≤ 1048576) (hr : ∀ y ∈ b.rules, rgRule y) : Ok Tryd.prog 62 [.agg (eSheet .view b)] (.str (formatSheet b)) := by
  have hj := join_ok (mapL fmtRule b.rules) [59] (by rw [mapL_length]; simp only [szL] at hl; omega) (by have := formatSheet_len b hr; unfold formatSheet at this; simp only [szL] at hl; omega)
  simp only [szL] at hl
  refine ent Tryd.mix Tryd.func62 Tryd.ntmps62 ?_
  have W := trivial
  repeat' first|refine st ?_|(refine nx ?_;refine so ?_)|(refine cx ?_;refine sc (fun hc=>?_) (fun hc=>?_)<;>try exact hc.elim)|(refine lx ?_;refine sp (fun hc=>?_) (fun hc=>?_)<;>try exact hc.elim)|refine sx ?_ ?_|refine sy ?_ ?_|fail
  refine awp_loop' (ι := { q : Nat × Nat // q.1 ≤ b.rules.length ∧ 1 ≤ q.2 }) (fun t o i => ⟨upds t [(3, .obj 1 i.1.2), (10, .int .i64 i.1.1), (5, .undef)], o.take 1 ++ [⟨true, false, 1, i.1.2, (mapL fmtRule (b.rules.take i.1.1)).map eStr⟩]⟩)
    (fun i => b.rules.length - i.1.1) ⟨(0, 1), by simp, by first | (simp; done) | (simp only; omega)⟩ (weak_o (by simp) (by simp)) ?_
  rintro ⟨⟨k, v⟩, hk, hv⟩ K1 hK1
  simp only at hk hv
  simp only [upds, List.set_cons_succ, List.set_cons_zero, List.take_succ_cons, List.take_zero, List.cons_append, List.nil_append] at hK1 ⊢
  have hk1 : IntKind.i64.wrap ((k : Int) + 1) = ((k + 1 : Nat) : Int) := by rw [wrap64] <;> omega
  by_cases hlt : k < b.rules.length
  · have hg := List.getElem?_eq_getElem hlt
    have hps := mapL_succ fmtRule b.rules k hlt
    have hpl := mapL_length fmtRule (b.rules.take k)
    have htl : (b.rules.take k).length = k := by simp; omega
    have hrk := hr b.rules[k] (List.getElem_mem hlt)
    have hz := sumN_get_le szRule b.rules k hlt
    simp only [szRule] at hz
    have c1 := implFormatInt_ok b.rules[k].color hrk
    have hil := itoa_len b.rules[k].color hrk.1 hrk.2
    have hfn : fmtRule b.rules[k] = b.rules[k].name ++ (58 :: Lib.itoa b.rules[k].color) := rfl
    rw [hfn] at hps
    clear hfn
    generalize Lib.itoa b.rules[k].color = q at *
    generalize mapL fmtRule (b.rules.take k) = g at *
    have W := And.intro hk1 (And.intro hg hlt)
    repeat' first|refine st ?_|(refine nx ?_;refine so ?_)|(refine cx ?_;refine sc (fun hc=>?_) (fun hc=>?_)<;>try exact hc.elim)|(refine lx ?_;refine sp (fun hc=>?_) (fun hc=>?_)<;>try exact hc.elim)|refine sx ?_ ?_|refine sy ?_ ?_|fail
    all_goals refine hK1 _ ⟨(k + 1, v + 1), by simp only; omega, by simp only; omega⟩ (weak_take 2 (by simp [hps]) (by simp) (by simp) (by simp)) (by simp only; omega)
  · have htk : b.rules.take k = b.rules := List.take_of_length_le (by omega)
    rw [htk]
    have W := hk1
    have c0 := hj
    repeat' first|refine st ?_|(refine nx ?_;refine so ?_)|(refine cx ?_;refine sc (fun hc=>?_) (fun hc=>?_)<;>try exact hc.elim)|(refine lx ?_;refine sp (fun hc=>?_) (fun hc=>?_)<;>try exact hc.elim)|refine sx ?_ ?_|refine sy ?_ ?_|fail
    all_goals (try (refine ⟨.inr rfl, ?_⟩; simp [Hands, Tryd.results62, formatSheet]))
end Go.Proofs.YtedhenfipalhaaaDoor
