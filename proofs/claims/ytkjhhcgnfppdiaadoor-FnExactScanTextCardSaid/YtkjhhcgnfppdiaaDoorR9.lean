/-
  Proved here: steps towards the statement of this claim, text R9.
  No condition beyond what each statement spells out.
-/
import Derived.Test.YtkjhhcgnfppdiaaDoorR8
import Derived.Test.YtkjhhcgnfppdiaaDoorU4
set_option linter.all false
set_option linter.unusedSimpArgs false
set_option linter.unusedVariables false
set_option maxRecDepth 4000
set_option maxHeartbeats 400000
namespace Go.Proofs.YtkjhhcgnfppdiaaDoor
open Go.Aw
def scanPick (b : Str) (t : DToken) : Option DRequest := if (scanToken t b).2 = true then some (scanToken t b).1 else none
def scanTokens (l : List DToken) (b : Str) : List DRequest := l.filterMap (scanPick b)
@[simp] theorem scanTokens_nil (b : Str) : scanTokens [] b = [] := rfl
theorem scanTokens_succ (l : List DToken) (b : Str) (k : Nat) (h : k < l.length) : scanTokens (l.take (k + 1)) b = scanTokens (l.take k) b ++ (if (scanToken l[k] b).2 = true then [(scanToken l[k] b).1] else []) := by
  simp only [scanTokens]
  rw [List.take_succ_eq_append_getElem h, List.filterMap_append]
  simp only [List.filterMap_cons, List.filterMap_nil, scanPick]
  split <;> simp_all
theorem scanTokens_length (l : List DToken) (b : Str) : (scanTokens l b).length ≤ l.length := List.length_filterMap_le _ _
theorem scanTokens_sz (b : Str) : ∀ l : List DToken, sumN szRequest (scanTokens l b) ≤ 2 * sumN szToken l + 2 * (l.length * b.length)
  | [] => by simp [scanTokens, sumN]
  | t :: l => by
    have h := scanToken_sz t b
    have ih := scanTokens_sz b l
    have e : (t :: l).length * b.length = l.length * b.length + b.length := by rw [List.length_cons, Nat.succ_mul]
    rw [e]
    simp only [scanTokens, List.filterMap_cons, scanPick, sumN] at ih ⊢
    generalize l.length * b.length = q at *
    split
    · omega
    · rename_i x hx
      split at hx
      · cases hx
        simp only [sumN]
        omega
      · cases hx
theorem specScanTokens_ok [Tabs Tryd.prog] (l : List DToken) (b : Str) (hl : szL szToken l + b.length ≤ 1099511627776) : Ok Tryd.prog 30 [.sl .view 4 (l.map (eToken .view)), .str b] (.sl .own 5 ((scanTokens l b).map eRequest)) := by
  simp only [szL] at hl
  refine ent Tryd.mix Tryd.func30 Tryd.ntmps30 ?_
  have W := trivial
  repeat' first|refine st ?_|(refine nx ?_;refine so ?_)|(refine cx ?_;refine sc (fun hc=>?_) (fun hc=>?_)<;>try exact hc.elim)|(refine lx ?_;refine sp (fun hc=>?_) (fun hc=>?_)<;>try exact hc.elim)|refine sx ?_ ?_|refine sy ?_ ?_|fail
  refine awp_loop' (ι := { q : Nat × Nat // q.1 ≤ l.length ∧ 1 ≤ q.2 }) (fun t o i => ⟨upds t [(5, .obj 0 i.1.2), (6, .int .i64 i.1.1)], o.take 0 ++ [⟨true, false, 5, i.1.2, (scanTokens (l.take i.1.1) b).map eRequest⟩]⟩)
    (fun i => l.length - i.1.1) ⟨(0, 1), by simp, by first | (simp; done) | (simp only; omega)⟩ (weak_o (by simp) (by simp)) ?_
  rintro ⟨⟨k, v⟩, hk, hv⟩ K1 hK1
  simp only at hk hv
  simp only [upds, List.set_cons_succ, List.set_cons_zero, List.take_succ_cons, List.take_zero, List.cons_append, List.nil_append] at hK1 ⊢
  have hk1 : IntKind.i64.wrap ((k : Int) + 1) = ((k + 1 : Nat) : Int) := by rw [wrap64] <;> omega
  by_cases hlt : k < l.length
  · have hg := List.getElem?_eq_getElem hlt
    have hps := scanTokens_succ l b k hlt
    have hpl := scanTokens_length (l.take k) b
    have htl : (l.take k).length = k := by simp; omega
    have hb1 : ((scanTokens (l.take k) b).length + 1) * 72 ≤ 140737488355328 := by omega
    have hb2 : (scanTokens (l.take k) b).length + 1 ≤ 9223372036854775807 := by omega
    have hb3 : (scanTokens (l.take k) b).length ≤ 9223372036854775806 := by omega
    have hz := sumN_get_le szToken l k hlt
    have hc1 := specScanToken_ok l[k] b (by omega)
    simp only [eToken, eRequest] at hc1
    have W := And.intro hk1 (And.intro hg (And.intro hlt (And.intro hb1 (And.intro hb2 hb3))))
    repeat' first|refine st ?_|(refine nx ?_;refine so ?_)|(refine cx ?_;refine sc (fun hc=>?_) (fun hc=>?_)<;>try exact hc.elim)|(refine lx ?_;refine sp (fun hc=>?_) (fun hc=>?_)<;>try exact hc.elim)|refine sx ?_ ?_|refine sy ?_ ?_|fail
    · refine hK1 _ ⟨(k + 1, v + 1), by simp only; omega, by simp only; omega⟩ (weak_take 1 (by simp [hps, hc]) (by simp) (by simp) (by simp)) (by simp only; omega)
    · refine hK1 _ ⟨(k + 1, v), by simp only; omega, hv⟩ (weak_take 1 (by simp [hps, hc]) (by simp) (by simp) (by simp)) (by simp only; omega)
  · have htk : l.take k = l := List.take_of_length_le (by omega)
    rw [htk]
    have W := hk1
    repeat' first|refine st ?_|(refine nx ?_;refine so ?_)|(refine cx ?_;refine sc (fun hc=>?_) (fun hc=>?_)<;>try exact hc.elim)|(refine lx ?_;refine sp (fun hc=>?_) (fun hc=>?_)<;>try exact hc.elim)|refine sx ?_ ?_|refine sy ?_ ?_|fail
    all_goals (try (refine ⟨.inr rfl, ?_⟩; simp [Hands, Tryd.results30]))
theorem implScanTokens_ok [Tabs Tryd.prog] (l : List DToken) (b : Str) (hl : szL szToken l + b.length ≤ 1099511627776) : Ok Tryd.prog 32 [.sl .view 4 (l.map (eToken .view)), .str b] (.sl .own 5 ((scanTokens l b).map eRequest)) := by
  simp only [szL] at hl
  refine ent Tryd.mix Tryd.func32 Tryd.ntmps32 ?_
  have W := trivial
  repeat' first|refine st ?_|(refine nx ?_;refine so ?_)|(refine cx ?_;refine sc (fun hc=>?_) (fun hc=>?_)<;>try exact hc.elim)|(refine lx ?_;refine sp (fun hc=>?_) (fun hc=>?_)<;>try exact hc.elim)|refine sx ?_ ?_|refine sy ?_ ?_|fail
  refine awp_loop' (ι := { q : Nat × Nat // q.1 ≤ l.length ∧ 1 ≤ q.2 }) (fun t o i => ⟨upds t [(5, .obj 0 i.1.2), (13, .int .i64 i.1.1)], o.take 0 ++ [⟨true, false, 5, i.1.2, (scanTokens (l.take i.1.1) b).map eRequest⟩]⟩)
    (fun i => l.length - i.1.1) ⟨(0, 1), by simp, by first | (simp; done) | (simp only; omega)⟩ (weak_o (by simp) (by simp)) ?_
  rintro ⟨⟨k, v⟩, hk, hv⟩ K1 hK1
  simp only at hk hv
  simp only [upds, List.set_cons_succ, List.set_cons_zero, List.take_succ_cons, List.take_zero, List.cons_append, List.nil_append] at hK1 ⊢
  have hk1 : IntKind.i64.wrap ((k : Int) + 1) = ((k + 1 : Nat) : Int) := by rw [wrap64] <;> omega
  by_cases hlt : k < l.length
  · have hg := List.getElem?_eq_getElem hlt
    have hps := scanTokens_succ l b k hlt
    have hpl := scanTokens_length (l.take k) b
    have htl : (l.take k).length = k := by simp; omega
    have hb1 : ((scanTokens (l.take k) b).length + 1) * 72 ≤ 140737488355328 := by omega
    have hb2 : (scanTokens (l.take k) b).length + 1 ≤ 9223372036854775807 := by omega
    have hb3 : (scanTokens (l.take k) b).length ≤ 9223372036854775806 := by omega
    have hz := sumN_get_le szToken l k hlt
    have hc1 := implScanToken_ok l[k] b (by omega)
    simp only [eToken, eRequest] at hc1
    have W := And.intro hk1 (And.intro hg (And.intro hlt (And.intro hb1 (And.intro hb2 hb3))))
    repeat' first|refine st ?_|(refine nx ?_;refine so ?_)|(refine cx ?_;refine sc (fun hc=>?_) (fun hc=>?_)<;>try exact hc.elim)|(refine lx ?_;refine sp (fun hc=>?_) (fun hc=>?_)<;>try exact hc.elim)|refine sx ?_ ?_|refine sy ?_ ?_|fail
    · refine hK1 _ ⟨(k + 1, v + 1), by simp only; omega, by simp only; omega⟩ (weak_take 1 (by simp [hps, hc]) (by simp) (by simp) (by simp)) (by simp only; omega)
    · refine hK1 _ ⟨(k + 1, v), by simp only; omega, hv⟩ (weak_take 1 (by simp [hps, hc]) (by simp) (by simp) (by simp)) (by simp only; omega)
  · have htk : l.take k = l := List.take_of_length_le (by omega)
    rw [htk]
    have W := hk1
    repeat' first|refine st ?_|(refine nx ?_;refine so ?_)|(refine cx ?_;refine sc (fun hc=>?_) (fun hc=>?_)<;>try exact hc.elim)|(refine lx ?_;refine sp (fun hc=>?_) (fun hc=>?_)<;>try exact hc.elim)|refine sx ?_ ?_|refine sy ?_ ?_|fail
    all_goals (try (refine ⟨.inr rfl, ?_⟩; simp [Hands, Tryd.results32]))
end Go.Proofs.YtkjhhcgnfppdiaaDoor
