/-
  Proved here: steps towards the statement of this claim, text D6.
  No condition beyond what each statement spells out.
-/
import Derived.Test.YtedhenfipalhaaaDoorD3
import Derived.Test.YtedhenfipalhaaaDoorD4
import Derived.Test.YtedhenfipalhaaaDoorD5
import Derived.Test.YtedhenfipalhaaaDoorF3
set_option linter.all false
set_option linter.unusedSimpArgs false
set_option linter.unusedVariables false
set_option maxRecDepth 4000
set_option maxHeartbeats 4000000
namespace Go.Proofs.YtedhenfipalhaaaDoor
open Go.Aw

@[simp] theorem rtr_bytesRows (f : Tg → Option Tg) (b : Bool) (l : Str) : rtr f b (bytesRows l) = bytesRows l := by
  induction l with
  | nil => rfl
  | cons x l ih => simp only [bytesRows, List.map_cons, rtr, rtc, rt] at ih ⊢; rw [ih]
def linesOf (l : List Str) : Str := (l.map fun t => t ++ [10]).flatten
theorem linesOf_succ (l : List Str) (k : Nat) (h : k < l.length) : linesOf (l.take (k + 1)) = linesOf (l.take k) ++ (l[k] ++ [10]) := by
  unfold linesOf
  rw [List.take_succ_eq_append_getElem h, List.map_append, List.flatten_append]
  simp
theorem linesOf_len : ∀ l : List Str, (linesOf l).length = sumN szStr l + l.length
  | [] => rfl
  | x :: l => by
    have ih := linesOf_len l
    unfold linesOf at *
    simp only [List.map_cons, List.flatten_cons, List.length_append, List.length_cons, List.length_nil, sumN, szStr, ih]
    omega
theorem linesOf_app (a b : List Str) : linesOf (a ++ b) = linesOf a ++ linesOf b := by simp [linesOf]
theorem linesOf_take_len (l : List Str) (k : Nat) : (linesOf (l.take k)).length ≤ sumN szStr l + l.length := by
  rw [linesOf_len]
  have h1 : sumN szStr (l.take k) ≤ sumN szStr l := sumN_take_le szStr l k
  have h2 : (l.take k).length ≤ l.length := by simp; omega
  omega
def digestText (r : DResult) : Str := linesOf (r.log ++ r.verdicts) ++ (formatSheet r.sheet ++ formatTree r.builder)
def resultDigest (r : DResult) : Int := hashL (157 :: bytesInts (digestText r))
theorem digest_len (r : DResult) (hl : szResult r ≤ 1048576) (hr : rgResult r) : (digestText r).length ≤ 60000000 ∧ (linesOf (r.log ++ r.verdicts)).length ≤ 2097152 ∧ (formatSheet r.sheet).length ≤ 30000000 ∧ (formatTree r.builder).length ≤ 27000000 := by
  simp only [szResult, szBuilder, szSheet, szL] at hl
  have h1 := linesOf_len r.log
  have h2 := linesOf_len r.verdicts
  have h3 := formatSheet_len r.sheet hr.2
  have h4 := formatTree_len r.builder hr.1.1
  have h5 := linesOf_app r.log r.verdicts
  unfold digestText
  simp only [List.length_append, h5]
  omega
theorem ints_rg (s : Str) (h : s.length ≤ 60000000) : ∀ y ∈ (157 :: bytesInts s), rgI y := by
  intro y hy
  unfold rgI
  rcases List.mem_cons.1 hy with rfl | hy
  · omega
  rcases List.mem_cons.1 hy with rfl | hy
  · omega
  · simp only [toInts, mapL, List.mem_map] at hy
    obtain ⟨c, _, rfl⟩ := hy
    have : c.toNat < 256 := UInt8.toNat_lt c
    omega
theorem ints_len (s : Str) : (bytesInts s).length = s.length + 1 := by simp [bytesInts, toInts, mapL]
theorem specResultDigest_ok [Tabs Tryd.prog] [HasPow Tryd.prog] (r : DResult) (hl : szResult r ≤ 1048576) (hr : rgResult r) : Ok Tryd.prog 26 [.agg (eResult .view r)] (.int .i64 (resultDigest r)) := by
  obtain ⟨d1, d2, d3, d4⟩ := digest_len r hl hr
  have c1 := specFormatSheet_ok r.sheet (by simp only [szResult, szSheet] at hl; omega) hr.2
  have c2 := specFormatTree_ok r.builder (by simp only [szResult, szBuilder] at hl; omega) hr.1.1
  have c3 := specBytesToInts_ok (digestText r) (by omega)
  have c4 := specHash_ok (157 :: bytesInts (digestText r)) (by simp only [List.length_cons, ints_len]; omega) (ints_rg _ d1)
  have hil := ints_len (digestText r)
  have hq : (bytesInts (digestText r)).length ≤ 60000001 := by omega
  simp only [List.map_cons] at c4
  have hdt : digestText r = linesOf r.log ++ linesOf r.verdicts ++ formatSheet r.sheet ++ formatTree r.builder := by
    unfold digestText; rw [linesOf_app]; simp
  have hrd : resultDigest r = hashL (157 :: bytesInts (digestText r)) := rfl
  rw [hrd]
  clear hrd
  generalize bytesInts (digestText r) = q at *
  rw [linesOf_app, List.length_append] at d2
  simp only [szResult, szBuilder, szSheet, szL] at hl
  generalize hfs : formatSheet r.sheet = fs at *
  generalize hft : formatTree r.builder = ft at *
  simp only [eSheet] at c1
  simp only [eBuilder] at c2
  refine ent Tryd.mix Tryd.func26 Tryd.ntmps26 ?_
  have W := trivial
  repeat' first|refine st ?_|(refine nx ?_;first|refine se ?_|refine so ?_|refine sb ?_)|(refine cx ?_;refine sc (fun hc=>?_) (fun hc=>?_)<;>try exact hc.elim)|(refine lx ?_;refine sp (fun hc=>?_) (fun hc=>?_)<;>try exact hc.elim)|refine sx ?_ ?_|refine sy ?_ ?_|fail
  refine awp_loop' (ι := { k : Nat // k ≤ r.log.length }) (fun t o i => ⟨upds t [(4, .int .i64 i.1), (3, .str (linesOf (r.log.take i.1)))], o⟩)
    (fun i => r.log.length - i.1) ⟨0, by simp⟩ (weak_o (by simp) (by simp [linesOf])) ?_
  rintro ⟨k, hk⟩ K1 hK1
  simp only [upds, List.set_cons_succ, List.set_cons_zero] at hK1 ⊢
  have hk1 : IntKind.i64.wrap ((k : Int) + 1) = ((k + 1 : Nat) : Int) := by rw [wrap64] <;> omega
  by_cases hlt : k < r.log.length
  · have hg := List.getElem?_eq_getElem hlt
    have hs := linesOf_succ r.log k hlt
    have hb := linesOf_take_len r.log k
    have hz := sumN_get_le szStr r.log k hlt
    simp only [szStr] at hz
    generalize linesOf (r.log.take k) = a at *
    have W := And.intro hk1 (And.intro hg hlt)
    repeat' first|refine st ?_|(refine nx ?_;first|refine se ?_|refine so ?_|refine sb ?_)|(refine cx ?_;refine sc (fun hc=>?_) (fun hc=>?_)<;>try exact hc.elim)|(refine lx ?_;refine sp (fun hc=>?_) (fun hc=>?_)<;>try exact hc.elim)|refine sx ?_ ?_|refine sy ?_ ?_|fail
    all_goals exact hK1 _ ⟨k + 1, by omega⟩ (weak_o (by simp) (by simp [hs])) (by simp only; omega)
  · have htk : r.log.take k = r.log := List.take_of_length_le (by omega)
    rw [htk]
    have W := hk1
    repeat' first|refine st ?_|(refine nx ?_;first|refine se ?_|refine so ?_|refine sb ?_)|(refine cx ?_;refine sc (fun hc=>?_) (fun hc=>?_)<;>try exact hc.elim)|(refine lx ?_;refine sp (fun hc=>?_) (fun hc=>?_)<;>try exact hc.elim)|refine sx ?_ ?_|refine sy ?_ ?_|fail
    refine awp_loop' (ι := { k : Nat // k ≤ r.verdicts.length }) (fun t o i => ⟨upds t [(5, .int .i64 i.1), (3, .str (linesOf r.log ++ linesOf (r.verdicts.take i.1)))], o⟩)
      (fun i => r.verdicts.length - i.1) ⟨0, by simp⟩ (weak_o (by simp) (by simp [linesOf])) ?_
    rintro ⟨k, hk⟩ K1 hK1
    simp only [upds, List.set_cons_succ, List.set_cons_zero] at hK1 ⊢
    have hk1 : IntKind.i64.wrap ((k : Int) + 1) = ((k + 1 : Nat) : Int) := by rw [wrap64] <;> omega
    by_cases hlt : k < r.verdicts.length
    · have hg := List.getElem?_eq_getElem hlt
      have hs := linesOf_succ r.verdicts k hlt
      have hb := linesOf_take_len r.verdicts k
      have hz := sumN_get_le szStr r.verdicts k hlt
      simp only [szStr] at hz
      generalize linesOf (r.verdicts.take k) = a at *
      generalize linesOf r.log = a0 at *
      have W := And.intro hk1 (And.intro hg hlt)
      repeat' first|refine st ?_|(refine nx ?_;first|refine se ?_|refine so ?_|refine sb ?_)|(refine cx ?_;refine sc (fun hc=>?_) (fun hc=>?_)<;>try exact hc.elim)|(refine lx ?_;refine sp (fun hc=>?_) (fun hc=>?_)<;>try exact hc.elim)|refine sx ?_ ?_|refine sy ?_ ?_|fail
      all_goals exact hK1 _ ⟨k + 1, by omega⟩ (weak_o (by simp) (by simp [hs])) (by simp only; omega)
    · have htk : r.verdicts.take k = r.verdicts := List.take_of_length_le (by omega)
      rw [htk]
      generalize linesOf r.log = a0 at *
      generalize linesOf r.verdicts = a1 at *
      simp only [List.append_assoc] at hdt
      rw [hdt] at c3 d1
      have W := hk1
      repeat' first|refine st ?_|(refine nx ?_;first|refine se ?_|refine so ?_|refine sb ?_)|(refine cx ?_;refine sc (fun hc=>?_) (fun hc=>?_)<;>try exact hc.elim)|(refine lx ?_;refine sp (fun hc=>?_) (fun hc=>?_)<;>try exact hc.elim)|refine sx ?_ ?_|refine sy ?_ ?_|fail
      all_goals (try (refine ⟨.inr rfl, ?_⟩; simp [Hands, Tryd.results26]))
theorem implResultDigest_ok [Tabs Tryd.prog] [HasPow Tryd.prog] (r : DResult) (hl : szResult r ≤ 1048576) (hr : rgResult r) : Ok Tryd.prog 28 [.agg (eResult .view r)] (.int .i64 (resultDigest r)) := by
  obtain ⟨d1, d2, d3, d4⟩ := digest_len r hl hr
  have c1 := implFormatSheet_ok r.sheet (by simp only [szResult, szSheet] at hl; omega) hr.2
  have c2 := implFormatTree_ok r.builder (by simp only [szResult, szBuilder] at hl; omega) hr.1.1
  have c3 := implBytesToInts_ok (digestText r) (by omega)
  have c4 := implHash_ok (157 :: bytesInts (digestText r)) (by simp only [List.length_cons, ints_len]; omega) (ints_rg _ d1)
  have hil := ints_len (digestText r)
  have hq : (bytesInts (digestText r)).length ≤ 60000001 := by omega
  simp only [List.map_cons] at c4
  have hdt : digestText r = linesOf (r.log ++ r.verdicts) ++ (formatSheet r.sheet ++ formatTree r.builder) := rfl
  have hrd : resultDigest r = hashL (157 :: bytesInts (digestText r)) := rfl
  rw [hrd]
  clear hrd
  generalize bytesInts (digestText r) = q at *
  simp only [szResult, szBuilder, szSheet, szL] at hl
  generalize hfs : formatSheet r.sheet = fs at *
  generalize hft : formatTree r.builder = ft at *
  simp only [eSheet] at c1
  simp only [eBuilder] at c2
  have hsum : ∀ a b : List Str, sumN szStr (a ++ b) = sumN szStr a + sumN szStr b := by
    intro a b
    induction a with
    | nil => simp [sumN]
    | cons x xs ih => simp only [List.cons_append, sumN, ih]; omega
  have hS := hsum r.log r.verdicts
  have hlen : (r.log ++ r.verdicts).length = r.log.length + r.verdicts.length := List.length_append
  refine entC Tryd.mix [(2, [0, 1, 2, 3, 4, 5, 8, 6, 7], [0, 1, 2, 3, 4, 5, 7, 8, 6])] Tryd.func28 Tryd.ntmps28 ?_
  have W := trivial
  repeat' first|refine st ?_|(refine nx ?_;first|refine se ?_|refine so ?_|refine sb ?_)|(refine cx ?_;refine sc (fun hc=>?_) (fun hc=>?_)<;>try exact hc.elim)|(refine lx ?_;refine sp (fun hc=>?_) (fun hc=>?_)<;>try exact hc.elim)|refine sx ?_ ?_|refine sy ?_ ?_|fail
  refine kN ?_
  refine go_next (by simp; done) (by simp; rfl) (by simp; rfl) ?_
  refine kD ?_
  refine go_barC (by decide +kernel) (by simp [strays, reach, preAt, Region.binds, List.range_succ]; rfl) ?_
  have W := trivial
  repeat' first|refine st ?_|(refine nx ?_;first|refine se ?_|refine so ?_|refine sb ?_)|(refine cx ?_;refine sc (fun hc=>?_) (fun hc=>?_)<;>try exact hc.elim)|(refine lx ?_;refine sp (fun hc=>?_) (fun hc=>?_)<;>try exact hc.elim)|refine sx ?_ ?_|refine sy ?_ ?_|fail
  rw [← List.map_append]
  generalize hL : r.log ++ r.verdicts = L at *
  refine awp_loop' (ι := { k : Nat // k ≤ L.length }) (fun t o i => ⟨upds t [(14, .int .i64 i.1), (3, .str (linesOf (L.take i.1))), (5, .undef)], o⟩)
    (fun i => L.length - i.1) ⟨0, by simp⟩ (weak_o (by simp) (by simp [linesOf, hlen])) ?_
  rintro ⟨k, hk⟩ K1 hK1
  simp only [upds, List.set_cons_succ, List.set_cons_zero] at hK1 ⊢
  have hk1 : IntKind.i64.wrap ((k : Int) + 1) = ((k + 1 : Nat) : Int) := by rw [wrap64] <;> omega
  by_cases hlt : k < L.length
  · have hg := List.getElem?_eq_getElem hlt
    have hs := linesOf_succ L k hlt
    have hb := linesOf_take_len L k
    have hz := sumN_get_le szStr L k hlt
    simp only [szStr] at hz
    generalize linesOf (L.take k) = a at *
    have W := And.intro hk1 (And.intro hg (And.intro hlt hlen))
    repeat' first|refine st ?_|(refine nx ?_;first|refine se ?_|refine so ?_|refine sb ?_)|(refine cx ?_;refine sc (fun hc=>?_) (fun hc=>?_)<;>try exact hc.elim)|(refine lx ?_;refine sp (fun hc=>?_) (fun hc=>?_)<;>try exact hc.elim)|refine sx ?_ ?_|refine sy ?_ ?_|fail
    all_goals exact hK1 _ ⟨k + 1, by omega⟩ (weak_o (by simp) (by simp [hs])) (by simp only; omega)
  · have htk : L.take k = L := List.take_of_length_le (by omega)
    rw [htk]
    generalize linesOf L = a0 at *
    rw [hdt] at c3 d1
    have W := And.intro hk1 hlen
    repeat' first|refine st ?_|(refine nx ?_;first|refine se ?_|refine so ?_|refine sb ?_)|(refine cx ?_;refine sc (fun hc=>?_) (fun hc=>?_)<;>try exact hc.elim)|(refine lx ?_;refine sp (fun hc=>?_) (fun hc=>?_)<;>try exact hc.elim)|refine sx ?_ ?_|refine sy ?_ ?_|fail
    all_goals (try (refine ⟨.inr rfl, ?_⟩; simp [Hands, Tryd.results28]))
end Go.Proofs.YtedhenfipalhaaaDoor
