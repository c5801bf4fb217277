/-
  Proved here: steps towards the statement of this claim, text Q3.
  No condition beyond what each statement spells out.
-/
import Derived.Test.YtkjhhcgnfppdiaaGreatQ2
import Derived.Test.YtkjhhcgnfppdiaaGreatR9
set_option linter.all false
set_option linter.unusedSimpArgs false
set_option linter.unusedVariables false
set_option maxRecDepth 4000
set_option maxHeartbeats 4000000
namespace Go.Proofs.YtkjhhcgnfppdiaaGreat
open Go.Aw
def guessOk (p : DPage) (out : List DAddr) (r : DRequest) : Bool := canGuess r && decide (checkRequest p.policy r = 1) && !isAsked p r.to && !out.any (addrIs r.to)
def gStep (p : DPage) (out : List DAddr) (r : DRequest) : List DAddr := if guessOk p out r = true then out ++ [r.to] else out
def guessesOf (p : DPage) : List DAddr := (scanTokens p.queue p.addr.host).foldl (gStep p) []
def gTo (p : DPage) (l : List DRequest) (k : Nat) : List DAddr := (l.take k).foldl (gStep p) []
theorem gTo_succ (p : DPage) (l : List DRequest) (k : Nat) (h : k < l.length) : gTo p l (k + 1) = gStep p (gTo p l k) l[k] := by
  unfold gTo
  rw [List.take_succ_eq_append_getElem h, List.foldl_append]
  rfl
theorem gStep_len (p : DPage) (out : List DAddr) (r : DRequest) : (gStep p out r).length ≤ out.length + 1 := by
  unfold gStep; split <;> simp
theorem gTo_len (p : DPage) (l : List DRequest) : ∀ k, (gTo p l k).length ≤ k
  | 0 => by simp [gTo]
  | k + 1 => by
    by_cases h : k < l.length
    · rw [gTo_succ p l k h]
      have h1 := gStep_len p (gTo p l k) l[k]
      have h2 := gTo_len p l k
      omega
    · have h2 := gTo_len p l k
      have : gTo p l (k + 1) = gTo p l k := by unfold gTo; rw [List.take_of_length_le (by omega), List.take_of_length_le (by omega)]
      rw [this]; omega
theorem checkRequest_two (p : DPolicy) (r : DRequest) : checkRequest p r = 1 ∨ checkRequest p r = 2 := by
  unfold checkRequest; split <;> simp
theorem mul_bd2 {a b s c : Nat} (h : a + b ≤ 1048576) (ha : c ≤ a) (hb : s ≤ b) : c * s ≤ 274877906944 := by
  have h1 : c * s ≤ a * b := Nat.mul_le_mul ha hb
  have h2 : a * b ≤ 274877906944 := by
    have h3 : b ≤ 1048576 - a := by omega
    have h4 : a * b ≤ a * (1048576 - a) := Nat.mul_le_mul_left a h3
    have h5 : a * (1048576 - a) ≤ 524288 * 524288 := by
      rcases Nat.le_total a 524288 with h | h
      · obtain ⟨d, rfl⟩ : ∃ d, a = 524288 - d := ⟨524288 - a, by omega⟩
        have hd : d ≤ 524288 ∨ 524288 < d := by omega
        rcases hd with hd | hd
        · rw [show 1048576 - (524288 - d) = 524288 + d by omega]
          obtain ⟨e, he⟩ : ∃ e, e = 524288 - d := ⟨_, rfl⟩
          rw [← he, show (524288 : Nat) = e + d by omega]
          have : (e + d) * (e + d) = e * (e + d + d) + d * d := by
            simp only [Nat.mul_add, Nat.add_mul, Nat.mul_comm d e]; omega
          omega
        · rw [show 524288 - d = 0 by omega]; simp
      · obtain ⟨d, rfl⟩ : ∃ d, a = 524288 + d := ⟨a - 524288, by omega⟩
        obtain ⟨e, he⟩ : ∃ e, e = 524288 - d := ⟨_, rfl⟩
        rw [show 1048576 - (524288 + d) = e by omega, show (524288 : Nat) = e + d by omega]
        have : (e + d) * (e + d) = (e + d + d) * e + d * d := by
          simp only [Nat.mul_add, Nat.add_mul, Nat.mul_comm d e]; omega
        omega
    omega
  omega
theorem specGuessesOf_ok [Tabs Tryz.prog] (p : DPage) (hs : szPage p ≤ 1048576) : Ok Tryz.prog 8 [.agg (ePage .view p)] (.sl .own 2 ((guessesOf p).map eAddr)) := by
  simp only [szPage, szL] at hs
  have c0 := specScanTokens_ok p.queue p.addr.host (by simp only [szL, szAddr] at *; omega)
  have hl := scanTokens_length p.queue p.addr.host
  have hz := scanTokens_sz p.addr.host p.queue
  have hzm : p.queue.length * p.addr.host.length ≤ 274877906944 := mul_bd2 (a := p.queue.length) (b := p.addr.host.length) (by simp only [szAddr] at hs; omega) (Nat.le_refl _) (Nat.le_refl _)
  generalize p.queue.length * p.addr.host.length = pr at *
  have hzq : sumN szToken p.queue ≤ 1048576 := by omega
  have hg0 : guessesOf p = gTo p (scanTokens p.queue p.addr.host) (scanTokens p.queue p.addr.host).length := by unfold gTo guessesOf; rw [List.take_length]
  rw [hg0]
  generalize scanTokens p.queue p.addr.host = l at *
  refine ent Tryz.mix Tryz.func8 Tryz.ntmps8 ?_
  have W := trivial
  repeat' first|refine st ?_|(refine nx ?_;first|refine se ?_|refine so ?_)|(refine cx ?_;refine sc (fun hc=>?_) (fun hc=>?_)<;>try exact hc.elim)|(refine lx ?_;refine sp (fun hc=>?_) (fun hc=>?_)<;>try exact hc.elim)|refine sx ?_ ?_|refine sy ?_ ?_|fail
  refine awp_loop' (ι := { q : Nat × Nat // q.1 ≤ l.length ∧ 1 ≤ q.2 }) (fun t o i => ⟨upds t [(5, .int .i64 i.1.1), (3, .obj 1 i.1.2), (6, .undef)], o.take 1 ++ [⟨true, false, 2, i.1.2, (gTo p l i.1.1).map eAddr⟩, ⟨true, false, 5, 1, l.map eRequest⟩]⟩)
    (fun i => l.length - i.1.1) ⟨(0, 1), by simp, by simp⟩ (weak_o (by simp [gTo]) (by simp)) ?_
  rintro ⟨⟨k, v⟩, hk, hv⟩ K1 hK1
  simp only at hk hv
  simp only [upds, List.set_cons_succ, List.set_cons_zero, List.take_succ_cons, List.take_zero, List.cons_append, List.nil_append] at hK1 ⊢
  have hk1 : IntKind.i64.wrap ((k : Int) + 1) = ((k + 1 : Nat) : Int) := by rw [wrap64] <;> omega
  by_cases hlt : k < l.length
  · have hg := List.getElem?_eq_getElem hlt
    have hps := gTo_succ p l k hlt
    have hgl := gTo_len p l k
    have hrz := sumN_get_le szRequest l k hlt
    have c1 := specCanGuess_ok l[k] (by omega)
    have c2 := specCheckRequest_ok p.policy l[k] (by simp only [szPolicy, szL] at *; omega) (by omega)
    have c3 := specIsAsked_ok p l[k].to (by omega) (by omega)
    have c4 := specHasAddr_ok (gTo p l k) l[k].to (by omega)
    have h12 := checkRequest_two p.policy l[k]
    simp only [eRequest, eAddr, ePolicy] at c1 c2 c3 c4
    have no : guessOk p (gTo p l k) l[k] = false → gTo p l (k + 1) = gTo p l k := fun h => by rw [hps, gStep, if_neg (by rw [h]; simp)]
    have yes : guessOk p (gTo p l k) l[k] = true → gTo p l (k + 1) = gTo p l k ++ [l[k].to] := fun h => by rw [hps, gStep, if_pos h]
    unfold guessOk at no yes
    clear hps hrz hz hg0
    cases hb1 : canGuess l[k]
    · rw [hb1] at c1 no
      have hn := no (by simp)
      clear no yes hb1
      have W := And.intro hk1 (And.intro hg hlt)
      repeat' first|refine st ?_|(refine nx ?_;first|refine se ?_|refine so ?_)|(refine cx ?_;refine sc (fun hc=>?_) (fun hc=>?_)<;>try exact hc.elim)|(refine lx ?_;refine sp (fun hc=>?_) (fun hc=>?_)<;>try exact hc.elim)|refine sx ?_ ?_|refine sy ?_ ?_|fail
      all_goals refine hK1 _ ⟨(k + 1, v), by simp only; omega, hv⟩ (weak_take 3 (by simp [hn]) (by simp) (by simp) (by simp)) (by simp only; omega)
    · rw [hb1] at c1 no yes
      rcases h12 with hb2 | hb2
      · rw [hb2] at c2 no yes
        cases hb3 : isAsked p l[k].to
        · rw [hb3] at c3 no yes
          cases hb4 : (gTo p l k).any (addrIs l[k].to)
          · rw [hb4] at c4 no yes
            have hn := yes (by simp)
            clear no yes hb1 hb2 hb3 hb4
            have W := And.intro hk1 (And.intro hg hlt)
            repeat' first|refine st ?_|(refine nx ?_;first|refine se ?_|refine so ?_)|(refine cx ?_;refine sc (fun hc=>?_) (fun hc=>?_)<;>try exact hc.elim)|(refine lx ?_;refine sp (fun hc=>?_) (fun hc=>?_)<;>try exact hc.elim)|refine sx ?_ ?_|refine sy ?_ ?_|fail
            all_goals refine hK1 _ ⟨(k + 1, v + 1), by simp only; omega, by simp only; omega⟩ (weak_take 3 (by simp [hn]) (by simp) (by simp) (by simp)) (by simp only; omega)
          · rw [hb4] at c4 no yes
            have hn := no (by simp)
            clear no yes hb1 hb2 hb3 hb4
            have W := And.intro hk1 (And.intro hg hlt)
            repeat' first|refine st ?_|(refine nx ?_;first|refine se ?_|refine so ?_)|(refine cx ?_;refine sc (fun hc=>?_) (fun hc=>?_)<;>try exact hc.elim)|(refine lx ?_;refine sp (fun hc=>?_) (fun hc=>?_)<;>try exact hc.elim)|refine sx ?_ ?_|refine sy ?_ ?_|fail
            all_goals refine hK1 _ ⟨(k + 1, v), by simp only; omega, hv⟩ (weak_take 3 (by simp [hn]) (by simp) (by simp) (by simp)) (by simp only; omega)
        · rw [hb3] at c3 no yes
          have hn := no (by simp)
          clear no yes hb1 hb2 hb3
          have W := And.intro hk1 (And.intro hg hlt)
          repeat' first|refine st ?_|(refine nx ?_;first|refine se ?_|refine so ?_)|(refine cx ?_;refine sc (fun hc=>?_) (fun hc=>?_)<;>try exact hc.elim)|(refine lx ?_;refine sp (fun hc=>?_) (fun hc=>?_)<;>try exact hc.elim)|refine sx ?_ ?_|refine sy ?_ ?_|fail
          all_goals refine hK1 _ ⟨(k + 1, v), by simp only; omega, hv⟩ (weak_take 3 (by simp [hn]) (by simp) (by simp) (by simp)) (by simp only; omega)
      · rw [hb2] at c2 no yes
        have hn := no (by simp)
        clear no yes hb1 hb2
        have W := And.intro hk1 (And.intro hg hlt)
        repeat' first|refine st ?_|(refine nx ?_;first|refine se ?_|refine so ?_)|(refine cx ?_;refine sc (fun hc=>?_) (fun hc=>?_)<;>try exact hc.elim)|(refine lx ?_;refine sp (fun hc=>?_) (fun hc=>?_)<;>try exact hc.elim)|refine sx ?_ ?_|refine sy ?_ ?_|fail
        all_goals refine hK1 _ ⟨(k + 1, v), by simp only; omega, hv⟩ (weak_take 3 (by simp [hn]) (by simp) (by simp) (by simp)) (by simp only; omega)
  · obtain rfl : k = l.length := by omega
    have W := hk1
    repeat' first|refine st ?_|(refine nx ?_;first|refine se ?_|refine so ?_)|(refine cx ?_;refine sc (fun hc=>?_) (fun hc=>?_)<;>try exact hc.elim)|(refine lx ?_;refine sp (fun hc=>?_) (fun hc=>?_)<;>try exact hc.elim)|refine sx ?_ ?_|refine sy ?_ ?_|fail
    all_goals (try (refine ⟨.inr rfl, ?_⟩; simp [Hands, Tryz.results8]))
theorem implGuessesOf_ok [Tabs Tryz.prog] (p : DPage) (hs : szPage p ≤ 1048576) : Ok Tryz.prog 10 [.agg (ePage .view p)] (.sl .own 2 ((guessesOf p).map eAddr)) := by
  simp only [szPage, szL] at hs
  have c0 := implScanTokens_ok p.queue p.addr.host (by simp only [szL, szAddr] at *; omega)
  have hl := scanTokens_length p.queue p.addr.host
  have hz := scanTokens_sz p.addr.host p.queue
  have hzm : p.queue.length * p.addr.host.length ≤ 274877906944 := mul_bd2 (a := p.queue.length) (b := p.addr.host.length) (by simp only [szAddr] at hs; omega) (Nat.le_refl _) (Nat.le_refl _)
  generalize p.queue.length * p.addr.host.length = pr at *
  have hzq : sumN szToken p.queue ≤ 1048576 := by omega
  have hg0 : guessesOf p = gTo p (scanTokens p.queue p.addr.host) (scanTokens p.queue p.addr.host).length := by unfold gTo guessesOf; rw [List.take_length]
  rw [hg0]
  generalize scanTokens p.queue p.addr.host = l at *
  refine ent Tryz.mix Tryz.func10 Tryz.ntmps10 ?_
  have W := trivial
  repeat' first|refine st ?_|(refine nx ?_;first|refine se ?_|refine so ?_)|(refine cx ?_;refine sc (fun hc=>?_) (fun hc=>?_)<;>try exact hc.elim)|(refine lx ?_;refine sp (fun hc=>?_) (fun hc=>?_)<;>try exact hc.elim)|refine sx ?_ ?_|refine sy ?_ ?_|fail
  refine awp_loop' (ι := { q : Nat × Nat // q.1 ≤ l.length ∧ 1 ≤ q.2 }) (fun t o i => ⟨upds t [(14, .int .i64 i.1.1), (3, .obj 1 i.1.2), (5, .undef)], o.take 1 ++ [⟨true, false, 2, i.1.2, (gTo p l i.1.1).map eAddr⟩, ⟨true, false, 5, 1, l.map eRequest⟩]⟩)
    (fun i => l.length - i.1.1) ⟨(0, 1), by simp, by simp⟩ (weak_o (by simp [gTo]) (by simp)) ?_
  rintro ⟨⟨k, v⟩, hk, hv⟩ K1 hK1
  simp only at hk hv
  simp only [upds, List.set_cons_succ, List.set_cons_zero, List.take_succ_cons, List.take_zero, List.cons_append, List.nil_append] at hK1 ⊢
  have hk1 : IntKind.i64.wrap ((k : Int) + 1) = ((k + 1 : Nat) : Int) := by rw [wrap64] <;> omega
  by_cases hlt : k < l.length
  · have hg := List.getElem?_eq_getElem hlt
    have hps := gTo_succ p l k hlt
    have hgl := gTo_len p l k
    have hrz := sumN_get_le szRequest l k hlt
    have c1 := implCanGuess_ok l[k] (by omega)
    have c2 := implCheckRequest_ok p.policy l[k] (by simp only [szPolicy, szL] at *; omega) (by omega)
    have c3 := implIsAsked_ok p l[k].to (by omega) (by omega)
    have c4 := implHasAddr_ok (gTo p l k) l[k].to (by omega)
    have h12 := checkRequest_two p.policy l[k]
    simp only [eRequest, eAddr, ePolicy] at c1 c2 c3 c4
    have no : guessOk p (gTo p l k) l[k] = false → gTo p l (k + 1) = gTo p l k := fun h => by rw [hps, gStep, if_neg (by rw [h]; simp)]
    have yes : guessOk p (gTo p l k) l[k] = true → gTo p l (k + 1) = gTo p l k ++ [l[k].to] := fun h => by rw [hps, gStep, if_pos h]
    unfold guessOk at no yes
    clear hps hrz hz hg0
    cases hb1 : canGuess l[k]
    · rw [hb1] at c1 no
      have hn := no (by simp)
      clear no yes hb1
      have W := And.intro hk1 (And.intro hg hlt)
      repeat' first|refine st ?_|(refine nx ?_;first|refine se ?_|refine so ?_)|(refine cx ?_;refine sc (fun hc=>?_) (fun hc=>?_)<;>try exact hc.elim)|(refine lx ?_;refine sp (fun hc=>?_) (fun hc=>?_)<;>try exact hc.elim)|refine sx ?_ ?_|refine sy ?_ ?_|fail
      all_goals refine hK1 _ ⟨(k + 1, v), by simp only; omega, hv⟩ (weak_take 3 (by simp [hn]) (by simp) (by simp) (by simp)) (by simp only; omega)
    · rw [hb1] at c1 no yes
      rcases h12 with hb2 | hb2
      · rw [hb2] at c2 no yes
        cases hb3 : isAsked p l[k].to
        · rw [hb3] at c3 no yes
          cases hb4 : (gTo p l k).any (addrIs l[k].to)
          · rw [hb4] at c4 no yes
            have hn := yes (by simp)
            clear no yes hb1 hb2 hb3 hb4
            have W := And.intro hk1 (And.intro hg hlt)
            repeat' first|refine st ?_|(refine nx ?_;first|refine se ?_|refine so ?_)|(refine cx ?_;refine sc (fun hc=>?_) (fun hc=>?_)<;>try exact hc.elim)|(refine lx ?_;refine sp (fun hc=>?_) (fun hc=>?_)<;>try exact hc.elim)|refine sx ?_ ?_|refine sy ?_ ?_|fail
            all_goals refine hK1 _ ⟨(k + 1, v + 1), by simp only; omega, by simp only; omega⟩ (weak_take 3 (by simp [hn]) (by simp) (by simp) (by simp)) (by simp only; omega)
          · rw [hb4] at c4 no yes
            have hn := no (by simp)
            clear no yes hb1 hb2 hb3 hb4
            have W := And.intro hk1 (And.intro hg hlt)
            repeat' first|refine st ?_|(refine nx ?_;first|refine se ?_|refine so ?_)|(refine cx ?_;refine sc (fun hc=>?_) (fun hc=>?_)<;>try exact hc.elim)|(refine lx ?_;refine sp (fun hc=>?_) (fun hc=>?_)<;>try exact hc.elim)|refine sx ?_ ?_|refine sy ?_ ?_|fail
            all_goals refine hK1 _ ⟨(k + 1, v), by simp only; omega, hv⟩ (weak_take 3 (by simp [hn]) (by simp) (by simp) (by simp)) (by simp only; omega)
        · rw [hb3] at c3 no yes
          have hn := no (by simp)
          clear no yes hb1 hb2 hb3
          have W := And.intro hk1 (And.intro hg hlt)
          repeat' first|refine st ?_|(refine nx ?_;first|refine se ?_|refine so ?_)|(refine cx ?_;refine sc (fun hc=>?_) (fun hc=>?_)<;>try exact hc.elim)|(refine lx ?_;refine sp (fun hc=>?_) (fun hc=>?_)<;>try exact hc.elim)|refine sx ?_ ?_|refine sy ?_ ?_|fail
          all_goals refine hK1 _ ⟨(k + 1, v), by simp only; omega, hv⟩ (weak_take 3 (by simp [hn]) (by simp) (by simp) (by simp)) (by simp only; omega)
      · rw [hb2] at c2 no yes
        have hn := no (by simp)
        clear no yes hb1 hb2
        have W := And.intro hk1 (And.intro hg hlt)
        repeat' first|refine st ?_|(refine nx ?_;first|refine se ?_|refine so ?_)|(refine cx ?_;refine sc (fun hc=>?_) (fun hc=>?_)<;>try exact hc.elim)|(refine lx ?_;refine sp (fun hc=>?_) (fun hc=>?_)<;>try exact hc.elim)|refine sx ?_ ?_|refine sy ?_ ?_|fail
        all_goals refine hK1 _ ⟨(k + 1, v), by simp only; omega, hv⟩ (weak_take 3 (by simp [hn]) (by simp) (by simp) (by simp)) (by simp only; omega)
  · obtain rfl : k = l.length := by omega
    have W := hk1
    repeat' first|refine st ?_|(refine nx ?_;first|refine se ?_|refine so ?_)|(refine cx ?_;refine sc (fun hc=>?_) (fun hc=>?_)<;>try exact hc.elim)|(refine lx ?_;refine sp (fun hc=>?_) (fun hc=>?_)<;>try exact hc.elim)|refine sx ?_ ?_|refine sy ?_ ?_|fail
    all_goals (try (refine ⟨.inr rfl, ?_⟩; simp [Hands, Tryz.results10]))
end Go.Proofs.YtkjhhcgnfppdiaaGreat
