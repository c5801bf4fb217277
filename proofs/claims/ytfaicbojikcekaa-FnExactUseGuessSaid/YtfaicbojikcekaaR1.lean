/-
  Proved here: steps towards the statement of this claim, text R1.
  No condition beyond what each statement spells out.
-/
import Derived.Test.YtfaicbojikcekaaU3
import Derived.Test.YtfaicbojikcekaaF3
set_option linter.all false
set_option linter.unusedSimpArgs false
set_option linter.unusedVariables false
set_option maxRecDepth 4000
set_option maxHeartbeats 4000000
namespace Go.Proofs.Ytfaicbojikcekaa
open Go.Aw
theorem eAddr_inj {a b : DAddr} : eAddr a = eAddr b ↔ a = b := by
  obtain ⟨a1, a2⟩ := a
  obtain ⟨b1, b2⟩ := b
  simp
theorem eqAddrA (a b : DAddr) : EqA Try.prog 33 (eAddr a) (eAddr b) (decide (a = b)) :=
  eqA_of (f := 6) (ss := [.str, .str]) (by decide) (by kernel_rfl) (by kernel_rfl) (by kernel_rfl) (by kernel_rfl) (by simp [LikeC, Like]) (by simp [LikeC, Like]) (by rw [eAddr_inj, decide_eq_true_iff])
def guessIs (a : DAddr) (g : DGuess) : Bool := decide (g.to = a)
def freshG (g : DGuess) : Bool := !g.used
theorem specFindGuess_ok (l : List DGuess) (a : DAddr) (hl : l.length ≤ 1099511627776) : Ok Try.prog 56 [.sl .view 9 (l.map eGuess), .agg (eAddr a)] (.int .i64 (idxI (guessIs a) l)) := by
  refine ent Try.mix Try.func56 Try.ntmps56 ?_
  have W := trivial
  repeat' first|refine st ?_|(refine nx ?_;refine so ?_)|(refine cx ?_;refine sc (fun hc=>?_) (fun hc=>?_)<;>try exact hc.elim)|(refine lx ?_;refine sp (fun hc=>?_) (fun hc=>?_)<;>try exact hc.elim)|fail
  refine awp_loop' (ι := { k : Nat // k ≤ l.length ∧ ∀ x ∈ l.take k, guessIs a x = false }) (fun t o i => ⟨upds t [(5, .int .i64 i.1)], o⟩)
    (fun i => l.length - i.1) ⟨0, by simp, by simp⟩ (weak_o (by simp) (by simp)) ?_
  rintro ⟨k, hk, hi⟩ K1 hK1
  simp only [upds, List.set_cons_succ, List.set_cons_zero] at hK1 ⊢
  have hk1 : IntKind.i64.wrap ((k : Int) + 1) = ((k + 1 : Nat) : Int) := by rw [wrap64] <;> omega
  by_cases hlt : k < l.length
  · have hg := List.getElem?_eq_getElem hlt
    have W := And.intro hk1 (And.intro hg hlt)
    have c0 := eqAddrA l[k].to a
    repeat' first|refine st ?_|(refine nx ?_;refine so ?_)|(refine cx ?_;refine sc (fun hc=>?_) (fun hc=>?_)<;>try exact hc.elim)|(refine lx ?_;refine sp (fun hc=>?_) (fun hc=>?_)<;>try exact hc.elim)|fail
    · all_goals (try (refine ⟨.inr rfl, ?_⟩; simp [Hands, Try.results56]))
      rw [idxI_at hlt (by simpa [guessIs] using hc) hi]
    · exact hK1 _ ⟨k + 1, by omega, take_succ_all hlt hi (by simpa [guessIs] using hc)⟩ (weak_o (by simp) (by simp)) (by simp only; omega)
  · have W := hk1
    repeat' first|refine st ?_|(refine nx ?_;refine so ?_)|(refine cx ?_;refine sc (fun hc=>?_) (fun hc=>?_)<;>try exact hc.elim)|(refine lx ?_;refine sp (fun hc=>?_) (fun hc=>?_)<;>try exact hc.elim)|fail
    all_goals (try (refine ⟨.inr rfl, ?_⟩; simp [Hands, Try.results56]))
    rw [idxI_none (take_all (by omega) hi)]
theorem find1_ok (g : DGuess) (a : DAddr) : Ok Try.prog 122 [.agg (eGuess g), .vptr .view (eAddr a) 0] (.bool (guessIs a g)) := by
  refine ent Try.mix Try.func122 Try.ntmps122 ?_
  have W := trivial
  have c0 := eqAddrA g.to a
  repeat' first|refine st ?_|(refine nx ?_;refine so ?_)|(refine cx ?_;refine sc (fun hc=>?_) (fun hc=>?_)<;>try exact hc.elim)|(refine lx ?_;refine sp (fun hc=>?_) (fun hc=>?_)<;>try exact hc.elim)|fail
  all_goals (try (refine ⟨.inr rfl, ?_⟩; simp [Hands, Try.results122]))
  rfl
theorem indexGuess_ok (l : List DGuess) (a : DAddr) (hl : l.length ≤ 1099511627776) : Ok Try.prog 121 [.sl .view 9 (l.map eGuess), .fn 122 [.vptr .view (eAddr a) 0]] (.int .i64 (idxI (guessIs a) l)) := by
  refine ent Try.mix Try.func121 Try.ntmps121 ?_
  have W := trivial
  repeat' first|refine st ?_|(refine nx ?_;refine so ?_)|(refine cx ?_;refine sc (fun hc=>?_) (fun hc=>?_)<;>try exact hc.elim)|(refine lx ?_;refine sp (fun hc=>?_) (fun hc=>?_)<;>try exact hc.elim)|fail
  refine awp_loop' (ι := { k : Nat // k ≤ l.length ∧ ∀ x ∈ l.take k, guessIs a x = false }) (fun t o i => ⟨upds t [(8, .int .i64 i.1), (5, .undef)], o⟩)
    (fun i => l.length - i.1) ⟨0, by simp, by simp⟩ (weak_o (by simp) (by simp)) ?_
  rintro ⟨k, hk, hi⟩ K1 hK1
  simp only [upds, List.set_cons_succ, List.set_cons_zero] at hK1 ⊢
  have hk1 : IntKind.i64.wrap ((k : Int) + 1) = ((k + 1 : Nat) : Int) := by rw [wrap64] <;> omega
  by_cases hlt : k < l.length
  · have hg := List.getElem?_eq_getElem hlt
    have W := And.intro hk1 (And.intro hg hlt)
    have c0 := find1_ok l[k] a
    repeat' first|refine st ?_|(refine nx ?_;refine so ?_)|(refine cx ?_;refine sc (fun hc=>?_) (fun hc=>?_)<;>try exact hc.elim)|(refine lx ?_;refine sp (fun hc=>?_) (fun hc=>?_)<;>try exact hc.elim)|fail
    · all_goals (try (refine ⟨.inr rfl, ?_⟩; simp [Hands, Try.results121]))
      rw [idxI_at hlt (by simpa using hc) hi]
    · exact hK1 _ ⟨k + 1, by omega, take_succ_all hlt hi (by simpa using hc)⟩ (weak_o (by simp) (by simp)) (by simp only; omega)
  · have W := hk1
    repeat' first|refine st ?_|(refine nx ?_;refine so ?_)|(refine cx ?_;refine sc (fun hc=>?_) (fun hc=>?_)<;>try exact hc.elim)|(refine lx ?_;refine sp (fun hc=>?_) (fun hc=>?_)<;>try exact hc.elim)|fail
    all_goals (try (refine ⟨.inr rfl, ?_⟩; simp [Hands, Try.results121]))
    rw [idxI_none (take_all (by omega) hi)]
theorem implFindGuess_ok (l : List DGuess) (a : DAddr) (hl : l.length ≤ 1099511627776) : Ok Try.prog 60 [.sl .view 9 (l.map eGuess), .agg (eAddr a)] (.int .i64 (idxI (guessIs a) l)) := by
  refine ent Try.mix Try.func60 Try.ntmps60 ?_
  have W := trivial
  have c0 := indexGuess_ok l a hl
  repeat' first|refine st ?_|(refine nx ?_;refine so ?_)|(refine cx ?_;refine sc (fun hc=>?_) (fun hc=>?_)<;>try exact hc.elim)|(refine lx ?_;refine sp (fun hc=>?_) (fun hc=>?_)<;>try exact hc.elim)|fail
  all_goals (try (refine ⟨.inr rfl, ?_⟩; simp [Hands, Try.results60]))
theorem countP_succ {α : Type} (f : α → Bool) (l : List α) (k : Nat) (h : k < l.length) : (l.take (k + 1)).countP f = (l.take k).countP f + (if f l[k] = true then 1 else 0) := by
  rw [List.take_succ_eq_append_getElem h, List.countP_append, List.countP_singleton]
theorem specUnused_ok (l : List DGuess) (hl : l.length ≤ 1099511627776) : Ok Try.prog 64 [.sl .view 9 (l.map eGuess)] (.int .i64 (l.countP freshG)) := by
  refine ent Try.mix Try.func64 Try.ntmps64 ?_
  have W := trivial
  repeat' first|refine st ?_|(refine nx ?_;refine so ?_)|(refine cx ?_;refine sc (fun hc=>?_) (fun hc=>?_)<;>try exact hc.elim)|(refine lx ?_;refine sp (fun hc=>?_) (fun hc=>?_)<;>try exact hc.elim)|fail
  refine awp_loop' (ι := { k : Nat // k ≤ l.length }) (fun t o i => ⟨upds t [(4, .int .i64 i.1), (3, .int .i64 ((l.take i.1).countP freshG))], o⟩)
    (fun i => l.length - i.1) ⟨0, by simp⟩ (weak_o (by simp) (by simp)) ?_
  rintro ⟨k, hk⟩ K1 hK1
  simp only [upds, List.set_cons_succ, List.set_cons_zero] at hK1 ⊢
  have hk1 : IntKind.i64.wrap ((k : Int) + 1) = ((k + 1 : Nat) : Int) := by rw [wrap64] <;> omega
  by_cases hlt : k < l.length
  · have hg := List.getElem?_eq_getElem hlt
    have hs := countP_succ freshG l k hlt
    have hle := List.countP_le_length (p := freshG) (l := l.take k)
    have hlt2 : (l.take k).length ≤ l.length := by simp; omega
    have W := And.intro hk1 (And.intro hg hlt)
    repeat' first|refine st ?_|(refine nx ?_;refine so ?_)|(refine cx ?_;refine sc (fun hc=>?_) (fun hc=>?_)<;>try exact hc.elim)|(refine lx ?_;refine sp (fun hc=>?_) (fun hc=>?_)<;>try exact hc.elim)|fail
    · refine hK1 _ ⟨k + 1, by omega⟩ (weak_o (by simp) ?_) (by simp only; omega)
      simp [hs, freshG, hc]
    · refine hK1 _ ⟨k + 1, by omega⟩ (weak_o (by simp) ?_) (by simp only; omega)
      simp [hs, freshG, hc]
  · have htk : l.take k = l := List.take_of_length_le (by omega)
    rw [htk]
    have W := hk1
    repeat' first|refine st ?_|(refine nx ?_;refine so ?_)|(refine cx ?_;refine sc (fun hc=>?_) (fun hc=>?_)<;>try exact hc.elim)|(refine lx ?_;refine sp (fun hc=>?_) (fun hc=>?_)<;>try exact hc.elim)|fail
    all_goals (try (refine ⟨.inr rfl, ?_⟩; simp [Hands, Try.results64]))
theorem implUnused_ok (l : List DGuess) (hl : l.length ≤ 1099511627776) : Ok Try.prog 65 [.sl .view 9 (l.map eGuess)] (.int .i64 (l.countP freshG)) := by
  refine ent Try.mix Try.func65 Try.ntmps65 ?_
  have W := trivial
  repeat' first|refine st ?_|(refine nx ?_;refine so ?_)|(refine cx ?_;refine sc (fun hc=>?_) (fun hc=>?_)<;>try exact hc.elim)|(refine lx ?_;refine sp (fun hc=>?_) (fun hc=>?_)<;>try exact hc.elim)|fail
  refine awp_loop' (ι := { k : Nat // k ≤ l.length }) (fun t o i => ⟨upds t [(8, .int .i64 i.1), (3, .int .i64 ((l.take i.1).countP freshG)), (5, .undef)], o⟩)
    (fun i => l.length - i.1) ⟨0, by simp⟩ (weak_o (by simp) (by simp)) ?_
  rintro ⟨k, hk⟩ K1 hK1
  simp only [upds, List.set_cons_succ, List.set_cons_zero] at hK1 ⊢
  have hk1 : IntKind.i64.wrap ((k : Int) + 1) = ((k + 1 : Nat) : Int) := by rw [wrap64] <;> omega
  by_cases hlt : k < l.length
  · have hg := List.getElem?_eq_getElem hlt
    have hs := countP_succ freshG l k hlt
    have hle := List.countP_le_length (p := freshG) (l := l.take k)
    have hlt2 : (l.take k).length ≤ l.length := by simp; omega
    have W := And.intro hk1 (And.intro hg hlt)
    repeat' first|refine st ?_|(refine nx ?_;refine so ?_)|(refine cx ?_;refine sc (fun hc=>?_) (fun hc=>?_)<;>try exact hc.elim)|(refine lx ?_;refine sp (fun hc=>?_) (fun hc=>?_)<;>try exact hc.elim)|fail
    · refine hK1 _ ⟨k + 1, by omega⟩ (weak_take 0 rfl ?_ (by simp) (by simp)) (by simp only; omega)
      simp [hs, freshG, hc]
    · refine hK1 _ ⟨k + 1, by omega⟩ (weak_take 0 rfl ?_ (by simp) (by simp)) (by simp only; omega)
      simp [hs, freshG, hc]
  · have htk : l.take k = l := List.take_of_length_le (by omega)
    rw [htk]
    have W := hk1
    repeat' first|refine st ?_|(refine nx ?_;refine so ?_)|(refine cx ?_;refine sc (fun hc=>?_) (fun hc=>?_)<;>try exact hc.elim)|(refine lx ?_;refine sp (fun hc=>?_) (fun hc=>?_)<;>try exact hc.elim)|fail
    all_goals (try (refine ⟨.inr rfl, ?_⟩; simp [Hands, Try.results65]))
def notFound : DResponse := ⟨404, 1, [], 0, false, []⟩
theorem specNotFound_ok : Ok Try.prog 57 [] (.agg (eResponse notFound)) := by
  refine ent Try.mix Try.func57 Try.ntmps57 ?_
  have W := trivial
  repeat' first|refine st ?_|(refine nx ?_;refine so ?_)|(refine cx ?_;refine sc (fun hc=>?_) (fun hc=>?_)<;>try exact hc.elim)|(refine lx ?_;refine sp (fun hc=>?_) (fun hc=>?_)<;>try exact hc.elim)|fail
  all_goals (try (refine ⟨.inr rfl, ?_⟩; simp [Hands, Try.results57, notFound]))
theorem implNotFound_ok : Ok Try.prog 61 [] (.agg (eResponse notFound)) := by
  refine ent Try.mix Try.func61 Try.ntmps61 ?_
  have W := trivial
  repeat' first|refine st ?_|(refine nx ?_;refine so ?_)|(refine cx ?_;refine sc (fun hc=>?_) (fun hc=>?_)<;>try exact hc.elim)|(refine lx ?_;refine sp (fun hc=>?_) (fun hc=>?_)<;>try exact hc.elim)|fail
  all_goals (try (refine ⟨.inr rfl, ?_⟩; simp [Hands, Try.results61, notFound]))
def addGuess (l : List DGuess) (a : DAddr) (x : DResponse) : List DGuess × Bool := if 0 ≤ idxI (guessIs a) l ∨ 6 ≤ l.countP freshG then (l, false) else (l ++ [⟨a, x, false⟩], true)
end Go.Proofs.Ytfaicbojikcekaa
