/-
  Proved here: steps towards the statement of this claim, text R2.
  No condition beyond what each statement spells out.
-/
import Derived.Test.YtfaicbojikcekaaR1
set_option linter.all false
set_option linter.unusedSimpArgs false
set_option linter.unusedVariables false
set_option maxRecDepth 4000
set_option maxHeartbeats 400000
namespace Go.Proofs.Ytfaicbojikcekaa
open Go.Aw
theorem specAddGuess_ok (l : List DGuess) (a : DAddr) (x : DResponse) (hl : l.length ≤ 1099511627776) : Ok Try.prog 21 [.sl .view 9 (l.map eGuess), .agg (eAddr a), .agg (eResponse x)] (.tup [.sl .own 9 ((addGuess l a x).1.map eGuess), .bool (addGuess l a x).2]) := by
  refine ent Try.mix Try.func21 Try.ntmps21 ?_
  have W := trivial
  have c0 := specFindGuess_ok l a hl
  have c1 := specUnused_ok l hl
  repeat' first|refine st ?_|(refine nx ?_;refine so ?_)|(refine cx ?_;refine sc (fun hc=>?_) (fun hc=>?_)<;>try exact hc.elim)|(refine lx ?_;refine sp (fun hc=>?_) (fun hc=>?_)<;>try exact hc.elim)|fail
  all_goals (try (refine ⟨.inr rfl, ?_⟩; simp [Hands, Try.results21, addGuess]))
  all_goals first|(rw [if_pos (by omega)]; (try simp); done)|(rw [if_neg (by omega)]; (try simp); done)|(simp_all; done)|(simp_all; omega)|(split <;> simp_all <;> omega)

theorem implCopyGuesses_ok (l : List DGuess) (hl : l.length ≤ 1099511627776) : Ok Try.prog 59 [.sl .view 9 (l.map eGuess)] (.sl .own 9 (l.map eGuess)) := by
  refine ent Try.mix Try.func59 Try.ntmps59 ?_
  have W := trivial
  repeat' first|refine st ?_|(refine nx ?_;refine so ?_)|(refine cx ?_;refine sc (fun hc=>?_) (fun hc=>?_)<;>try exact hc.elim)|(refine lx ?_;refine sp (fun hc=>?_) (fun hc=>?_)<;>try exact hc.elim)|fail
  all_goals (try (refine ⟨.inr rfl, ?_⟩; simp [Hands, Try.results59]))
theorem implAddGuess_ok (l : List DGuess) (a : DAddr) (x : DResponse) (hl : l.length ≤ 1099511627776) : Ok Try.prog 23 [.sl .view 9 (l.map eGuess), .agg (eAddr a), .agg (eResponse x)] (.tup [.sl .own 9 ((addGuess l a x).1.map eGuess), .bool (addGuess l a x).2]) := by
  refine ent Try.mix Try.func23 Try.ntmps23 ?_
  have W := trivial
  have c0 := implCopyGuesses_ok l hl
  have c1 := implFindGuess_ok l a hl
  have c2 := implUnused_ok l hl
  repeat' first|refine st ?_|(refine nx ?_;refine so ?_)|(refine cx ?_;refine sc (fun hc=>?_) (fun hc=>?_)<;>try exact hc.elim)|(refine lx ?_;refine sp (fun hc=>?_) (fun hc=>?_)<;>try exact hc.elim)|fail
  all_goals (try (refine ⟨.inr rfl, ?_⟩; simp [Hands, Try.results23, addGuess]))
  all_goals first|(rw [if_pos (by omega)]; (try simp); done)|(rw [if_neg (by omega)]; (try simp); done)|(simp_all; done)|(simp_all; omega)|(split <;> simp_all <;> omega)
def useG (g : DGuess) : DGuess := { g with used := true }
def useGuess (l : List DGuess) (a : DAddr) : List DGuess × DResponse × Bool :=
  if h : l.findIdx (guessIs a) < l.length then (l.set (l.findIdx (guessIs a)) (useG l[l.findIdx (guessIs a)]), l[l.findIdx (guessIs a)].response, true) else (l, notFound, false)
theorem idxI_lt {α : Type} (f : α → Bool) (l : List α) (h : l.findIdx f < l.length) : idxI f l = (l.findIdx f : Nat) := by
  unfold idxI
  rw [if_pos]
  exact List.any_eq_true.2 ⟨_, List.getElem_mem h, List.findIdx_getElem (w := h)⟩
theorem idxI_ge {α : Type} (f : α → Bool) (l : List α) (h : ¬ l.findIdx f < l.length) : idxI f l = -1 := by
  refine idxI_none fun x hx => ?_
  have he : l.findIdx f = l.length := by have := List.findIdx_le_length (p := f) (xs := l); omega
  have := List.findIdx_eq_length.1 he x hx
  simpa using this
theorem useG_set (l : List DGuess) (k : Nat) (h : k < l.length) : (l.map eGuess).set k [AV.str l[k].to.host, AV.str l[k].to.path, AV.int .i64 l[k].response.status, AV.int .i64 l[k].response.kind, AV.str l[k].response.body, AV.int .i64 l[k].response.age, AV.bool l[k].response.shares, AV.str l[k].response.policy, AV.bool true] = (l.map eGuess).set k (eGuess (useG l[k])) ∧ cleanr ((l.map eGuess).set k (eGuess (useG l[k]))) = true := by
  refine ⟨rfl, ?_⟩
  rw [← List.map_set]
  exact clean_eGuess _
theorem specUseGuess_ok (l : List DGuess) (a : DAddr) (hl : l.length ≤ 1099511627776) : Ok Try.prog 12 [.sl .view 9 (l.map eGuess), .agg (eAddr a)] (.tup [.sl .own 9 ((useGuess l a).1.map eGuess), .agg (eResponse (useGuess l a).2.1), .bool (useGuess l a).2.2]) := by
  have hF := specFindGuess_ok l a hl
  by_cases h : l.findIdx (guessIs a) < l.length
  · rw [idxI_lt _ _ h] at hF
    simp only [useGuess, dif_pos h]
    generalize hk : l.findIdx (guessIs a) = k at *
    have hg := List.getElem?_eq_getElem h
    refine ent Try.mix Try.func12 Try.ntmps12 ?_
    have W := hg
    have V := h
    have c0 := hF
    have c1 := specNotFound_ok
    repeat' first|refine st ?_|(refine nx ?_;refine so ?_)|(refine cx ?_;refine sc (fun hc=>?_) (fun hc=>?_)<;>try exact hc.elim)|(refine lx ?_;refine sp (fun hc=>?_) (fun hc=>?_)<;>try exact hc.elim)|fail
    all_goals (try (refine ⟨.inr rfl, ?_⟩; simp [Hands, Try.results12]))
    exact useG_set l k h
  · rw [idxI_ge _ _ h] at hF
    simp only [useGuess, dif_neg h]
    refine ent Try.mix Try.func12 Try.ntmps12 ?_
    have W := trivial
    have c0 := hF
    have c1 := specNotFound_ok
    repeat' first|refine st ?_|(refine nx ?_;refine so ?_)|(refine cx ?_;refine sc (fun hc=>?_) (fun hc=>?_)<;>try exact hc.elim)|(refine lx ?_;refine sp (fun hc=>?_) (fun hc=>?_)<;>try exact hc.elim)|fail
    all_goals (try (refine ⟨.inr rfl, ?_⟩; simp [Hands, Try.results12]))

theorem implUseGuess_ok (l : List DGuess) (a : DAddr) (hl : l.length ≤ 1099511627776) : Ok Try.prog 15 [.sl .view 9 (l.map eGuess), .agg (eAddr a)] (.tup [.sl .own 9 ((useGuess l a).1.map eGuess), .agg (eResponse (useGuess l a).2.1), .bool (useGuess l a).2.2]) := by
  have hF := implFindGuess_ok l a hl
  by_cases h : l.findIdx (guessIs a) < l.length
  · rw [idxI_lt _ _ h] at hF
    simp only [useGuess, dif_pos h]
    generalize hk : l.findIdx (guessIs a) = k at *
    have hg := List.getElem?_eq_getElem h
    refine ent Try.mix Try.func15 Try.ntmps15 ?_
    have W := hg
    have V := h
    have c0 := implCopyGuesses_ok l hl
    have c1 := hF
    have c2 := implNotFound_ok
    repeat' first|refine st ?_|(refine nx ?_;refine so ?_)|(refine cx ?_;refine sc (fun hc=>?_) (fun hc=>?_)<;>try exact hc.elim)|(refine lx ?_;refine sp (fun hc=>?_) (fun hc=>?_)<;>try exact hc.elim)|fail
    all_goals (try (refine ⟨.inr rfl, ?_⟩; simp [Hands, Try.results15]))
    exact useG_set l k h
  · rw [idxI_ge _ _ h] at hF
    simp only [useGuess, dif_neg h]
    refine ent Try.mix Try.func15 Try.ntmps15 ?_
    have W := trivial
    have c0 := implCopyGuesses_ok l hl
    have c1 := hF
    have c2 := implNotFound_ok
    repeat' first|refine st ?_|(refine nx ?_;refine so ?_)|(refine cx ?_;refine sc (fun hc=>?_) (fun hc=>?_)<;>try exact hc.elim)|(refine lx ?_;refine sp (fun hc=>?_) (fun hc=>?_)<;>try exact hc.elim)|fail
    all_goals (try (refine ⟨.inr rfl, ?_⟩; simp [Hands, Try.results15]))

theorem sumN_set_le {α : Type} (f : α → Nat) (x : α) : ∀ (l : List α) (k : Nat), sumN f (l.set k x) ≤ sumN f l + f x
  | [], _ => by simp [sumN]
  | y :: ys, 0 => by simp only [List.set_cons_zero, sumN]; omega
  | y :: ys, k + 1 => by have := sumN_set_le f x ys k; simp only [List.set_cons_succ, sumN]; omega
theorem sumN_append {α : Type} (f : α → Nat) : ∀ (l m : List α), sumN f (l ++ m) = sumN f l + sumN f m
  | [], m => by simp [sumN]
  | y :: ys, m => by simp only [List.cons_append, sumN, sumN_append f ys m]; omega
theorem useGuess_sz (l : List DGuess) (a : DAddr) : (useGuess l a).1.length = l.length ∧ sumN szGuess (useGuess l a).1 ≤ 2 * sumN szGuess l ∧ szResponse (useGuess l a).2.1 ≤ sumN szGuess l := by
  unfold useGuess
  split
  · rename_i h
    have h1 := sumN_set_le szGuess (useG l[l.findIdx (guessIs a)]) l (l.findIdx (guessIs a))
    have h2 := sumN_get_le szGuess l (l.findIdx (guessIs a)) h
    have h3 : szGuess (useG l[l.findIdx (guessIs a)]) = szGuess l[l.findIdx (guessIs a)] := rfl
    have h4 : szResponse l[l.findIdx (guessIs a)].response ≤ szGuess l[l.findIdx (guessIs a)] := by unfold szGuess; omega
    refine ⟨by simp, ?_, ?_⟩
    · simp only; omega
    · simp only; omega
  · refine ⟨rfl, ?_, ?_⟩
    · simp only; omega
    · simp [notFound, szResponse]
theorem addGuess_sz (l : List DGuess) (a : DAddr) (x : DResponse) : (addGuess l a x).1.length ≤ l.length + 1 ∧ sumN szGuess (addGuess l a x).1 ≤ sumN szGuess l + szAddr a + szResponse x := by
  unfold addGuess
  split
  · exact ⟨by simp only; omega, by simp only; omega⟩
  · refine ⟨by simp, ?_⟩
    simp only [sumN_append, sumN, szGuess]
    omega

end Go.Proofs.Ytfaicbojikcekaa
