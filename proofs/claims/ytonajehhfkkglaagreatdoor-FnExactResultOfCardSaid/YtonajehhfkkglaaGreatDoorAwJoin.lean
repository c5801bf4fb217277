/-
  Proved here: steps towards the statement of this claim, text AwJoin.
  No condition beyond what each statement spells out.
-/
import Derived.Test.YtonajehhfkkglaaGreatDoorF3
import Derived.Lib.SlicesCompact
set_option linter.all false
namespace Go.Aw
abbrev S8 := List UInt8
theorem s8_irrefl (a : S8) : ¬ a < a := List.lt_irrefl a
theorem s8_trans {a b c : S8} (h : a < b) (k : b < c) : a < c := List.lt_trans h k
theorem s8_tri (a b : S8) : a < b ∨ a = b ∨ b < a := by
  by_cases h : a < b
  · exact .inl h
  · by_cases k : b < a
    · exact .inr (.inr k)
    · exact .inr (.inl (List.le_antisymm (List.not_lt.1 k) (List.not_lt.1 h)))
theorem s8_le {a b : S8} : a ≤ b ↔ ¬ b < a := List.not_lt.symm
theorem asc_unique : ∀ {l1 l2 : List S8}, l1.Pairwise (· < ·) → l2.Pairwise (· < ·) → (∀ x, x ∈ l1 ↔ x ∈ l2) → l1 = l2
  | [], [], _, _, _ => rfl
  | [], b :: l2, _, _, h => by have := (h b).2 (by simp); cases this
  | a :: l1, [], _, _, h => by have := (h a).1 (by simp); cases this
  | a :: l1, b :: l2, h1, h2, h => by
    have q1 := List.pairwise_cons.1 h1
    have q2 := List.pairwise_cons.1 h2
    have e : a = b := by
      have ha := (h a).1 (by simp)
      have hb := (h b).2 (by simp)
      rcases List.mem_cons.1 ha with e | ha
      · exact e
      · rcases List.mem_cons.1 hb with e | hb
        · exact e.symm
        · exact absurd (s8_trans (q1.1 b hb) (q2.1 a ha)) (s8_irrefl a)
    subst e
    congr 1
    refine asc_unique q1.2 q2.2 fun x => ?_
    constructor
    · intro hx
      rcases List.mem_cons.1 ((h x).1 (List.mem_cons_of_mem _ hx)) with e | hx2
      · subst e; exact absurd (q1.1 x hx) (s8_irrefl x)
      · exact hx2
    · intro hx
      rcases List.mem_cons.1 ((h x).2 (List.mem_cons_of_mem _ hx)) with e | hx2
      · subst e; exact absurd (q2.1 x hx) (s8_irrefl x)
      · exact hx2
def insAt (acc : List S8) (n : S8) : Nat := (acc.reverse.dropWhile fun x => decide (n < x)).length
def insName (acc : List S8) (n : S8) : List S8 :=
  if 0 < insAt acc n ∧ acc[insAt acc n - 1]? = some n then acc else acc.take (insAt acc n) ++ n :: acc.drop (insAt acc n)
theorem insAt_eq {acc : List S8} {n : S8} {k : Nat} (hk : k ≤ acc.length) (h1 : ∀ x ∈ acc.drop k, n < x) (h2 : ∀ x, 0 < k → acc[k - 1]? = some x → ¬ n < x) : insAt acc n = k := by
  unfold insAt
  have e : acc.reverse = (acc.drop k).reverse ++ (acc.take k).reverse := by rw [← List.reverse_append, List.take_append_drop]
  rw [e, List.dropWhile_append_of_pos (by intro x hx; simpa using h1 x (by simpa using hx))]
  cases k with
  | zero => simp
  | succ k =>
    have hk' : k < acc.length := by omega
    have hl : (acc.take (k + 1)).reverse = acc[k] :: (acc.take k).reverse := by rw [List.take_succ_eq_append_getElem hk']; simp
    have h3 := h2 acc[k] (by omega) (by simp [List.getElem?_eq_getElem hk'])
    rw [hl, List.dropWhile_cons_of_neg (by simpa using h3)]
    simp; omega
theorem insAt_split {acc : List S8} (n : S8) (hs : acc.Pairwise (· < ·)) : insAt acc n ≤ acc.length ∧ (∀ x ∈ acc.drop (insAt acc n), n < x) ∧ ∀ x ∈ acc.take (insAt acc n), ¬ n < x := by
  obtain ⟨k, hk, h1, h2⟩ : ∃ k, k ≤ acc.length ∧ (∀ x ∈ acc.drop k, n < x) ∧ ∀ x ∈ acc.take k, ¬ n < x := by
    induction acc with
    | nil => exact ⟨0, by simp, by simp, by simp⟩
    | cons a l ih =>
      have q := List.pairwise_cons.1 hs
      obtain ⟨k, hk, h1, h2⟩ := ih q.2
      by_cases hn : n < a
      · refine ⟨0, by simp, ?_, by simp⟩
        intro x hx
        rcases List.mem_cons.1 (by simpa using hx) with e | hx
        · subst e; exact hn
        · exact s8_trans hn (q.1 x hx)
      · refine ⟨k + 1, by simpa using hk, by simpa using h1, ?_⟩
        intro x hx
        rcases List.mem_cons.1 (by simpa using hx) with e | hx
        · subst e; exact hn
        · exact h2 x hx
  have e : insAt acc n = k := insAt_eq hk h1 fun x h0 hx => h2 x (List.mem_of_getElem? (i := k - 1) (by rw [List.getElem?_take_of_lt (by omega)]; exact hx))
  rw [e]
  exact ⟨hk, h1, h2⟩
theorem insName_asc {acc : List S8} (n : S8) (hs : acc.Pairwise (· < ·)) : (insName acc n).Pairwise (· < ·) ∧ ∀ x, x ∈ insName acc n ↔ x ∈ acc ∨ x = n := by
  obtain ⟨hk, h1, h2⟩ := insAt_split n hs
  unfold insName
  split
  · rename_i h
    exact ⟨hs, fun x => ⟨.inl, fun hx => hx.elim id fun e => by subst e; exact List.mem_of_getElem? h.2⟩⟩
  · rename_i hno
    generalize insAt acc n = k at *
    have hsplit := List.take_append_drop k acc
    have hp : (acc.take k ++ acc.drop k).Pairwise (· < ·) := by rw [hsplit]; exact hs
    have hp2 := List.pairwise_append.1 hp
    have hlt : ∀ x ∈ acc.take k, x < n := by
      intro x hx
      rcases s8_tri x n with h | h | h
      · exact h
      · subst h
        exfalso
        apply hno
        have hk0 : 0 < k := by cases k with
          | zero => simp at hx
          | succ k => omega
        refine ⟨hk0, ?_⟩
        obtain ⟨j, hj, hje⟩ := List.getElem_of_mem hx
        have hjk : j < k := by simp at hj; omega
        have hk1 : k - 1 < acc.length := by omega
        rw [List.getElem?_eq_getElem hk1]
        by_cases hj2 : j = k - 1
        · subst hj2; rw [← hje]; simp
        · have hjl : j < acc.length := by omega
          have := List.pairwise_iff_getElem.1 hs j (k - 1) hjl hk1 (by omega)
          have e2 : acc[j] = x := by rw [← hje]; simp
          rw [e2] at this
          exact absurd this (h2 _ (List.mem_of_getElem? (i := k - 1) (by rw [List.getElem?_take_of_lt (by omega), List.getElem?_eq_getElem hk1])))
      · exact absurd h (h2 x hx)
    refine ⟨List.pairwise_append.2 ⟨hp2.1, List.pairwise_cons.2 ⟨h1, hp2.2.1⟩, ?_⟩, ?_⟩
    · intro a ha b hb
      rcases List.mem_cons.1 hb with e | hb
      · subst e; exact hlt a ha
      · exact hp2.2.2 a ha b hb
    · intro x
      rw [List.mem_append, List.mem_cons]
      constructor
      · rintro (h | h | h)
        · exact .inl (List.mem_of_mem_take h)
        · exact .inr h
        · exact .inl (List.mem_of_mem_drop h)
      · rintro (h | h)
        · rw [← hsplit, List.mem_append] at h
          rcases h with h | h
          · exact .inl h
          · exact .inr (.inr h)
        · exact .inr (.inl h)
theorem insAll_asc : ∀ (ns acc : List S8), acc.Pairwise (· < ·) → (ns.foldl insName acc).Pairwise (· < ·) ∧ ∀ x, x ∈ ns.foldl insName acc ↔ x ∈ acc ∨ x ∈ ns
  | [], acc, h => ⟨h, by simp⟩
  | n :: ns, acc, h => by
    obtain ⟨h1, h2⟩ := insName_asc n h
    obtain ⟨h3, h4⟩ := insAll_asc ns (insName acc n) h1
    refine ⟨h3, fun x => ?_⟩
    rw [List.foldl_cons, h4, h2, List.mem_cons]
    constructor
    · rintro ((h | h) | h)
      · exact .inl h
      · exact .inr (.inl h)
      · exact .inr (.inr h)
    · rintro (h | h | h)
      · exact .inl (.inl h)
      · exact .inl (.inr h)
      · exact .inr h
theorem compact_aux {zs : List S8} (hs : zs.Pairwise (· ≤ ·)) : ∀ m, m ≤ zs.length → (Lib.compactUpTo zs.toArray m).Pairwise (· < ·) ∧ (∀ x, x ∈ Lib.compactUpTo zs.toArray m ↔ x ∈ zs.take m) ∧ ∀ x ∈ Lib.compactUpTo zs.toArray m, ∀ y, 0 < m → zs[m - 1]? = some y → x ≤ y
  | 0, _ => by simp [Lib.compactUpTo]
  | m + 1, hm => by
    obtain ⟨h1, h2, h3⟩ := compact_aux hs m (by omega)
    have hlt : m < zs.length := by omega
    have hd : zs.toArray[m]! = zs[m] := by simp [hlt]
    rw [Lib.compactUpTo_succ, hd]
    have htk : ∀ x, x ∈ zs.take (m + 1) ↔ x ∈ zs.take m ∨ x = zs[m] := fun x => by rw [List.take_succ_eq_append_getElem hlt, List.mem_append, List.mem_singleton]
    cases hk : Lib.keeps zs.toArray m
    · have hm0 : 0 < m := by
        cases m with
        | zero => simp [Lib.keeps] at hk
        | succ m => omega
      have hm1 : m - 1 < zs.length := by omega
      have heq : zs[m] = zs[m - 1] := by
        have hne : m ≠ 0 := by omega
        simp [Lib.keeps, hne, hlt, hm1] at hk
        exact hk
      have hin : zs[m] ∈ zs.take m := by
        rw [heq]
        exact List.mem_of_getElem? (i := m - 1) (by rw [List.getElem?_take_of_lt (by omega), List.getElem?_eq_getElem hm1])
      simp only [Bool.false_eq_true, if_false, List.append_nil, Nat.add_sub_cancel]
      refine ⟨h1, fun x => ?_, fun x hx y _ hy => ?_⟩
      · rw [h2, htk]
        constructor
        · exact .inl
        · rintro (h | h)
          · exact h
          · subst h; exact hin
      · rw [List.getElem?_eq_getElem hlt] at hy
        obtain rfl := Option.some.inj hy
        rw [heq]
        exact h3 x hx _ hm0 (List.getElem?_eq_getElem hm1)
    · simp only [if_true, Nat.add_sub_cancel]
      have hall : ∀ x ∈ Lib.compactUpTo zs.toArray m, x < zs[m] := by
        intro x hx
        cases m with
        | zero => simp [Lib.compactUpTo] at hx
        | succ m =>
          have hm1 : m < zs.length := by omega
          have hne : zs[m + 1] ≠ zs[m] := by
            simp [Lib.keeps, hlt, hm1] at hk
            exact hk
          have hle := h3 x hx zs[m] (by omega) (by simp [List.getElem?_eq_getElem hm1])
          have hle2 := List.pairwise_iff_getElem.1 hs m (m + 1) hm1 hlt (by omega)
          rcases s8_tri x zs[m + 1] with h | h | h
          · exact h
          · subst h
            exact absurd (List.le_antisymm hle hle2) hne
          · exact absurd h (s8_le.1 (List.le_trans hle hle2))
      refine ⟨List.pairwise_append.2 ⟨h1, by simp, fun x hx y hy => by simp at hy; subst hy; exact hall x hx⟩, fun x => ?_, fun x hx y _ hy => ?_⟩
      · rw [List.mem_append, h2, htk]; simp
      · rw [List.getElem?_eq_getElem hlt] at hy
        obtain rfl := Option.some.inj hy
        rcases List.mem_append.1 hx with h | h
        · exact s8_le.2 fun hlt' => s8_irrefl _ (s8_trans (hall x h) hlt')
        · simp at h; subst h; exact List.le_refl _
theorem compact_asc {zs : List S8} (hs : zs.Pairwise (· ≤ ·)) : (Lib.compact zs).Pairwise (· < ·) ∧ ∀ x, x ∈ Lib.compact zs ↔ x ∈ zs := by
  obtain ⟨h1, h2, _⟩ := compact_aux hs zs.length (Nat.le_refl _)
  exact ⟨h1, fun x => by rw [Lib.compact, h2, List.take_length]⟩
theorem join_names (ns : List S8) : Lib.compact (ns.mergeSort fun x y => decide (x ≤ y)) = ns.foldl insName [] := by
  have hs : (ns.mergeSort fun x y => decide (x ≤ y)).Pairwise (· ≤ ·) := by
    have := List.pairwise_mergeSort (le := fun x y : S8 => decide (x ≤ y)) (fun a b c h1 h2 => by simp only [decide_eq_true_eq] at *; exact List.le_trans h1 h2) (fun a b => by simp only [Bool.or_eq_true, decide_eq_true_eq]; exact List.le_total a b) ns
    exact this.imp fun h => by simpa using h
  obtain ⟨h1, h2⟩ := compact_asc hs
  obtain ⟨h3, h4⟩ := insAll_asc ns [] List.Pairwise.nil
  refine asc_unique h1 h3 fun x => ?_
  rw [h2, h4, List.mem_mergeSort]
  simp
end Go.Aw
