/-
  Proved here: plain data of the statements and laws of sizes.
  No condition beyond what each statement spells out.
-/
import Derived.Test.YtbbefoefjmgnoaaAwFun
set_option linter.all false
set_option linter.unusedVariables false
namespace Go.Aw
abbrev Str := List UInt8
def sumN {α : Type} (f : α → Nat) : List α → Nat
  | [] => 0
  | x :: xs => f x + sumN f xs
def szL {α : Type} (f : α → Nat) (l : List α) : Nat := l.length + sumN f l
/-- What is left of a purse. -/
def sub (n : Int) (k : Nat) : Int := if n < k then -1 else n - k
theorem sub_step {n : Int} {j : Nat} (h : ¬ n < j) (k : Nat) : sub (n - j) k = sub n (j + k) := by unfold sub; split <;> split <;> omega
theorem sub_neg {n : Int} {k : Nat} (h : n < k) : sub n k = -1 := by simp [sub, h]
theorem sub_pos {n : Int} {k : Nat} (h : ¬ n < k) : sub n k = n - k := by simp [sub, h]
theorem sumN_take_succ {α : Type} (f : α → Nat) : ∀ (l : List α) (k : Nat) (h : k < l.length), sumN f (l.take (k + 1)) = sumN f (l.take k) + f l[k]
  | x :: xs, 0, _ => by simp [sumN]
  | x :: xs, k + 1, h => by
    simp only [List.take_succ_cons, sumN, List.getElem_cons_succ]
    rw [sumN_take_succ f xs k (by simpa using h)]; omega
theorem sumN_take_le {α : Type} (f : α → Nat) : ∀ (l : List α) (k : Nat), sumN f (l.take k) ≤ sumN f l
  | [], k => by simp
  | x :: xs, 0 => by simp [sumN]
  | x :: xs, k + 1 => by simp only [List.take_succ_cons, sumN]; have := sumN_take_le f xs k; omega
theorem sub_add_neg {n : Int} {j k : Nat} (h : sub n j < 0) : sub n (j + k) = -1 := by
  unfold sub at *; split at h <;> split <;> omega
theorem sub_add {n : Int} {j k : Nat} (h : 0 ≤ sub n j) : sub (sub n j) k = sub n (j + k) := by
  unfold sub at *
  split at h
  · omega
  · rename_i h1
    rw [if_neg h1]
    split <;> split <;> omega
theorem sub_range {n : Int} {k : Nat} (h1 : n ≤ 1048576) (h : 0 ≤ sub n k) : sub n k ≤ 1048576 ∧ sub n k = n - k ∧ (k : Int) ≤ n := by
  unfold sub at *
  split at h
  · omega
  · rename_i h2
    rw [if_neg h2]; omega
theorem sub_neg1 {n : Int} {k : Nat} (h : sub n k < 0) : sub n k = -1 := by
  unfold sub at *; split at h <;> split <;> omega

/-- A row that is being filled. -/
def fillL (z : List AV) (xs : List (List AV)) (k : Nat) : List (List AV) := xs.take k ++ List.replicate (xs.length - k) z
@[simp] theorem fillL_length (z : List AV) (xs : List (List AV)) (k : Nat) : (fillL z xs k).length = xs.length := by simp [fillL]; omega
theorem fillL_zero (z : List AV) (xs : List (List AV)) : List.replicate xs.length z = fillL z xs 0 := by simp [fillL]
theorem fillL_all (z : List AV) (xs : List (List AV)) (k : Nat) (h : xs.length ≤ k) : fillL z xs k = xs := by
  have : xs.length - k = 0 := by omega
  simp [fillL, this, List.take_of_length_le h]
theorem fillL_get (z : List AV) (xs : List (List AV)) (k : Nat) (h : k < xs.length) : (fillL z xs k)[k]? = some z := by
  have h1 : (xs.take k).length = k := by simp; omega
  rw [fillL, List.getElem?_append_right (by omega), h1, Nat.sub_self]
  have : 0 < xs.length - k := by omega
  simp [this]
theorem fillL_set (z : List AV) (xs : List (List AV)) (k : Nat) (h : k < xs.length) : (fillL z xs k).set k xs[k] = fillL z xs (k + 1) := by
  have h1 : (xs.take k).length = k := by simp; omega
  have h2 : xs.length - k = (xs.length - (k + 1)) + 1 := by omega
  have h3 : xs.take (k + 1) = xs.take k ++ [xs[k]] := by rw [List.take_succ_eq_append_getElem h]
  unfold fillL
  rw [h2, List.replicate_succ, List.set_append_right _ _ (by omega), h1, Nat.sub_self, List.set_cons_zero, h3, List.append_assoc]
  rfl
@[simp] theorem cleanr_map {α : Type} (f : α → List AV) (h : ∀ x, cleanc (f x) = true) : ∀ l : List α, cleanr (l.map f) = true
  | [] => rfl
  | x :: xs => by simp only [List.map_cons, cleanr, h x, Bool.true_and]; exact cleanr_map f h xs
theorem rtr_map {α : Type} {f g : α → List AV} {t : Tg → Option Tg} {b : Bool} (h : ∀ x, rtc t b (f x) = g x) : ∀ l : List α, rtr t b (l.map f) = l.map g
  | [] => rfl
  | x :: xs => by simp only [List.map_cons, rtr, h x, rtr_map h xs]
theorem sumN_get_le {α : Type} (f : α → Nat) (l : List α) (k : Nat) (h : k < l.length) : f l[k] ≤ sumN f l := by
  have h1 := sumN_take_succ f l k h
  have h2 := sumN_take_le f l (k + 1)
  omega
theorem sumN_mem_le {α : Type} (f : α → Nat) {l : List α} {x : α} (h : x ∈ l) : f x ≤ sumN f l := by
  obtain ⟨k, hk, rfl⟩ := List.getElem_of_mem h
  exact sumN_get_le f l k hk
end Go.Aw
