/-
  Proved here: laws of rows that are filled with marks.
  No condition beyond what each statement spells out.
-/
import Derived.Test.YtbbefoefjmgnoaaAwTypes
import Derived.Test.YtbbefoefjmgnoaaAwNest2
set_option linter.all false
set_option linter.unusedVariables false
namespace Go.Aw
/-- The first j are new. -/
def mixL {α : Type} (l l' : List α) (j : Nat) : List α := l'.take j ++ l.drop j
theorem mixL_set {α : Type} (l l' : List α) (j : Nat) (h : j < l.length) (h' : j < l'.length) : (mixL l l' j).set j l'[j] = mixL l l' (j + 1) := by
  unfold mixL
  rw [List.take_succ_eq_append_getElem h', List.drop_eq_getElem_cons h, List.set_append_right _ _ (by simp; omega)]
  have : j - (l'.take j).length = 0 := by simp; omega
  rw [this, List.set_cons_zero, List.append_assoc]; rfl
theorem mixL_get {α : Type} (l l' : List α) (j : Nat) (h : j < l.length) (h' : j < l'.length) : (mixL l l' j)[j]? = some l[j] := by
  unfold mixL
  rw [List.getElem?_append_right (by simp; omega)]
  have : j - (l'.take j).length = 0 := by simp; omega
  rw [this]; simp [h]
theorem mixL_length {α : Type} (l l' : List α) (j : Nat) (h : l'.length = l.length) : (mixL l l' j).length = l.length := by unfold mixL; simp; omega
theorem mixL_all {α : Type} (l l' : List α) (j : Nat) (h : l'.length = l.length) (hj : l.length ≤ j) : mixL l l' j = l' := by
  unfold mixL; rw [List.take_of_length_le (by omega), List.drop_of_length_le hj, List.append_nil]
theorem mixL_zero {α : Type} (l l' : List α) : mixL l l' 0 = l := by simp [mixL]
/-- A row with marks from k on. -/
def mkL {α : Type} (f : Int → α → α) (c : α → Nat) : Int → List α → List α
  | _, [] => []
  | k, x :: xs => f k x :: mkL f c (k + c x) xs
theorem mkL_length {α : Type} (f : Int → α → α) (c : α → Nat) : ∀ (l : List α) (k : Int), (mkL f c k l).length = l.length
  | [], _ => rfl
  | x :: xs, k => by simp [mkL, mkL_length f c xs]
theorem mkL_get {α : Type} (f : Int → α → α) (c : α → Nat) : ∀ (l : List α) (k : Int) (j : Nat) (h : j < l.length), (mkL f c k l)[j]'(by rw [mkL_length]; exact h) = f (k + (sumN c (l.take j) : Nat)) l[j]
  | [], _, _, h => by simp at h
  | x :: xs, k, 0, _ => by simp [mkL, sumN]
  | x :: xs, k, j + 1, h => by
    simp only [mkL, List.getElem_cons_succ, List.take_succ_cons, sumN]
    rw [mkL_get f c xs (k + c x) j (by simpa using h)]
    congr 1; omega
theorem mix_all {α : Type} {p : α → Bool} {l l' : List α} {j : Nat} (h : l.all p = true) (h' : l'.all p = true) : (mixL l l' j).all p = true := by
  unfold mixL
  rw [List.all_append, all_take j h', all_drop j h]; rfl
theorem set_all {α : Type} {p : α → Bool} {l : List α} {k : Nat} {r : α} (h : l.all p = true) (hr : p r = true) : (l.set k r).all p = true := by
  rw [List.all_eq_true] at h ⊢
  intro x hx
  rcases List.mem_or_eq_of_mem_set hx with hx | rfl
  · exact h x hx
  · exact hr
def cToken (x : DToken) : Nat := 3 + sumN (fun _ => 2) x.attrs
def cNode (x : DNode) : Nat := 3 + sumN (fun _ => 2) x.attrs
def digit (k : Int) : UInt8 := UInt8.ofNat (IntKind.u8.wrap (IntKind.i64.wrap (48 + k.tmod 10))).toNat
/-- The digits of a number ahead of a text. -/
def digits : Nat → Int → Str → Str
  | 0, _, out => out
  | f + 1, k, out => if k ≤ 0 then out else digits f (k.tdiv 10) (digit k :: out)
def markT (k : Int) : Str := if k ≤ 0 then [109, 48] else 109 :: digits 20 k []
theorem digits_end (f : Nat) (k : Int) (out : Str) (h : k ≤ 0) : digits f k out = out := by
  cases f <;> simp [digits, h]
def markB (k : Int) : Bool := k.tmod 3 == 0
end Go.Aw
