/-
  Proved here: guarded operations, and laws of searching.
  No condition beyond what each statement spells out.
-/
import Derived.Test.YtbbefoefjmgnoaaAwDraw2
set_option linter.all false
set_option linter.unusedVariables false
namespace Go.Aw

/-- A guarded operation that is wanted. -/
theorem awpL_take {P : Program} {all r : List Oper} {o : Oper} {s : AS} {K : AS → Prop} {j : Nat} {want : Bool} (hg : o.guard = some (j, want)) (hb : guardA all s j = .bool want) (h : ∀ K' : AS → Prop, (∀ s', awpL P all r s' K → K' s') → aop P o s K') : awpL P all (o :: r) s K := by
  simp only [awpL, hg, hb]
  exact ⟨fun _ => h _ fun _ h => h, fun hn => absurd rfl hn⟩

/-- A guarded operation that is left out. -/
theorem awpL_skip {P : Program} {all r : List Oper} {o : Oper} {s : AS} {K : AS → Prop} {j : Nat} {want : Bool} (hg : o.guard = some (j, want)) (hb : guardA all s j = .bool (!want)) (h : awpL P all r (s.put o.dst .undef) K) : awpL P all (o :: r) s K := by
  unfold awpL
  rw [hg]
  dsimp only
  rw [hb]
  exact ⟨fun hn => (by cases want <;> cases hn), fun _ => h⟩

theorem set_same {α : Type} {l : List α} {i : Nat} {x : α} (h : l[i]? = some x) : l.set i x = l := by
  obtain ⟨hi, rfl⟩ := List.getElem?_eq_some_iff.1 h
  exact List.set_getElem_self hi

/-- The guard is not known yet. -/
theorem awpL_split {P : Program} {all r : List Oper} {o : Oper} {s : AS} {K : AS → Prop} {j d : Nat} {want b : Bool} (hg : o.guard = some (j, want)) (hd : (all[j]?).bind (·.dst) = some d) (hb : s.t[d]? = some (.bool b))
    (h1 : b = true → awpL P all (o :: r) ⟨s.t.set d (.bool true), s.o⟩ K) (h2 : b = false → awpL P all (o :: r) ⟨s.t.set d (.bool false), s.o⟩ K) : awpL P all (o :: r) s K := by
  cases b
  · have := h2 rfl
    rw [set_same hb] at this; exact this
  · have := h1 rfl
    rw [set_same hb] at this; exact this

/-- The place of the first that is so. -/
def idxI {α : Type} (f : α → Bool) (l : List α) : Int := if l.any f = true then (l.findIdx f : Nat) else -1

theorem idxI_at {α : Type} {f : α → Bool} {l : List α} {k : Nat} (h : k < l.length) (hf : f l[k] = true) (hn : ∀ x ∈ l.take k, f x = false) : idxI f l = k := by
  unfold idxI
  rw [if_pos (List.any_eq_true.2 ⟨_, List.getElem_mem h, hf⟩)]
  have : l.findIdx f = k := by
    rw [List.findIdx_eq h]
    refine ⟨hf, fun j hj => ?_⟩
    exact hn _ (List.mem_take_iff_getElem.2 ⟨j, by omega, rfl⟩)
  rw [this]

theorem idxI_none {α : Type} {f : α → Bool} {l : List α} (hn : ∀ x ∈ l, f x = false) : idxI f l = -1 := by
  unfold idxI
  rw [if_neg]
  intro h
  obtain ⟨x, hx, hf⟩ := List.any_eq_true.1 h
  rw [hn x hx] at hf; cases hf

theorem idxI_nonneg {α : Type} (f : α → Bool) (l : List α) : decide (0 ≤ idxI f l) = l.any f := by
  unfold idxI
  cases h : l.any f <;> simp

theorem take_succ_all {α : Type} {p : α → Prop} {l : List α} {k : Nat} (h : k < l.length) (ha : ∀ x ∈ l.take k, p x) (hk : p l[k]) : ∀ x ∈ l.take (k + 1), p x := by
  rw [List.take_succ_eq_append_getElem h]
  intro x hx
  rcases List.mem_append.1 hx with hx | hx
  · exact ha x hx
  · rw [List.mem_singleton.1 hx]; exact hk

theorem take_all {α : Type} {p : α → Prop} {l : List α} {k : Nat} (hk : l.length ≤ k) (ha : ∀ x ∈ l.take k, p x) : ∀ x ∈ l, p x := by
  rwa [List.take_of_length_le hk] at ha
theorem purse_le {n : Int} {k : Nat} (h : n ≤ 1048576) : sub n k ≤ 1048576 := by unfold sub; split <;> omega
theorem purse_len {n : Int} {k : Nat} (h : n ≤ 1048576) : n - (k : Int) ≤ 1048576 := by omega
theorem purse_ok {n m : Int} {k : Nat} (e : sub n k = m) (h : 0 ≤ m) : m = n - k ∧ (k : Int) ≤ n := by unfold sub at e; split at e <;> omega
theorem purse_bad {n m : Int} {k : Nat} (e : sub n k = m) (h0 : 0 ≤ n) (h : m < 0) : m = -1 ∧ n < k := by unfold sub at e; split at e <;> omega
end Go.Aw
