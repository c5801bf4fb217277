/-
  Proved here: laws of the memory that an activation owns.
  No condition beyond what each statement spells out.
-/
import Derived.Test.YtbbefoefjmgnoaaAwState
import Derived.Laws.IdiomCopy
import Derived.Laws.AppendOwn
set_option linter.all false
namespace Go.Aw

theorem Rc_split {w : World} {E : Env} : ∀ {c : List AV} {cs : List Value} {fp : List Nat} (k : Nat), Rc w E c cs fp →
    ∃ f1 f2, fp = f1 ++ f2 ∧ Rc w E (c.take k) (cs.take k) f1 ∧ Rc w E (c.drop k) (cs.drop k) f2
  | c, cs, fp, 0, h => ⟨[], fp, rfl, by simp [Rc], by simpa using h⟩
  | [], [], fp, k + 1, h => ⟨fp, [], by simp, by simpa using h, by simp [Rc]⟩
  | [], _ :: _, _, _, h => by simp [Rc] at h
  | _ :: _, [], _, _, h => by simp [Rc] at h
  | x :: xs, c :: cs, fp, k + 1, h => by
    simp only [Rc] at h
    obtain ⟨g1, g2, h1, h2, rfl⟩ := h
    obtain ⟨f1, f2, rfl, h3, h4⟩ := Rc_split k h2
    exact ⟨g1 ++ f1, f2, by simp, by simp only [List.take_succ_cons, Rc]; exact ⟨g1, f1, h1, h3, rfl⟩, by simpa using h4⟩

theorem Rr_append {w : World} {E : Env} {l2 : List (List AV)} {b n : Nat} : ∀ {l1 : List (List AV)} {off : Nat} {fp : List Nat},
    Rr w E (l1 ++ l2) b off n fp ↔ ∃ f1 f2, fp = f1 ++ f2 ∧ Rr w E l1 b off n f1 ∧ Rr w E l2 b (off + l1.length * n) n f2
  | [], off, fp => by
    simp only [List.nil_append, Rr, List.length_nil, Nat.zero_mul, Nat.add_zero]
    constructor
    · intro h; exact ⟨[], fp, by simp, rfl, h⟩
    · rintro ⟨f1, f2, rfl, rfl, h⟩; simpa using h
  | e :: es, off, fp => by
    simp only [List.cons_append, Rr, Rr_append (l1 := es), List.length_cons]
    have e1 : ∀ m, off + (m + 1) * n = off + n + m * n := fun m => by rw [Nat.add_mul]; omega
    constructor
    · rintro ⟨cs, f1, f2, hn, hc, h1, hr, ⟨g1, g2, rfl, h3, h4⟩, rfl⟩
      exact ⟨f1 ++ g1, g2, by simp, ⟨cs, f1, g1, hn, hc, h1, hr, h3, rfl⟩, by rw [e1]; exact h4⟩
    · rintro ⟨f1, f2, rfl, ⟨cs, g1, g2, hn, hc, h1, hr, h3, rfl⟩, h4⟩
      exact ⟨cs, g1, g2 ++ f2, hn, hc, h1, hr, ⟨g2, f2, rfl, h3, by rw [e1] at h4; exact h4⟩, by simp⟩

theorem Rr_get {w : World} {E : Env} {l : List (List AV)} {b off n : Nat} {fp : List Nat} {i : Nat} {e : List AV} (h : Rr w E l b off n fp) (hi : l[i]? = some e) :
    ∃ f1 f2 f3 cs, fp = f1 ++ f2 ++ f3 ∧ cs.length = n ∧ CellsAt w b (off + i * n) cs ∧ (∀ x ∈ cs, x.oneCell' = true) ∧ Rc w E e cs f2 ∧
      Rr w E (l.take i) b off n f1 ∧ Rr w E (l.drop (i + 1)) b (off + (i + 1) * n) n f3 := by
  obtain ⟨hlt, rfl⟩ := List.getElem?_eq_some_iff.1 hi
  have hl : l = l.take i ++ l[i] :: l.drop (i + 1) := by simp
  rw [hl] at h
  obtain ⟨f1, f4, rfl, h1, h2⟩ := Rr_append.1 h
  have hti : (l.take i).length = i := by simp; omega
  rw [hti] at h2
  simp only [Rr] at h2
  obtain ⟨cs, f2, f3, hn, hc, ho, hr, h3, rfl⟩ := h2
  refine ⟨f1, f2, f3, cs, by simp, hn, hc, ho, hr, h1, ?_⟩
  rw [Nat.add_mul, Nat.one_mul, ← Nat.add_assoc]; exact h3

theorem Rr_mk {w : World} {E : Env} {l : List (List AV)} {b off n : Nat} {i : Nat} {e : List AV} {f1 f2 f3 : List Nat} {cs : List Value} (hi : i < l.length) (hn : cs.length = n)
    (hc : CellsAt w b (off + i * n) cs) (ho : ∀ x ∈ cs, x.oneCell' = true) (hr : Rc w E e cs f2) (h1 : Rr w E (l.take i) b off n f1) (h3 : Rr w E (l.drop (i + 1)) b (off + (i + 1) * n) n f3) :
    Rr w E (l.set i e) b off n (f1 ++ f2 ++ f3) := by
  have hl : l.set i e = l.take i ++ e :: l.drop (i + 1) := by rw [List.set_eq_take_append_cons_drop]; simp [hi]
  rw [hl]
  refine Rr_append.2 ⟨f1, f2 ++ f3, by simp, h1, ?_⟩
  have hti : (l.take i).length = i := by simp; omega
  rw [hti]
  simp only [Rr]
  refine ⟨cs, f2, f3, hn, hc, ho, hr, ?_, rfl⟩
  rw [Nat.add_mul, Nat.one_mul, ← Nat.add_assoc] at h3; exact h3

/-- Rows that a write in one block leaves alone. -/
theorem Rr_out {w w' : World} {E E' : Env} (k : Keeps w E w' E') {b lo hi : Nat} (hout : ∀ j, j < lo ∨ hi ≤ j → w'.cell? ⟨b, j, none⟩ = w.cell? ⟨b, j, none⟩) : ∀ {l : List (List AV)} {off n : Nat} {fp : List Nat},
    (∀ x ∈ fp, w'.heap[x]? = w.heap[x]?) → (off + l.length * n ≤ lo ∨ hi ≤ off) → Rr w E l b off n fp → Rr w' E' l b off n fp
  | [], _, _, _, _, _, h => by simpa [Rr] using h
  | e :: es, off, n, fp, hf, hr, h => by
    simp only [Rr] at h ⊢
    obtain ⟨cs, f1, f2, hn, hc, ho, h1, h2, rfl⟩ := h
    have hl : (es.length + 1) * n = n + es.length * n := by rw [Nat.add_mul]; omega
    simp only [List.length_cons, hl] at hr
    refine ⟨cs, f1, f2, hn, ?_, ho, Rc_keeps k _ _ _ (fun x hx => hf x (by simp [hx])) h1, Rr_out k hout (fun x hx => hf x (by simp [hx])) (by omega) h2, rfl⟩
    intro j v hv
    rw [hout]
    · exact hc j v hv
    · have : j < cs.length := (List.getElem?_eq_some_iff.1 hv).1
      omega

theorem CellsAt.drop {w : World} {b off k : Nat} {cs : List Value} (h : CellsAt w b off cs) : CellsAt w b (off + k) (cs.drop k) := by
  intro j v hv
  rw [List.getElem?_drop] at hv
  have := h _ _ hv
  rwa [← Nat.add_assoc] at this

theorem CellsAt.take {w : World} {b off k : Nat} {cs : List Value} (h : CellsAt w b off cs) : CellsAt w b off (cs.take k) := by
  intro j v hv
  rw [List.getElem?_take] at hv
  split at hv
  · exact h _ _ hv
  · cases hv

theorem addr_add (b o n : Nat) : (⟨b, o, none⟩ : Addr).add n = ⟨b, o + n, none⟩ := Addr.add_lit b o n

theorem CellsAt.run {P : Program} {w : World} {b off : Nat} {cs : List Value} (h : CellsAt w b off cs) : (loadCells ⟨b, off, none⟩ cs.length).run P w = .ok cs.toArray w :=
  run_loadCells_list w _ cs (fun j v hv => by rw [addr_add]; exact h j v hv)

/-- The number of cells of a struct or an array. -/
def aggSize (P : Program) (t : TypeId) : Option Nat :=
  match P.underlying t with
  | some (.struct _) => (P.info? t).map (·.size)
  | some (.array _ _) => (P.info? t).map (·.size)
  | _ => none

/-- A type of one cell. -/
def oneSize (P : Program) (t : TypeId) : Bool :=
  match P.underlying t with
  | some (.struct _) => false
  | some (.array _ _) => false
  | some _ => (P.info? t).map (·.size) == some 1
  | none => false

theorem run_load_agg {P : Program} {w : World} {t : TypeId} {b off : Nat} {cs : List Value} (ht : aggSize P t = some cs.length) (h : CellsAt w b off cs) :
    (loadVar t ⟨b, off, none⟩).run P w = .ok (.agg cs.toArray) w := by
  unfold aggSize at ht
  have hr := h.run (P := P)
  split at ht
  · rename_i d hd
    cases hi : P.info? t with
    | none => simp [hi] at ht
    | some i =>
      simp [hi] at ht
      simp [loadVar, isAgg, run_underlying hd, sizeOf, typeInfo, hi, ht, hr]
  · rename_i d hd
    cases hi : P.info? t with
    | none => simp [hi] at ht
    | some i =>
      simp [hi] at ht
      simp [loadVar, isAgg, run_underlying hd, sizeOf, typeInfo, hi, ht, hr]
  · cases ht

theorem run_load_one {P : Program} {w : World} {t : TypeId} {b off : Nat} {v : Value} (ht : oneSize P t = true) (h : CellsAt w b off [v]) :
    (loadVar t ⟨b, off, none⟩).run P w = .ok v w := by
  unfold oneSize at ht
  have h0 := h 0 v rfl
  split at ht
  · cases ht
  · cases ht
  · rename_i d hd h1 h2
    simp only [loadVar, isAgg, Sem.run_bind, run_underlying h2, Result.andThen_ok]
    cases d <;> simp_all
  · cases ht

theorem size_of_agg {P : Program} {t : TypeId} {n : Nat} (h : aggSize P t = some n) : (P.info? t).map (·.size) = some n := by
  unfold aggSize at h
  split at h <;> first | exact h | cases h

theorem size_of_one {P : Program} {t : TypeId} (h : oneSize P t = true) : (P.info? t).map (·.size) = some 1 := by
  unfold oneSize at h
  split at h
  · cases h
  · cases h
  · simpa using h
  · cases h

theorem heap_setCells (b b' : Nat) (hb : b' ≠ b) : ∀ (vs : List Value) (o : Nat) (w : World), (w.setCells b o vs).heap[b']? = w.heap[b']?
  | [], _, _ => rfl
  | v :: r, o, w => by
    rw [World.setCells, heap_setCells b b' hb r]
    simp [World.setCell, Array.getElem?_modify, Ne.symm hb]

theorem size_setCells (b : Nat) : ∀ (vs : List Value) (o : Nat) (w : World), (w.setCells b o vs).heap.size = w.heap.size
  | [], _, _ => rfl
  | v :: r, o, w => by rw [World.setCells, size_setCells b r]; simp
theorem same_setCells (b : Nat) : ∀ (vs : List Value) (o : Nat) (w : World), Same w (w.setCells b o vs)
  | [], _, _ => Same.rfl
  | v :: r, o, w => by rw [World.setCells]; exact Same.trans (b := w.setCell ⟨b, o, none⟩ v) ⟨rfl, rfl, rfl⟩ (same_setCells b r (o + 1) _)

theorem block_setCells (b : Nat) (e : TypeId) (fz : Nat × Nat) : ∀ (vs : List Value) (o : Nat) (w : World) (C : Array Value), w.heap[b]? = some (.cells C e fz) →
    ∃ C', (w.setCells b o vs).heap[b]? = some (.cells C' e fz) ∧ C'.size = C.size
  | [], _, w, C, h => ⟨C, h, rfl⟩
  | v :: r, o, w, C, h => by
    rw [World.setCells]
    have : (w.setCell ⟨b, o, none⟩ v).heap[b]? = some (.cells (C.setIfInBounds o v) e fz) := by
      simp [World.setCell, Array.getElem?_modify, h]
    obtain ⟨C', h1, h2⟩ := block_setCells b e fz r (o + 1) _ _ this
    exact ⟨C', h1, by simpa using h2⟩

theorem run_store_cells {P : Program} {w : World} {b off : Nat} {C : Array Value} {e : TypeId} {fz : Nat × Nat} {vs : List Value} (hb : w.heap[b]? = some (.cells C e fz)) (hz : C.size ≤ fz.1 ∨ fz.2 = 0)
    (hfit : off + vs.length ≤ C.size) (h1 : ∀ v ∈ vs, v.oneCell' = true) : (storeCells ⟨b, off, none⟩ vs).run P w = .ok () (w.setCells b off vs) := by
  have := run_storeCells_cells (P := P) b off vs 0 w (fun j hj => by
    have : off + j < C.size := by omega
    simp [World.cell?, hb, this]) (fun j hj => by
    simp only [World.frozen?, hb]
    rcases hz with hz | hz
    · have : ¬ fz.1 ≤ off + j := by omega
      simp [this]
    · simp [hz]) h1
  simpa using this
end Go.Aw
