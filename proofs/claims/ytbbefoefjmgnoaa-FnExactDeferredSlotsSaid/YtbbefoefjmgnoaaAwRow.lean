/-
  Proved here: a statement that a law returns true, from the contract of its function.
  No condition beyond what each statement spells out.
-/
import Derived.Test.YtbbefoefjmgnoaaAwData
import Derived.ProofKit
set_option linter.all false
set_option linter.unusedVariables false
namespace Go.Aw
open Go.ChangeShapes Go.WideShapes Go.ChangeAt Go.RowKit

/-- The shape of a cell: what an argument of a law may lead to. -/
inductive Sh
  | int (k : IntKind)
  | bool
  | str
  | sl (n : Nat) (row : List Sh)

mutual
def Fits : Sh → AV → Prop
  | .int k, .int k' n => k' = k ∧ (Lit.int k n).wf = true
  | .bool, .bool _ => True
  | .str, .str s => s.length ≤ maxLen
  | .sl n row, .sl g n' rows => g = .view ∧ n' = n ∧ rows.length ≤ maxLen ∧ ∀ r ∈ rows, FitsC row r
  | _, _ => False
def FitsC : List Sh → List AV → Prop
  | [], [] => True
  | s :: ss, x :: xs => Fits s x ∧ FitsC ss xs
  | _, _ => False
end

theorem FitsC_length : ∀ {ss : List Sh} {xs : List AV}, FitsC ss xs → xs.length = ss.length
  | [], [], _ => rfl
  | s :: ss, x :: xs, h => by simp only [FitsC] at h; simp [FitsC_length h.2]
  | [], _ :: _, h => h.elim
  | _ :: _, [], h => h.elim

theorem FitsC_append : ∀ {ss tt : List Sh} {xs ys : List AV}, FitsC ss xs → FitsC tt ys → FitsC (ss ++ tt) (xs ++ ys)
  | [], _, [], _, _, h => h
  | s :: ss, _, x :: xs, _, h, h' => by simp only [FitsC, List.cons_append] at h ⊢; exact ⟨h.1, FitsC_append h.2 h'⟩
  | [], _, _ :: _, _, h, _ => h.elim
  | _ :: _, _, [], _, h, _ => h.elim

def shF (sh : TypeId → Option (List Sh)) (P : Program) : List Field → Nat → Option (List Sh)
  | [], _ => some []
  | x :: xs, o => if x.offset = o then match sh x.type with
      | some a => if a.length = P.cellsOf x.type then match shF sh P xs (o + a.length) with
          | some b => some (a ++ b)
          | none => none
        else none
      | none => none
    else none

def shC (P : Program) : Nat → TypeId → Option (List Sh)
  | 0, _ => none
  | f + 1, t => match P.underlying t with
    | some .bool => some [.bool]
    | some (.int k) => some [.int k]
    | some .string => some [.str]
    | some (.slice e) => match shC P f e with
      | some row => if row.length = P.cellsOf e ∧ 0 < row.length then some [.sl row.length row] else none
      | none => none
    | some (.struct fs) => match shF (shC P f) P fs.toList 0 with
      | some r => if r.length = P.cellsOf t then some r else none
      | none => none
    | _ => none

theorem exists_rows {α : Type} {p : Nat → α → Prop} : ∀ (n : Nat), (∀ i, i < n → ∃ x, p i x) → ∃ l : List α, l.length = n ∧ ∀ i x, l[i]? = some x → p i x
  | 0, _ => ⟨[], rfl, fun i x h => by simp at h⟩
  | n + 1, h => by
    obtain ⟨l, hl, hp⟩ := exists_rows n (fun i hi => h i (by omega))
    obtain ⟨x, hx⟩ := h n (by omega)
    refine ⟨l ++ [x], by simp [hl], fun i y hy => ?_⟩
    by_cases hi : i < l.length
    · rw [List.getElem?_append_left hi] at hy; exact hp i y hy
    · rw [List.getElem?_append_right (by omega)] at hy
      have : i - l.length = 0 := by
        cases hk : i - l.length with
        | zero => rfl
        | succ k => rw [hk] at hy; simp at hy
      rw [this] at hy
      simp at hy
      subst hy
      have : i = n := by omega
      subst this; exact hx

theorem Rr_of {w : World} {E : Env} {b n : Nat} : ∀ (rows : List (List AV)) (off : Nat),
    (∀ j r, rows[j]? = some r → ∃ cs : List Value, cs.length = n ∧ CellsAt w b (off + j * n) cs ∧ (∀ x ∈ cs, x.oneCell' = true) ∧ Rc w E r cs []) → Rr w E rows b off n []
  | [], _, _ => by simp [Rr]
  | r :: rs, off, h => by
    obtain ⟨cs, h1, h2, h3, h4⟩ := h 0 r rfl
    refine ⟨cs, [], [], h1, by simpa using h2, h3, h4, Rr_of rs (off + n) fun j r hj => ?_, rfl⟩
    obtain ⟨cs, h1, h2, h3, h4⟩ := h (j + 1) r (by simpa using hj)
    exact ⟨cs, h1, by rw [Nat.add_mul, Nat.one_mul, show off + (j * n + n) = off + n + j * n by omega] at h2; exact h2, h3, h4⟩

section
variable {H : Type} {enc : TypeId × Value → H} {P : Program} {w : World} {spare : Nat → Bool} {held : Bool}

/-- What is claimed of a type's reading. -/
def Reads (enc : TypeId × Value → H) (P : Program) (w : World) (spare : Nat → Bool) (held : Bool) (t : TypeId) (ss : List Sh) : Prop :=
  ∀ fuel cs x, DataW.trod enc P w 0 spare held fuel t cs = some x → ∃ avs, FitsC ss avs ∧ Rc w (envAll w) avs cs [] ∧ ∀ c ∈ cs, c.oneCell' = true

theorem reads_fields {sh : TypeId → Option (List Sh)} (ih : ∀ t ss, sh t = some ss → Reads enc P w spare held t ss) {n : Nat} {cs : List Value} :
    ∀ (fs : List Field) (o : Nat) (rs : List Sh), shF sh P fs o = some rs → (∀ f ∈ fs, ∃ y, DataW.trod enc P w 0 spare held n f.type ((cs.drop f.offset).take (P.cellsOf f.type)) = some y) →
      ∃ avs, FitsC rs avs ∧ Rc w (envAll w) avs ((cs.drop o).take rs.length) [] ∧ ∀ c ∈ (cs.drop o).take rs.length, c.oneCell' = true
  | [], o, rs, h, _ => by
    simp only [shF, Option.some.injEq] at h
    subst h
    exact ⟨[], by simp [FitsC], by simp [Rc], by simp⟩
  | f :: fs, o, rs, h, hf => by
    simp only [shF] at h
    split at h
    · rename_i ho
      split at h
      · rename_i a ha
        split at h
        · rename_i hl
          split at h
          · rename_i b hb
            obtain rfl := Option.some.inj h
            obtain ⟨y, hy⟩ := hf f (by simp)
            obtain ⟨x1, h1, h2, h3⟩ := ih _ _ ha _ _ _ hy
            obtain ⟨x2, h4, h5, h6⟩ := reads_fields ih fs _ _ hb fun f hf' => hf f (by simp [hf'])
            rw [ho, ← hl] at h2 h3
            have e : (cs.drop o).take (a ++ b).length = (cs.drop o).take a.length ++ (cs.drop (o + a.length)).take b.length := by
              rw [List.length_append, List.take_add, List.drop_drop]
            refine ⟨x1 ++ x2, FitsC_append h1 h4, by rw [e]; exact Rc_append h2 h5, fun c hc => ?_⟩
            rw [e, List.mem_append] at hc
            exact hc.elim (h3 c) (h6 c)
          · cases h
        · cases h
      · cases h
    · cases h

theorem reads : ∀ (f : Nat) (t : TypeId) (ss : List Sh), shC P f t = some ss → Reads enc P w spare held t ss
  | 0, _, _, h => by simp [shC] at h
  | f + 1, t, ss, h => by
    intro fuel cs x hx
    unfold shC at h
    split at h
    · rename_i ht
      obtain rfl := Option.some.inj h
      obtain ⟨b, rfl, _⟩ := DataW.trod_bool ht hx
      exact ⟨[.bool b], by simp [FitsC, Fits], by simp [Rc, R], by simp [Value.oneCell']⟩
    · rename_i k ht
      obtain rfl := Option.some.inj h
      obtain ⟨n, rfl, _, hw⟩ := DataW.trod_int ht hx
      exact ⟨[.int k n], by simp [FitsC, Fits, hw], by simp [Rc, R], by simp [Value.oneCell']⟩
    · rename_i ht
      obtain rfl := Option.some.inj h
      obtain ⟨s, rfl, _, hw⟩ := DataW.trod_string ht hx
      exact ⟨[.str s.data.toList], by simpa [FitsC, Fits] using hw, by simp [Rc, R], by simp [Value.oneCell']⟩
    · rename_i e ht
      split at h
      · rename_i row hrow
        split at h
        · rename_i hc
          obtain rfl := Option.some.inj h
          have ih := reads f e row hrow
          rcases DataW.trod_slice ht hx with ⟨rfl, _⟩ | ⟨a, len, cap, elems, rest, n, _, rfl, _, _, hlc, hcm, hlen, hel, _, _⟩
          · exact ⟨[.sl .view row.length []], by simp [FitsC, Fits], by simp [Rc, R, maxLen], by simp [Value.oneCell']⟩
          · rw [← hc.1] at hel
            have hrows : ∀ i, i < len → ∃ r : List AV, FitsC row r ∧ ∃ cs, w.cells? 0 (a.add (i * row.length)) row.length = some cs ∧ (∀ x ∈ cs, x.oneCell' = true) ∧ Rc w (envAll w) r cs [] := by
              intro i hi
              have h1 := hel i hi
              rw [List.getElem?_eq_getElem (by omega)] at h1
              obtain ⟨cs, hcs, htr⟩ := Option.bind_eq_some_iff.1 h1
              obtain ⟨r, h2, h3, h4⟩ := ih _ _ _ htr
              exact ⟨r, h2, cs, hcs, h4, h3⟩
            obtain ⟨rows, hrl, hrp⟩ := exists_rows len hrows
            refine ⟨[.sl .view row.length rows], ?_, ?_, by simp [Value.oneCell']⟩
            · simp only [FitsC, Fits, and_true, true_and]
              refine ⟨by omega, fun r hr => ?_⟩
              obtain ⟨i, hi⟩ := List.getElem?_of_mem hr
              exact (hrp i r hi).1
            · simp only [Rc]
              refine ⟨[], [], ?_, rfl, rfl⟩
              simp only [R]
              refine .inr ⟨some a, cap, by rw [hrl], ⟨by omega, by omega⟩, .inr (.inr ⟨by simp, trivial, ?_⟩)⟩
              by_cases hl0 : len = 0
              · exact .inl (List.length_eq_zero_iff.1 (by omega))
              right
              have h0 : rows[0]? = some rows[0] := List.getElem?_eq_getElem (by omega)
              obtain ⟨_, cs0, hcs0, _⟩ := hrp 0 _ h0
              have hcell := (World.cells?_some hcs0).2.2 0 hc.2
              have hlen0 := (World.cells?_some hcs0).2.1
              have hspot : a.spot = none := by
                have : w.cell? a = cs0[0]? := by simpa [Addr.add] using hcell
                rw [List.getElem?_eq_getElem (by omega)] at this
                unfold World.cell? at this
                split at this
                · split at this
                  · cases this
                  · rename_i hs; simpa using hs
                · cases this
              have hblk : a.block < w.heap.size := by
                have := World.cells?_block hcs0 hc.2
                unfold Addr.add at this
                split at this <;> exact this
              obtain ⟨ab, ao, asp⟩ := a
              simp only at hspot hblk
              subst hspot
              refine ⟨ab, ao, rfl, hblk, Rr_of rows ao fun j r hj => ?_⟩
              obtain ⟨_, cs, hcs, h1, hR⟩ := hrp j r hj
              have hs := World.cells?_some hcs
              refine ⟨cs, hs.2.1, fun k v hv => ?_, h1, ?_⟩
              · have hk : k < row.length := by
                  have := (List.getElem?_eq_some_iff.1 hv).1
                  omega
                have := hs.2.2 k hk
                rw [hv] at this
                rw [← this]
                congr 1
                unfold Addr.add
                split <;> split <;> simp_all <;> omega
              · exact Rc_keeps (w := w) (w' := w) (E := envAll w) ⟨fun b hb => ⟨hb, rfl⟩, fun _ h => trivial, fun _ _ _ h => by exact h.elim, fun _ _ _ h => by exact h.elim, fun _ _ _ _ _ h => by exact h.elim⟩ _ _ _ (by simp) hR
        · cases h
      · cases h
    · rename_i fs ht
      split at h
      · rename_i r hr
        split at h
        · rename_i hc
          obtain rfl := Option.some.inj h
          obtain ⟨xs, n, _, _, hcl, hxl, hfs⟩ := DataW.trod_struct ht hx
          obtain ⟨avs, h1, h2, h3⟩ := reads_fields (enc := enc) (w := w) (spare := spare) (held := held) (n := n) (cs := cs) (reads f) fs.toList 0 _ hr fun fl hfl => by
            obtain ⟨i, hi⟩ := List.getElem?_of_mem hfl
            have := hfs i fl (by simpa using hi)
            have hlt := (List.getElem?_eq_some_iff.1 hi).1
            simp at hlt
            rw [List.getElem?_eq_getElem (by omega)] at this
            exact ⟨_, this⟩
          rw [List.drop_zero, List.take_of_length_le (by omega)] at h2 h3
          exact ⟨avs, h1, h2, h3⟩
        · cases h
      · cases h
    · cases h

/-- The shape of an argument. -/
inductive ShV
  | one (s : Sh)
  | agg (row : List Sh)

def FitsV : ShV → AV → Prop
  | .one s, x => Fits s x
  | .agg row, .agg c => FitsC row c
  | _, _ => False
def FitsVs : List ShV → List AV → Prop
  | [], [] => True
  | s :: ss, x :: xs => FitsV s x ∧ FitsVs ss xs
  | _, _ => False

def shV (P : Program) (f : Nat) (t : TypeId) : Option ShV := match P.underlying t with
  | some (.struct _) => (shC P f t).map .agg
  | some .bool | some (.int _) | some .string | some (.slice _) => match shC P f t with
    | some [s] => some (.one s)
    | _ => none
  | _ => none
def shVs (P : Program) (f : Nat) : List TypeId → Option (List ShV)
  | [] => some []
  | t :: ts => match shV P f t, shVs P f ts with
    | some s, some ss => some (s :: ss)
    | _, _ => none

theorem cells_one {v : Value} (h : ∀ cs, v ≠ .agg cs) : v.cells = #[v] := by
  cases v <;> first | rfl | exact absurd rfl (h _)

theorem readsV {base : Nat} {f : Nat} {t : TypeId} {s : ShV} (h : shV P f t = some s) {v : Value} {d : DataW H} {ps : List MemPlace} (hok : Value.okWide P w .any base t v)
    (hT : DataW.Trod enc P w 0 spare held t v d ps) : ∃ av, FitsV s av ∧ R w (envAll w) av v [] := by
  obtain ⟨fuel, hT⟩ := hT
  unfold shV at h
  have one : (∀ cs, v ≠ .agg cs) → (match shC P f t with | some [s] => some (ShV.one s) | _ => none) = some s → ∃ av, FitsV s av ∧ R w (envAll w) av v [] := by
    intro hv h
    split at h
    · rename_i s1 hs
      obtain rfl := Option.some.inj h
      obtain ⟨avs, h1, h2, _⟩ := reads f t _ hs _ _ _ hT
      rw [cells_one hv] at h2
      cases avs with
      | nil => exact h1.elim
      | cons x xs =>
        cases xs with
        | nil =>
          simp only [Rc] at h2
          obtain ⟨f1, f2, hr, rfl, e⟩ := h2
          simp only [List.append_nil] at e
          subst e
          simp only [FitsC] at h1
          exact ⟨x, h1.1, hr⟩
        | cons y ys => simp [FitsC] at h1
    · cases h
  split at h
  · rename_i fs ht
    obtain ⟨ss, hs, rfl⟩ := Option.map_eq_some_iff.1 h
    obtain ⟨cs, rfl, _⟩ := okWide_struct ht hok
    obtain ⟨avs, h1, h2, h3⟩ := reads f t _ hs _ _ _ hT
    exact ⟨.agg avs, h1, by simp only [R]; exact ⟨cs.toList, by simp, h3, h2⟩⟩
  · rename_i ht; exact one (fun cs e => by subst e; simp [Value.okWide, ht, Cell.okWide, Cell.ok] at hok) h
  · rename_i ht; exact one (fun cs e => by subst e; simp [Value.okWide, ht, Cell.okWide, Cell.ok] at hok) h
  · rename_i ht; exact one (fun cs e => by subst e; simp [Value.okWide, ht, Cell.okWide, Cell.ok] at hok) h
  · rename_i ht; exact one (fun cs e => by subst e; simp [Value.okWide, ht, Cell.okWide, Cell.ok] at hok) h
  · cases h

theorem readsVs {base : Nat} {f : Nat} : ∀ {ts : List TypeId} {ss : List ShV}, shVs P f ts = some ss → ∀ {vs : List Value} {ds : List (DataW H)} {ps : List MemPlace},
    (∀ (j : Nat) t v, ts[j]? = some t → vs[j]? = some v → Value.okWide P w .any base t v) → DataW.TrodAll enc P w 0 spare held ts vs ds ps → ∃ avs, FitsVs ss avs ∧ Rc w (envAll w) avs vs []
  | [], ss, h, [], _, _, _, _ => by
    simp only [shVs, Option.some.injEq] at h
    subst h
    exact ⟨[], trivial, by simp [Rc]⟩
  | t :: ts, ss, h, v :: vs, d :: ds, ps, hok, hT => by
    simp only [shVs] at h
    split at h
    · rename_i s ss' h1 h2
      obtain rfl := Option.some.inj h
      obtain ⟨p, q, ht, hr, _⟩ := hT
      obtain ⟨x, hx, hR⟩ := readsV h1 (hok 0 t v rfl rfl) ht
      obtain ⟨xs, hxs, hRs⟩ := readsVs h2 (fun j t v h1 h2 => hok (j + 1) t v (by simpa using h1) (by simpa using h2)) hr
      exact ⟨x :: xs, ⟨hx, hxs⟩, by simp only [Rc]; exact ⟨[], [], hR, hRs, rfl⟩⟩
    · cases h
  | [], _, _, _ :: _, _, _, _, hT => by simp [DataW.TrodAll] at hT
  | _ :: _, _, _, [], _, _, _, hT => by simp [DataW.TrodAll] at hT
  | _ :: _, _, _, _ :: _, [], _, _, hT => by simp [DataW.TrodAll] at hT

theorem trodAll_below (hl : laidOutB P = true) {W W' : World} (hb : Below W.heap.size W W') : ∀ {ts : List TypeId} {vs : List Value} {ds : List (DataW H)} {ps : List MemPlace},
    (∀ t ∈ ts, P.readableRec t = true ∧ t < P.types.size) → DataW.TrodAll enc P W 0 (fun _ => true) true ts vs ds ps → (∀ x ∈ ps, x.block < W.heap.size) → ∀ sp : Nat → Bool, (∀ p ∈ ps, sp p.block = true) →
      DataW.TrodAll enc P W' 0 sp true ts vs ds ps
  | [], [], [], _, _, h, _, _, _ => h
  | t :: ts, v :: vs, d :: ds, ps, hr, h, hlt, sp, hsp => by
    obtain ⟨p, q, h1, h2, rfl⟩ := h
    refine ⟨p, q, ?_, ?_, rfl⟩
    · exact WideElems.Trod_stays hl (hr t (by simp)).1 (hr t (by simp)).2 h1 (fun x hx => hb.same (hlt x (by simp [hx]))) (fun x hx => hsp x (by simp [hx]))
    · exact trodAll_below hl hb (fun t ht => hr t (by simp [ht])) h2 (fun x hx => hlt x (by simp [hx])) sp (fun x hx => hsp x (by simp [hx]))
  | [], _ :: _, _, _, _, h, _, _, _ => h.elim
  | [], [], _ :: _, _, _, h, _, _, _ => h.elim
  | _ :: _, [], _, _, _, h, _, _, _ => h.elim
  | _ :: _, _ :: _, [], _, _, h, _, _, _ => h.elim
end

theorem fits_map {α : Type} {row : List Sh} {e : α → List AV} {p : α → Prop} (h : ∀ r, FitsC row r → ∃ x, r = e x ∧ p x) : ∀ rows : List (List AV), (∀ r ∈ rows, FitsC row r) → ∃ l : List α, rows = l.map e ∧ ∀ x ∈ l, p x
  | [], _ => ⟨[], rfl, by simp⟩
  | r :: rs, hr => by
    obtain ⟨x, rfl, hx⟩ := h r (hr r (by simp))
    obtain ⟨l, rfl, hl⟩ := fits_map h rs (fun r h => hr r (by simp [h]))
    exact ⟨x :: l, rfl, by simpa using ⟨hx, hl⟩⟩
theorem fits_nil {r : List AV} (h : FitsC [] r) : r = [] := by
  cases r with
  | nil => rfl
  | cons _ _ => exact h.elim
theorem fits_str {ss : List Sh} {r : List AV} (h : FitsC (.str :: ss) r) : ∃ s r', r = .str s :: r' ∧ s.length ≤ 9223372036854775807 ∧ FitsC ss r' := by
  match r, h with
  | [], h => exact h.elim
  | .str s :: r', h => exact ⟨s, r', rfl, h.1, h.2⟩
theorem fits_int {k : IntKind} {ss : List Sh} {r : List AV} (h : FitsC (.int k :: ss) r) : ∃ n r', r = .int k n :: r' ∧ (k.min ≤ n ∧ n ≤ k.max) ∧ FitsC ss r' := by
  match r, h with
  | [], h => exact h.elim
  | .int k' n :: r', h =>
    obtain ⟨⟨rfl, hw⟩, h2⟩ := h
    exact ⟨n, r', rfl, by simpa [Lit.wf] using hw, h2⟩
theorem fits_bool {ss : List Sh} {r : List AV} (h : FitsC (.bool :: ss) r) : ∃ b r', r = .bool b :: r' ∧ FitsC ss r' := by
  match r, h with
  | [], h => exact h.elim
  | .bool b :: r', h => exact ⟨b, r', rfl, h.2⟩
theorem fits_sl {n : Nat} {row ss : List Sh} {r : List AV} (h : FitsC (.sl n row :: ss) r) : ∃ rows r', r = .sl .view n rows :: r' ∧ rows.length ≤ 9223372036854775807 ∧ (∀ x ∈ rows, FitsC row x) ∧ FitsC ss r' := by
  match r, h with
  | [], h => exact h.elim
  | .sl g n' rows :: r', h =>
    obtain ⟨⟨rfl, rfl, h1, h2⟩, h3⟩ := h
    exact ⟨rows, r', rfl, h1, h2, h3⟩
theorem fitsV_nil {r : List AV} (h : FitsVs [] r) : r = [] := by
  cases r with
  | nil => rfl
  | cons _ _ => exact h.elim
theorem fitsV_one {s : Sh} {ss : List ShV} {r : List AV} (h : FitsVs (.one s :: ss) r) : ∃ x r', r = x :: r' ∧ FitsC [s] [x] ∧ FitsVs ss r' := by
  match r, h with
  | [], h => exact h.elim
  | x :: r', h => exact ⟨x, r', rfl, ⟨h.1, trivial⟩, h.2⟩
theorem fitsV_agg {row : List Sh} {ss : List ShV} {r : List AV} (h : FitsVs (.agg row :: ss) r) : ∃ c r', r = .agg c :: r' ∧ FitsC row c ∧ FitsVs ss r' := by
  match r, h with
  | [], h => exact h.elim
  | x :: r', h =>
    cases x with
    | agg c => exact ⟨c, r', rfl, h.1, h.2⟩
    | _ => exact h.1.elim

/-- A law's row, by the contract of its function: whatever fits the shapes of the parameters, it returns true. -/
theorem row_true {C : Checked} {f : FuncId} {fn : Func} {s : ChangeSpec} {apart fresh handsOn again : Bool} {H : Type} {enc : TypeId × Value → H} {ss : List ShV} {fuel : Nat} {tb : TypeId}
    (hl : laidOutB C.prog = true) (hread : ∀ t ∈ fn.params.toList, C.prog.readableRec t = true ∧ t < C.prog.types.size)
    (hsh : shVs C.prog fuel fn.params.toList = some ss) (hres : fn.resultTypes = #[tb]) (hb : C.prog.underlying tb = some .bool) (hvars : s.vars = [])
    (hfn : ∀ ds : List (DataW H), ds.length = fn.params.toList.length → s.fn H ds = { results := [.lit (.bool true)], args := ds })
    (hok : ∀ avs, FitsVs ss avs → Ok C.prog f avs (.bool true))
    {W : World} {base : Nat} {args : Array Value} {ds gs : List (DataW H)} {before : List MemPlace}
    (hval : ∀ (j : Nat) t v, fn.params[j]? = some t → args[j]? = some v → Value.okWide C.prog W .any base t v)
    (hW : DataW.Whole enc C.prog fn.params.toList s.vars apart W args.toList ds gs before) :
    Calls C.prog f args W fun e W' => ∃ v, e = .returned v ∧ s.post enc C.prog fn apart fresh handsOn again W args v W' := by
  obtain ⟨p, q, hA, hV, hpq, hz, hn⟩ := id hW
  rw [hvars] at hV
  obtain ⟨rfl, rfl⟩ : gs = [] ∧ q = [] := by
    cases gs with
    | nil => exact ⟨rfl, hV⟩
    | cons _ _ => exact hV.elim
  rw [List.append_nil] at hpq
  subst hpq
  have hlen : ds.length = fn.params.toList.length := by
    have : ∀ (ts : List TypeId) (vs : List Value) (ds : List (DataW H)) ps, DataW.TrodAll enc C.prog W 0 (fun _ => true) true ts vs ds ps → ds.length = ts.length := by
      intro ts
      induction ts with
      | nil => intro vs ds ps h; cases vs <;> cases ds <;> simp_all [DataW.TrodAll]
      | cons t ts ih => intro vs ds ps h; cases vs <;> cases ds <;> simp_all [DataW.TrodAll]; obtain ⟨_, _, _, h, _⟩ := h; exact ih _ _ _ h
    exact this _ _ _ _ hA
  have hspec := hfn ds hlen
  obtain ⟨avs, hfits, hR⟩ := readsVs hsh (fun j t v h1 h2 => hval j t v (by simpa using h1) (by simpa using h2)) hA
  have hc := hok avs hfits W args.toList hR
  rw [show args.toList.toArray = args from rfl] at hc
  refine hc.mono fun e W' ⟨v, fp, he, hr, _, _, hsz, hsame, hio⟩ => ⟨v, he, ?_⟩
  simp only [R] at hr
  obtain ⟨rfl, _⟩ := hr
  have hbl : Below W.heap.size W W' := ⟨hio.os, hio.tape, hio.output, hsz, hsame⟩
  have hlt : ∀ x ∈ before, x.block < W.heap.size := fun x hx => hW.lt x hx
  have hsp : s.fn H (ds ++ []) = { results := [.lit (.bool true)], args := ds } := by rw [List.append_nil]; exact hspec
  have hargs : ∀ sp : Nat → Bool, (∀ p ∈ before, sp p.block = true) → DataW.TrodAll enc C.prog W' 0 sp true fn.params.toList args.toList (s.fn H (ds ++ [])).args before := by
    intro sp h; rw [hsp]; exact trodAll_below hl hbl hread hA hlt sp h
  have hone : (Value.bool true).resultList fn.resultTypes.size = [.bool true] := by rw [hres]; rfl
  have hresT : ∀ (b : Nat) (sp : Nat → Bool) (hd : Bool), DataW.TrodAll enc C.prog W' b sp hd fn.resultTypes.toList ((Value.bool true).resultList fn.resultTypes.size) (s.fn H (ds ++ [])).results [] := by
    intro b sp hd
    rw [hsp, hone, hres]
    exact ⟨[], [], shut_bool hb true, rfl, rfl⟩
  have hvarsT : ∀ sp : Nat → Bool, DataW.TrodVars enc C.prog W' sp s.vars (s.fn H (ds ++ [])).vars [] := by
    intro sp; rw [hsp, hvars]; rfl
  have hold : ∀ p ∈ before, (fun b => decide (b < W.heap.size)) p.block = true := fun p hp => by simpa using hlt p hp
  refine ⟨ds, [], before, [], before, [], hW, hresT _ _ _, hargs _ hold, hvarsT _, World.keptBut_mono (fun p hp => hp.elim) (hbl.frame (fun _ => False)), fun _ => ?_⟩
  refine ⟨ok_one hres rfl (okWide_bool_mk hb true), _, _, ([] ++ before) ++ [], ⟨[] ++ before, [], trodAll_append (hargs _ (fun _ _ => rfl)) (hresT _ _ _), hvarsT _, rfl, ?_, ?_⟩, ?_⟩
  · intro b off hp
    have hp' : MemPlace.cell b off ∈ before := by simpa using hp
    rw [hbl.frozen (p := ⟨b, off, none⟩) (hlt _ hp')]
    exact hz b off hp'
  · intro ha
    simpa using hn ha
  · intro p hp _
    simpa using hp
end Go.Aw
