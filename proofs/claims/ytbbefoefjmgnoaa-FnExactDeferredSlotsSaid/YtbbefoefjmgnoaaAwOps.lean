/-
  Proved here: abstract values of the language's operations.
  No condition beyond what each statement spells out.
-/
import Derived.Test.YtbbefoefjmgnoaaAwMod
import Derived.Laws.MakeOwn
set_option linter.all false
namespace Go.Aw

def zeroA (P : Program) (t : TypeId) : Option (List AV) :=
  match (P.info? t).bind (·.zero) with
  | some v => if v.cells.toList.all (·.oneCell') then some (v.cells.toList.map ofV) else none
  | none => none

def elemA (P : Program) (t : TypeId) : Option (TypeId × Nat × Nat) :=
  match P.underlying t with
  | some (.slice e) => (P.info? e).map fun i => (e, i.size, i.bytes)
  | _ => none

def fieldA (P : Program) (t : TypeId) (f : Nat) : Option Nat :=
  match P.underlying t with
  | some (.struct fs) => match fs[f]? with
    | some fd => match P.info? fd.type with
      | some i => if i.size = 0 then none else some fd.offset
      | none => none
    | none => none
  | _ => none

/-- Cells of a value. -/
def AV.cells : AV → List AV
  | .agg c => c
  | x => [x]

def AV.known : AV → Bool
  | .undef => false
  | .tup _ => false
  | .sl (.dep _) _ _ => false
  | .vptr (.dep _) _ _ => false
  | .obj _ _ => false
  | .ptr _ _ _ _ => false
  | _ => true

def AV.isObj (o : List AObj) (i ver : Nat) : Option AObj :=
  match o[i]? with
  | some ob => if ob.live = true ∧ ob.ver = ver then some ob else none
  | none => none

/-- Its value is one cell, or the cells of an aggregate. -/
def AV.fit (o : List AObj) : AV → Bool
  | .undef => false
  | .tup _ => false
  | .sl (.dep i) _ _ => match o[i]? with
    | some ob => ob.live
    | none => false
  | .vptr (.dep i) _ _ => match o[i]? with
    | some ob => ob.live
    | none => false
  | .obj i ver => (AV.isObj o i ver).isSome
  | .ptr i ver _ _ => (AV.isObj o i ver).isSome
  | _ => true

theorem R_cells {B : Base} {o : List AObj} {G : List CO} {w : World} {x : AV} {v : Value} {fp : List Nat} (hf : x.fit o = true) (h : R w (env B o G w) x v fp) :
    Rc w (env B o G w) x.cells v.cells.toList fp ∧ (∀ c ∈ v.cells.toList, c.oneCell' = true) ∧ (∀ c, x = .agg c → ∃ cs, v = .agg cs) ∧ ((∀ c, x ≠ .agg c) → v.cells = #[v] ∧ v.oneCell' = true) := by
  have one : ∀ {x : AV} {v : Value} {fp : List Nat}, R w (env B o G w) x v fp → x.cells = [x] → v.cells = #[v] → v.oneCell' = true → (∀ c, x ≠ .agg c) →
      Rc w (env B o G w) x.cells v.cells.toList fp ∧ (∀ c ∈ v.cells.toList, c.oneCell' = true) ∧ (∀ c, x = .agg c → ∃ cs, v = .agg cs) ∧ ((∀ c, x ≠ .agg c) → v.cells = #[v] ∧ v.oneCell' = true) := by
    intro x v fp h h1 h2 h3 h4
    rw [h1, h2]
    refine ⟨by simp only [Rc]; exact ⟨fp, [], h, rfl, by simp⟩, by simpa using h3, fun c hc => absurd hc (h4 c), fun _ => ⟨rfl, h3⟩⟩
  cases x with
  | int k n => have h' := h; simp only [R] at h'; obtain ⟨rfl, _⟩ := h'; exact one h rfl rfl rfl (by simp)
  | bool b => have h' := h; simp only [R] at h'; obtain ⟨rfl, _⟩ := h'; exact one h rfl rfl rfl (by simp)
  | str b => have h' := h; simp only [R] at h'; obtain ⟨rfl, _⟩ := h'; exact one h rfl rfl rfl (by simp)
  | sl g n l =>
    have h' := h
    simp only [R] at h'
    rcases h' with ⟨hd, _⟩ | ⟨a, cap, rfl, _⟩
    · cases g with
      | own => exact hd.elim
      | view => exact hd.elim
      | dep i =>
        simp only [AV.fit] at hf
        exfalso
        refine hd (fun ob hob => ?_)
        simpa [hob] using hf
    · exact one h rfl rfl rfl (by simp)
  | vptr g c off =>
    have h' := h
    simp only [R] at h'
    rcases h' with ⟨hd, _⟩ | ⟨_, b, o, cs, rfl, _⟩
    · cases g with
      | own => exact hd.elim
      | view => exact hd.elim
      | dep i =>
        simp only [AV.fit] at hf
        exfalso
        refine hd (fun ob hob => ?_)
        simpa [hob] using hf
    · exact one h rfl rfl rfl (by simp)
  | obj i ver =>
    have h' := h
    simp only [R] at h'
    obtain ⟨_, ob, g, hl, _, hh, _⟩ := h'
    simp only [AV.fit, AV.isObj, hl.1] at hf
    split at hf
    · rename_i hc
      have := hh hc.1 hc.2
      subst this
      exact one h rfl rfl rfl (by simp)
    · cases hf
  | ptr i ver idx off =>
    have h' := h
    simp only [R] at h'
    obtain ⟨_, ob, g, hl, _, hh⟩ := h'
    simp only [AV.fit, AV.isObj, hl.1] at hf
    split at hf
    · rename_i hc
      obtain ⟨b, f, _, rfl⟩ := hh hc.1 hc.2
      exact one h rfl rfl rfl (by simp)
    · cases hf
  | agg c =>
    simp only [R] at h
    obtain ⟨cs, rfl, ho, hr⟩ := h
    exact ⟨by simpa [AV.cells, Value.cells] using hr, by simpa [Value.cells] using ho, fun _ _ => ⟨_, rfl⟩, fun hne => absurd rfl (hne c)⟩
  | tup c => cases hf
  | fn f c => have h' := h; simp only [R] at h'; obtain ⟨_, cs, rfl, _⟩ := h'; exact one h rfl rfl rfl (by simp)
  | undef => cases hf

theorem Rc_ofV (w : World) (E : Env) : ∀ vs : List Value, Rc w E (vs.map ofV) vs []
  | [] => by simp [Rc]
  | v :: vs => by simp only [List.map_cons, Rc]; exact ⟨[], [], R_ofV w E v, Rc_ofV w E vs, rfl⟩

/-- A step of one operation. -/
def Step (P : Program) (B : Base) (o : Oper) (s s' : AS) : Prop :=
  ∀ a w next Q, Rel B s a w → (∀ a' w', Rel B s' a' w' → next a' w') → o.wp P a w next Q

theorem step_val {P : Program} {B : Base} {o : Oper} {s s' : AS}
    (h : ∀ G a w, Rel' B s G a w → ∃ v w', (execOp a.eval o).run P w = .ok (.value v) w' ∧ Rel B s' (a.put o.dst v) w') : Step P B o s s' := by
  rintro a w next Q ⟨G, r⟩ hn
  obtain ⟨v, w', hr, hrel⟩ := h G a w r
  unfold Oper.wp
  rw [hr]
  exact hn _ _ hrel

theorem step_skip' {P : Program} {B : Base} {o : Oper} {s s' : AS}
    (h : ∀ G a w, Rel' B s G a w → ∃ w', (execOp a.eval o).run P w = .ok .skip w' ∧ Rel B s' (a.put o.dst Go.undef) w') : Step P B o s s' := by
  rintro a w next Q ⟨G, r⟩ hn
  obtain ⟨w', hr, hrel⟩ := h G a w r
  unfold Oper.wp
  rw [hr]
  exact hn _ _ hrel

/-- An operation that only computes. -/
theorem step_pure {P : Program} {B : Base} {o : Oper} {s : AS} {x : AV}
    (h : ∀ G a w, Rel' B s G a w → ∃ v, (execOp a.eval o).run P w = .ok (.value v) w ∧ R w (env B s.o G w) x v []) : Step P B o s (s.put o.dst x) :=
  step_val fun G a w r => let ⟨v, hr, hx⟩ := h G a w r; ⟨v, w, hr, G, r.put o.dst hx⟩

section
variable {P : Program} {B : Base} {s : AS} {dst : Option Tmp} {ty : TypeId} {pos : String} {after : Array Edge} {gd : Option (Nat × Bool)}

theorem step_move (x : Operand) : Step P B ⟨dst, .move x, ty, pos, after, gd⟩ s (s.put dst (s.ev x)) :=
  step_pure fun _ a _ r => ⟨a.eval x, rfl, r.ev x⟩

theorem step_assign (x : Operand) : Step P B ⟨dst, .assign x, ty, pos, after, gd⟩ s (s.put dst (s.ev x)) :=
  step_pure fun _ a _ r => ⟨a.eval x, rfl, r.ev x⟩

/-- A new box. -/
def AS.box (s : AS) (d : Option Tmp) (c : List AV) : AS := AS.put ⟨s.t, s.o ++ [⟨true, true, c.length, 0, [c]⟩]⟩ d (.ptr s.o.length 0 0 0)

theorem OwnOk_row {w : World} {E : Env} {c : List AV} {cs : List Value} {b n : Nat} {C : Array Value} {e : TypeId} {fz : Nat × Nat} {fp : List Nat} (hb : w.heap[b]? = some (.cells C e fz)) (hz : C.size ≤ fz.1 ∨ fz.2 = 0)
    (hC : C.toList = cs) (hn : cs.length = n) (ho : ∀ x ∈ cs, x.oneCell' = true) (hr : Rc w E c cs fp) : OwnOk w E n [c] (some ⟨b, 0, none⟩) 1 (b :: fp) := by
  refine ⟨by simp [maxLen], .inr ⟨b, 0, C, e, fz, fp, rfl, hb, hz, ?_, by simp, by simp [maxLen], rfl, ?_⟩⟩
  · rw [← hn, ← hC]; simp
  · simp only [Rr]
    refine ⟨cs, fp, [], hn, ?_, ho, hr, rfl, by simp⟩
    intro j v hv
    subst hC
    simp [World.cell?, hb]
    simpa using hv

theorem heap_alloc (w : World) (o : Obj) (b : Nat) (h : b < w.heap.size) : (w.alloc o).heap[b]? = w.heap[b]? := heap_alloc_old w o h

theorem heap_alloc_self (w : World) (o : Obj) : (w.alloc o).heap[w.heap.size]? = some o := heap_alloc_new w o

/-- One new object in one new block. -/
theorem Rel'.add1 {G : List CO} {a : Act} {w : World} (r : Rel' B s G a w) (ob : AObj) (cap : Nat) (C : Array Value) (e : TypeId)
    (hl : ob.els.length ≤ cap) (hcap : cap ≤ maxLen) (hC : cap * ob.n ≤ C.size)
    (hr : ∀ w' E', Keeps w ((env B s.o G w).of ob.box) w' E' → w'.heap[w.heap.size]? = some (.cells C e (0, 0)) → Rr w' E' ob.els w.heap.size 0 ob.n []) :
    ∃ G', Rel' B ⟨s.t, s.o ++ [ob]⟩ G' a (w.alloc (.cells C e)) ∧ Keeps w (env B s.o G w) (w.alloc (.cells C e)) (env B (s.o ++ [ob]) G' (w.alloc (.cells C e))) ∧
      G'[s.o.length]? = some ⟨some ⟨w.heap.size, 0, none⟩, cap, fun b => b = w.heap.size⟩ := by
  refine ⟨G ++ [⟨some ⟨w.heap.size, 0, none⟩, cap, fun b => b = w.heap.size⟩], ?_⟩
  have := r.add [ob] [⟨some ⟨w.heap.size, 0, none⟩, cap, fun b => b = w.heap.size⟩] (w.alloc (.cells C e)) rfl (by simp) (fun b hb => heap_alloc w _ b hb) ?_ ?_ ?_
  · refine ⟨this.1, this.2, ?_⟩
    rw [← r.len]; simp
  · rintro j x y b ⟨h1, h2⟩ _ hf
    cases j with
    | zero => simp at h2; subst h2; simp at hf; subst hf; simp
    | succ j => simp at h2
  · rintro i j _ _ _ _ b ⟨h1, _⟩ ⟨h2, _⟩ _ _ _ _
    cases i <;> cases j <;> simp_all
  · rintro k j x y ⟨h1, h2⟩ _
    cases j with
    | zero =>
      simp at h1 h2
      subst h1; subst h2
      refine ⟨[w.heap.size], ⟨Nat.le_trans hl hcap, .inr ⟨w.heap.size, 0, C, e, (0, 0), [], rfl, heap_alloc_self w _, .inr rfl, by simpa using hC, hl, hcap, rfl, ?_⟩⟩, by simp, by simp⟩
      exact hr _ _ (k.of ob.box) (heap_alloc_self w _)
    | succ j => simp at h1

theorem look_last {o : List AObj} {G' : List CO} {ob : AObj} {g : CO} (h : G'[o.length]? = some g) : look (o ++ [ob]) G' o.length ob g := ⟨by simp, h⟩

theorem run_newVar (P : Program) (w : World) (t : TypeId) (v : Value) : (newVar t v).run P w = .ok ⟨w.heap.size, 0, none⟩ (w.alloc (.cells v.cells t)) := by
  simp [newVar, newRow]

/-- A new box, filled. -/
theorem Rel'.boxed {G : List CO} {a : Act} {w : World} (r : Rel' B s G a w) (d : Option Tmp) {c : List AV} {cs : Array Value} (t : TypeId) (ho : ∀ x ∈ cs.toList, x.oneCell' = true)
    (hr : Rc w (env B s.o G w) c cs.toList []) : Rel B (s.box d c) (a.put d (.pointer (some ⟨w.heap.size, 0, none⟩))) (w.alloc (.cells cs t)) := by
  have hl := Rc_length hr
  obtain ⟨G', r', k, hG⟩ := r.add1 ⟨true, true, c.length, 0, [c]⟩ 1 cs t (by simp) (by simp [maxLen]) (by simpa using Nat.le_of_eq hl.symm) (fun w' E' k hb => by
    simp only [Rr]
    refine ⟨cs.toList, [], [], by simpa using hl, ?_, ho, Rc_keeps k _ _ _ (by simp) hr, rfl, rfl⟩
    intro j v hv
    simp [World.cell?, hb]
    simpa using hv)
  refine ⟨G', ?_⟩
  exact r'.put d (by
    simp only [R]
    exact ⟨trivial, _, _, look_last hG, Nat.le_refl _, fun _ _ => ⟨w.heap.size, 0, rfl, by simp⟩⟩)

theorem step_box (t : TypeId) (x : Operand) (hx : (s.ev x).fit s.o = true) : Step P B ⟨dst, .box t x, ty, pos, after, gd⟩ s (s.box dst (s.ev x).cells) :=
  step_val fun G a w r => by
    have h := R_cells hx (r.ev x)
    exact ⟨_, _, by simp [execOp, Instr.box, run_newVar], r.boxed dst t h.2.1 h.1⟩

theorem step_alloc (t : TypeId) {z : List AV} (hz : zeroA P t = some z) : Step P B ⟨dst, .alloc t, ty, pos, after, gd⟩ s (s.box dst z) :=
  step_val fun G a w r => by
    unfold zeroA at hz
    cases hi : P.info? t with
    | none => simp [hi] at hz
    | some i =>
      cases hv : i.zero with
      | none => simp [hi, hv] at hz
      | some v =>
        simp only [hi, hv, Option.bind_some] at hz
        split at hz
        · rename_i hall
          obtain rfl := Option.some.inj hz
          refine ⟨_, _, by simp [execOp, Instr.alloc, zeroValue, typeInfo, hi, hv, run_newVar], r.boxed dst t (List.all_eq_true.1 hall) (Rc_ofV w _ _)⟩
        · cases hz
end
end Go.Aw
