/-
  Proved here: the abstract state of a function's activation (its temporaries and the memory that it owns) and its laws.
  No condition beyond what each statement spells out.
-/
import Derived.Test.YtbbefoefjmgnoaaAwCore
set_option linter.all false
namespace Go.Aw

/-- An object of the running function: a box (a variable in memory) or the array behind a slice that the function owns. -/
structure AObj where
  live : Bool
  box : Bool
  n : Nat
  ver : Nat
  els : List (List AV)

/-- Where an object lies. -/
structure CO where
  a : Option Addr
  cap : Nat
  F : Nat → Prop

/-- The abstract state: the temporaries and the objects. -/
structure AS where
  t : List AV
  o : List AObj

/-- The world at the function's entry, what may be read through its arguments, what was handed over to it. -/
structure Base where
  w0 : World
  A0 : Nat → Prop
  O0 : Nat → Prop
  h0 : Nat → Option Value

def look (o : List AObj) (G : List CO) (i : Nat) (ob : AObj) (g : CO) : Prop := o[i]? = some ob ∧ G[i]? = some g

def env (B : Base) (o : List AObj) (G : List CO) (w : World) : Env where
  A b := (B.A0 b ∨ (B.w0.heap.size ≤ b ∧ b < w.heap.size)) ∧ ∀ i ob g, look o G i ob g → ob.live = true → ¬ g.F b
  V i := ∀ ob, o[i]? = some ob → ob.live = true
  D i b := ∃ ob g, look o G i ob g ∧ ob.live = true ∧ g.F b ∧ ∀ a, g.a = some a → b ≠ a.block
  H i ver v := ∃ ob g, look o G i ob g ∧ ver ≤ ob.ver ∧ (ob.live = true → ob.ver = ver → v = .slice g.a ob.els.length g.cap) ∧ (ver = 0 → ∀ x, B.h0 i = some x → v = x)
  L i ver idx off v := ∃ ob g, look o G i ob g ∧ ver ≤ ob.ver ∧ (ob.live = true → ob.ver = ver → ∃ b f, g.a = some ⟨b, f, none⟩ ∧ v = .pointer (some ⟨b, f + (idx * ob.n + off), none⟩))

def Env.of (E : Env) (box : Bool) : Env := if box then E else E.plain

/-- The rows of an object. -/
def OwnOk (w : World) (E : Env) (n : Nat) (l : List (List AV)) (a : Option Addr) (cap : Nat) (fp : List Nat) : Prop :=
  l.length ≤ maxLen ∧ ((l = [] ∧ cap = 0 ∧ fp = []) ∨
    ∃ b off C e fz fps, a = some ⟨b, off, none⟩ ∧ w.heap[b]? = some (.cells C e fz) ∧ (C.size ≤ fz.1 ∨ fz.2 = 0) ∧
      off + cap * n ≤ C.size ∧ l.length ≤ cap ∧ cap ≤ maxLen ∧ fp = b :: fps ∧ Rr w E l b off n fps)

theorem R_own {w : World} {E : Env} {n : Nat} {l : List (List AV)} {v : Value} {fp : List Nat} :
    R w E (.sl .own n l) v fp ↔ ∃ a cap, v = .slice a l.length cap ∧ OwnOk w E.plain n l a cap fp := by
  simp only [R, OwnOk]
  constructor
  · rintro (⟨h, _⟩ | ⟨a, cap, hv, hl, h | h | h⟩)
    · exact h.elim
    · exact ⟨a, cap, hv, hl.1, .inl h.2⟩
    · exact ⟨a, cap, hv, hl.1, .inr h.2⟩
    · exact absurd rfl h.1
  · rintro ⟨a, cap, hv, hl, h | h⟩
    · exact .inr ⟨a, cap, hv, ⟨hl, by simp [h.1]⟩, .inl ⟨trivial, h⟩⟩
    · exact .inr ⟨a, cap, hv, ⟨hl, by obtain ⟨b, off, C, e, fz, fps, _, _, _, _, h, _⟩ := h; exact h⟩, .inr (.inl ⟨trivial, h⟩)⟩

def ObjOk (w : World) (E : Env) (ob : AObj) (g : CO) : Prop :=
  ∃ fp, OwnOk w (E.of ob.box) ob.n ob.els g.a g.cap fp ∧ fp.Nodup ∧ ∀ b ∈ fp, g.F b

/-- The streams are as they were. -/
structure Same (w w' : World) : Prop where
  os : w'.os = w.os
  tape : w'.tape = w.tape
  output : w'.output = w.output
theorem Same.rfl {w : World} : Same w w := ⟨Eq.refl _, Eq.refl _, Eq.refl _⟩
theorem Same.trans {a b c : World} (h : Same a b) (k : Same b c) : Same a c := ⟨k.os.trans h.os, k.tape.trans h.tape, k.output.trans h.output⟩

structure Rel' (B : Base) (s : AS) (G : List CO) (a : Act) (w : World) : Prop where
  len : G.length = s.o.length
  defs : a.defers = []
  ok : ∀ i ob g, look s.o G i ob g → ob.live = true → ObjOk w (env B s.o G w) ob g
  apart : ∀ i j oi oj gi gj b, look s.o G i oi gi → look s.o G j oj gj → oi.live = true → oj.live = true → gi.F b → gj.F b → i = j
  fresh : ∀ i ob g b, look s.o G i ob g → ob.live = true → g.F b → (B.O0 b ∨ B.w0.heap.size ≤ b) ∧ b < w.heap.size
  tmps : Rc w (env B s.o G w) s.t a.tmps.toList []
  size : B.w0.heap.size ≤ w.heap.size
  frame : ∀ b, b < B.w0.heap.size → ¬ B.O0 b → w.heap[b]? = B.w0.heap[b]?
  base : ∀ b, B.A0 b → b < B.w0.heap.size ∧ ¬ B.O0 b
  same : Same B.w0 w

def Rel (B : Base) (s : AS) (a : Act) (w : World) : Prop := ∃ G, Rel' B s G a w

theorem Keeps.of {w w' : World} {E E' : Env} (k : Keeps w E w' E') (box : Bool) : Keeps w (E.of box) w' (E'.of box) := by
  cases box
  · exact k.plain
  · exact k

theorem plain_keeps (w : World) (E : Env) : Keeps w E.plain w E :=
  ⟨fun _ h => ⟨h, rfl⟩, fun _ _ => trivial, fun _ _ _ h => h.elim, fun _ _ _ h => h.elim, fun _ _ _ _ _ h => h.elim⟩

theorem env_lt {B : Base} {s : AS} {G : List CO} {a : Act} {w : World} (r : Rel' B s G a w) {b : Nat} (h : (env B s.o G w).A b) : b < w.heap.size := by
  rcases h.1 with h | h
  · exact Nat.lt_of_lt_of_le (r.base b h).1 r.size
  · exact h.2

theorem env_keeps {B : Base} {o o' : List AObj} {G G' : List CO} {w w' : World} (hs : w.heap.size ≤ w'.heap.size)
    (hA : ∀ b, (env B o G w).A b → b < w.heap.size ∧ w'.heap[b]? = w.heap[b]?)
    (hlen : G.length = o.length)
    (h2 : ∀ i ob g, look o G i ob g → ∃ ob' g', look o' G' i ob' g' ∧ ob.ver ≤ ob'.ver ∧ (ob'.live = true → ob.live = true ∧ ob'.n = ob.n ∧
      (ob'.ver = ob.ver → g'.a = g.a ∧ g'.cap = g.cap ∧ ob'.els.length = ob.els.length) ∧
      (∀ b, g.F b → (∀ a, g.a = some a → b ≠ a.block) → g'.F b ∧ (∀ a, g'.a = some a → b ≠ a.block) ∧ w'.heap[b]? = w.heap[b]?)))
    (h3 : ∀ i ob' g' b, look o' G' i ob' g' → ob'.live = true → g'.F b → w.heap.size ≤ b ∨ ∃ j ob g, look o G j ob g ∧ ob.live = true ∧ g.F b) :
    Keeps w (env B o G w) w' (env B o' G' w') where
  a b h := by
    refine ⟨⟨?_, ?_⟩, (hA b h).2⟩
    · rcases h.1 with h1 | h1
      · exact .inl h1
      · exact .inr ⟨h1.1, Nat.lt_of_lt_of_le h1.2 hs⟩
    · intro i ob' g' hl hlive hf
      rcases h3 i ob' g' b hl hlive hf with h5 | ⟨j, ob, g, hl', hlive', hf'⟩
      · have := (hA b h).1; omega
      · exact h.2 j ob g hl' hlive' hf'
  v i h ob hob := by
    have hi : i < G.length := by rw [hlen]; exact (List.getElem?_eq_some_iff.1 hob).1
    obtain ⟨ob', g', hl, _, h5⟩ := h2 i ob G[i] ⟨hob, List.getElem?_eq_getElem hi⟩
    exact (h5 (h ob' hl.1)).1
  d i b hV h := by
    obtain ⟨ob, g, hl, hlive, hf, hne⟩ := h
    obtain ⟨ob', g', hl', _, h5⟩ := h2 i ob g hl
    have hlive' := hV ob' hl'.1
    have h6 := (h5 hlive').2.2.2 b hf hne
    exact ⟨⟨ob', g', hl', hlive', h6.1, h6.2.1⟩, h6.2.2⟩
  h i v x h := by
    obtain ⟨ob, g, hl, hver, h5, hz⟩ := h
    obtain ⟨ob', g', hl', hv', h6⟩ := h2 i ob g hl
    refine ⟨ob', g', hl', by omega, fun hlive hve => ?_, hz⟩
    have h7 := h6 hlive
    have hve2 : ob'.ver = ob.ver := by omega
    have h8 := h7.2.2.1 hve2
    rw [h8.1, h8.2.1, h8.2.2]
    exact h5 h7.1 (by omega)
  l i v j x y h := by
    obtain ⟨ob, g, hl, hver, h5⟩ := h
    obtain ⟨ob', g', hl', hv', h6⟩ := h2 i ob g hl
    refine ⟨ob', g', hl', by omega, fun hlive hve => ?_⟩
    have h7 := h6 hlive
    have hve2 : ob'.ver = ob.ver := by omega
    have h8 := h7.2.2.1 hve2
    rw [h8.1, h7.2.1]
    exact h5 h7.1 (by omega)

theorem OwnOk.keeps {w w' : World} {E E' : Env} {n : Nat} {l : List (List AV)} {a : Option Addr} {cap : Nat} {fp : List Nat} (h : OwnOk w E n l a cap fp) (k : Keeps w E w' E') (hF : ∀ b ∈ fp, w'.heap[b]? = w.heap[b]?) : OwnOk w' E' n l a cap fp := by
  refine ⟨h.1, ?_⟩
  rcases h.2 with h | ⟨b, off, C, e, fz, fps, ha, hb, hz, h1, h2, h3, rfl, hr⟩
  · exact .inl h
  · refine .inr ⟨b, off, C, e, fz, fps, ha, by rw [hF b (by simp)]; exact hb, hz, h1, h2, h3, rfl, Rr_keeps k _ _ _ _ _ (hF b (by simp)) (fun x hx => hF x (by simp [hx])) hr⟩

theorem ObjOk.keeps {w w' : World} {E E' : Env} {ob : AObj} {g : CO} (h : ObjOk w E ob g) (k : Keeps w E w' E') (hF : ∀ b, g.F b → w'.heap[b]? = w.heap[b]?) : ObjOk w' E' ob g := by
  obtain ⟨fp, hr, hn, hf⟩ := h
  exact ⟨fp, hr.keeps (k.of ob.box) (fun b hb => hF b (hf b hb)), hn, hf⟩

theorem Rc_length {w : World} {E : Env} : ∀ {c : List AV} {cs : List Value} {fp : List Nat}, Rc w E c cs fp → cs.length = c.length
  | [], [], _, _ => rfl
  | [], _ :: _, _, h => by simp [Rc] at h
  | _ :: _, [], _, h => by simp [Rc] at h
  | _ :: xs, _ :: cs, fp, h => by
    simp only [Rc] at h
    obtain ⟨f1, f2, _, h2, _⟩ := h
    simp [Rc_length h2]

theorem Rc_get {w : World} {E : Env} : ∀ {c : List AV} {cs : List Value} {i : Nat} {x : AV}, Rc w E c cs [] → c[i]? = some x → ∃ v, cs[i]? = some v ∧ R w E x v []
  | [], _, i, x, _, h => by simp at h
  | _ :: _, [], _, _, h, _ => by simp [Rc] at h
  | y :: ys, c :: cs, i, x, h, hx => by
    simp only [Rc] at h
    obtain ⟨f1, f2, h1, h2, e⟩ := h
    obtain ⟨e1, e2⟩ : f1 = [] ∧ f2 = [] := by simpa using e
    subst e1; subst e2
    cases i with
    | zero => simp at hx; subst hx; exact ⟨c, rfl, h1⟩
    | succ i => simpa using Rc_get h2 (by simpa using hx)

theorem Rc_set {w : World} {E : Env} : ∀ {c : List AV} {cs : List Value} (i : Nat) {x : AV} {v : Value}, Rc w E c cs [] → R w E x v [] → Rc w E (c.set i x) (cs.set i v) []
  | [], [], i, x, v, h, _ => by simpa using h
  | [], _ :: _, _, _, _, h, _ => by simp [Rc] at h
  | _ :: _, [], _, _, _, h, _ => by simp [Rc] at h
  | y :: ys, c :: cs, i, x, v, h, hx => by
    simp only [Rc] at h
    obtain ⟨f1, f2, h1, h2, e⟩ := h
    obtain ⟨e1, e2⟩ : f1 = [] ∧ f2 = [] := by simpa using e
    subst e1; subst e2
    cases i with
    | zero => simp only [List.set_cons_zero, Rc]; exact ⟨[], [], hx, h2, rfl⟩
    | succ i => simp only [List.set_cons_succ, Rc]; exact ⟨[], [], h1, Rc_set i h2 hx, rfl⟩

theorem Rc_append {w : World} {E : Env} : ∀ {c d : List AV} {cs ds : List Value} {f1 f2 : List Nat}, Rc w E c cs f1 → Rc w E d ds f2 → Rc w E (c ++ d) (cs ++ ds) (f1 ++ f2)
  | [], _, [], _, f1, f2, h, h' => by simp [Rc] at h; subst h; simpa using h'
  | [], _, _ :: _, _, _, _, h, _ => by simp [Rc] at h
  | _ :: _, _, [], _, _, _, h, _ => by simp [Rc] at h
  | y :: ys, d, c :: cs, ds, f1, f2, h, h' => by
    simp only [Rc] at h
    obtain ⟨g1, g2, h1, h2, rfl⟩ := h
    simp only [List.cons_append, Rc]
    exact ⟨g1, g2 ++ f2, h1, Rc_append h2 h', by simp⟩

def AS.put (s : AS) (d : Option Tmp) (x : AV) : AS := match d with
  | some d => { s with t := s.t.set d x }
  | none => s

theorem Rel'.put {B : Base} {s : AS} {G : List CO} {a : Act} {w : World} (r : Rel' B s G a w) (d : Option Tmp) {x : AV} {v : Value} (h : R w (env B s.o G w) x v []) :
    Rel' B (s.put d x) G (a.put d v) w := by
  cases d with
  | none => exact r
  | some d => exact { r with tmps := by simpa [AS.put, Act.put] using Rc_set d r.tmps h }

theorem Rel'.next {B : Base} {s : AS} {G : List CO} {a : Act} {w : World} (r : Rel' B s G a w) {o' : List AObj} {G' : List CO} {w' : World}
    (k : Keeps w (env B s.o G w) w' (env B o' G' w')) (len : G'.length = o'.length)
    (ok : ∀ i ob g, look o' G' i ob g → ob.live = true → ObjOk w' (env B o' G' w') ob g)
    (apart : ∀ i j oi oj gi gj b, look o' G' i oi gi → look o' G' j oj gj → oi.live = true → oj.live = true → gi.F b → gj.F b → i = j)
    (fresh : ∀ i ob g b, look o' G' i ob g → ob.live = true → g.F b → (B.O0 b ∨ B.w0.heap.size ≤ b) ∧ b < w'.heap.size)
    (size : w.heap.size ≤ w'.heap.size) (frame : ∀ b, b < B.w0.heap.size → ¬ B.O0 b → w'.heap[b]? = w.heap[b]?)
    (same : Same w w' := by exact ⟨rfl, rfl, rfl⟩) : Rel' B ⟨s.t, o'⟩ G' a w' where
  len := len
  defs := r.defs
  ok := ok
  apart := apart
  fresh := fresh
  tmps := Rc_keeps k _ _ _ (by simp) r.tmps
  size := Nat.le_trans r.size size
  frame b h1 h2 := (frame b h1 h2).trans (r.frame b h1 h2)
  base := r.base
  same := r.same.trans same

/-- Evaluation of an operand. -/
def ofV : Value → AV
  | .int k n => .int k n
  | .bool b => .bool b
  | .string s => .str s.data.toList
  | .slice none 0 0 => .sl .own 0 []
  | .func (.func f) ⟨[]⟩ ⟨[]⟩ => .fn f []
  | _ => .undef

theorem R_ofV (w : World) (E : Env) (v : Value) : R w E (ofV v) v [] := by
  unfold ofV
  split <;> simp [R, Rc, maxLen]

def AS.ev (s : AS) : Operand → AV
  | .tmp t => s.t.getD t .undef
  | .const v => ofV v
  | .func f => .fn f []
  | .global _ => .undef

theorem Rel'.ev {B : Base} {s : AS} {G : List CO} {a : Act} {w : World} (r : Rel' B s G a w) (x : Operand) : R w (env B s.o G w) (s.ev x) (a.eval x) [] := by
  cases x with
  | tmp t =>
    simp only [AS.ev, List.getD]
    cases h : s.t[t]? with
    | none => simp [R]
    | some y =>
      obtain ⟨v, hv, hr⟩ := Rc_get r.tmps h
      simp only [Act.eval, Option.getD_some]
      have : a.tmps[t]? = some v := by simpa using hv
      simpa [Array.getD_eq_getD_getElem?, this] using hr
  | const v => exact R_ofV w _ v
  | func f => simp [AS.ev, Act.eval, R, Rc]
  | global g => simp [AS.ev, R]
end Go.Aw
