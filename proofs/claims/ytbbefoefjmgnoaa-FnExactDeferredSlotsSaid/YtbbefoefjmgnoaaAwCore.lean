/-
  Proved here: what it means that a value of a world reads as an abstract value, and that the reading is kept by changes elsewhere.
  No condition beyond what each statement spells out.
-/
import Derived.WalkKit
set_option linter.all false
namespace Go.Aw

/-- How the memory behind a slice may be used. -/
inductive Tg where
  | own
  | view
  | dep (i : Nat)

/-- Abstract values: what a Go value reads as, with handles on the objects of the running function. -/
inductive AV where
  | int (k : IntKind) (n : Int)
  | bool (b : Bool)
  | str (s : List UInt8)
  | sl (g : Tg) (n : Nat) (l : List (List AV))
  | vptr (g : Tg) (c : List AV) (off : Nat)
  | obj (i ver : Nat)
  | ptr (i ver idx off : Nat)
  | agg (c : List AV)
  | tup (c : List AV)
  | fn (f : FuncId) (c : List AV)
  | undef

instance : Inhabited AV := ⟨.undef⟩

structure Env where
  A : Nat → Prop
  V : Nat → Prop
  D : Nat → Nat → Prop
  H : Nat → Nat → Value → Prop
  L : Nat → Nat → Nat → Nat → Value → Prop

def Env.tg (E : Env) : Tg → Nat → Prop
  | .own, _ => False
  | .view, b => E.A b
  | .dep i, b => E.D i b

def Env.dead (E : Env) : Tg → Prop
  | .dep i => ¬ E.V i
  | _ => False

def Env.plain (E : Env) : Env where
  A := E.A
  V _ := True
  D _ _ := False
  H _ _ _ := False
  L _ _ _ _ _ := False

/-- What the rows of a slice may speak of. -/
def Env.sub (E : Env) : Tg → Env
  | .dep i => { E.plain with D := fun j b => j = i ∧ E.D i b }
  | _ => E.plain

/-- The cells from an address on. -/
def CellsAt (w : World) (b off : Nat) (cs : List Value) : Prop := ∀ j v, cs[j]? = some v → w.cell? ⟨b, off + j, none⟩ = some v

mutual
def R (w : World) : Env → AV → Value → List Nat → Prop
  | _, .int k n, v, fp => v = .int k n ∧ fp = []
  | _, .bool b, v, fp => v = .bool b ∧ fp = []
  | _, .str s, v, fp => v = .string ⟨s.toArray⟩ ∧ fp = []
  | E, .sl g n l, v, fp => (E.dead g ∧ fp = []) ∨ ∃ a cap, v = .slice a l.length cap ∧ (l.length ≤ maxLen ∧ l.length ≤ cap) ∧
      ((g = .own ∧ l = [] ∧ cap = 0 ∧ fp = []) ∨
       (g = .own ∧ ∃ b off C e fz fps, a = some ⟨b, off, none⟩ ∧ w.heap[b]? = some (.cells C e fz) ∧ (C.size ≤ fz.1 ∨ fz.2 = 0) ∧
          off + cap * n ≤ C.size ∧ l.length ≤ cap ∧ cap ≤ maxLen ∧ fp = b :: fps ∧ Rr w (E.sub g) l b off n fps) ∨
       (g ≠ .own ∧ fp = [] ∧ (l = [] ∨ ∃ b off, a = some ⟨b, off, none⟩ ∧ E.tg g b ∧ Rr w (E.sub g) l b off n [])))
  | E, .vptr g c off, v, fp => (E.dead g ∧ fp = []) ∨ fp = [] ∧ ∃ b o cs, v = .pointer (some ⟨b, o + off, none⟩) ∧ E.tg g b ∧ CellsAt w b o cs ∧ (∀ x ∈ cs, x.oneCell' = true) ∧ Rc w (E.sub g) c cs []
  | E, .obj i ver, v, fp => fp = [] ∧ E.H i ver v
  | E, .ptr i ver idx off, v, fp => fp = [] ∧ E.L i ver idx off v
  | E, .agg c, v, fp => ∃ cs : List Value, v = .agg cs.toArray ∧ (∀ x ∈ cs, x.oneCell' = true) ∧ Rc w E c cs fp
  | E, .tup c, v, fp => ∃ cs : List Value, v = .tuple cs.toArray ∧ Rc w E c cs fp
  | E, .fn f c, v, fp => fp = [] ∧ ∃ cs : List Value, v = .func (.func f) #[] cs.toArray ∧ Rc w E c cs []
  | _, .undef, _, fp => fp = []
def Rc (w : World) : Env → List AV → List Value → List Nat → Prop
  | _, [], [], fp => fp = []
  | E, x :: xs, c :: cs, fp => ∃ f1 f2, R w E x c f1 ∧ Rc w E xs cs f2 ∧ fp = f1 ++ f2
  | _, _, _, _ => False
def Rr (w : World) : Env → List (List AV) → Nat → Nat → Nat → List Nat → Prop
  | _, [], _, _, _, fp => fp = []
  | E, e :: es, b, off, n, fp => ∃ cs f1 f2, cs.length = n ∧ CellsAt w b off cs ∧ (∀ x ∈ cs, x.oneCell' = true) ∧ Rc w E e cs f1 ∧ Rr w E es b (off + n) n f2 ∧ fp = f1 ++ f2
end

theorem CellsAt.same {w w' : World} {b off : Nat} {cs : List Value} (h : CellsAt w b off cs) (hb : w'.heap[b]? = w.heap[b]?) : CellsAt w' b off cs := by
  intro j v hv
  have := h j v hv
  simpa [World.cell?, hb] using this

/-- What the change of a world must leave alone. -/
structure Keeps (w : World) (E : Env) (w' : World) (E' : Env) : Prop where
  a : ∀ b, E.A b → E'.A b ∧ w'.heap[b]? = w.heap[b]?
  v : ∀ i, E'.V i → E.V i
  d : ∀ i b, E'.V i → E.D i b → E'.D i b ∧ w'.heap[b]? = w.heap[b]?
  h : ∀ i v x, E.H i v x → E'.H i v x
  l : ∀ i v j o x, E.L i v j o x → E'.L i v j o x

theorem Keeps.tg {w w' : World} {E E' : Env} (k : Keeps w E w' E') {g : Tg} {b : Nat} (h : E.tg g b) (hd : ¬ E'.dead g) : E'.tg g b ∧ w'.heap[b]? = w.heap[b]? := by
  cases g with
  | own => exact h.elim
  | view => exact k.a b h
  | dep i => exact k.d i b (Classical.not_not.1 hd) h

theorem Keeps.dead {w w' : World} {E E' : Env} (k : Keeps w E w' E') {g : Tg} (h : E.dead g) : E'.dead g := by
  cases g with
  | own => exact h
  | view => exact h
  | dep i => exact fun hv => h (k.v i hv)

theorem Keeps.plain {w w' : World} {E E' : Env} (k : Keeps w E w' E') : Keeps w E.plain w' E'.plain :=
  ⟨k.a, fun _ _ => trivial, fun _ _ _ h => h.elim, fun _ _ _ h => h.elim, fun _ _ _ _ _ h => h.elim⟩

theorem Keeps.sub {w w' : World} {E E' : Env} (k : Keeps w E w' E') (g : Tg) (hd : ¬ E'.dead g) : Keeps w (E.sub g) w' (E'.sub g) := by
  cases g with
  | own => exact k.plain
  | view => exact k.plain
  | dep i =>
    exact ⟨k.a, fun _ _ => trivial, fun j b _ h => ⟨⟨h.1, (k.d i b (Classical.not_not.1 hd) h.2).1⟩, (k.d i b (Classical.not_not.1 hd) h.2).2⟩, fun _ _ _ h => h.elim, fun _ _ _ _ _ h => h.elim⟩

mutual
theorem R_keeps {w w' : World} {E E' : Env} (k : Keeps w E w' E') : ∀ (av : AV) (v : Value) (fp : List Nat), (∀ b ∈ fp, w'.heap[b]? = w.heap[b]?) → R w E av v fp → R w' E' av v fp
  | .int _ _, _, _, _, h => by simpa [R] using h
  | .bool _, _, _, _, h => by simpa [R] using h
  | .str _, _, _, _, h => by simpa [R] using h
  | .sl g n l, v, fp, hf, h => by
    simp only [R] at h ⊢
    rcases h with h | ⟨a, cap, hv, hl, h⟩
    · exact .inl ⟨k.dead h.1, h.2⟩
    by_cases hd : E'.dead g
    · refine .inl ⟨hd, ?_⟩
      rcases h with h | ⟨hg, _⟩ | ⟨_, h, _⟩
      · exact h.2.2.2
      · subst hg; exact hd.elim
      · exact h
    refine .inr ⟨a, cap, hv, hl, ?_⟩
    rcases h with h | ⟨hg, b, off, C, e, fz, fps, ha, hb, hz, h1, h2, h3, hfp, hr⟩ | ⟨hg, hfp, h⟩
    · exact .inl h
    · subst hfp
      refine .inr (.inl ⟨hg, b, off, C, e, fz, fps, ha, ?_, hz, h1, h2, h3, rfl, ?_⟩)
      · rw [hf b (by simp)]; exact hb
      · exact Rr_keeps (k.sub g hd) l b off n fps (hf b (by simp)) (fun x hx => hf x (by simp [hx])) hr
    · refine .inr (.inr ⟨hg, hfp, ?_⟩)
      rcases h with h | ⟨b, off, ha, ht, hr⟩
      · exact .inl h
      · have := k.tg ht hd
        exact .inr ⟨b, off, ha, this.1, Rr_keeps (k.sub g hd) l b off n [] this.2 (by simp) hr⟩
  | .vptr g c off, v, fp, _, h => by
    simp only [R] at h ⊢
    rcases h with h | ⟨hfp, b, o, cs, hv, ht, hcs, hc, hr⟩
    · exact .inl ⟨k.dead h.1, h.2⟩
    by_cases hd : E'.dead g
    · exact .inl ⟨hd, hfp⟩
    have := k.tg ht hd
    exact .inr ⟨hfp, b, o, cs, hv, this.1, hcs.same this.2, hc, Rc_keeps (k.sub g hd) c cs [] (by simp) hr⟩
  | .obj i ver, v, fp, _, h => by simp only [R] at h ⊢; exact ⟨h.1, k.h _ _ _ h.2⟩
  | .ptr i ver idx off, v, fp, _, h => by simp only [R] at h ⊢; exact ⟨h.1, k.l _ _ _ _ _ h.2⟩
  | .agg c, v, fp, hf, h => by
    simp only [R] at h ⊢
    obtain ⟨cs, hv, hc, hr⟩ := h
    exact ⟨cs, hv, hc, Rc_keeps k c cs fp hf hr⟩
  | .tup c, v, fp, hf, h => by
    simp only [R] at h ⊢
    obtain ⟨cs, hv, hr⟩ := h
    exact ⟨cs, hv, Rc_keeps k c cs fp hf hr⟩
  | .fn f c, v, fp, _, h => by
    simp only [R] at h ⊢
    obtain ⟨hfp, cs, hv, hr⟩ := h
    exact ⟨hfp, cs, hv, Rc_keeps k c cs [] (by simp) hr⟩
  | .undef, _, _, _, h => by simpa [R] using h
theorem Rc_keeps {w w' : World} {E E' : Env} (k : Keeps w E w' E') : ∀ (c : List AV) (cs : List Value) (fp : List Nat), (∀ b ∈ fp, w'.heap[b]? = w.heap[b]?) → Rc w E c cs fp → Rc w' E' c cs fp
  | [], [], _, _, h => by simpa [Rc] using h
  | [], _ :: _, _, _, h => by simp [Rc] at h
  | _ :: _, [], _, _, h => by simp [Rc] at h
  | x :: xs, c :: cs, fp, hf, h => by
    simp only [Rc] at h ⊢
    obtain ⟨f1, f2, h1, h2, rfl⟩ := h
    exact ⟨f1, f2, R_keeps k x c f1 (fun b hb => hf b (by simp [hb])) h1, Rc_keeps k xs cs f2 (fun b hb => hf b (by simp [hb])) h2, rfl⟩
theorem Rr_keeps {w w' : World} {E E' : Env} (k : Keeps w E w' E') : ∀ (l : List (List AV)) (b off n : Nat) (fp : List Nat), w'.heap[b]? = w.heap[b]? → (∀ b ∈ fp, w'.heap[b]? = w.heap[b]?) → Rr w E l b off n fp → Rr w' E' l b off n fp
  | [], _, _, _, _, _, _, h => by simpa [Rr] using h
  | e :: es, b, off, n, fp, hb, hf, h => by
    simp only [Rr] at h ⊢
    obtain ⟨cs, f1, f2, hn, hcs, hc, h1, h2, rfl⟩ := h
    exact ⟨cs, f1, f2, hn, hcs.same hb, hc, Rc_keeps k e cs f1 (fun b hb => hf b (by simp [hb])) h1, Rr_keeps k es b (off + n) n f2 hb (fun b hb => hf b (by simp [hb])) h2, rfl⟩
end

/-- New tags; a tag that is not kept makes the value unknown. -/
def AV.kept (h : Bool) (x : AV) : AV := if h then x else .undef

mutual
def rt (f : Tg → Option Tg) (h : Bool) : AV → AV
  | .int k n => .int k n
  | .bool b => .bool b
  | .str s => .str s
  | .sl g n l => match f g with
    | some g' => .sl g' n (rtr f h l)
    | none => .undef
  | .vptr g c off => match f g with
    | some g' => .vptr g' (rtc f h c) off
    | none => .undef
  | .obj i v => AV.kept h (.obj i v)
  | .ptr i v j o => AV.kept h (.ptr i v j o)
  | .agg c => .agg (rtc f h c)
  | .tup c => .tup (rtc f h c)
  | .fn g c => .fn g (rtc f h c)
  | .undef => .undef
def rtc (f : Tg → Option Tg) (h : Bool) : List AV → List AV
  | [] => []
  | x :: xs => rt f h x :: rtc f h xs
def rtr (f : Tg → Option Tg) (h : Bool) : List (List AV) → List (List AV)
  | [] => []
  | x :: xs => rtc f h x :: rtr f h xs
end

theorem rtr_length (f : Tg → Option Tg) (h : Bool) : ∀ l, (rtr f h l).length = l.length
  | [] => rfl
  | _ :: xs => by simp [rtr, rtr_length f h xs]

/-- What new tags ask: 'own' may become a tag that reads what was owned. -/
structure Retags (f : Tg → Option Tg) (h : Bool) (E E' : Env) (O : Nat → Prop) : Prop where
  own : ∀ g, f .own = some g → g ≠ .own ∧ ∀ b, O b → E'.tg g b
  view : ∀ g, f .view = some g → g = .view ∧ ∀ b, E.A b → E'.A b
  dep : ∀ i g, f (.dep i) = some g → g ≠ .own ∧ (E.V i ∨ E'.dead g) ∧ ∀ b, E.D i b → E'.tg g b
  hh : h = true → ∀ i v x, E.H i v x → E'.H i v x
  hl : h = true → ∀ i v j o x, E.L i v j o x → E'.L i v j o x

theorem Retags.ne {f : Tg → Option Tg} {h : Bool} {E E' : Env} {O : Nat → Prop} (k : Retags f h E E' O) {g g' : Tg} (e : f g = some g') : g' ≠ .own := by
  cases g with
  | own => exact (k.own _ e).1
  | view => rw [(k.view _ e).1]; simp
  | dep i => exact (k.dep i _ e).1

theorem Retags.tg {f : Tg → Option Tg} {h : Bool} {E E' : Env} {O : Nat → Prop} (k : Retags f h E E' O) {g g' : Tg} {b : Nat} (e : f g = some g') (ht : E.tg g b) : E'.tg g' b := by
  cases g with
  | own => exact ht.elim
  | view => rw [(k.view _ e).1]; exact (k.view _ e).2 b ht
  | dep i => exact (k.dep i _ e).2.2 b ht

theorem Retags.dead {f : Tg → Option Tg} {h : Bool} {E E' : Env} {O : Nat → Prop} (k : Retags f h E E' O) {g g' : Tg} (e : f g = some g') (hd : E.dead g) : E'.dead g' := by
  cases g with
  | own => exact hd.elim
  | view => exact hd.elim
  | dep i => exact (k.dep i _ e).2.1.resolve_left hd

theorem Retags.sub {f : Tg → Option Tg} {h : Bool} {E E' : Env} {O : Nat → Prop} (k : Retags f h E E' O) {g g' : Tg} (e : f g = some g') (hd : ¬ E.dead g)
    {O' : Nat → Prop} (ho : ∀ b, O' b → g = .own ∧ O b) : Retags f h (E.sub g) (E'.sub g') O' where
  own g2 e2 := ⟨(k.own g2 e2).1, fun b hb => by
    obtain ⟨rfl, hO⟩ := ho b hb
    rw [e] at e2
    obtain rfl := Option.some.inj e2
    have := (k.own _ e).2 b hO
    cases g' with
    | own => exact this.elim
    | view => exact this
    | dep i => exact ⟨rfl, this⟩⟩
  view g2 e2 := ⟨(k.view g2 e2).1, fun b hA => by
    have h1 := (k.view g2 e2).2 b (by cases g <;> exact hA)
    cases g' <;> exact h1⟩
  dep i g2 e2 := by
    refine ⟨(k.dep i g2 e2).1, .inl (by cases g <;> trivial), fun b hD => ?_⟩
    cases g with
    | own => exact hD.elim
    | view => exact hD.elim
    | dep j =>
      obtain ⟨rfl, hD⟩ := hD
      rw [e] at e2
      obtain rfl := Option.some.inj e2
      have := (k.dep _ _ e).2.2 b hD
      cases g' with
      | own => exact this.elim
      | view => exact this
      | dep i => exact ⟨rfl, this⟩
  hh _ i v x hx := by cases g <;> exact hx.elim
  hl _ i v j o x hx := by cases g <;> exact hx.elim

mutual
theorem R_rt {w : World} {f : Tg → Option Tg} {h : Bool} {E E' : Env} {O : Nat → Prop} (k : Retags f h E E' O) : ∀ (av : AV) (v : Value) (fp : List Nat), (∀ b ∈ fp, O b) → R w E av v fp → R w E' (rt f h av) v []
  | .int _ _, _, _, _, r => by simp only [R, rt] at r ⊢; exact ⟨r.1, trivial⟩
  | .bool _, _, _, _, r => by simp only [R, rt] at r ⊢; exact ⟨r.1, trivial⟩
  | .str _, _, _, _, r => by simp only [R, rt] at r ⊢; exact ⟨r.1, trivial⟩
  | .sl g n l, v, fp, hf, r => by
    simp only [rt]
    cases e : f g with
    | none => simp [R]
    | some g' =>
      simp only [R, rtr_length] at r ⊢
      rcases r with r | ⟨a, cap, hv, hl, r⟩
      · exact .inl ⟨k.dead e r.1, trivial⟩
      by_cases hd : E.dead g
      · refine .inl ⟨k.dead e hd, trivial⟩
      refine .inr ⟨a, cap, hv, hl, .inr (.inr ⟨k.ne e, trivial, ?_⟩)⟩
      rcases r with ⟨_, rfl, _⟩ | ⟨rfl, b, off, C, ty, fz, fps, ha, hb, hz, h1, h2, h3, rfl, hr⟩ | ⟨hg, hfp, r⟩
      · exact .inl rfl
      · exact .inr ⟨b, off, ha, (k.own _ e).2 b (hf b (by simp)), Rr_rt (k.sub e (fun h => h) (O' := O) (fun b hb => ⟨rfl, hb⟩)) l b off n fps (fun b hb => hf b (by simp [hb])) hr⟩
      · rcases r with rfl | ⟨b, off, ha, ht, hr⟩
        · exact .inl rfl
        · exact .inr ⟨b, off, ha, k.tg e ht, Rr_rt (k.sub e hd (O' := fun _ => False) (fun _ hb => hb.elim)) l b off n [] (by simp) hr⟩
  | .vptr g c off, v, fp, _, r => by
    simp only [rt]
    cases e : f g with
    | none => simp [R]
    | some g' =>
      simp only [R] at r ⊢
      rcases r with r | ⟨hfp, b, o, cs, hv, ht, hcs, hc, hr⟩
      · exact .inl ⟨k.dead e r.1, trivial⟩
      by_cases hd : E.dead g
      · exact .inl ⟨k.dead e hd, trivial⟩
      exact .inr ⟨trivial, b, o, cs, hv, k.tg e ht, hcs, hc, Rc_rt (k.sub e hd (O' := fun _ => False) (fun _ hb => hb.elim)) c cs [] (by simp) hr⟩
  | .obj i ver, v, fp, _, r => by
    cases h with
    | false => simp [rt, R, AV.kept]
    | true => simp only [R, rt, AV.kept, if_true] at r ⊢; exact ⟨trivial, k.hh rfl _ _ _ r.2⟩
  | .ptr i ver idx off, v, fp, _, r => by
    cases h with
    | false => simp [rt, R, AV.kept]
    | true => simp only [R, rt, AV.kept, if_true] at r ⊢; exact ⟨trivial, k.hl rfl _ _ _ _ _ r.2⟩
  | .agg c, v, fp, hf, r => by
    simp only [R, rt] at r ⊢
    obtain ⟨cs, hv, hc, hr⟩ := r
    exact ⟨cs, hv, hc, Rc_rt k c cs fp hf hr⟩
  | .tup c, v, fp, hf, r => by
    simp only [R, rt] at r ⊢
    obtain ⟨cs, hv, hr⟩ := r
    exact ⟨cs, hv, Rc_rt k c cs fp hf hr⟩
  | .fn g c, v, fp, _, r => by
    simp only [R, rt] at r ⊢
    obtain ⟨hfp, cs, hv, hr⟩ := r
    exact ⟨trivial, cs, hv, Rc_rt k c cs [] (by simp) hr⟩
  | .undef, _, _, _, _ => by simp [R, rt]
theorem Rc_rt {w : World} {f : Tg → Option Tg} {h : Bool} {E E' : Env} {O : Nat → Prop} (k : Retags f h E E' O) : ∀ (c : List AV) (cs : List Value) (fp : List Nat), (∀ b ∈ fp, O b) → Rc w E c cs fp → Rc w E' (rtc f h c) cs []
  | [], [], _, _, _ => by simp [Rc, rtc]
  | [], _ :: _, _, _, r => by simp [Rc] at r
  | _ :: _, [], _, _, r => by simp [Rc] at r
  | x :: xs, c :: cs, fp, hf, r => by
    simp only [Rc, rtc] at r ⊢
    obtain ⟨f1, f2, h1, h2, rfl⟩ := r
    exact ⟨[], [], R_rt k x c f1 (fun b hb => hf b (by simp [hb])) h1, Rc_rt k xs cs f2 (fun b hb => hf b (by simp [hb])) h2, rfl⟩
theorem Rr_rt {w : World} {f : Tg → Option Tg} {h : Bool} {E E' : Env} {O : Nat → Prop} (k : Retags f h E E' O) : ∀ (l : List (List AV)) (b off n : Nat) (fp : List Nat), (∀ b ∈ fp, O b) → Rr w E l b off n fp → Rr w E' (rtr f h l) b off n []
  | [], _, _, _, _, _, _ => by simp [Rr, rtr]
  | e :: es, b, off, n, fp, hf, r => by
    simp only [Rr, rtr] at r ⊢
    obtain ⟨cs, f1, f2, hn, hcs, hc, h1, h2, rfl⟩ := r
    exact ⟨cs, [], [], hn, hcs, hc, Rc_rt k e cs f1 (fun b hb => hf b (by simp [hb])) h1, Rr_rt k es b (off + n) n f2 (fun b hb => hf b (by simp [hb])) h2, rfl⟩
end
end Go.Aw
