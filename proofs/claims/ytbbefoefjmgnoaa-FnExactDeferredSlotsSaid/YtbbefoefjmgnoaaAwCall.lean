/-
  Proved here: a call by its contract.
  No condition beyond what each statement spells out.
-/
import Derived.Test.YtbbefoefjmgnoaaAwRes
set_option linter.all false
namespace Go.Aw

def callable (P : Program) (f : FuncId) : Bool :=
  match P.funcs[f]? with
  | some fn => !(fn.name == "runtime.NumGoroutine") && fn.body.isSome
  | none => false

theorem run_callFunc {P : Program} {f : FuncId} (h : callable P f = true) (args : Array Value) (w : World) : (callFunc f args).run P w = .ok (.enter f args) w := by
  unfold callable at h
  split at h
  · rename_i fn hf
    simp only [Bool.and_eq_true, Bool.not_eq_true'] at h
    cases hx : fn.body with
    | none => simp [hx] at h
    | some c =>
      have hne : fn.name ≠ "runtime.NumGoroutine" := by simpa using h.1
      simp [callFunc, hf, hne, hx]
  · cases h

def AS.args (s : AS) (l : Array Operand) : List AV := l.toList.map s.ev

theorem Rc_map_ev {B : Base} {s : AS} {G : List CO} {a : Act} {w : World} (r : Rel' B s G a w) : ∀ l : List Operand, Rc w (env B s.o G w) (l.map s.ev) (l.map a.eval) []
  | [] => by simp [Rc]
  | x :: xs => by simp only [List.map_cons, Rc]; exact ⟨[], [], r.ev x, Rc_map_ev r xs, rfl⟩

/-- The state behind a call. -/
def AS.called (s : AS) (d : Option Tmp) (r : AV) : AS := AS.put ⟨s.t, s.o ++ (absorb 1 s.o.length r).2⟩ d (absorb 1 s.o.length r).1

theorem Keeps.refl (w : World) (E : Env) : Keeps w E w E := ⟨fun _ h => ⟨h, rfl⟩, fun _ h => h, fun _ _ _ h => ⟨h, rfl⟩, fun _ _ _ h => h, fun _ _ _ _ _ h => h⟩

theorem Keeps.trans {w : World} {E E' E'' : Env} (k : Keeps w E w E') (k' : Keeps w E' w E'') : Keeps w E w E'' :=
  ⟨fun b h => ⟨(k'.a b (k.a b h).1).1, rfl⟩, fun i h => k.v i (k'.v i h), fun i b hv h => ⟨(k'.d i b hv (k.d i b (k'.v i hv) h).1).1, rfl⟩, fun i v x h => k'.h i v x (k.h i v x h), fun i v j o x h => k'.l i v j o x (k.l i v j o x h)⟩

mutual
def clean : AV → Bool
  | .sl .own _ l => cleanr l
  | .sl _ _ l => l.isEmpty
  | .vptr _ _ _ => false
  | .agg c => cleanc c
  | .tup c => cleanc c
  | .fn _ c => cleanc c
  | _ => true
def cleanc : List AV → Bool
  | [] => true
  | x :: xs => clean x && cleanc xs
def cleanr : List (List AV) → Bool
  | [] => true
  | x :: xs => cleanc x && cleanr xs
end

mutual
theorem R_clean {w : World} {E E' : Env} (hv : ∀ i, E'.V i → E.V i) (hd : E.D = fun _ _ => False) (hh : E.H = fun _ _ _ => False) (hl : E.L = fun _ _ _ _ _ => False) : ∀ (av : AV) (v : Value) (fp : List Nat), clean av = true → R w E av v fp → R w E' av v fp
  | .sl .own n l, v, fp, hc, h => by
    obtain ⟨a, cap, rfl, hlen, hown⟩ := R_own.1 h
    refine R_own.2 ⟨a, cap, rfl, hlen, ?_⟩
    rcases hown with h | ⟨b, off, C, e, fz, fps, ha, hb, hz, h1, h2, h3, rfl, hr⟩
    · exact .inl h
    · exact .inr ⟨b, off, C, e, fz, fps, ha, hb, hz, h1, h2, h3, rfl, Rr_clean (E := E.plain) (E' := E'.plain) (fun _ _ => trivial) rfl rfl rfl l b off n fps (by simpa [clean] using hc) hr⟩
  | .sl .view n l, v, fp, hc, h => by
    have : l = [] := by simpa [clean] using hc
    subst this
    simp only [R] at h ⊢
    rcases h with h | ⟨a, cap, hv', hl', h⟩
    · exact h.1.elim
    · exact .inr ⟨a, cap, hv', hl', .inr (.inr ⟨by simp, by rcases h with h | h | h; exact h.2.2.2; exact absurd h.1 (by simp); exact h.2.1, .inl trivial⟩)⟩
  | .sl (.dep i) n l, v, fp, hc, h => by
    have : l = [] := by simpa [clean] using hc
    subst this
    simp only [R] at h ⊢
    rcases h with h | ⟨a, cap, hv', hl', h⟩
    · exact .inl ⟨fun hd => h.1 (hv i hd), h.2⟩
    · exact .inr ⟨a, cap, hv', hl', .inr (.inr ⟨by simp, by rcases h with h | h | h; exact h.2.2.2; exact absurd h.1 (by simp); exact h.2.1, .inl trivial⟩)⟩
  | .int _ _, _, _, _, h => by simpa [R] using h
  | .bool _, _, _, _, h => by simpa [R] using h
  | .str _, _, _, _, h => by simpa [R] using h
  | .vptr _ _ _, _, _, hc, _ => by simp [clean] at hc
  | .obj _ _, _, _, _, h => by simp only [R, hh] at h; exact h.2.elim
  | .ptr _ _ _ _, _, _, _, h => by simp only [R, hl] at h; exact h.2.elim
  | .agg c, v, fp, hc, h => by
    simp only [R] at h ⊢
    obtain ⟨cs, h1, h2, h3⟩ := h
    exact ⟨cs, h1, h2, Rc_clean hv hd hh hl c cs fp (by simpa [clean] using hc) h3⟩
  | .tup c, v, fp, hc, h => by
    simp only [R] at h ⊢
    obtain ⟨cs, h1, h3⟩ := h
    exact ⟨cs, h1, Rc_clean hv hd hh hl c cs fp (by simpa [clean] using hc) h3⟩
  | .fn f c, v, fp, hc, h => by
    simp only [R] at h ⊢
    obtain ⟨h0, cs, h1, h3⟩ := h
    exact ⟨h0, cs, h1, Rc_clean hv hd hh hl c cs [] (by simpa [clean] using hc) h3⟩
  | .undef, _, _, _, h => by simpa [R] using h
theorem Rc_clean {w : World} {E E' : Env} (hv : ∀ i, E'.V i → E.V i) (hd : E.D = fun _ _ => False) (hh : E.H = fun _ _ _ => False) (hl : E.L = fun _ _ _ _ _ => False) : ∀ (c : List AV) (cs : List Value) (fp : List Nat), cleanc c = true → Rc w E c cs fp → Rc w E' c cs fp
  | [], [], _, _, h => by simpa [Rc] using h
  | [], _ :: _, _, _, h => by simp [Rc] at h
  | _ :: _, [], _, _, h => by simp [Rc] at h
  | x :: xs, c :: cs, fp, hc, h => by
    simp only [Rc] at h ⊢
    simp only [cleanc, Bool.and_eq_true] at hc
    obtain ⟨f1, f2, h1, h2, h3⟩ := h
    exact ⟨f1, f2, R_clean hv hd hh hl x c f1 hc.1 h1, Rc_clean hv hd hh hl xs cs f2 hc.2 h2, h3⟩
theorem Rr_clean {w : World} {E E' : Env} (hv : ∀ i, E'.V i → E.V i) (hd : E.D = fun _ _ => False) (hh : E.H = fun _ _ _ => False) (hl : E.L = fun _ _ _ _ _ => False) : ∀ (l : List (List AV)) (b off n : Nat) (fp : List Nat), cleanr l = true → Rr w E l b off n fp → Rr w E' l b off n fp
  | [], _, _, _, _, _, h => by simpa [Rr] using h
  | e :: es, b, off, n, fp, hc, h => by
    simp only [Rr] at h ⊢
    simp only [cleanr, Bool.and_eq_true] at hc
    obtain ⟨cs, f1, f2, h1, h2, h3, h4, h5, h6⟩ := h
    exact ⟨cs, f1, f2, h1, h2, h3, Rc_clean hv hd hh hl e cs f1 hc.1 h4, Rr_clean hv hd hh hl es b (off + n) n f2 hc.2 h5, h6⟩
end

section
variable {P : Program} {B : Base} {s : AS} {dst : Option Tmp} {ty : TypeId} {pos : String} {after : Array Edge} {gd : Option (Nat × Bool)}

theorem step_call (f : Operand) (args : Array Operand) (tys : Array TypeId) {g : FuncId} {cap : List AV} {rr : AV} (hf : s.ev f = .fn g cap) (hc : callable P g = true)
    (hok : Ok P g (argc s.o (s.args args ++ cap)) rr) :
    Step P B ⟨dst, .call { callee := .value f, args := args, argTypes := tys }, ty, pos, after, gd⟩ s (s.called dst rr) := by
  rintro a w next Q ⟨G, r⟩ hn
  have h1 := r.ev f
  rw [hf] at h1
  simp only [R] at h1
  obtain ⟨_, cs, hv, hcap⟩ := h1
  have hargs : Rc w (env B s.o G w) (s.args args ++ cap) (args.toList.map a.eval ++ cs) [] := by
    have := Rc_append (Rc_map_ev r args.toList) hcap
    simpa [AS.args] using this
  have hcall := hok w _ (Rc_arg r _ _ hargs)
  unfold Oper.wp
  have hrun : (execOp a.eval ⟨dst, .call { callee := .value f, args := args, argTypes := tys }, ty, pos, after, gd⟩).run P w = .ok (.enter g (args.toList.map a.eval ++ cs).toArray) w := by
    have e : args.map a.eval ++ cs.toArray = (args.toList.map a.eval ++ cs).toArray := by apply Array.ext'; simp
    simp [execOp, resolve, hv, Deferred.ofValue, invoke, run_callFunc hc, e]
  rw [hrun, Oper.upon_enter]
  refine hcall.mono fun e w' h => ?_
  obtain ⟨v, fp, rfl, hrr, hnd, hfr, hsz, hsame, hio⟩ := h
  refine hn _ _ ?_
  obtain ⟨Gs, hlen, hobj, hap, hdone⟩ := R_absorb (q := 1) rr v fp s.o.length hrr hnd
  have kn : ∀ E' : Env, Keeps w' envNone w' E' := fun E' => ⟨fun _ h => h.elim, fun _ _ => trivial, fun _ _ _ h => h.elim, fun _ _ _ h => h.elim, fun _ _ _ _ _ h => h.elim⟩
  have hadd := r.add (absorb 1 s.o.length rr).2 Gs w' hlen hsz hsame (fun j ob g b hl _ hF => by
      obtain ⟨_, _, _, f, _, _, h3, h4⟩ := hobj _ _ _ hl
      exact hfr _ (h4 _ ((h3 _).1 hF))) (fun i j oi oj gi gj b hi hj _ _ hfi hfj => hap _ _ _ _ _ _ b hi hj hfi hfj) (fun k j ob g hl _ => by
      obtain ⟨h1, h2, _, f, hown, h3, h4, h5⟩ := hobj _ _ _ hl
      refine ⟨f, ?_, h3, fun b hb => (h4 b).2 hb⟩
      exact hown.keeps ((kn _).plain.trans (by rw [h2]; exact Keeps.refl _ _)) (fun _ _ => rfl)) hio
  refine ⟨G ++ Gs, hadd.1.put dst ?_⟩
  refine hdone _ (kn _) fun j ob g hl => ?_
  obtain ⟨_, _, h3, _⟩ := hobj _ _ _ hl
  exact ⟨ob, g, look_app_right r.len hl, Nat.le_of_eq h3.symm, fun _ _ => rfl, fun h => absurd h (by decide)⟩
end
end Go.Aw
