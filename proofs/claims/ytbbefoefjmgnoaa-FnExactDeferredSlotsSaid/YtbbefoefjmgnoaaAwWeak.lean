/-
  Proved here: how a state may forget what is no longer used.
  No condition beyond what each statement spells out.
-/
import Derived.Test.YtbbefoefjmgnoaaAwData
set_option linter.all false
namespace Go.Aw

mutual
/-- A value that speaks of the first m objects alone. -/
def closed (m : Nat) : AV → Bool
  | .obj i _ => decide (i < m)
  | .ptr i _ _ _ => decide (i < m)
  | .sl (.dep i) _ _ => decide (i < m)
  | .vptr (.dep i) _ _ => decide (i < m)
  | .agg c => closedc m c
  | .tup c => closedc m c
  | .fn _ c => closedc m c
  | _ => true
def closedc (m : Nat) : List AV → Bool
  | [] => true
  | x :: xs => closed m x && closedc m xs
end

theorem look_take {o : List AObj} {G : List CO} {m i : Nat} {ob : AObj} {g : CO} : look (o.take m) (G.take m) i ob g ↔ i < m ∧ look o G i ob g := by
  unfold look
  rw [List.getElem?_take, List.getElem?_take]
  by_cases h : i < m <;> simp [h]

theorem env_take {B : Base} {o : List AObj} {G : List CO} {w : World} (m : Nat) : (∀ b, (env B o G w).A b → (env B (o.take m) (G.take m) w).A b) ∧
    (∀ i, i < m → ((env B (o.take m) (G.take m) w).V i ↔ (env B o G w).V i)) ∧ (∀ i b, i < m → (env B o G w).D i b → (env B (o.take m) (G.take m) w).D i b) := by
  refine ⟨fun b h => ⟨h.1, fun i ob g hl => h.2 i ob g (look_take.1 hl).2⟩, fun i hi => ?_, fun i b hi h => ?_⟩
  · simp only [env, List.getElem?_take, hi, if_true]
  · obtain ⟨ob, g, hl, h⟩ := h
    exact ⟨ob, g, look_take.2 ⟨hi, hl⟩, h⟩

theorem keeps_sub_take {B : Base} {o : List AObj} {G : List CO} {w : World} {m i : Nat} (hi : i < m) : Keeps w ((env B o G w).sub (.dep i)) w ((env B (o.take m) (G.take m) w).sub (.dep i)) := by
  have h := env_take (B := B) (o := o) (G := G) (w := w) m
  exact ⟨fun b hb => ⟨h.1 b hb, rfl⟩, fun _ _ => trivial, fun j b _ hd => ⟨⟨hd.1, h.2.2 i b hi hd.2⟩, rfl⟩, fun _ _ _ h => h.elim, fun _ _ _ _ _ h => h.elim⟩

theorem keeps_plain_take {B : Base} {o : List AObj} {G : List CO} {w : World} (m : Nat) : Keeps w (env B o G w).plain w (env B (o.take m) (G.take m) w).plain := by
  have h := env_take (B := B) (o := o) (G := G) (w := w) m
  exact ⟨fun b hb => ⟨h.1 b hb, rfl⟩, fun _ _ => trivial, fun _ _ _ h => h.elim, fun _ _ _ h => h.elim, fun _ _ _ _ _ h => h.elim⟩

mutual
theorem R_closed {B : Base} {o : List AObj} {G : List CO} {w : World} {m : Nat} : ∀ (x : AV) (v : Value) (fp : List Nat), closed m x = true → R w (env B o G w) x v fp → R w (env B (o.take m) (G.take m) w) x v fp
  | .int _ _, _, _, _, h => by simpa [R] using h
  | .bool _, _, _, _, h => by simpa [R] using h
  | .str _, _, _, _, h => by simpa [R] using h
  | .sl .own n l, v, fp, _, h => by
    obtain ⟨a, cap, hv, hown⟩ := R_own.1 h
    exact R_own.2 ⟨a, cap, hv, hown.keeps (keeps_plain_take m) (fun _ _ => rfl)⟩
  | .sl .view n l, v, fp, _, h => by
    simp only [R] at h ⊢
    rcases h with h | ⟨a, cap, hv, hl, h⟩
    · exact h.1.elim
    · refine .inr ⟨a, cap, hv, hl, ?_⟩
      rcases h with h | h | ⟨hg, hf, h⟩
      · exact absurd h.1 (by simp)
      · exact absurd h.1 (by simp)
      · refine .inr (.inr ⟨hg, hf, ?_⟩)
        rcases h with h | ⟨b, off, ha, ht, hr⟩
        · exact .inl h
        · exact .inr ⟨b, off, ha, (env_take m).1 b ht, Rr_keeps (keeps_plain_take m) _ _ _ _ _ rfl (by simp) hr⟩
  | .sl (.dep i) n l, v, fp, hc, h => by
    have hi : i < m := by simpa [closed] using hc
    simp only [R] at h ⊢
    rcases h with h | ⟨a, cap, hv, hl, h⟩
    · exact .inl ⟨fun hV => h.1 (((env_take m).2.1 i hi).1 hV), h.2⟩
    · refine .inr ⟨a, cap, hv, hl, ?_⟩
      rcases h with h | h | ⟨hg, hf, h⟩
      · exact absurd h.1 (by simp)
      · exact absurd h.1 (by simp)
      · refine .inr (.inr ⟨hg, hf, ?_⟩)
        rcases h with h | ⟨b, off, ha, ht, hr⟩
        · exact .inl h
        · exact .inr ⟨b, off, ha, (env_take m).2.2 i b hi ht, Rr_keeps (keeps_sub_take hi) _ _ _ _ _ rfl (by simp) hr⟩
  | .vptr .own c off, v, fp, _, h => by
    simp only [R] at h ⊢
    rcases h with h | ⟨_, _, _, _, _, ht, _⟩
    · exact h.1.elim
    · exact ht.elim
  | .vptr .view c off, v, fp, _, h => by
    simp only [R] at h ⊢
    rcases h with h | ⟨hf, b, o', cs, hv, ht, hcs, hone, hr⟩
    · exact h.1.elim
    · exact .inr ⟨hf, b, o', cs, hv, (env_take m).1 b ht, hcs, hone, Rc_keeps (keeps_plain_take m) _ _ _ (by simp) hr⟩
  | .vptr (.dep i) c off, v, fp, hc, h => by
    have hi : i < m := by simpa [closed] using hc
    simp only [R] at h ⊢
    rcases h with h | ⟨hf, b, o', cs, hv, ht, hcs, hone, hr⟩
    · exact .inl ⟨fun hV => h.1 (((env_take m).2.1 i hi).1 hV), h.2⟩
    · exact .inr ⟨hf, b, o', cs, hv, (env_take m).2.2 i b hi ht, hcs, hone, Rc_keeps (keeps_sub_take hi) _ _ _ (by simp) hr⟩
  | .obj i ver, v, fp, hc, h => by
    have hi : i < m := by simpa [closed] using hc
    simp only [R] at h ⊢
    obtain ⟨hf, ob, g, hl, h⟩ := h
    exact ⟨hf, ob, g, look_take.2 ⟨hi, hl⟩, h⟩
  | .ptr i ver idx off, v, fp, hc, h => by
    have hi : i < m := by simpa [closed] using hc
    simp only [R] at h ⊢
    obtain ⟨hf, ob, g, hl, h⟩ := h
    exact ⟨hf, ob, g, look_take.2 ⟨hi, hl⟩, h⟩
  | .agg c, v, fp, hc, h => by
    simp only [R] at h ⊢
    obtain ⟨cs, h1, h2, h3⟩ := h
    exact ⟨cs, h1, h2, Rc_closed c cs fp (by simpa [closed] using hc) h3⟩
  | .tup c, v, fp, hc, h => by
    simp only [R] at h ⊢
    obtain ⟨cs, h1, h3⟩ := h
    exact ⟨cs, h1, Rc_closed c cs fp (by simpa [closed] using hc) h3⟩
  | .fn f c, v, fp, hc, h => by
    simp only [R] at h ⊢
    obtain ⟨h0, cs, h1, h3⟩ := h
    exact ⟨h0, cs, h1, Rc_closed c cs [] (by simpa [closed] using hc) h3⟩
  | .undef, _, _, _, h => by simpa [R] using h
theorem Rc_closed {B : Base} {o : List AObj} {G : List CO} {w : World} {m : Nat} : ∀ (c : List AV) (cs : List Value) (fp : List Nat), closedc m c = true → Rc w (env B o G w) c cs fp → Rc w (env B (o.take m) (G.take m) w) c cs fp
  | [], [], _, _, h => by simpa [Rc] using h
  | [], _ :: _, _, _, h => by simp [Rc] at h
  | _ :: _, [], _, _, h => by simp [Rc] at h
  | x :: xs, c :: cs, fp, hc, h => by
    simp only [Rc] at h ⊢
    simp only [closedc, Bool.and_eq_true] at hc
    obtain ⟨f1, f2, h1, h2, h3⟩ := h
    exact ⟨f1, f2, R_closed x c f1 hc.1 h1, Rc_closed xs cs f2 hc.2 h2, h3⟩
end

/-- The boxes of a state speak of its first m objects. -/
def closedo (m : Nat) : List AObj → Bool
  | [] => true
  | ob :: r => (!ob.box || match ob.els with
    | [e] => closedc m e
    | _ => false) && closedo m r

theorem closedo_mem {m : Nat} : ∀ {o : List AObj}, closedo m o = true → ∀ ob ∈ o, ob.box = true → ∃ e, ob.els = [e] ∧ closedc m e = true
  | ob :: r, h, x, hx, hb => by
    simp only [closedo, Bool.and_eq_true] at h
    rcases List.mem_cons.1 hx with rfl | hx
    · have h1 := h.1
      rw [hb] at h1
      simp only [Bool.not_true, Bool.false_or] at h1
      split at h1
      · rename_i e he; exact ⟨e, he, h1⟩
      · cases h1
    · exact closedo_mem h.2 x hx hb

/-- The last objects are forgotten. -/
theorem weak_take {t t' : List AV} {o o' : List AObj} (m : Nat) (ho : o.take m = o') (h : wk t t') (hc : closedc m t' = true) (hb : closedo m o' = true) : Weak ⟨t, o⟩ ⟨t', o'⟩ := by
  subst ho
  rintro B a w ⟨G, r⟩
  refine ⟨G.take m, ?_⟩
  exact
    { len := by simp [r.len]
      defs := r.defs
      ok := fun i ob g hl hlive => by
        have hl' := (look_take.1 hl).2
        obtain ⟨fp, hown, hnd, hF⟩ := r.ok i ob g hl' hlive
        refine ⟨fp, ?_, hnd, hF⟩
        cases hbx : ob.box with
        | false =>
          rw [hbx] at hown
          exact hown.keeps (keeps_plain_take m) (fun _ _ => rfl)
        | true =>
          rw [hbx] at hown
          obtain ⟨e, he, hce⟩ := closedo_mem hb ob (List.mem_of_getElem? hl.1) hbx
          rw [he] at hown ⊢
          obtain ⟨hlen, hown⟩ := hown
          refine ⟨hlen, ?_⟩
          rcases hown with h | ⟨b, off, C, ety, fz, fps, ha, hbk, hz, h1, h2, h3, rfl, hr⟩
          · exact .inl h
          · refine .inr ⟨b, off, C, ety, fz, fps, ha, hbk, hz, h1, h2, h3, rfl, ?_⟩
            simp only [Rr] at hr ⊢
            obtain ⟨cs, f1, f2, k1, k2, k3, k4, k5, k6⟩ := hr
            exact ⟨cs, f1, f2, k1, k2, k3, Rc_closed e cs f1 hce k4, k5, k6⟩
      apart := fun i j oi oj gi gj b hi hj h1 h2 h3 h4 => r.apart i j _ _ _ _ b (look_take.1 hi).2 (look_take.1 hj).2 h1 h2 h3 h4
      fresh := fun i ob g b hl h1 h2 => r.fresh i ob g b (look_take.1 hl).2 h1 h2
      tmps := Rc_closed _ _ _ hc (Rc_wk h r.tmps)
      size := r.size
      frame := r.frame
      base := r.base
      same := r.same }

theorem weak_o {t t' : List AV} {o o' : List AObj} (ho : o = o') (h : wk t t') : Weak ⟨t, o⟩ ⟨t', o'⟩ := ho ▸ weak_t h

attribute [simp] closed closedc closedo
end Go.Aw
