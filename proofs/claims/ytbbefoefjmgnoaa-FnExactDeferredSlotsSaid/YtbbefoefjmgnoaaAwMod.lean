/-
  Proved here: how an owned object is changed, and how new ones are added.
  No condition beyond what each statement spells out.
-/
import Derived.Test.YtbbefoefjmgnoaaAwObj
set_option linter.all false
namespace Go.Aw

theorem look_set {o : List AObj} {G : List CO} {i j : Nat} {ob' : AObj} {g' : CO} {x : AObj} {y : CO} (h : look (o.set i ob') (G.set i g') j x y) :
    (j = i ∧ x = ob' ∧ y = g') ∨ (j ≠ i ∧ look o G j x y) := by
  obtain ⟨h1, h2⟩ := h
  rw [List.getElem?_set] at h1 h2
  by_cases hj : i = j
  · subst hj
    left
    simp only [if_true] at h1 h2
    split at h1
    · split at h2
      · exact ⟨rfl, (Option.some.inj h1).symm, (Option.some.inj h2).symm⟩
      · cases h2
    · cases h1
  · simp only [hj, if_false] at h1 h2
    exact .inr ⟨fun e => hj e.symm, h1, h2⟩

theorem look_set_self {o : List AObj} {G : List CO} {i : Nat} {ob' : AObj} {g' : CO} {x : AObj} {y : CO} (h : look o G i x y) : look (o.set i ob') (G.set i g') i ob' g' := by
  have h1 := (List.getElem?_eq_some_iff.1 h.1).1
  have h2 := (List.getElem?_eq_some_iff.1 h.2).1
  constructor <;> simp [h1, h2]

theorem look_set_ne {o : List AObj} {G : List CO} {i j : Nat} {ob' : AObj} {g' : CO} {x : AObj} {y : CO} (h : look o G j x y) (hj : j ≠ i) : look (o.set i ob') (G.set i g') j x y := by
  constructor
  · rw [List.getElem?_set_ne (Ne.symm hj)]; exact h.1
  · rw [List.getElem?_set_ne (Ne.symm hj)]; exact h.2

theorem look_inj {o : List AObj} {G : List CO} {i : Nat} {x x' : AObj} {y y' : CO} (h : look o G i x y) (h' : look o G i x' y') : x = x' ∧ y = y' :=
  ⟨Option.some.inj (h.1.symm.trans h'.1), Option.some.inj (h.2.symm.trans h'.2)⟩

theorem Rel'.same_of {B : Base} {s : AS} {G : List CO} {a : Act} {w : World} (r : Rel' B s G a w) {i : Nat} {ob : AObj} {g : CO} (hl : look s.o G i ob g) (hlive : ob.live = true) {w' : World}
    (hsame : ∀ b, b < w.heap.size → ¬ (g.F b ∧ ∃ a, g.a = some a ∧ b = a.block) → w'.heap[b]? = w.heap[b]?) :
    (∀ b, (env B s.o G w).A b → w'.heap[b]? = w.heap[b]?) ∧ (∀ j oj gj b, look s.o G j oj gj → oj.live = true → j ≠ i → gj.F b → w'.heap[b]? = w.heap[b]?) := by
  refine ⟨fun b hb => hsame b (env_lt r hb) (fun h => hb.2 i ob g hl hlive h.1), fun j oj gj b hj hjl hne hf => ?_⟩
  exact hsame b (r.fresh j oj gj b hj hjl hf).2 (fun h => hne (r.apart j i oj ob gj g b hj hl hjl hlive hf h.1))

/-- One object changes; of the old blocks only its own array may be written. -/
theorem Rel'.modify {B : Base} {s : AS} {G : List CO} {a : Act} {w : World} (r : Rel' B s G a w) {i : Nat} {ob : AObj} {g : CO} (hl : look s.o G i ob g) (hlive : ob.live = true)
    (ob' : AObj) (g' : CO) (w' : World) (hver : ob.ver ≤ ob'.ver) (hn : ob'.n = ob.n)
    (hhdr : ob'.ver = ob.ver → g'.a = g.a ∧ g'.cap = g.cap ∧ ob'.els.length = ob.els.length)
    (hF : ∀ b, g'.F b → g.F b ∨ (w.heap.size ≤ b ∧ b < w'.heap.size))
    (hD : ∀ b, g.F b → (∀ a, g.a = some a → b ≠ a.block) → g'.F b ∧ (∀ a, g'.a = some a → b ≠ a.block))
    (hsame : ∀ b, b < w.heap.size → ¬ (g.F b ∧ ∃ a, g.a = some a ∧ b = a.block) → w'.heap[b]? = w.heap[b]?)
    (hs : w.heap.size ≤ w'.heap.size)
    (ok' : Keeps w (env B s.o G w) w' (env B (s.o.set i ob') (G.set i g') w') → ob'.live = true → ObjOk w' (env B (s.o.set i ob') (G.set i g') w') ob' g') (same : Same w w' := by first | exact ⟨rfl, rfl, rfl⟩ | exact same_setCells _ _ _ _) :
    Rel' B ⟨s.t, s.o.set i ob'⟩ (G.set i g') a w' ∧ Keeps w (env B s.o G w) w' (env B (s.o.set i ob') (G.set i g') w') := by
  have hsm := r.same_of hl hlive hsame
  have k : Keeps w (env B s.o G w) w' (env B (s.o.set i ob') (G.set i g') w') := by
    refine env_keeps hs (fun b hb => ⟨env_lt r hb, hsm.1 b hb⟩) r.len ?_ ?_
    · intro j oj gj hj
      by_cases e : j = i
      · subst e
        obtain ⟨rfl, rfl⟩ := look_inj hl hj
        refine ⟨ob', g', look_set_self hl, hver, fun _ => ⟨hlive, hn, hhdr, fun b hf hne => ?_⟩⟩
        have := hD b hf hne
        exact ⟨this.1, this.2, hsame b (r.fresh j _ _ b hl hlive hf).2 (fun h => by obtain ⟨_, a, ha, rfl⟩ := h; exact hne a ha rfl)⟩
      · refine ⟨oj, gj, look_set_ne hj e, Nat.le_refl _, fun hjl => ⟨hjl, rfl, fun _ => ⟨rfl, rfl, rfl⟩, fun b hf hne => ⟨hf, hne, hsm.2 j oj gj b hj hjl e hf⟩⟩⟩
    · intro j oj gj b hj hjl hf
      rcases look_set hj with ⟨rfl, rfl, rfl⟩ | ⟨_, hj'⟩
      · rcases hF b hf with h | h
        · exact .inr ⟨j, ob, g, hl, hlive, h⟩
        · exact .inl h.1
      · exact .inr ⟨j, oj, gj, hj', hjl, hf⟩
  refine ⟨r.next k (by simp [r.len]) ?_ ?_ ?_ hs ?_ same, k⟩
  · intro j oj gj hj hjl
    rcases look_set hj with ⟨rfl, rfl, rfl⟩ | ⟨hne, hj'⟩
    · exact ok' k hjl
    · exact (r.ok j oj gj hj' hjl).keeps k (fun b hb => hsm.2 j oj gj b hj' hjl hne hb)
  · intro j1 j2 o1 o2 g1 g2 b h1 h2 hl1 hl2 hf1 hf2
    rcases look_set h1 with ⟨rfl, rfl, rfl⟩ | ⟨hne1, h1'⟩ <;> rcases look_set h2 with ⟨rfl, rfl, rfl⟩ | ⟨hne2, h2'⟩
    · rfl
    · exfalso
      rcases hF b hf1 with h | h
      · exact hne2 (r.apart _ _ _ _ _ _ b h2' hl hl2 hlive hf2 h)
      · have := (r.fresh _ _ _ b h2' hl2 hf2).2; omega
    · exfalso
      rcases hF b hf2 with h | h
      · exact hne1 (r.apart _ _ _ _ _ _ b h1' hl hl1 hlive hf1 h)
      · have := (r.fresh _ _ _ b h1' hl1 hf1).2; omega
    · exact r.apart _ _ _ _ _ _ b h1' h2' hl1 hl2 hf1 hf2
  · intro j oj gj b hj hjl hf
    rcases look_set hj with ⟨rfl, rfl, rfl⟩ | ⟨hne, hj'⟩
    · rcases hF b hf with h | h
      · have := r.fresh _ _ _ b hl hlive h
        exact ⟨this.1, Nat.lt_of_lt_of_le this.2 hs⟩
      · exact ⟨.inr (Nat.le_trans r.size h.1), h.2⟩
    · have := r.fresh _ _ _ b hj' hjl hf
      exact ⟨this.1, Nat.lt_of_lt_of_le this.2 hs⟩
  · intro b hb hO
    refine hsame b (Nat.lt_of_lt_of_le hb r.size) (fun h => ?_)
    have := (r.fresh _ _ _ b hl hlive h.1).1
    rcases this with h | h
    · exact hO h
    · omega

theorem look_app {o o2 : List AObj} {G G2 : List CO} (hlen : G.length = o.length) {i : Nat} {x : AObj} {y : CO} (h : look (o ++ o2) (G ++ G2) i x y) :
    (i < o.length ∧ look o G i x y) ∨ (o.length ≤ i ∧ look o2 G2 (i - o.length) x y) := by
  obtain ⟨h1, h2⟩ := h
  by_cases hi : i < o.length
  · rw [List.getElem?_append_left hi] at h1
    rw [List.getElem?_append_left (by omega)] at h2
    exact .inl ⟨hi, h1, h2⟩
  · rw [List.getElem?_append_right (by omega)] at h1
    rw [List.getElem?_append_right (by omega), hlen] at h2
    exact .inr ⟨by omega, h1, h2⟩

theorem look_app_left {o o2 : List AObj} {G G2 : List CO} {i : Nat} {x : AObj} {y : CO} (h : look o G i x y) : look (o ++ o2) (G ++ G2) i x y := by
  have h1 := (List.getElem?_eq_some_iff.1 h.1).1
  have h2 := (List.getElem?_eq_some_iff.1 h.2).1
  exact ⟨by rw [List.getElem?_append_left h1]; exact h.1, by rw [List.getElem?_append_left h2]; exact h.2⟩

theorem look_app_right {o o2 : List AObj} {G G2 : List CO} (hlen : G.length = o.length) {i : Nat} {x : AObj} {y : CO} (h : look o2 G2 i x y) : look (o ++ o2) (G ++ G2) (o.length + i) x y := by
  refine ⟨by rw [List.getElem?_append_right (by omega), Nat.add_sub_cancel_left]; exact h.1, ?_⟩
  rw [List.getElem?_append_right (by omega), hlen, Nat.add_sub_cancel_left]; exact h.2

/-- New objects in new blocks. -/
theorem Rel'.add {B : Base} {s : AS} {G : List CO} {a : Act} {w : World} (r : Rel' B s G a w) (obs : List AObj) (Gs : List CO) (w' : World) (hlen : Gs.length = obs.length)
    (hs : w.heap.size ≤ w'.heap.size) (hsame : ∀ b, b < w.heap.size → w'.heap[b]? = w.heap[b]?)
    (hF : ∀ j ob g b, look obs Gs j ob g → ob.live = true → g.F b → w.heap.size ≤ b ∧ b < w'.heap.size)
    (hap : ∀ i j oi oj gi gj b, look obs Gs i oi gi → look obs Gs j oj gj → oi.live = true → oj.live = true → gi.F b → gj.F b → i = j)
    (ok : Keeps w (env B s.o G w) w' (env B (s.o ++ obs) (G ++ Gs) w') → ∀ j ob g, look obs Gs j ob g → ob.live = true → ObjOk w' (env B (s.o ++ obs) (G ++ Gs) w') ob g) (same : Same w w' := by first | exact ⟨rfl, rfl, rfl⟩ | exact same_setCells _ _ _ _) :
    Rel' B ⟨s.t, s.o ++ obs⟩ (G ++ Gs) a w' ∧ Keeps w (env B s.o G w) w' (env B (s.o ++ obs) (G ++ Gs) w') := by
  have k : Keeps w (env B s.o G w) w' (env B (s.o ++ obs) (G ++ Gs) w') := by
    refine env_keeps hs (fun b hb => ⟨env_lt r hb, hsame b (env_lt r hb)⟩) r.len ?_ ?_
    · intro j oj gj hj
      exact ⟨oj, gj, look_app_left hj, Nat.le_refl _, fun hjl => ⟨hjl, rfl, fun _ => ⟨rfl, rfl, rfl⟩, fun b hf hne => ⟨hf, hne, hsame b (r.fresh j oj gj b hj hjl hf).2⟩⟩⟩
    · intro j oj gj b hj hjl hf
      rcases look_app r.len hj with ⟨_, h⟩ | ⟨_, h⟩
      · exact .inr ⟨j, oj, gj, h, hjl, hf⟩
      · exact .inl (hF _ _ _ b h hjl hf).1
  refine ⟨r.next k (by simp [r.len, hlen]) ?_ ?_ ?_ hs ?_ same, k⟩
  · intro j oj gj hj hjl
    rcases look_app r.len hj with ⟨_, h⟩ | ⟨_, h⟩
    · exact (r.ok j oj gj h hjl).keeps k (fun b hb => hsame b (r.fresh j oj gj b h hjl hb).2)
    · exact ok k _ _ _ h hjl
  · intro j1 j2 o1 o2 g1 g2 b h1 h2 hl1 hl2 hf1 hf2
    rcases look_app r.len h1 with ⟨_, h1⟩ | ⟨hj1, h1⟩ <;> rcases look_app r.len h2 with ⟨_, h2⟩ | ⟨hj2, h2⟩
    · exact r.apart _ _ _ _ _ _ b h1 h2 hl1 hl2 hf1 hf2
    · have := (r.fresh _ _ _ b h1 hl1 hf1).2
      have := (hF _ _ _ b h2 hl2 hf2).1
      omega
    · have := (r.fresh _ _ _ b h2 hl2 hf2).2
      have := (hF _ _ _ b h1 hl1 hf1).1
      omega
    · have := hap _ _ _ _ _ _ b h1 h2 hl1 hl2 hf1 hf2
      omega
  · intro j oj gj b hj hjl hf
    rcases look_app r.len hj with ⟨_, h⟩ | ⟨_, h⟩
    · have := r.fresh _ _ _ b h hjl hf
      exact ⟨this.1, Nat.lt_of_lt_of_le this.2 hs⟩
    · have := hF _ _ _ b h hjl hf
      exact ⟨.inr (Nat.le_trans r.size this.1), this.2⟩
  · intro b hb hO
    exact hsame b (Nat.lt_of_lt_of_le hb r.size)
end Go.Aw
