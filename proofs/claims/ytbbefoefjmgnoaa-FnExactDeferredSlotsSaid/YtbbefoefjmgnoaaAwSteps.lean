/-
  Proved here: steps of single operations, first part.
  No condition beyond what each statement spells out.
-/
import Derived.Test.YtbbefoefjmgnoaaAwCall
set_option linter.all false
namespace Go.Aw

/-- A value without handles and without what an object owns. -/
def AV.solid : AV → Bool
  | .undef => false
  | .tup _ => false
  | .agg _ => false
  | .obj _ _ => false
  | .ptr _ _ _ _ => false
  | .sl (.dep _) _ _ => false
  | .vptr (.dep _) _ _ => false
  | .fn _ (_ :: _) => false
  | _ => true

theorem R_solid {w : World} {E E' : Env} (hA : ∀ b, E.A b → E'.A b) {x : AV} {v : Value} (hs : x.solid = true) (h : R w E x v []) : R w E' x v [] := by
  cases x with
  | int _ _ => simpa [R] using h
  | bool _ => simpa [R] using h
  | str _ => simpa [R] using h
  | sl g n l =>
    cases g with
    | own =>
      rw [R_own] at h ⊢
      obtain ⟨a, cap, hv, hl, h⟩ := h
      refine ⟨a, cap, hv, hl, .inl ?_⟩
      rcases h with h | ⟨_, _, _, _, _, _, _, _, _, _, _, _, hf, _⟩
      · exact h
      · cases hf
    | view =>
      refine R_keeps (w := w) (E := E.plain) (E' := E') ⟨fun b h => ⟨hA b h, rfl⟩, fun _ _ => trivial, fun _ _ _ h => h.elim, fun _ _ _ h => h.elim, fun _ _ _ _ _ h => h.elim⟩ _ _ _ (by simp) ?_
      simp only [R] at h ⊢; exact h
    | dep i => cases hs
  | vptr g c off =>
    cases g with
    | own => simp only [R] at h; rcases h with h | ⟨_, _, _, _, _, h, _⟩; exact h.1.elim; exact h.elim
    | view =>
      refine R_keeps (w := w) (E := E.plain) (E' := E') ⟨fun b h => ⟨hA b h, rfl⟩, fun _ _ => trivial, fun _ _ _ h => h.elim, fun _ _ _ h => h.elim, fun _ _ _ _ _ h => h.elim⟩ _ _ _ (by simp) ?_
      simp only [R] at h ⊢; exact h
    | dep i => cases hs
  | obj _ _ => cases hs
  | ptr _ _ _ _ => cases hs
  | agg _ => cases hs
  | tup _ => cases hs
  | fn f c =>
    cases c with
    | nil => simp only [R] at h ⊢; obtain ⟨h1, cs, h2, h3⟩ := h; refine ⟨trivial, cs, h2, ?_⟩; cases cs <;> simp_all [Rc]
    | cons _ _ => cases hs
  | undef => cases hs

theorem Rc_solid {w : World} {E E' : Env} (hA : ∀ b, E.A b → E'.A b) : ∀ {c : List AV} {cs : List Value}, c.all AV.solid = true → Rc w E c cs [] → Rc w E' c cs []
  | [], [], _, _ => by simp [Rc]
  | [], _ :: _, _, h => by simp [Rc] at h
  | _ :: _, [], _, h => by simp [Rc] at h
  | x :: xs, c :: cs, hs, h => by
    simp only [Rc] at h ⊢
    simp only [List.all_cons, Bool.and_eq_true] at hs
    obtain ⟨f1, f2, h1, h2, e⟩ := h
    obtain ⟨rfl, rfl⟩ : f1 = [] ∧ f2 = [] := by simpa using e
    exact ⟨[], [], R_solid hA hs.1 h1, Rc_solid hA hs.2 h2, rfl⟩

section
variable {P : Program} {B : Base} {s : AS} {dst : Option Tmp} {ty : TypeId} {pos : String} {after : Array Edge} {gd : Option (Nat × Bool)}

/-- New cells in an element of an object. -/
def AS.stored (s : AS) (i idx off : Nat) (ob : AObj) (e c : List AV) : AS := ⟨s.t, s.o.set i { ob with els := ob.els.set idx (e.take off ++ c ++ e.drop (off + c.length)) }⟩

theorem Rel'.stored {G : List CO} {a : Act} {w : World} (r : Rel' B s G a w) {i idx off : Nat} {ob : AObj} {g : CO} {e c : List AV} {vs : List Value} (hl : Aw.look s.o G i ob g) (hlive : ob.live = true) (he : ob.els[idx]? = some e)
    (hfit : off + c.length ≤ e.length) (hbox : ob.box = true ∨ c.all AV.solid = true) (hone : ∀ x ∈ vs, x.oneCell' = true) (hr : Rc w (env B s.o G w) c vs []) :
    ∃ b f, g.a = some ⟨b, f, none⟩ ∧ (storeCells ⟨b, f + (idx * ob.n + off), none⟩ vs).run P w = .ok () (w.setCells b (f + (idx * ob.n + off)) vs) ∧
      Rel' B (s.stored i idx off ob e c) (G.set i g) a (w.setCells b (f + (idx * ob.n + off)) vs) := by
  obtain ⟨fp, hown, hnd, hF⟩ := r.ok i ob g hl hlive
  have hvl := Rc_length hr
  rcases hown with ⟨hlen, ⟨h, _⟩ | ⟨b, f, C, ty, fz, fps, ha, hb, hz, h1, h2, h3, rfl, hrr⟩⟩
  · rw [h] at he; simp at he
  obtain ⟨f1, f2, f3, cs, hfe, hn, hc, hone', hrc, hr1, hr3⟩ := Rr_get hrr he
  have hcl := Rc_length hrc
  have hidx : idx < ob.els.length := (List.getElem?_eq_some_iff.1 he).1
  have hmul : (idx + 1) * ob.n ≤ g.cap * ob.n := Nat.mul_le_mul_right _ (by omega)
  have hm1 : (idx + 1) * ob.n = idx * ob.n + ob.n := by rw [Nat.add_mul]; omega
  have hfit' : f + (idx * ob.n + off) + vs.length ≤ C.size := by omega
  refine ⟨b, f, ha, run_store_cells hb hz hfit' hone, ?_⟩
  have hbF : g.F b := hF b (by simp)
  have hother : ∀ b', b' ≠ b → (w.setCells b (f + (idx * ob.n + off)) vs).heap[b']? = w.heap[b']? := fun b' hne => heap_setCells b b' hne _ _ _
  obtain ⟨C', hC', hCs⟩ := block_setCells b ty fz vs (f + (idx * ob.n + off)) w C hb
  have hm := r.modify hl hlive { ob with els := ob.els.set idx (e.take off ++ c ++ e.drop (off + c.length)) } g (w.setCells b (f + (idx * ob.n + off)) vs) (Nat.le_refl _) rfl (fun _ => ⟨rfl, rfl, by simp⟩) (fun b hb => .inl hb) (fun b hb hne => ⟨hb, hne⟩)
    (fun b' hlt hne => hother b' (fun e => hne ⟨e ▸ hbF, ⟨b, f, none⟩, ha, e⟩)) (by rw [size_setCells]; exact Nat.le_refl _) (fun k _ => by
    generalize env B (s.o.set i { ob with els := ob.els.set idx (e.take off ++ c ++ e.drop (off + c.length)) }) (G.set i g) (w.setCells b (f + (idx * ob.n + off)) vs) = E' at k ⊢
    have kb := k.of ob.box
    obtain ⟨g1, g2, rfl, hc1, hc2⟩ := Rc_split off hrc
    obtain ⟨g3, g4, rfl, hc3, hc4⟩ := Rc_split c.length hc2
    have hc' : Rc w ((env B s.o G w).of ob.box) c vs [] := by
      cases hbx : ob.box with
      | true => exact hr
      | false =>
        rcases hbox with h | h
        · rw [hbx] at h; cases h
        · exact Rc_solid (E := env B s.o G w) (E' := (env B s.o G w).of false) (fun b hb => hb) h hr
    subst hfe
    have hsub : (f1 ++ (g1 ++ g4) ++ f3).Sublist (f1 ++ (g1 ++ (g3 ++ g4)) ++ f3) := ((List.Sublist.refl f1).append ((List.Sublist.refl g1).append (List.sublist_append_right g3 g4))).append (List.Sublist.refl f3)
    have hbn : b ∉ f1 ++ (g1 ++ (g3 ++ g4)) ++ f3 := (List.nodup_cons.1 hnd).1
    have hold : ∀ x ∈ f1 ++ (g1 ++ g4) ++ f3, (w.setCells b (f + (idx * ob.n + off)) vs).heap[x]? = w.heap[x]? := fun x hx => hother x (fun e => hbn (hsub.subset (e ▸ hx)))
    have hout : ∀ j, j < f + (idx * ob.n + off) ∨ f + (idx * ob.n + off) + vs.length ≤ j → (w.setCells b (f + (idx * ob.n + off)) vs).cell? ⟨b, j, none⟩ = w.cell? ⟨b, j, none⟩ := fun j hj => World.cell?_setCells_out b vs _ w _ (fun _ _ => hj)
    have hti : (ob.els.take idx).length = idx := by simp; omega
    refine ⟨b :: (f1 ++ (g1 ++ g4) ++ f3), ⟨by simpa using hlen, .inr ⟨b, f, C', ty, fz, _, ha, hC', by rw [hCs]; exact hz, by rw [hCs]; exact h1, by simpa using h2, h3, rfl, ?_⟩⟩, ?_, ?_⟩
    · show Rr _ _ (ob.els.set idx _) b f ob.n _
      refine Rr_mk (cs := cs.take off ++ vs ++ cs.drop (off + vs.length)) hidx ?_ ?_ ?_ ?_ ?_ ?_
      · simp only [List.length_append, List.length_take, List.length_drop]; omega
      · have hc1 : CellsAt w b (f + idx * ob.n) cs := hc
        have htl : (cs.take off).length = off := by simp; omega
        refine CellsAt.append.2 ⟨CellsAt.append.2 ⟨?_, ?_⟩, ?_⟩
        · intro j v hv
          have hj := (List.getElem?_eq_some_iff.1 hv).1
          rw [htl] at hj
          rw [hout _ (by omega)]
          exact hc1.take j v hv
        · intro j v hv
          have hj : j < vs.length := (List.getElem?_eq_some_iff.1 hv).1
          rw [htl, Nat.add_assoc f]
          have := World.cell?_setCells_in b vs (f + (idx * ob.n + off)) w (fun j hj => by
            have : f + (idx * ob.n + off) + j < C.size := by omega
            simp [World.cell?, hb, this]) j hj
          rw [this]
          rw [List.getElem?_eq_getElem hj] at hv
          exact hv
        · intro j v hv
          simp only [List.length_append, htl]
          rw [hout _ (by omega)]
          have := hc1.drop (k := off + vs.length) j v hv
          rwa [show f + idx * ob.n + (off + vs.length) + j = f + idx * ob.n + (off + vs.length) + j from rfl] at this
      · intro x hx
        simp only [List.mem_append] at hx
        rcases hx with (hx | hx) | hx
        · exact hone' x (List.mem_of_mem_take hx)
        · exact hone x hx
        · exact hone' x (List.mem_of_mem_drop hx)
      · have e1 : g1 ++ g4 = g1 ++ [] ++ g4 := by simp
        rw [e1]
        refine Rc_append (Rc_append (Rc_keeps kb _ _ _ (fun x hx => hold x (by simp [hx])) hc1) (Rc_keeps kb _ _ _ (by simp) hc')) ?_
        rw [← hvl, ← List.drop_drop, ← List.drop_drop] at *
        rw [hvl] at *
        exact Rc_keeps kb _ _ _ (fun x hx => hold x (by simp [hx])) hc4
      · refine Rr_out kb hout (fun x hx => hold x (by simp [hx])) (.inl ?_) hr1
        rw [hti]; omega
      · refine Rr_out kb hout (fun x hx => hold x (by simp [hx])) (.inr ?_) hr3
        omega
    · refine List.nodup_cons.2 ⟨fun h => hbn (hsub.subset h), hsub.nodup (List.nodup_cons.1 hnd).2⟩
    · intro x hx
      rcases List.mem_cons.1 hx with rfl | hx
      · exact hbF
      · exact hF x (List.mem_cons_of_mem _ (hsub.subset hx)))
  exact hm.1
end
end Go.Aw
