/-
  Proved here: a call that changes in place what was lent to it is a sound step.
  No condition beyond what each statement spells out.
-/
import Derived.Test.YtbbefoefjmgnoaaAwMutA
set_option linter.all false
set_option linter.unusedVariables false
set_option linter.unusedSimpArgs false
namespace Go.Aw

theorem plainV_any {w w' : World} {E E' : Env} {x : AV} {v : Value} (hx : x.plainV = true) (h : R w E x v []) : R w' E' x v [] := by
  cases x <;> simp only [AV.plainV] at hx <;> first | (cases hx; done) | (simp only [R] at h ⊢; exact h)

theorem mem_fps {L : List Part} {b : Nat} : b ∈ fps L ↔ ∃ p ∈ L, b ∈ p.fp := by simp [fps]

theorem fps_apart : ∀ {L : List Part}, (fps L).Nodup → ∀ p ∈ L, ∀ q ∈ L, ∀ b, b ∈ p.fp → b ∈ q.fp → p = q
  | [], _, p, hp, _, _, _, _, _ => by cases hp
  | x :: L, h, p, hp0, q, hq0, b, hbp, hbq => by
    simp only [fps, List.flatMap_cons, List.nodup_append] at h
    rcases List.mem_cons.1 hp0 with e1 | hp <;> rcases List.mem_cons.1 hq0 with e2 | hq
    · rw [e1, e2]
    · exact absurd rfl (h.2.2 b (e1 ▸ hbp) b (List.mem_flatMap.2 ⟨q, hq, hbq⟩))
    · exact absurd rfl (h.2.2 b (e2 ▸ hbq) b (List.mem_flatMap.2 ⟨p, hp, hbp⟩))
    · exact fps_apart h.2.1 p hp q hq b hbp hbq

theorem fps_part : ∀ {L : List Part}, (fps L).Nodup → ∀ p ∈ L, p.fp.Nodup
  | [], _, p, hp => by cases hp
  | x :: L, h, p, hp => by
    simp only [fps, List.flatMap_cons, List.nodup_append] at h
    rcases List.mem_cons.1 hp with rfl | hp
    · exact h.1
    · exact fps_part h.2.1 p hp

section
variable {P : Program} {B : Base} {s : AS} {dst : Option Tmp} {ty : TypeId} {pos : String} {after : Array Edge} {gd : Option (Nat × Bool)}

theorem look_age {o : List AObj} {G : List CO} {L : List Part} {u : List Nat} {i : Nat} {ob' : AObj} {g' : CO} (h : look (ageO (L.map fun p => (p.i, p.rows)) u 0 o) (ageG L 0 G) i ob' g') :
    ∃ ob g, look o G i ob g ∧ ((∃ p ∈ L, p.i = i ∧ ob' = { ob with els := p.rows } ∧ g' = { g with F := fun b => b ∈ p.fp }) ∨
      ((∀ p ∈ L, p.i ≠ i) ∧ ob' = ob.forget u ∧ g' = g)) := by
  obtain ⟨h1, h2⟩ := h
  rw [ageO_get, Nat.zero_add] at h1
  rw [ageG_get, Nat.zero_add] at h2
  cases ho : o[i]? with
  | none => simp [ho] at h1
  | some ob =>
    cases hg : G[i]? with
    | none => simp [hg] at h2
    | some g =>
      rw [ho] at h1; rw [hg] at h2
      simp only [Option.map_some, Option.some.injEq] at h1 h2
      refine ⟨ob, g, ⟨ho, hg⟩, ?_⟩
      have hfm : (L.map fun p => (p.i, p.rows)).find? (fun p => p.1 == i) = (L.find? (fun p => p.i == i)).map fun p => (p.i, p.rows) := by rw [List.find?_map]; rfl
      unfold AObj.aged at h1
      rw [hfm] at h1
      cases hf : L.find? (fun p => p.i == i) with
      | some p =>
        rw [hf] at h1 h2
        left
        exact ⟨p, List.mem_of_find?_eq_some hf, by have := List.find?_some hf; simpa using this, h1.symm, h2.symm⟩
      | none =>
        rw [hf] at h1 h2
        right
        refine ⟨fun p hp e => ?_, h1.symm, h2.symm⟩
        have := List.find?_eq_none.1 hf p hp
        simp [e] at this

theorem age_look {o : List AObj} {G : List CO} {L : List Part} {u : List Nat} {i : Nat} {ob : AObj} {g : CO} (h : look o G i ob g) :
    ∃ ob' g', look (ageO (L.map fun p => (p.i, p.rows)) u 0 o) (ageG L 0 G) i ob' g' := by
  have h1 := (List.getElem?_eq_some_iff.1 h.1).1
  have h2 := (List.getElem?_eq_some_iff.1 h.2).1
  exact ⟨_, _, List.getElem?_eq_getElem (by rw [ageO_length]; exact h1), List.getElem?_eq_getElem (by rw [ageG_length]; exact h2)⟩

theorem step_mut (f x0 y : Operand) (tys : Array TypeId) {gf : FuncId} {x' r : AV} (hf : s.ev f = .fn gf []) (hc : callable P gf = true) (hy : (s.ev y).plainV = true) (hr : r.plainV = true) (hx : resOk s.o (s.ev x0) = true) (hu : (uses (s.ev x0)).Nodup)
    (hm : mt s.o (s.ev x0) x' = true) (hok : OkM P gf (res s.o (s.ev x0)) x' [s.ev y] r) :
    Step P B ⟨dst, .call { callee := .value f, args := #[x0, y], argTypes := tys }, ty, pos, after, gd⟩ s (s.mutated dst (s.ev x0) x' r) := by
  rintro a w next Q ⟨G, rr⟩ hn
  have h1 := rr.ev f
  rw [hf] at h1
  simp only [R] at h1
  obtain ⟨_, cs, hv, hcap⟩ := h1
  have hcs : cs = [] := by cases cs with
    | nil => rfl
    | cons _ _ => simp [Rc] at hcap
  subst hcs
  obtain ⟨fp, hres, hnd, hOf⟩ := R_res rr _ _ hx hu (rr.ev x0)
  have hlt : ∀ b ∈ fp, b < w.heap.size := fun b hb => by
    obtain ⟨i, ob, g, _, hl, hlive, hF⟩ := hOf b hb
    exact (rr.fresh _ _ _ b hl hlive hF).2
  have kB : Keeps w (env B s.o G w).plain w (envBut w (· ∈ fp)) := ⟨fun b hb => ⟨⟨env_lt rr hb, fun hm => by
      obtain ⟨i, ob, g, _, hl, hlive, hF⟩ := hOf b hm
      exact hb.2 i ob g hl hlive hF⟩, rfl⟩, fun _ _ => trivial, fun _ _ _ h => h.elim, fun _ _ _ h => h.elim, fun _ _ _ _ _ h => h.elim⟩
  have hcall := hok w (a.eval x0) [a.eval y] fp (R_keeps kB _ _ _ (fun _ _ => rfl) hres) hnd hlt (by
    simp only [Rc]
    exact ⟨[], [], plainV_any hy (rr.ev y), rfl, rfl⟩)
  unfold Oper.wp
  have hrun : (execOp a.eval ⟨dst, .call { callee := .value f, args := #[x0, y], argTypes := tys }, ty, pos, after, gd⟩).run P w = .ok (.enter gf [a.eval x0, a.eval y].toArray) w := by
    simp [execOp, resolve, hv, Deferred.ofValue, invoke, run_callFunc hc]
  rw [hrun, Oper.upon_enter]
  refine hcall.mono fun e w' h => ?_
  obtain ⟨v, fp', rfl, hrr, hxr, hnd', hfr, hsz, hsame, hio⟩ := h
  refine hn _ _ ?_
  obtain ⟨L, hLi, hN, rfl, hL⟩ := R_parts (s.ev x0) x' _ fp' hx hm (rr.ev x0) hxr
  have hus : ∀ i, i ∈ uses (s.ev x0) ↔ ∃ p ∈ L, p.i = i := fun i => by rw [← hLi]; simp
  unfold AS.mutated
  rw [hN]
  generalize huu : uses (s.ev x0) = u at *
  generalize ho' : ageO (L.map fun p => (p.i, p.rows)) u 0 s.o = o'
  generalize hG' : ageG L 0 G = G'
  have lk : ∀ {i ob' g'}, look o' G' i ob' g' → ∃ ob g, look s.o G i ob g ∧ ((∃ p ∈ L, p.i = i ∧ ob' = { ob with els := p.rows } ∧ g' = { g with F := fun b => b ∈ p.fp }) ∨
      ((∀ p ∈ L, p.i ≠ i) ∧ ob' = ob.forget u ∧ g' = g)) := fun h => look_age (by rw [ho', hG']; exact h)
  have kl : ∀ {i ob g}, look s.o G i ob g → ∃ ob' g', look o' G' i ob' g' ∧ ob'.live = ob.live ∧ ob'.ver = ob.ver ∧ ob'.n = ob.n ∧ g'.a = g.a ∧ g'.cap = g.cap ∧ ob'.els.length = ob.els.length ∧ ((∀ p ∈ L, p.i ≠ i) → g' = g) := by
    intro i ob g h
    obtain ⟨ob', g', h'⟩ := age_look (L := L) (u := u) h
    rw [ho', hG'] at h'
    refine ⟨ob', g', h', ?_⟩
    obtain ⟨ob2, g2, h2, hcase⟩ := lk h'
    obtain ⟨rfl, rfl⟩ := look_inj h h2
    rcases hcase with ⟨p, hp, rfl, rfl, rfl⟩ | ⟨hno, rfl, rfl⟩
    · obtain ⟨ob3, g3, hl3, _, _, _, hlen⟩ := hL p hp
      obtain ⟨rfl, rfl⟩ := look_inj h hl3
      exact ⟨rfl, rfl, rfl, rfl, rfl, hlen, fun hn => absurd rfl (hn p hp)⟩
    · exact ⟨forget_live _ _, forget_ver _ _, forget_n _ _, rfl, rfl, forget_len _ _, fun _ => rfl⟩
  have fpF : ∀ b ∈ fp, ∀ i ob g, look s.o G i ob g → ob.live = true → g.F b → i ∈ u := fun b hb i ob g hl hlive hF => by
    obtain ⟨j, oj, gj, hj, hlj, hjl, hFj⟩ := hOf b hb
    have := rr.apart i j _ _ _ _ b hl hlj hlive hjl hF hFj
    rw [this]; exact hj
  have keepF : ∀ i ob g b, look s.o G i ob g → ob.live = true → g.F b → i ∉ u → w'.heap[b]? = w.heap[b]? := fun i ob g b hl hlive hF hiu =>
    hsame b (rr.fresh _ _ _ b hl hlive hF).2 (fun hm => hiu (fpF b hm i ob g hl hlive hF))
  have noU : ∀ i, i ∉ u → ∀ p ∈ L, p.i ≠ i := fun i hi p hp e => hi ((hus i).2 ⟨p, hp, e⟩)
  -- what is forgotten
  let Er : Env := { env B s.o G w with D := fun i b => i ∉ u ∧ (env B s.o G w).D i b }
  have rt1 : Retags (dropf u) true (env B s.o G w) Er (fun _ => True) := by
    refine ⟨fun t e => by simp [dropf] at e, fun t e => by simp only [dropf, Option.some.injEq] at e; exact ⟨e.symm, fun b hb => hb⟩, fun i t e => ?_, fun _ _ _ _ h => h, fun _ _ _ _ _ _ h => h⟩
    simp only [dropf] at e
    split at e
    · cases e
    · rename_i hiu
      obtain rfl := Option.some.inj e
      refine ⟨by simp, ?_, fun b hb => ⟨hiu, hb⟩⟩
      by_cases hV : (env B s.o G w).V i
      · exact .inl hV
      · exact .inr hV
  have k2 : Keeps w Er w' (env B o' G' w') := by
    refine ⟨fun b hb => ?_, fun i h ob hob => ?_, fun i b hV h => ?_, fun i ver x h => ?_, fun i ver j q x h => ?_⟩
    · have hb' : (env B s.o G w).A b := hb
      have hbl := env_lt rr hb'
      have hnf : b ∉ fp := fun hm => by
        obtain ⟨i, ob, g, _, hl, hlive, hF⟩ := hOf b hm
        exact hb'.2 i ob g hl hlive hF
      refine ⟨⟨?_, fun i ob' g' hl hlive hF => ?_⟩, hsame b hbl hnf⟩
      · rcases hb'.1 with h | h
        · exact .inl h
        · exact .inr ⟨h.1, by omega⟩
      · obtain ⟨ob, g, hl0, ⟨p, hp, _, rfl, rfl⟩ | ⟨_, rfl, rfl⟩⟩ := lk hl
        · have := hfr b (mem_fps.2 ⟨p, hp, hF⟩)
          rcases this.1 with h | h
          · exact hnf h
          · omega
        · refine hb'.2 i ob g' hl0 ?_ hF
          rw [forget_live] at hlive; exact hlive
    · have hi : i < G.length := by rw [rr.len]; exact (List.getElem?_eq_some_iff.1 hob).1
      obtain ⟨ob', g', hl, h1, _⟩ := kl (i := i) (ob := ob) (g := G[i]) ⟨hob, List.getElem?_eq_getElem hi⟩
      rw [← h1]; exact h ob' hl.1
    · obtain ⟨hiu, ob, g, hl, hlive, hF, hne⟩ := h
      obtain ⟨ob', g', hl', h1, _, _, _, _, _, h7⟩ := kl hl
      obtain rfl := h7 (noU i hiu)
      exact ⟨⟨ob', g', hl', by rw [h1]; exact hlive, hF, hne⟩, keepF i ob g' b hl hlive hF hiu⟩
    · obtain ⟨ob, g, hl, hver, hh, hz⟩ := h
      obtain ⟨ob', g', hl', h1, h2, h3, h4, h5, h6, _⟩ := kl hl
      exact ⟨ob', g', hl', by omega, fun hlive hve => by rw [h4, h5, h6]; exact hh (by rw [← h1]; exact hlive) (by omega), hz⟩
    · obtain ⟨ob, g, hl, hver, hh⟩ := h
      obtain ⟨ob', g', hl', h1, h2, h3, h4, h5, h6, _⟩ := kl hl
      exact ⟨ob', g', hl', by omega, fun hlive hve => by rw [h4, h3]; exact hh (by rw [← h1]; exact hlive) (by omega)⟩
  have tm : Rc w' (env B o' G' w') (rtc (dropf u) true s.t) a.tmps.toList [] :=
    Rc_keeps k2 _ _ _ (by simp) (Rc_rt rt1 _ _ _ (by simp) rr.tmps)
  have kn : Keeps w' envNone w' (env B o' G' w').plain := ⟨fun _ h => h.elim, fun _ _ => trivial, fun _ _ _ h => h.elim, fun _ _ _ h => h.elim, fun _ _ _ _ _ h => h.elim⟩
  have rel : Rel' B ⟨rtc (dropf u) true s.t, o'⟩ G' a w' := by
    refine { len := by rw [← hG', ← ho', ageG_length, ageO_length]; exact rr.len, defs := rr.defs, ok := ?_, apart := ?_, fresh := ?_, tmps := tm, size := Nat.le_trans rr.size hsz, frame := ?_, base := rr.base, same := rr.same.trans hio }
    · intro i ob' g' hl hlive
      obtain ⟨ob, g, hl0, ⟨p, hp, rfl, rfl, rfl⟩ | ⟨hno, rfl, rfl⟩⟩ := lk hl
      · obtain ⟨ob3, g3, hl3, _, hbx, hown, hlen⟩ := hL p hp
        obtain ⟨rfl, rfl⟩ := look_inj hl0 hl3
        refine ⟨p.fp, ?_, fps_part hnd' p hp, fun b hb => hb⟩
        simp only [hbx, Env.of, Bool.false_eq_true, if_false]
        exact hown.keeps kn (fun _ _ => rfl)
      · have hiu : i ∉ u := fun h => by
          obtain ⟨p, hp, e⟩ := (hus i).1 h
          exact hno p hp e
        rw [forget_live] at hlive
        obtain ⟨fpo, hown, hndo, hFo⟩ := rr.ok i ob g' hl0 hlive
        by_cases hbx : ob.box = true
        · simp only [hbx, Env.of, if_true] at hown
          obtain ⟨hlen, hown⟩ := hown
          by_cases hall : rowsNd ob.els = true
          · have hfo : ob.forget u = ob := by unfold AObj.forget; simp [hbx, hall]
            rw [hfo]
            refine ⟨fpo, ?_, hndo, hFo⟩
            simp only [hbx, Env.of, if_true]
            refine ⟨hlen, ?_⟩
            rcases hown with h | ⟨b, off, C, e, fz, fps', ha, hb, hz, h1, h2, h3, rfl, hrr'⟩
            · exact .inl h
            · have hbs := keepF i ob g' b hl0 hlive (hFo b (by simp)) hiu
              exact .inr ⟨b, off, C, e, fz, fps', ha, by rw [hbs]; exact hb, hz, h1, h2, h3, rfl, Rr_keeps k2 _ _ _ _ _ hbs (fun x hx => keepF i ob g' x hl0 hlive (hFo x (by simp [hx])) hiu) (Rr_nd hall hrr')⟩
          · have hfo : ob.forget u = { ob with els := rtr (dropf u) true ob.els } := by unfold AObj.forget; rw [if_pos hbx, if_neg hall]
            rw [hfo]
            rcases hown with ⟨h1, h2, h3⟩ | ⟨b, off, C, e, fz, fps', ha, hb, hz, h1, h2, h3, rfl, hrr'⟩
            · exact ⟨[], ⟨by simp [rtr_length]; exact hlen, .inl ⟨by simp [h1, rtr], h2, rfl⟩⟩, by simp, by simp⟩
            · have hbF := hFo b (by simp)
              have hbs := keepF i ob g' b hl0 hlive hbF hiu
              refine ⟨[b], ⟨by simp [rtr_length]; exact hlen, .inr ⟨b, off, C, e, fz, [], ha, by rw [hbs]; exact hb, hz, h1, by simpa [rtr_length] using h2, h3, rfl, ?_⟩⟩, by simp, by simpa using hbF⟩
              simp only [hbx, Env.of, if_true]
              exact Rr_keeps k2 _ _ _ _ _ hbs (by simp) (Rr_rt rt1 _ _ _ _ _ (by simp) hrr')
        · have hbx' : ob.box = false := by simpa using hbx
          have hfo : ob.forget u = ob := by unfold AObj.forget; simp [hbx']
          rw [hfo]
          refine ⟨fpo, ?_, hndo, hFo⟩
          simp only [hbx', Env.of, Bool.false_eq_true, if_false] at hown ⊢
          have kp : Keeps w (env B s.o G w).plain w' (env B o' G' w').plain := k2.plain
          exact hown.keeps kp (fun b hb => keepF i ob g' b hl0 hlive (hFo b hb) hiu)
    · intro i j oi oj gi gj b hi hj hil hjl hfi hfj
      obtain ⟨ob1, g1, hl1, c1⟩ := lk hi
      obtain ⟨ob2, g2, hl2, c2⟩ := lk hj
      have lv : ∀ {k : Nat} {ob ob' : AObj} {g g' : CO}, ((∀ p ∈ L, p.i ≠ k) ∧ ob' = ob.forget u ∧ g' = g) → ob'.live = true → ob.live = true := by
        rintro k ob ob' g g' ⟨_, rfl, _⟩ h
        rw [forget_live] at h; exact h
      rcases c1 with ⟨p, hp, hpi, rfl, rfl⟩ | c1 <;> rcases c2 with ⟨q, hq, hqi, rfl, rfl⟩ | c2
      · have := fps_apart hnd' p hp q hq b hfi hfj
        rw [← hpi, ← hqi, this]
      · exfalso
        have hjl' := lv c2 hjl
        have hF2 : g2.F b := by rw [← c2.2.2]; exact hfj
        rcases (hfr b (mem_fps.2 ⟨p, hp, hfi⟩)).1 with h | h
        · have := fpF b h j ob2 g2 hl2 hjl' hF2
          obtain ⟨q, hq, e⟩ := (hus j).1 this
          exact c2.1 q hq e
        · have := (rr.fresh _ _ _ b hl2 hjl' hF2).2; omega
      · exfalso
        have hil' := lv c1 hil
        have hF1 : g1.F b := by rw [← c1.2.2]; exact hfi
        rcases (hfr b (mem_fps.2 ⟨q, hq, hfj⟩)).1 with h | h
        · have := fpF b h i ob1 g1 hl1 hil' hF1
          obtain ⟨p, hp, e⟩ := (hus i).1 this
          exact c1.1 p hp e
        · have := (rr.fresh _ _ _ b hl1 hil' hF1).2; omega
      · refine rr.apart i j _ _ _ _ b hl1 hl2 (lv c1 hil) (lv c2 hjl) ?_ ?_
        · rw [← c1.2.2]; exact hfi
        · rw [← c2.2.2]; exact hfj
    · intro i ob' g' b hl hlive hF
      obtain ⟨ob, g, hl0, ⟨p, hp, rfl, rfl, rfl⟩ | ⟨hno, rfl, rfl⟩⟩ := lk hl
      · have := hfr b (mem_fps.2 ⟨p, hp, hF⟩)
        refine ⟨?_, this.2⟩
        rcases this.1 with h | h
        · obtain ⟨j, oj, gj, _, hlj, hjl, hFj⟩ := hOf b h
          exact (rr.fresh _ _ _ b hlj hjl hFj).1
        · exact .inr (Nat.le_trans rr.size h)
      · have hlive' : ob.live = true := by rw [forget_live] at hlive; exact hlive
        have := rr.fresh _ _ _ b hl0 hlive' hF
        exact ⟨this.1, by omega⟩
    · intro b hb hO
      rw [← rr.frame b hb hO]
      refine hsame b (Nat.lt_of_lt_of_le hb rr.size) (fun hm => ?_)
      obtain ⟨j, oj, gj, _, hlj, hjl, hFj⟩ := hOf b hm
      rcases (rr.fresh _ _ _ b hlj hjl hFj).1 with h | h
      · exact hO h
      · omega
  exact ⟨G', rel.put dst (plainV_any hr hrr)⟩
end
end Go.Aw
