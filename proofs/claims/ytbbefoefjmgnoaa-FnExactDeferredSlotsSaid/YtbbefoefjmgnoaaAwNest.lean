/-
  Proved here: a slice in an element of an owned slice may become an object of its own.
  No condition beyond what each statement spells out.
-/
import Derived.Test.YtbbefoefjmgnoaaAwMut
set_option linter.all false
set_option linter.unusedVariables false
set_option linter.unusedSimpArgs false
namespace Go.Aw

theorem Weak.trans {s s' s'' : AS} (h : Weak s s') (k : Weak s' s'') : Weak s s'' := fun B a w r => k B a w (h B a w r)
/-- One element's part, taken out. -/
theorem Rc_at {w : World} {E : Env} {e : List AV} {cs : List Value} {fp : List Nat} {c : Nat} {x : AV} (h : Rc w E e cs fp) (hx : e[c]? = some x) :
    ∃ a1 a2 a3 v, fp = a1 ++ a2 ++ a3 ∧ cs[c]? = some v ∧ Rc w E (e.take c) (cs.take c) a1 ∧ R w E x v a2 ∧ Rc w E (e.drop (c + 1)) (cs.drop (c + 1)) a3 := by
  obtain ⟨a1, r1, rfl, h1, h2⟩ := Rc_split c h
  have hlt := (List.getElem?_eq_some_iff.1 hx).1
  have hl := Rc_length h
  have hd : e.drop c = x :: e.drop (c + 1) := by
    rw [List.drop_eq_getElem_cons hlt, (List.getElem?_eq_some_iff.1 hx).2]
  have hcs : cs.drop c = cs[c]'(by omega) :: cs.drop (c + 1) := List.drop_eq_getElem_cons (by omega)
  rw [hd, hcs] at h2
  simp only [Rc] at h2
  obtain ⟨a2, a3, h3, h4, rfl⟩ := h2
  exact ⟨a1, a2, a3, _, by simp, List.getElem?_eq_getElem (by omega), h1, h3, h4⟩

theorem Rc_put {w : World} {E : Env} {e : List AV} {cs : List Value} {a1 a2 a3 : List Nat} {c : Nat} {x : AV} {v : Value} (hc : c < e.length) (hv : cs[c]? = some v) (h1 : Rc w E (e.take c) (cs.take c) a1) (h2 : R w E x v a2) (h3 : Rc w E (e.drop (c + 1)) (cs.drop (c + 1)) a3) :
    Rc w E (e.set c x) cs (a1 ++ a2 ++ a3) := by
  have e1 : e.set c x = e.take c ++ x :: e.drop (c + 1) := by rw [List.set_eq_take_append_cons_drop]; simp [hc]
  obtain ⟨hlt, rfl⟩ := List.getElem?_eq_some_iff.1 hv
  have e2 : cs = cs.take c ++ cs[c] :: cs.drop (c + 1) := by simp
  rw [e1]
  conv => arg 4; rw [e2]
  have := Rc_append h1 (show Rc w E (x :: e.drop (c + 1)) (cs[c] :: cs.drop (c + 1)) (a2 ++ a3) by simp only [Rc]; exact ⟨a2, a3, h2, h3, rfl⟩)
  simpa using this

/-- A slice in an element of a slice becomes an object of its own. -/
theorem weak_open {t t' : List AV} {o o' : List AObj} (i k c : Nat) {ob : AObj} {e : List AV} {m : Nat} {rows : List (List AV)} (ho : o[i]? = some ob) (hl : ob.live = true) (hall : (o.all fun x => !x.box) = true) (he : ob.els[k]? = some e)
    (hc : e[c]? = some (.sl .own m rows)) (ho' : o.set i { ob with box := true, els := ob.els.set k (e.set c (.obj o.length 1)) } ++ [⟨true, false, m, 1, rows⟩] = o') (hw : wk (rtc (dropf [i]) true t) t') : Weak ⟨t, o⟩ ⟨t', o'⟩ := by
  subst ho'
  rintro B a w ⟨G, r⟩
  have nb : ∀ {j x g}, look o G j x g → x.box = false := fun h => by
    have := List.all_eq_true.1 hall _ (List.mem_of_getElem? h.1)
    simpa using this
  obtain ⟨g, hlk⟩ := r.look ho
  have hb := nb hlk
  obtain ⟨fp, hown, hnd, hF⟩ := r.ok i ob g hlk hl
  simp only [hb, Env.of, Bool.false_eq_true, if_false] at hown
  obtain ⟨hlen, ⟨h, _⟩ | ⟨b, off, C, ty, fz, fps, ha, hbk, hz, h1, h2, h3, rfl, hr⟩⟩ := hown
  · rw [h] at he; simp at he
  have hk : k < ob.els.length := (List.getElem?_eq_some_iff.1 he).1
  have hcl : c < e.length := (List.getElem?_eq_some_iff.1 hc).1
  obtain ⟨f1, f2, f3, cs, rfl, hn, hcs, hone, hre, hr1, hr3⟩ := Rr_get hr he
  obtain ⟨a1, a2, a3, v, rfl, hv, k1, k2, k3⟩ := Rc_at hre hc
  obtain ⟨ad, cap', hvs, hown2⟩ := R_own.1 k2
  have hlo : i < o.length := (List.getElem?_eq_some_iff.1 ho).1
  have hsub2 : ∀ x ∈ a2, g.F x := fun x hx => hF x (by simp [hx])
  generalize hob' : ({ ob with box := true, els := ob.els.set k (e.set c (.obj o.length 1)) } : AObj) = ob'
  generalize hg' : ({ g with F := fun x => g.F x ∧ x ∉ a2 } : CO) = g'
  generalize hO : o.set i ob' ++ [⟨true, false, m, 1, rows⟩] = o'
  generalize hGG : G.set i g' ++ [⟨ad, cap', fun x => x ∈ a2⟩] = G'
  have hlenG : (G.set i g').length = (o.set i ob').length := by simp [r.len]
  -- the objects, old and new
  have back : ∀ {j x y}, look o' G' j x y → (j = i ∧ x = ob' ∧ y = g') ∨ (j = o.length ∧ x = ⟨true, false, m, 1, rows⟩ ∧ y = ⟨ad, cap', fun x => x ∈ a2⟩) ∨ (j ≠ i ∧ look o G j x y) := by
    intro j x y h
    rw [← hO, ← hGG] at h
    rcases look_app hlenG h with ⟨_, h⟩ | ⟨hj, h⟩
    · rcases look_set h with ⟨h1, h2, h3⟩ | ⟨h1, h2⟩
      · exact .inl ⟨h1, h2, h3⟩
      · exact .inr (.inr ⟨h1, h2⟩)
    · right; left
      obtain ⟨h1, h2⟩ := h
      cases hd : j - (o.set i ob').length with
      | zero =>
        rw [hd] at h1 h2
        simp at h1 h2 hj hd
        exact ⟨by omega, h1.symm, h2.symm⟩
      | succ n => rw [hd] at h1; simp at h1
  have fi : look o' G' i ob' g' := by rw [← hO, ← hGG]; exact look_app_left (look_set_self hlk)
  have fJ : look o' G' o.length ⟨true, false, m, 1, rows⟩ ⟨ad, cap', fun x => x ∈ a2⟩ := by
    rw [← hO, ← hGG]
    have := look_app_right (o := o.set i ob') (o2 := [⟨true, false, m, 1, rows⟩]) (G := G.set i g') (G2 := [⟨ad, cap', fun x => x ∈ a2⟩]) hlenG (i := 0) (x := ⟨true, false, m, 1, rows⟩) (y := ⟨ad, cap', fun x => x ∈ a2⟩) ⟨rfl, rfl⟩
    simpa using this
  have fo : ∀ {j x y}, j ≠ i → look o G j x y → look o' G' j x y := fun hj h => by rw [← hO, ← hGG]; exact look_app_left (look_set_ne h hj)
  have hobl : ob'.live = true := by rw [← hob']; exact hl
  have hobn : ob'.n = ob.n := by rw [← hob']
  have hobv : ob'.ver = ob.ver := by rw [← hob']
  have hobe : ob'.els.length = ob.els.length := by rw [← hob']; simp
  have hga : g'.a = g.a := by rw [← hg']
  have hgc : g'.cap = g.cap := by rw [← hg']
  have hgF : ∀ x, g'.F x ↔ g.F x ∧ x ∉ a2 := fun x => by rw [← hg']
  let Er : Env := { env B o G w with D := fun j x => j ∉ [i] ∧ (env B o G w).D j x }
  have rt1 : Retags (dropf [i]) true (env B o G w) Er (fun _ => True) := by
    refine ⟨fun t e => by simp [dropf] at e, fun t e => by simp only [dropf, Option.some.injEq] at e; exact ⟨e.symm, fun b hb => hb⟩, fun j t e => ?_, fun _ _ _ _ h => h, fun _ _ _ _ _ _ h => h⟩
    simp only [dropf] at e
    split at e
    · cases e
    · rename_i hiu
      obtain rfl := Option.some.inj e
      refine ⟨by simp, ?_, fun b hb => ⟨hiu, hb⟩⟩
      by_cases hV : (env B o G w).V j
      · exact .inl hV
      · exact .inr hV
  have kA : ∀ x, (env B o G w).A x → (env B o' G' w).A x := fun x hx => ⟨hx.1, fun j y z hlj hjl hf => by
    rcases back hlj with ⟨rfl, rfl, rfl⟩ | ⟨rfl, rfl, rfl⟩ | ⟨_, h⟩
    · exact hx.2 _ _ _ hlk hl ((hgF x).1 hf).1
    · exact hx.2 _ _ _ hlk hl (hsub2 x hf)
    · exact hx.2 _ _ _ h hjl hf⟩
  have k2' : Keeps w Er w (env B o' G' w) := by
    refine ⟨fun x hx => ⟨kA x hx, rfl⟩, fun j h x hx => ?_, fun j x hV h => ?_, fun j ver x h => ?_, fun j ver p q x h => ?_⟩
    · obtain ⟨y, hy⟩ := r.look hx
      by_cases hj : j = i
      · subst hj
        rw [ho] at hx
        obtain rfl := Option.some.inj hx; exact hl
      · exact h x (fo hj hy).1
    · obtain ⟨hji, x', y, hlj, hjl, hf, hne⟩ := h
      exact ⟨⟨x', y, fo (by simpa using hji) hlj, hjl, hf, hne⟩, rfl⟩
    · obtain ⟨x', y, hlj, hver, hh, hz⟩ := h
      by_cases hj : j = i
      · subst hj
        obtain ⟨rfl, rfl⟩ := look_inj hlk hlj
        exact ⟨ob', g', fi, by omega, fun _ hve => by rw [hga, hgc, hobe]; exact hh hl (by omega), hz⟩
      · exact ⟨x', y, fo hj hlj, hver, hh, hz⟩
    · obtain ⟨x', y, hlj, hver, hh⟩ := h
      by_cases hj : j = i
      · subst hj
        obtain ⟨rfl, rfl⟩ := look_inj hlk hlj
        exact ⟨ob', g', fi, by omega, fun _ hve => by rw [hga, hobn]; exact hh hl (by omega)⟩
      · exact ⟨x', y, fo hj hlj, hver, hh⟩
  have kp : Keeps w (env B o G w).plain w (env B o' G' w).plain := ⟨fun x hx => ⟨kA x hx, rfl⟩, fun _ _ => trivial, fun _ _ _ h => h.elim, fun _ _ _ h => h.elim, fun _ _ _ _ _ h => h.elim⟩
  have kf : Keeps w (env B o G w).plain w (env B o' G' w) := kp.trans (plain_keeps w _)
  have hnd' := hnd
  simp only [List.nodup_cons] at hnd'
  refine ⟨G', { len := by rw [← hO, ← hGG]; simp [r.len], defs := r.defs, ok := ?_, apart := ?_, fresh := ?_, tmps := Rc_wk hw (Rc_keeps k2' _ _ _ (by simp) (Rc_rt rt1 _ _ _ (by simp) r.tmps)), size := r.size, frame := r.frame, base := r.base, same := r.same }⟩
  · intro j x y hlj hjl
    rcases back hlj with ⟨rfl, rfl, rfl⟩ | ⟨rfl, rfl, rfl⟩ | ⟨hj, h⟩
    · refine ⟨b :: (f1 ++ (a1 ++ [] ++ a3) ++ f3), ?_, ?_, ?_⟩
      · rw [← hob', ← hg']
        simp only [Env.of, if_true]
        refine ⟨by simpa using hlen, .inr ⟨b, off, C, ty, fz, _, ha, hbk, hz, h1, by simpa using h2, h3, rfl, ?_⟩⟩
        refine Rr_mk hk hn hcs hone (Rc_put hcl hv (Rc_keeps kf _ _ _ (fun _ _ => rfl) k1) ?_ (Rc_keeps kf _ _ _ (fun _ _ => rfl) k3)) (Rr_keeps kf _ _ _ _ _ rfl (fun _ _ => rfl) hr1) (Rr_keeps kf _ _ _ _ _ rfl (fun _ _ => rfl) hr3)
        simp only [R]
        exact ⟨trivial, _, _, fJ, Nat.le_refl _, fun _ _ => hvs, fun h => by omega⟩
      · have hs : (f1 ++ (a1 ++ [] ++ a3) ++ f3).Sublist (f1 ++ (a1 ++ a2 ++ a3) ++ f3) := ((List.Sublist.refl f1).append (((List.Sublist.refl a1).append (List.nil_sublist a2)).append (List.Sublist.refl a3))).append (List.Sublist.refl f3)
        exact List.nodup_cons.2 ⟨fun h => hnd'.1 (hs.subset h), hs.nodup hnd'.2⟩
      · intro x hx
        rw [hgF]
        have hin : x ∈ b :: (f1 ++ (a1 ++ a2 ++ a3) ++ f3) := by
          simp only [List.mem_cons, List.mem_append, List.not_mem_nil, or_false] at hx ⊢
          grind
        refine ⟨hF x hin, fun hx2 => ?_⟩
        have hd := hnd'.2
        simp only [List.nodup_append, List.mem_append] at hd
        simp only [List.mem_cons, List.mem_append, List.not_mem_nil, or_false] at hx
        rcases hx with rfl | (hx | hx | hx) | hx
        · exact hnd'.1 (by simp [hx2])
        · exact hd.1.2.2 x hx x (.inl (.inr hx2)) rfl
        · exact hd.1.2.1.1.2.2 x hx x hx2 rfl
        · exact hd.1.2.1.2.2 x (.inr hx2) x hx rfl
        · exact hd.2.2 x (.inr (.inl (.inr hx2))) x hx rfl
    · refine ⟨a2, ?_, ?_, fun x hx => hx⟩
      · simp only [Env.of, Bool.false_eq_true, if_false]
        exact hown2.keeps kp (fun _ _ => rfl)
      · have hd := hnd'.2
        simp only [List.nodup_append] at hd
        exact hd.1.2.1.1.2.1
    · have hbj := nb h
      obtain ⟨fq, q1, q2, q3⟩ := r.ok j x y h hjl
      simp only [hbj, Env.of, Bool.false_eq_true, if_false] at q1
      refine ⟨fq, ?_, q2, q3⟩
      simp only [hbj, Env.of, Bool.false_eq_true, if_false]
      exact q1.keeps kp (fun _ _ => rfl)
  · intro j1 j2 x1 x2 y1 y2 z hl1 hl2 v1 v2 hf1 hf2
    rcases back hl1 with ⟨rfl, rfl, rfl⟩ | ⟨rfl, rfl, rfl⟩ | ⟨hj1, h1⟩ <;> rcases back hl2 with ⟨rfl, rfl, rfl⟩ | ⟨rfl, rfl, rfl⟩ | ⟨hj2, h2⟩
    · rfl
    · exact absurd hf2 ((hgF z).1 hf1).2
    · exact absurd (r.apart _ _ _ _ _ _ z hlk h2 hl v2 ((hgF z).1 hf1).1 hf2).symm hj2
    · exact absurd hf1 ((hgF z).1 hf2).2
    · rfl
    · exact absurd (r.apart _ _ _ _ _ _ z hlk h2 hl v2 (hsub2 z hf1) hf2).symm hj2
    · exact absurd (r.apart _ _ _ _ _ _ z h1 hlk v1 hl hf1 ((hgF z).1 hf2).1) hj1
    · exact absurd (r.apart _ _ _ _ _ _ z h1 hlk v1 hl hf1 (hsub2 z hf2)) hj1
    · exact r.apart _ _ _ _ _ _ z h1 h2 v1 v2 hf1 hf2
  · intro j x y z hlj hjl hf
    rcases back hlj with ⟨rfl, rfl, rfl⟩ | ⟨rfl, rfl, rfl⟩ | ⟨_, h⟩
    · exact r.fresh _ _ _ z hlk hl ((hgF z).1 hf).1
    · exact r.fresh _ _ _ z hlk hl (hsub2 z hf)
    · exact r.fresh _ _ _ z h hjl hf
end Go.Aw
