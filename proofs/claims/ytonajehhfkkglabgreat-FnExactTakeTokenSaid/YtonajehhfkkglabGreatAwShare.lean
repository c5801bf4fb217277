/-
  Proved here: steps towards the statement of this claim, text AwShare.
  No condition beyond what each statement spells out.
-/
import Derived.Test.YtonajehhfkkglabGreatF3
import Derived.Test.YtonajehhfkkglabGreatF8
set_option linter.all false
namespace Go.Aw
theorem weak_share {t t' : List AV} {o o' : List AObj} (i k : Nat) {ob : AObj} {e e' : List AV} (ho : o[i]? = some ob) (hl : ob.live = true) (hb : ob.box = false) (hall : (o.all fun x => !x.box || x.els.all fun c => nodepc i c) = true) (he : ob.els[k]? = some e)
    (hc : rtc vwf true e = e') (ho' : o.set i { ob with els := ob.els.set k e' } = o') (hw : wk (rtc (dropf [i]) true t) t') : Weak ⟨t, o⟩ ⟨t', o'⟩ := by
  subst ho'; subst hc
  rintro P _ B a w ⟨G, r⟩
  have nb : ∀ {j x g}, look o G j x g → x.box = true → (x.els.all fun c => nodepc i c) = true := fun h hb => by
    have := List.all_eq_true.1 hall _ (List.mem_of_getElem? h.1)
    simpa only [hb, Bool.not_true, Bool.false_or] using this
  obtain ⟨g, hlk⟩ := r.look ho
  obtain ⟨fp, hown, hnd, hF⟩ := r.ok i ob g hlk hl
  simp only [hb, Env.of, Bool.false_eq_true, if_false] at hown
  obtain ⟨hlen, ⟨h, _⟩ | ⟨b, off, C, ty, fz, fps, ha, hbk, hz, h1, h2, h3, rfl, hr⟩⟩ := hown
  · rw [h] at he; simp at he
  have hk : k < ob.els.length := (List.getElem?_eq_some_iff.1 he).1
  obtain ⟨f1, f2, f3, cs, rfl, hn, hcs, hone, hre, hr1, hr3⟩ := Rr_get hr he
  have hsub2 : ∀ x ∈ f2, g.F x := fun x hx => hF x (by simp [hx])
  generalize hob' : ({ ob with els := ob.els.set k (rtc vwf true e) } : AObj) = ob'
  generalize hg' : ({ g with F := fun x => g.F x ∧ x ∉ f2 } : CO) = g'
  generalize hO : o.set i ob' = o'
  generalize hGG : G.set i g' = G'
  have back : ∀ {j x y}, look o' G' j x y → (j = i ∧ x = ob' ∧ y = g') ∨ (j ≠ i ∧ look o G j x y) := by
    intro j x y h
    rw [← hO, ← hGG] at h
    exact look_set h
  have fi : look o' G' i ob' g' := by rw [← hO, ← hGG]; exact look_set_self hlk
  have fo : ∀ {j x y}, j ≠ i → look o G j x y → look o' G' j x y := fun hj h => by rw [← hO, ← hGG]; exact look_set_ne h hj
  have hobl : ob'.live = true := by rw [← hob']; exact hl
  have hobb : ob'.box = false := by rw [← hob']; exact hb
  have hobn : ob'.n = ob.n := by rw [← hob']
  have hobv : ob'.ver = ob.ver := by rw [← hob']
  have hobe : ob'.els.length = ob.els.length := by rw [← hob']; simp
  have hga : g'.a = g.a := by rw [← hg']
  have hgc : g'.cap = g.cap := by rw [← hg']
  have hgF : ∀ x, g'.F x ↔ g.F x ∧ x ∉ f2 := fun x => by rw [← hg']
  let Er : Env := (env B o G w).no i
  have rt1 : Retags (dropf [i]) true (env B o G w) Er (fun _ => True) := by
    refine ⟨fun t e => by simp [dropf] at e, fun t e => by simp only [dropf, Option.some.injEq] at e; exact ⟨e.symm, fun b hb => hb⟩, fun j t e => ?_, fun _ _ _ _ h => h, fun _ _ _ _ _ _ h => h⟩
    simp only [dropf] at e
    split at e
    · cases e
    · rename_i hiu
      obtain rfl := Option.some.inj e
      refine ⟨by simp, ?_, fun b hb => ⟨hiu, hb⟩⟩
      by_cases hV : (env B o G w).V j
      · exact .inl hV
      · exact .inr hV
  have kA : ∀ x, (env B o G w).A x → (env B o' G' w).A x := fun x hx => ⟨hx.1, fun j y z hlj hjl hf => by
    rcases back hlj with ⟨rfl, rfl, rfl⟩ | ⟨_, h⟩
    · exact hx.2 _ _ _ hlk hl ((hgF x).1 hf).1
    · exact hx.2 _ _ _ h hjl hf⟩
  have kS : ∀ x ∈ f2, (env B o' G' w).A x := fun x hx => ⟨(r.fresh _ _ _ x hlk hl (hsub2 x hx)).elim fun h1 h2 => h1.elim (fun h => .inl (B.gA x h)) fun h => .inr ⟨h, h2⟩, fun j y z hlj hjl hf => by
    rcases back hlj with ⟨rfl, rfl, rfl⟩ | ⟨hj, h⟩
    · exact ((hgF x).1 hf).2 hx
    · exact hj (r.apart _ _ _ _ _ _ x h hlk hjl hl hf (hsub2 x hx))⟩
  have k2' : Keeps w Er w (env B o' G' w) := by
    refine ⟨fun x hx => ⟨kA x hx, rfl⟩, fun j h x hx => ?_, fun j x hV h => ?_, fun j ver x h => ?_, fun j ver p q x h => ?_⟩
    · obtain ⟨y, hy⟩ := r.look hx
      by_cases hj : j = i
      · subst hj
        rw [ho] at hx
        obtain rfl := Option.some.inj hx; exact hl
      · exact h x (fo hj hy).1
    · obtain ⟨hji, x', y, hlj, hjl, hf, hne⟩ := h
      exact ⟨⟨x', y, fo (by simpa using hji) hlj, hjl, hf, hne⟩, rfl⟩
    · obtain ⟨x', y, hlj, hver, hh, hz⟩ := h
      by_cases hj : j = i
      · subst hj
        obtain ⟨rfl, rfl⟩ := look_inj hlk hlj
        exact ⟨ob', g', fi, by omega, fun _ hve => by rw [hga, hgc, hobe]; exact hh hl (by omega), hz⟩
      · exact ⟨x', y, fo hj hlj, hver, hh, hz⟩
    · obtain ⟨x', y, hlj, hver, hh, hz⟩ := h
      by_cases hj : j = i
      · subst hj
        obtain ⟨rfl, rfl⟩ := look_inj hlk hlj
        exact ⟨ob', g', fi, by omega, fun _ hve => by rw [hga, hobn]; exact hh hl (by omega), fun h => by rw [hobb] at h; cases h⟩
      · exact ⟨x', y, fo hj hlj, hver, hh, hz⟩
  have kp : Keeps w (env B o G w).plain w (env B o' G' w).plain := ⟨fun x hx => ⟨kA x hx, rfl⟩, fun _ _ => trivial, fun _ _ _ h => h.elim, fun _ _ _ h => h.elim, fun _ _ _ _ _ h => h.elim⟩
  have rv : Retags vwf true (env B o G w).plain (env B o' G' w).plain (fun x => x ∈ f2) := by
    refine ⟨fun t e => ?_, fun t e => ?_, fun j t e => by simp [vwf] at e, fun _ _ _ _ h => h.elim, fun _ _ _ _ _ _ h => h.elim⟩
    · simp only [vwf, Option.some.injEq] at e
      subst e
      exact ⟨by simp, fun b hb => kS b hb⟩
    · simp only [vwf, Option.some.injEq] at e
      exact ⟨e.symm, fun b hb => kA b hb⟩
  have hnd' := hnd
  simp only [List.nodup_cons] at hnd'
  refine ⟨G', { len := by rw [← hO, ← hGG]; simp [r.len], defs := r.defs, ok := ?_, apart := ?_, fresh := ?_, tmps := Rc_wk hw (Rc_keeps k2' _ _ _ (by simp) (Rc_rt rt1 _ _ _ (by simp) r.tmps)), size := r.size, frame := r.frame, base := r.base, same := r.same }⟩
  · intro j x y hlj hjl
    rcases back hlj with ⟨rfl, rfl, rfl⟩ | ⟨hj, h⟩
    · refine ⟨b :: (f1 ++ [] ++ f3), ?_, ?_, ?_⟩
      · rw [hobb, ← hob', ← hg']
        simp only [Env.of, Bool.false_eq_true, if_false]
        refine ⟨by simpa using hlen, .inr ⟨b, off, C, ty, fz, _, ha, hbk, hz, h1, by simpa using h2, h3, rfl, ?_⟩⟩
        exact Rr_mk hk hn hcs hone (Rc_rt rv _ _ _ (fun x hx => hx) hre) (Rr_keeps kp _ _ _ _ _ rfl (fun _ _ => rfl) hr1) (Rr_keeps kp _ _ _ _ _ rfl (fun _ _ => rfl) hr3)
      · have hs : (f1 ++ [] ++ f3).Sublist (f1 ++ f2 ++ f3) := ((List.Sublist.refl f1).append (List.nil_sublist f2)).append (List.Sublist.refl f3)
        exact List.nodup_cons.2 ⟨fun h => hnd'.1 (hs.subset h), hs.nodup hnd'.2⟩
      · intro x hx
        rw [hgF]
        have hin : x ∈ b :: (f1 ++ f2 ++ f3) := by
          simp only [List.mem_cons, List.mem_append, List.not_mem_nil, or_false] at hx ⊢
          grind
        refine ⟨hF x hin, fun hx2 => ?_⟩
        have hd := hnd'.2
        simp only [List.nodup_append, List.mem_append] at hd
        simp only [List.mem_cons, List.mem_append, List.not_mem_nil, or_false] at hx
        rcases hx with rfl | hx | hx
        · exact hnd'.1 (by simp [hx2])
        · exact hd.1.2.2 x hx x hx2 rfl
        · exact hd.2.2 x (.inr hx2) x hx rfl
    · obtain ⟨fq, q1, q2, q3⟩ := r.ok j x y h hjl
      refine ⟨fq, ?_, q2, q3⟩
      cases hbj : x.box with
      | false =>
        simp only [hbj, Env.of, Bool.false_eq_true, if_false] at q1 ⊢
        exact q1.keeps kp (fun _ _ => rfl)
      | true =>
        simp only [hbj, Env.of, if_true] at q1 ⊢
        exact (q1.nodep (nb h hbj)).keeps k2' (fun _ _ => rfl)
  · intro j1 j2 x1 x2 y1 y2 z hl1 hl2 v1 v2 hf1 hf2
    rcases back hl1 with ⟨rfl, rfl, rfl⟩ | ⟨hj1, h1⟩ <;> rcases back hl2 with ⟨rfl, rfl, rfl⟩ | ⟨hj2, h2⟩
    · rfl
    · exact absurd (r.apart _ _ _ _ _ _ z hlk h2 hl v2 ((hgF z).1 hf1).1 hf2).symm hj2
    · exact absurd (r.apart _ _ _ _ _ _ z h1 hlk v1 hl hf1 ((hgF z).1 hf2).1) hj1
    · exact r.apart _ _ _ _ _ _ z h1 h2 v1 v2 hf1 hf2
  · intro j x y z hlj hjl hf
    rcases back hlj with ⟨rfl, rfl, rfl⟩ | ⟨_, h⟩
    · exact r.fresh _ _ _ z hlk hl ((hgF z).1 hf).1
    · exact r.fresh _ _ _ z h hjl hf
theorem go_openB {P : Program} [Tabs P] (i k c : Nat) {id : Nat} {L : List Oper} {Q : Exit → AS → Prop} {t t' : List AV} {o o' : List AObj} {ob : AObj} {e : List AV} {m : Nat} {rows : List (List AV)} (ho : o[i]? = some ob) (he : ob.els[k]? = some e) (hc : e[c]? = some (.sl .own m rows))
    (h : awp P (.region id L.toArray false) ⟨t', o'⟩ Q) (hl : ob.live = true := by rfl) (hb : ob.box = true := by rfl) (hall : (o.all fun x => !x.box || x.els.all fun c => nodepc i c) = true := by simp)
    (ho' : o.set i { ob with els := ob.els.set k (e.set c (.obj o.length 1)) } ++ [⟨true, false, m, 1, rows⟩] = o' := by simp; rfl) (hw : rtc (dropf [i]) true t = t' := by simp; rfl) : awp P (hide (.region id L.toArray false)) ⟨t, o⟩ Q :=
  go_weak (weak_openB i k c ho hl hb hall he hc ho' (hw ▸ wk_rfl _)) h
theorem go_share {P : Program} [Tabs P] (i k : Nat) {id : Nat} {L : List Oper} {Q : Exit → AS → Prop} {t t' : List AV} {o o' : List AObj} {ob : AObj} {e e' : List AV} (ho : o[i]? = some ob) (he : ob.els[k]? = some e) (he' : rtc vwf true e = e')
    (h : awp P (.region id L.toArray false) ⟨t', o'⟩ Q) (hl : ob.live = true := by rfl) (hb : ob.box = false := by rfl) (hall : (o.all fun x => !x.box || x.els.all fun c => nodepc i c) = true := by simp)
    (ho' : o.set i { ob with els := ob.els.set k e' } = o' := by simp; rfl) (hw : rtc (dropf [i]) true t = t' := by simp; rfl) : awp P (hide (.region id L.toArray false)) ⟨t, o⟩ Q :=
  go_weak (weak_share i k ho hl hb hall he he' ho' (hw ▸ wk_rfl _)) h
end Go.Aw
