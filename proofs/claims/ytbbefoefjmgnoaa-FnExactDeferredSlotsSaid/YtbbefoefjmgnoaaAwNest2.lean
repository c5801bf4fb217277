/-
  Proved here: such an object may become a part of the element again.
  No condition beyond what each statement spells out.
-/
import Derived.Test.YtbbefoefjmgnoaaAwNest
set_option linter.all false
set_option linter.unusedVariables false
set_option linter.unusedSimpArgs false
namespace Go.Aw

/-- A value that reads the same whatever objects there are. -/
def AV.pureA : AV → Bool
  | .int _ _ => true
  | .bool _ => true
  | .str _ => true
  | .sl .own _ _ => true
  | _ => false

theorem R_pure {w : World} {E E' : Env} (hA : ∀ b, E.A b → E'.A b) {x : AV} {v : Value} {fp : List Nat} (hx : x.pureA = true) (h : R w E x v fp) : R w E' x v fp := by
  cases x with
  | int _ _ => simpa [R] using h
  | bool _ => simpa [R] using h
  | str _ => simpa [R] using h
  | sl g n l =>
    cases g with
    | own =>
      obtain ⟨a, cap, hv, hown⟩ := R_own.1 h
      exact R_own.2 ⟨a, cap, hv, hown.keeps ⟨fun b hb => ⟨hA b hb, rfl⟩, fun _ _ => trivial, fun _ _ _ h => h.elim, fun _ _ _ h => h.elim, fun _ _ _ _ _ h => h.elim⟩ (fun _ _ => rfl)⟩
    | _ => cases hx
  | _ => cases hx

theorem Rc_pure {w : World} {E E' : Env} (hA : ∀ b, E.A b → E'.A b) : ∀ {c : List AV} {cs : List Value} {fp : List Nat}, c.all AV.pureA = true → Rc w E c cs fp → Rc w E' c cs fp
  | [], [], _, _, h => h
  | [], _ :: _, _, _, h => by simp [Rc] at h
  | _ :: _, [], _, _, h => by simp [Rc] at h
  | x :: xs, c :: cs, fp, hp, h => by
    simp only [Rc] at h ⊢
    simp only [List.all_cons, Bool.and_eq_true] at hp
    obtain ⟨f1, f2, h1, h2, h3⟩ := h
    exact ⟨f1, f2, R_pure hA hp.1 h1, Rc_pure hA hp.2 h2, h3⟩

theorem Rr_pure {w : World} {E E' : Env} (hA : ∀ b, E.A b → E'.A b) : ∀ {l : List (List AV)} {b off n : Nat} {fp : List Nat}, (l.all fun r => r.all AV.pureA) = true → Rr w E l b off n fp → Rr w E' l b off n fp
  | [], _, _, _, _, _, h => h
  | e :: es, b, off, n, fp, hp, h => by
    simp only [Rr] at h ⊢
    simp only [List.all_cons, Bool.and_eq_true] at hp
    obtain ⟨cs, f1, f2, h1, h2, h3, h4, h5, h6⟩ := h
    exact ⟨cs, f1, f2, h1, h2, h3, Rc_pure hA hp.1 h4, Rr_pure hA hp.2 h5, h6⟩

theorem all_take {α : Type} {p : α → Bool} {l : List α} (k : Nat) (h : l.all p = true) : (l.take k).all p = true := by
  rw [List.all_eq_true] at h ⊢; exact fun x hx => h x (List.mem_of_mem_take hx)
theorem all_drop {α : Type} {p : α → Bool} {l : List α} (k : Nat) (h : l.all p = true) : (l.drop k).all p = true := by
  rw [List.all_eq_true] at h ⊢; exact fun x hx => h x (List.mem_of_mem_drop hx)
theorem take_set_same {α : Type} (l : List α) (k : Nat) (x : α) : (l.set k x).take k = l.take k := by
  rw [List.take_set]; exact List.set_eq_of_length_le (by simp; omega)
theorem drop_set_same {α : Type} (l : List α) (k : Nat) (x : α) : (l.set k x).drop (k + 1) = l.drop (k + 1) := by
  rw [List.drop_set]; simp

/-- An object becomes part of an element of a slice again. -/
theorem weak_close {t t' : List AV} {o o' : List AObj} (i J k c : Nat) {ob oj : AObj} {e : List AV} {ver : Nat} (ho : o[i]? = some ob) (hj : o[J]? = some oj) (hij : i ≠ J) (hl : ob.live = true) (hlj : oj.live = true) (hbj : oj.box = false)
    (he : ob.els[k]? = some e) (hc : e[c]? = some (.obj J ver)) (hver : oj.ver = ver) (hp : ((ob.els.set k (e.set c (.int .i64 0))).all fun r => r.all AV.pureA) = true) (hbx : ob.box = true)
    (ho' : (o.set J oj.kill).set i { ob with box := false, els := ob.els.set k (e.set c (.sl .own oj.n oj.els)) } = o') (hw : wk t t') : Weak ⟨t, o⟩ ⟨t', o'⟩ := by
  subst ho'
  rintro B a w ⟨G, r⟩
  obtain ⟨g, hlk⟩ := r.look ho
  obtain ⟨gj, hlkj⟩ := r.look hj
  obtain ⟨fp, hown, hnd, hF⟩ := r.ok i ob g hlk hl
  obtain ⟨fj, hownj, hndj, hFj⟩ := r.ok J oj gj hlkj hlj
  simp only [hbx, Env.of, if_true] at hown
  simp only [hbj, Env.of, Bool.false_eq_true, if_false] at hownj
  obtain ⟨hlen, ⟨h, _⟩ | ⟨b, off, C, ty, fz, fps, ha, hbk, hz, h1, h2, h3, rfl, hr⟩⟩ := hown
  · rw [h] at he; simp at he
  have hk : k < ob.els.length := (List.getElem?_eq_some_iff.1 he).1
  have hcl : c < e.length := (List.getElem?_eq_some_iff.1 hc).1
  obtain ⟨f1, f2, f3, cs, rfl, hn, hcs, hone, hre, hr1, hr3⟩ := Rr_get hr he
  obtain ⟨a1, a2, a3, v, rfl, hv, k1, k2, k3⟩ := Rc_at hre hc
  simp only [R] at k2
  obtain ⟨rfl, ob2, g2, hl2, _, hh, _⟩ := k2
  obtain ⟨rfl, rfl⟩ := look_inj hlkj hl2
  have hvs := hh hlj hver
  obtain ⟨r2, kk⟩ := r.transfer hij hlk hlkj hl hlj
  generalize hgt : ({ g with F := fun b => g.F b ∨ gj.F b } : CO) = gt at r2 kk
  have hgta : gt.a = g.a := by rw [← hgt]
  have hgtc : gt.cap = g.cap := by rw [← hgt]
  have hgtF : ∀ x, gt.F x ↔ g.F x ∨ gj.F x := fun x => by rw [← hgt]
  have hlk2 : look (o.set J oj.kill) (G.set i gt) i ob gt := by
    refine ⟨by rw [List.getElem?_set_ne (Ne.symm hij)]; exact hlk.1, ?_⟩
    have := (List.getElem?_eq_some_iff.1 hlk.2).1
    simp [this]
  have hpe : (e.set c (.int .i64 0)).all AV.pureA = true := by
    rw [List.all_eq_true] at hp
    exact hp _ (List.mem_iff_getElem?.2 ⟨k, by rw [List.getElem?_set_self hk]⟩)
  have hm := r2.modify hlk2 hl { ob with box := false, els := ob.els.set k (e.set c (.sl .own oj.n oj.els)) } gt w (Nat.le_refl _) rfl (fun _ => ⟨rfl, rfl, by simp⟩) (fun b hb => .inl hb) (fun b hb hne => ⟨hb, hne⟩) (fun _ _ _ => rfl) (Nat.le_refl _) (fun km _ => by
    generalize hE : env B ((o.set J oj.kill).set i { ob with box := false, els := ob.els.set k (e.set c (.sl .own oj.n oj.els)) }) ((G.set i gt).set i gt) w = E'
    replace km : Keeps w (env B (o.set J oj.kill) (G.set i gt) w) w E' := by rw [← hE]; exact km
    have kA : ∀ x, (env B o G w).A x → E'.A x := fun x hx => (km.a x (kk.a x hx).1).1
    have kp : Keeps w (env B o G w).plain w E'.plain := ⟨fun x hx => ⟨kA x hx, rfl⟩, fun _ _ => trivial, fun _ _ _ h => h.elim, fun _ _ _ h => h.elim, fun _ _ _ _ _ h => h.elim⟩
    refine ⟨b :: (f1 ++ (a1 ++ fj ++ a3) ++ f3), ?_, ?_, ?_⟩
    · simp only [Env.of, Bool.false_eq_true, if_false]
      refine ⟨by simpa using hlen, .inr ⟨b, off, C, ty, fz, _, by rw [hgta]; exact ha, hbk, hz, by rw [hgtc]; exact h1, by rw [hgtc]; simpa using h2, by rw [hgtc]; exact h3, rfl, ?_⟩⟩
      refine Rr_mk hk hn hcs hone (Rc_put hcl hv ?_ ?_ ?_) ?_ ?_
      · exact Rc_pure (E := env B o G w) (E' := E'.plain) kA (by have := all_take c hpe; rwa [take_set_same] at this) k1
      · exact R_own.2 ⟨gj.a, gj.cap, hvs, hownj.keeps kp (fun _ _ => rfl)⟩
      · exact Rc_pure (E := env B o G w) (E' := E'.plain) kA (by have := all_drop (c + 1) hpe; rwa [drop_set_same] at this) k3
      · exact Rr_pure (E := env B o G w) (E' := E'.plain) kA (by have := all_take k hp; rwa [take_set_same] at this) hr1
      · exact Rr_pure (E := env B o G w) (E' := E'.plain) kA (by have := all_drop (k + 1) hp; rwa [drop_set_same] at this) hr3
    · have hdj : ∀ x ∈ fj, x ∉ b :: (f1 ++ (a1 ++ [] ++ a3) ++ f3) := fun x hx hx2 => hij (r.apart _ _ _ _ _ _ x hlk hlkj hl hlj (hF x hx2) (hFj x hx))
      have hp2 : (b :: (f1 ++ (a1 ++ fj ++ a3) ++ f3)).Perm ((b :: (f1 ++ (a1 ++ [] ++ a3) ++ f3)) ++ fj) := by
        rw [List.cons_append]
        refine List.Perm.cons b ?_
        simp only [List.append_assoc, List.nil_append]
        refine List.Perm.append_left f1 (List.Perm.append_left a1 ?_)
        rw [← List.append_assoc a3]
        exact List.perm_append_comm
      refine hp2.nodup_iff.2 (List.nodup_append.2 ⟨hnd, hndj, fun x hx y hy e => ?_⟩)
      subst e
      exact hdj x hy hx
    · intro x hx
      rw [hgtF]
      have : x ∈ b :: (f1 ++ (a1 ++ [] ++ a3) ++ f3) ∨ x ∈ fj := by
        simp only [List.mem_cons, List.mem_append, List.not_mem_nil, or_false] at hx ⊢
        grind
      rcases this with h | h
      · exact .inl (hF x h)
      · exact .inr (hFj x h))
  refine ⟨(G.set i gt).set i gt, { hm.1 with tmps := ?_ }⟩
  exact Rc_wk hw hm.1.tmps
end Go.Aw
