/-
  Proved here: how a result is handed to the caller, and what a contract says.
  No condition beyond what each statement spells out.
-/
import Derived.Test.YtbbefoefjmgnoaaAwApp2
set_option linter.all false
namespace Go.Aw

mutual
/-- What is handed out: an object's handle becomes the slice itself. -/
def res (o : List AObj) : AV → AV
  | .obj i ver => match AV.isObj o i ver with
    | some ob => .sl .own ob.n ob.els
    | none => .undef
  | .agg c => .agg (resc o c)
  | .tup c => .tup (resc o c)
  | .int k n => .int k n
  | .bool b => .bool b
  | .str s => .str s
  | .sl g n l => .sl g n l
  | .vptr g c off => .vptr g c off
  | .ptr i v j k => .ptr i v j k
  | .fn f c => .fn f c
  | .undef => .undef
def resc (o : List AObj) : List AV → List AV
  | [] => []
  | x :: xs => res o x :: resc o xs
end

mutual
def uses : AV → List Nat
  | .obj i _ => [i]
  | .agg c => usesc c
  | .tup c => usesc c
  | _ => []
def usesc : List AV → List Nat
  | [] => []
  | x :: xs => uses x ++ usesc xs
end

mutual
def resOk (o : List AObj) : AV → Bool
  | .obj i ver => match AV.isObj o i ver with
    | some ob => !ob.box
    | none => false
  | .agg c => resOkc o c
  | .tup c => resOkc o c
  | .int _ _ => true
  | .bool _ => true
  | .str _ => true
  | .sl (.dep _) _ _ => false
  | .sl _ _ _ => true
  | .vptr .view _ _ => true
  | .fn _ [] => true
  | .undef => true
  | _ => false
def resOkc (o : List AObj) : List AV → Bool
  | [] => true
  | x :: xs => resOk o x && resOkc o xs
end

def Of (o : List AObj) (G : List CO) (u : List Nat) (b : Nat) : Prop := ∃ i ob g, i ∈ u ∧ look o G i ob g ∧ ob.live = true ∧ g.F b

mutual
theorem R_res {B : Base} {s : AS} {G : List CO} {a : Act} {w : World} (r : Rel' B s G a w) : ∀ (av : AV) (v : Value), resOk s.o av = true → (uses av).Nodup → R w (env B s.o G w) av v [] →
    ∃ fp, R w (env B s.o G w).plain (res s.o av) v fp ∧ fp.Nodup ∧ ∀ b ∈ fp, Of s.o G (uses av) b
  | .obj i ver, v, ho, _, h => by
    cases hob : AV.isObj s.o i ver with
    | none => simp [resOk, hob] at ho
    | some ob =>
      simp only [resOk, hob] at ho
      simp only [res, hob]
      simp only [R] at h
      obtain ⟨_, ob', g, hl, _, hh, _⟩ := h
      obtain ⟨h1, h2, h3⟩ := isObj_some hob
      obtain rfl := Option.some.inj (hl.1.symm.trans h1)
      have hv := hh h2 h3
      obtain ⟨fp, hown, hnd, hF⟩ := r.ok i _ g hl h2
      have hb : ob'.box = false := by simpa using ho
      rw [hb] at hown
      exact ⟨fp, R_own.2 ⟨g.a, g.cap, hv, hown⟩, hnd, fun b hb => ⟨i, _, g, by simp [uses], hl, h2, hF b hb⟩⟩
  | .agg c, v, ho, hu, h => by
    simp only [R] at h
    obtain ⟨cs, rfl, hone, hr⟩ := h
    obtain ⟨fp, h1, h2, h3⟩ := Rc_res r c cs (by simpa [resOk] using ho) (by simpa [uses] using hu) hr
    exact ⟨fp, by simp only [res, R]; exact ⟨cs, rfl, hone, h1⟩, h2, by simpa [uses] using h3⟩
  | .tup c, v, ho, hu, h => by
    simp only [R] at h
    obtain ⟨cs, rfl, hr⟩ := h
    obtain ⟨fp, h1, h2, h3⟩ := Rc_res r c cs (by simpa [resOk] using ho) (by simpa [uses] using hu) hr
    exact ⟨fp, by simp only [res, R]; exact ⟨cs, rfl, h1⟩, h2, by simpa [uses] using h3⟩
  | .int k n, v, _, _, h => ⟨[], by simpa [res, R] using h, by simp, by simp⟩
  | .bool b, v, _, _, h => ⟨[], by simpa [res, R] using h, by simp, by simp⟩
  | .str x, v, _, _, h => ⟨[], by simpa [res, R] using h, by simp, by simp⟩
  | .sl .own n l, v, _, _, h => ⟨[], by simp only [res]; rw [R_own] at h ⊢; exact h, by simp, by simp⟩
  | .sl .view n l, v, _, _, h => ⟨[], by simp only [res, R] at h ⊢; exact h, by simp, by simp⟩
  | .sl (.dep i) n l, v, ho, _, h => by simp [resOk] at ho
  | .vptr .view c off, v, _, _, h => ⟨[], by simp only [res, R] at h ⊢; exact h, by simp, by simp⟩
  | .vptr .own c off, v, ho, _, h => by simp [resOk] at ho
  | .vptr (.dep _) c off, v, ho, _, h => by simp [resOk] at ho
  | .ptr _ _ _ _, v, ho, _, h => by simp [resOk] at ho
  | .fn f [], v, _, _, h => ⟨[], by simp only [res, R] at h ⊢; obtain ⟨h1, cs, h2, h3⟩ := h; refine ⟨trivial, cs, h2, ?_⟩; cases cs <;> simp_all [Rc], by simp, by simp⟩
  | .fn f (_ :: _), v, ho, _, h => by simp [resOk] at ho
  | .undef, v, _, _, h => ⟨[], by simp [res, R], by simp, by simp⟩
theorem Rc_res {B : Base} {s : AS} {G : List CO} {a : Act} {w : World} (r : Rel' B s G a w) : ∀ (c : List AV) (cs : List Value), resOkc s.o c = true → (usesc c).Nodup → Rc w (env B s.o G w) c cs [] →
    ∃ fp, Rc w (env B s.o G w).plain (resc s.o c) cs fp ∧ fp.Nodup ∧ ∀ b ∈ fp, Of s.o G (usesc c) b
  | [], [], _, _, _ => ⟨[], by simp [resc, Rc], by simp, by simp⟩
  | [], _ :: _, _, _, h => by simp [Rc] at h
  | _ :: _, [], _, _, h => by simp [Rc] at h
  | x :: xs, c :: cs, ho, hu, h => by
    simp only [Rc] at h
    obtain ⟨g1, g2, h1, h2, e⟩ := h
    obtain ⟨rfl, rfl⟩ : g1 = [] ∧ g2 = [] := by simpa using e
    simp only [resOkc, Bool.and_eq_true] at ho
    simp only [usesc, List.nodup_append] at hu
    obtain ⟨f1, k1, n1, o1⟩ := R_res r x c ho.1 hu.1 h1
    obtain ⟨f2, k2, n2, o2⟩ := Rc_res r xs cs ho.2 hu.2.1 h2
    refine ⟨f1 ++ f2, by simp only [resc, Rc]; exact ⟨f1, f2, k1, k2, rfl⟩, ?_, ?_⟩
    · refine List.nodup_append.2 ⟨n1, n2, fun b hb b' hb' e => ?_⟩
      subst e
      obtain ⟨i, ob, g, hi, hl, hlive, hF⟩ := o1 b hb
      obtain ⟨j, ob', g', hj, hl', hlive', hF'⟩ := o2 b hb'
      exact hu.2.2 i hi j hj (r.apart i j _ _ _ _ b hl hl' hlive hlive' hF hF')
    · intro b hb
      rcases List.mem_append.1 hb with hb | hb
      · obtain ⟨i, ob, g, hi, h⟩ := o1 b hb
        exact ⟨i, ob, g, by simp [usesc, hi], h⟩
      · obtain ⟨i, ob, g, hi, h⟩ := o2 b hb
        exact ⟨i, ob, g, by simp [usesc, hi], h⟩
end

/-- The environment in which everything that is there may be read. -/
def envAll (w : World) : Env := ⟨fun b => b < w.heap.size, fun _ => True, fun _ _ => False, fun _ _ _ => False, fun _ _ _ _ _ => False⟩

/-- The environment of a value that leans on no memory but its own. -/
def envNone : Env := ⟨fun _ => False, fun _ => True, fun _ _ => False, fun _ _ _ => False, fun _ _ _ _ _ => False⟩

/-- A contract: called with arguments that read as `args`, the function returns a value that reads as `r`; the value's memory is new and its own. -/
def Ok (P : Program) (f : FuncId) (args : List AV) (r : AV) : Prop :=
  ∀ (w : World) (vs : List Value), Rc w (envAll w) args vs [] →
    Calls P f vs.toArray w fun e w' => ∃ v fp, e = .returned v ∧ R w' envNone r v fp ∧ fp.Nodup ∧
      (∀ b ∈ fp, w.heap.size ≤ b ∧ b < w'.heap.size) ∧ w.heap.size ≤ w'.heap.size ∧ (∀ b, b < w.heap.size → w'.heap[b]? = w.heap[b]?) ∧ Same w w'

/-- What a pointer to a box shows to a callee. -/
def vwf : Tg → Option Tg
  | .dep _ => none
  | _ => some .view

mutual
/-- How an argument is read by a callee. -/
def arg (o : List AObj) : AV → AV
  | .obj i ver => match AV.isObj o i ver with
    | some ob => if ob.box then .undef else .sl .view ob.n (rtr (fun _ => some .view) false ob.els)
    | none => .undef
  | .ptr i ver idx off => match AV.isObj o i ver with
    | some ob => match ob.els[idx]? with
      | some e => .vptr .view (rtc vwf false e) off
      | none => .undef
    | none => .undef
  | .agg c => .agg (argc o c)
  | .tup c => .tup (argc o c)
  | .int k n => .int k n
  | .bool b => .bool b
  | .str s => .str s
  | .sl (.dep i) n l => match o[i]? with
    | some ob => if ob.live then .sl .view n (rtr (fun _ => some .view) false l) else .undef
    | none => .undef
  | .sl _ n l => .sl .view n (rtr (fun _ => some .view) false l)
  | .vptr (.dep i) c off => match o[i]? with
    | some ob => if ob.live then .vptr .view (rtc (fun _ => some .view) false c) off else .undef
    | none => .undef
  | .vptr _ c off => .vptr .view (rtc (fun _ => some .view) false c) off
  | .fn f c => .fn f (argc o c)
  | .undef => .undef
def argc (o : List AObj) : List AV → List AV
  | [] => []
  | x :: xs => arg o x :: argc o xs
end

theorem vw_plain {B : Base} {s : AS} {G : List CO} {a : Act} {w : World} (r : Rel' B s G a w) (O : Nat → Prop) (hO : ∀ b, O b → b < w.heap.size) : Retags (fun _ => some .view) false (env B s.o G w).plain (envAll w) O where
  own t e := by obtain rfl := Option.some.inj e; exact ⟨by simp, fun b hb => hO b hb⟩
  view t e := by obtain rfl := Option.some.inj e; exact ⟨rfl, fun b hb => env_lt r hb⟩
  dep i t e := by obtain rfl := Option.some.inj e; exact ⟨by simp, .inl trivial, fun b hb => hb.elim⟩
  hh h := by cases h
  hl h := by cases h

theorem vwf_retags {B : Base} {s : AS} {G : List CO} {a : Act} {w : World} (r : Rel' B s G a w) (box : Bool) (O : Nat → Prop) (hO : ∀ b, O b → b < w.heap.size) : Retags vwf false ((env B s.o G w).of box) (envAll w) O where
  own t e := by obtain rfl := Option.some.inj e; exact ⟨by simp, fun b hb => hO b hb⟩
  view t e := by obtain rfl := Option.some.inj e; exact ⟨rfl, fun b hb => env_lt r (by cases box <;> exact hb)⟩
  dep i t e := by cases e
  hh h := by cases h
  hl h := by cases h

theorem vw_sub {B : Base} {s : AS} {G : List CO} {a : Act} {w : World} (r : Rel' B s G a w) (g : Tg) (O : Nat → Prop) (hO : ∀ b, O b → b < w.heap.size) : Retags (fun _ => some .view) false ((env B s.o G w).sub g) (envAll w).plain O := by
  cases g with
  | own => exact vw_plain r O hO
  | view => exact vw_plain r O hO
  | dep i => exact
    { own := fun t e => by obtain rfl := Option.some.inj e; exact ⟨by simp, fun b hb => hO b hb⟩
      view := fun t e => by obtain rfl := Option.some.inj e; exact ⟨rfl, fun b hb => env_lt r hb⟩
      dep := fun j t e => by
        obtain rfl := Option.some.inj e
        refine ⟨by simp, .inl trivial, fun b hb => ?_⟩
        obtain ⟨rfl, ob, g, hl, hlive, hF, _⟩ := hb
        exact (r.fresh _ _ _ b hl hlive hF).2
      hh := fun h => by cases h
      hl := fun h => by cases h }

theorem tg_lt {B : Base} {s : AS} {G : List CO} {a : Act} {w : World} (r : Rel' B s G a w) {g : Tg} {b : Nat} (h : (env B s.o G w).tg g b) : b < w.heap.size := by
  cases g with
  | own => exact h.elim
  | view => exact env_lt r h
  | dep i => obtain ⟨ob, g, hl, hlive, hF, _⟩ := h; exact (r.fresh _ _ _ b hl hlive hF).2

theorem R_sl_view {B : Base} {s : AS} {G : List CO} {a : Act} {w : World} (r : Rel' B s G a w) {g : Tg} {n : Nat} {l : List (List AV)} {v : Value} (hd : ¬ (env B s.o G w).dead g) (h : R w (env B s.o G w) (.sl g n l) v []) :
    R w (envAll w) (.sl .view n (rtr (fun _ => some .view) false l)) v [] := by
  simp only [R, rtr_length] at h ⊢
  rcases h with h | ⟨x, cap, hv, hl, h⟩
  · exact absurd h.1 hd
  refine .inr ⟨x, cap, hv, hl, .inr (.inr ⟨by simp, trivial, ?_⟩)⟩
  rcases h with ⟨_, rfl, _⟩ | ⟨_, b, off, C, ty, fz, fps, ha, hb, hz, h1, h2, h3, hfp, hr⟩ | ⟨hg, _, h⟩
  · exact .inl rfl
  · cases hfp
  · rcases h with rfl | ⟨b, off, ha, ht, hr⟩
    · exact .inl rfl
    · exact .inr ⟨b, off, ha, tg_lt r ht, Rr_rt (vw_sub r g (fun _ => False) (fun _ h => h.elim)) _ _ _ _ _ (by simp) hr⟩

mutual
theorem R_arg {B : Base} {s : AS} {G : List CO} {a : Act} {w : World} (r : Rel' B s G a w) : ∀ (av : AV) (v : Value), R w (env B s.o G w) av v [] → R w (envAll w) (arg s.o av) v []
  | .obj i ver, v, h => by
    cases hob : AV.isObj s.o i ver with
    | none => simp [arg, hob, R]
    | some ob =>
      simp only [arg, hob]
      by_cases hb : ob.box = true
      · simp [hb, R]
      simp only [R] at h
      obtain ⟨_, ob', g, hl, _, hh, _⟩ := h
      obtain ⟨h1, h2, h3⟩ := isObj_some hob
      obtain rfl := Option.some.inj (hl.1.symm.trans h1)
      have hv := hh h2 h3
      obtain ⟨fp, ⟨hlen, hown⟩, hnd, hF⟩ := r.ok i _ g hl h2
      have hb' : ob'.box = false := by simpa using hb
      rw [hb'] at hown
      simp only [hb', Bool.false_eq_true, if_false]
      simp only [R, rtr_length]
      refine .inr ⟨g.a, g.cap, hv, ⟨hlen, by rcases hown with h | ⟨_, _, _, _, _, _, _, _, _, _, h, _⟩; simp [h.1]; exact h⟩, .inr (.inr ⟨by simp, trivial, ?_⟩)⟩
      rcases hown with ⟨h5, _⟩ | ⟨b, off, C, e, fz, fps, ha, hbk, hz, k1, k2, k3, rfl, hr⟩
      · left; rw [h5]; rfl
      · right
        have hlt : ∀ x ∈ b :: fps, x < w.heap.size := fun x hx => (r.fresh _ _ _ x hl h2 (hF x hx)).2
        exact ⟨b, off, ha, hlt b (by simp), Rr_rt (vw_plain r (fun x => x < w.heap.size) (fun _ h => h)) _ _ _ _ fps (fun x hx => hlt x (by simp [hx])) hr⟩
  | .ptr i ver idx off, v, h => by
    cases hob : AV.isObj s.o i ver with
    | none => simp [arg, hob, R]
    | some ob =>
      simp only [arg, hob]
      cases he : ob.els[idx]? with
      | none => simp [R]
      | some e =>
        simp only [R] at h ⊢
        obtain ⟨_, ob', g, hl, _, hh⟩ := h
        obtain ⟨h1, h2, h3⟩ := isObj_some hob
        obtain rfl := Option.some.inj (hl.1.symm.trans h1)
        obtain ⟨b, f, ha, hv⟩ := hh h2 h3
        obtain ⟨fp, ⟨_, hown⟩, hnd, hF⟩ := r.ok i _ g hl h2
        have hlt : ∀ x ∈ fp, x < w.heap.size := fun x hx => (r.fresh _ _ _ x hl h2 (hF x hx)).2
        rcases hown with ⟨h5, _⟩ | ⟨b', f', C, ty, fz, fps, ha', hbk, hz, k1, k2, k3, rfl, hr⟩
        · rw [h5] at he; simp at he
        · rw [ha] at ha'
          simp only [Option.some.injEq, Addr.mk.injEq, and_true] at ha'
          obtain ⟨rfl, rfl⟩ := ha'
          obtain ⟨f1, f2, f3, cs, rfl, hn, hc, hone, hrc, _, _⟩ := Rr_get hr he
          refine .inr ⟨trivial, b, f + idx * ob'.n, cs, ?_, hlt b (by simp), hc, hone, ?_⟩
          · rw [hv, Nat.add_assoc]
          · have := Rc_rt (vwf_retags r ob'.box (fun x => x < w.heap.size) (fun _ h => h)) e cs f2 (fun x hx => hlt x (by simp [hx])) hrc
            exact Rc_keeps (w := w) (w' := w) (E := envAll w) (E' := (envAll w).sub .view) ⟨fun _ h => ⟨h, rfl⟩, fun _ _ => trivial, fun _ _ _ h => h.elim, fun _ _ _ h => h.elim, fun _ _ _ _ _ h => h.elim⟩ _ _ _ (by simp) this
  | .agg c, v, h => by
    simp only [R, arg] at h ⊢
    obtain ⟨cs, hv, hone, hr⟩ := h
    exact ⟨cs, hv, hone, Rc_arg r c cs hr⟩
  | .tup c, v, h => by
    simp only [R, arg] at h ⊢
    obtain ⟨cs, hv, hr⟩ := h
    exact ⟨cs, hv, Rc_arg r c cs hr⟩
  | .fn f c, v, h => by
    simp only [R, arg] at h ⊢
    obtain ⟨h1, cs, hv, hr⟩ := h
    exact ⟨trivial, cs, hv, Rc_arg r c cs hr⟩
  | .int k n, v, h => by simpa [arg, R] using h
  | .bool b, v, h => by simpa [arg, R] using h
  | .str x, v, h => by simpa [arg, R] using h
  | .sl .own n l, v, h => by simp only [arg]; exact R_sl_view r (g := .own) (fun h => h) h
  | .sl .view n l, v, h => by simp only [arg]; exact R_sl_view r (g := .view) (fun h => h) h
  | .sl (.dep i) n l, v, h => by
    simp only [arg]
    cases ho : s.o[i]? with
    | none => simp [R]
    | some ob =>
      simp only
      by_cases hlive : ob.live = true
      · rw [if_pos hlive]
        exact R_sl_view r (g := .dep i) (fun hd => hd (fun ob' hob' => by rw [ho] at hob'; obtain rfl := Option.some.inj hob'; exact hlive)) h
      · rw [if_neg hlive]; simp [R]
  | .vptr .own c off, v, h => by
    simp only [R] at h
    rcases h with h | ⟨_, b, o, cs, hv, ht, _⟩
    · exact h.1.elim
    · exact ht.elim
  | .vptr .view c off, v, h => by
    simp only [arg]
    simp only [R] at h ⊢
    rcases h with h | ⟨_, b, o, cs, hv, ht, hcs, hone, hr⟩
    · exact h.1.elim
    · exact .inr ⟨trivial, b, o, cs, hv, tg_lt r ht, hcs, hone, Rc_rt (vw_sub r .view (fun _ => False) (fun _ h => h.elim)) _ _ _ (by simp) hr⟩
  | .vptr (.dep i) c off, v, h => by
    simp only [arg]
    cases ho : s.o[i]? with
    | none => simp [R]
    | some ob =>
      simp only
      by_cases hlive : ob.live = true
      · rw [if_pos hlive]
        simp only [R] at h ⊢
        rcases h with h | ⟨_, b, o, cs, hv, ht, hcs, hone, hr⟩
        · exact absurd (fun ob' hob' => by rw [ho] at hob'; obtain rfl := Option.some.inj hob'; exact hlive) h.1
        · exact .inr ⟨trivial, b, o, cs, hv, tg_lt r ht, hcs, hone, Rc_rt (vw_sub r (.dep i) (fun _ => False) (fun _ h => h.elim)) _ _ _ (by simp) hr⟩
      · rw [if_neg hlive]; simp [R]
  | .undef, v, _ => by simp [arg, R]
theorem Rc_arg {B : Base} {s : AS} {G : List CO} {a : Act} {w : World} (r : Rel' B s G a w) : ∀ (c : List AV) (cs : List Value), Rc w (env B s.o G w) c cs [] → Rc w (envAll w) (argc s.o c) cs []
  | [], [], _ => by simp [argc, Rc]
  | [], _ :: _, h => by simp [Rc] at h
  | _ :: _, [], h => by simp [Rc] at h
  | x :: xs, c :: cs, h => by
    simp only [Rc] at h
    obtain ⟨f1, f2, h1, h2, e⟩ := h
    obtain ⟨rfl, rfl⟩ : f1 = [] ∧ f2 = [] := by simpa using e
    simp only [argc, Rc]
    exact ⟨[], [], R_arg r x c h1, Rc_arg r xs cs h2, rfl⟩
end

mutual
/-- A callee's result: its own slices become objects of the caller. -/
def absorb (q k : Nat) : AV → AV × List AObj
  | .sl .own n l => (.obj k q, [⟨true, false, n, q, l⟩])
  | .agg c => let p := absorbc q k c; (.agg p.1, p.2)
  | .tup c => let p := absorbc q k c; (.tup p.1, p.2)
  | x => (x, [])
def absorbc (q k : Nat) : List AV → List AV × List AObj
  | [] => ([], [])
  | x :: xs => let p := absorb q k x; let r := absorbc q (k + p.2.length) xs; (p.1 :: r.1, p.2 ++ r.2)
end

/-- What absorbing gives: objects, each its part of the footprint, and a value of handles. -/
def Absorbed (q : Nat) (w : World) (E : Env) (k : Nat) (os : List AObj) (fp : List Nat) (done : Env → Prop) : Prop :=
  ∃ Gs : List CO, Gs.length = os.length ∧
    (∀ j ob g, look os Gs j ob g → ob.live = true ∧ ob.box = false ∧ ob.ver = q ∧ ∃ f, OwnOk w E.plain ob.n ob.els g.a g.cap f ∧ f.Nodup ∧ (∀ b, g.F b ↔ b ∈ f) ∧ ∀ b ∈ f, b ∈ fp) ∧
    (∀ i j oi oj gi gj b, look os Gs i oi gi → look os Gs j oj gj → gi.F b → gj.F b → i = j) ∧
    ∀ E' : Env, Keeps w E w E' → (∀ j ob g, look os Gs j ob g → E'.H (k + j) q (.slice g.a ob.els.length g.cap)) → done E'

theorem Absorbed.none {q : Nat} {w : World} {E : Env} {k : Nat} {av : AV} {v : Value} (h : R w E av v []) : Absorbed q w E k [] [] (fun E' => R w E' av v []) :=
  ⟨[], rfl, fun j ob g hl => by simp [look] at hl, fun i j oi oj gi gj b hl => by simp [look] at hl, fun E' hk _ => R_keeps hk _ _ _ (by simp) h⟩

theorem Absorbed.append {q : Nat} {w : World} {E : Env} {k : Nat} {o1 o2 : List AObj} {f1 f2 : List Nat} {d1 d2 : Env → Prop} (h1 : Absorbed q w E k o1 f1 d1) (h2 : Absorbed q w E (k + o1.length) o2 f2 d2) (hn : (f1 ++ f2).Nodup) :
    Absorbed q w E k (o1 ++ o2) (f1 ++ f2) (fun E' => d1 E' ∧ d2 E') := by
  obtain ⟨G1, l1, a1, b1, c1⟩ := h1
  obtain ⟨G2, l2, a2, b2, c2⟩ := h2
  have hd := (List.nodup_append.1 hn).2.2
  refine ⟨G1 ++ G2, by simp [l1, l2], ?_, ?_, ?_⟩
  · intro j ob g hl
    rcases look_app l1 hl with ⟨_, h⟩ | ⟨_, h⟩
    · obtain ⟨x, y, y', f, z⟩ := a1 _ _ _ h
      exact ⟨x, y, y', f, z.1, z.2.1, z.2.2.1, fun b hb => List.mem_append_left _ (z.2.2.2 b hb)⟩
    · obtain ⟨x, y, y', f, z⟩ := a2 _ _ _ h
      exact ⟨x, y, y', f, z.1, z.2.1, z.2.2.1, fun b hb => List.mem_append_right _ (z.2.2.2 b hb)⟩
  · intro i j oi oj gi gj b hi hj hfi hfj
    rcases look_app l1 hi with ⟨_, h⟩ | ⟨hi', h⟩ <;> rcases look_app l1 hj with ⟨_, h'⟩ | ⟨hj', h'⟩
    · exact b1 _ _ _ _ _ _ b h h' hfi hfj
    · obtain ⟨_, _, _, f, z⟩ := a1 _ _ _ h
      obtain ⟨_, _, _, f', z'⟩ := a2 _ _ _ h'
      exact absurd rfl (hd b (z.2.2.2 b ((z.2.2.1 b).1 hfi)) b (z'.2.2.2 b ((z'.2.2.1 b).1 hfj)))
    · obtain ⟨_, _, _, f, z⟩ := a2 _ _ _ h
      obtain ⟨_, _, _, f', z'⟩ := a1 _ _ _ h'
      exact absurd rfl (hd b (z'.2.2.2 b ((z'.2.2.1 b).1 hfj)) b (z.2.2.2 b ((z.2.2.1 b).1 hfi)))
    · have := b2 _ _ _ _ _ _ b h h' hfi hfj
      omega
  · intro E' hk hh
    refine ⟨c1 E' hk fun j ob g hl => hh j ob g (look_app_left hl), c2 E' hk fun j ob g hl => ?_⟩
    have := hh _ ob g (look_app_right l1 hl)
    rwa [← Nat.add_assoc] at this

mutual
theorem R_absorb {q : Nat} {w : World} {E : Env} : ∀ (av : AV) (v : Value) (fp : List Nat) (k : Nat), R w E av v fp → fp.Nodup → Absorbed q w E k (absorb q k av).2 fp (fun E' => R w E' (absorb q k av).1 v [])
  | .sl .own n l, v, fp, k, h, hn => by
    obtain ⟨a, cap, hv, hown⟩ := R_own.1 h
    refine ⟨[⟨a, cap, fun b => b ∈ fp⟩], rfl, ?_, ?_, ?_⟩
    · rintro j ob g ⟨h1, h2⟩
      cases j with
      | zero =>
        simp [absorb] at h1 h2
        subst h1; subst h2
        exact ⟨rfl, rfl, rfl, fp, hown, hn, fun b => Iff.rfl, fun b hb => hb⟩
      | succ j => simp [absorb] at h1
    · rintro i j oi oj gi gj b ⟨h1, _⟩ ⟨h2, _⟩ _ _
      cases i <;> cases j <;> simp_all [absorb]
    · intro E' _ hh
      simp only [absorb, R]
      have := hh 0 ⟨true, false, n, q, l⟩ ⟨a, cap, fun b => b ∈ fp⟩ ⟨rfl, rfl⟩
      rw [hv]
      exact ⟨trivial, this⟩
  | .agg c, v, fp, k, h, hn => by
    simp only [R] at h
    obtain ⟨cs, hv, hone, hr⟩ := h
    obtain ⟨Gs, a, b, c', d⟩ := Rc_absorb c cs fp k hr hn
    exact ⟨Gs, a, b, c', fun E' hk hh => by simp only [absorb, R]; exact ⟨cs, hv, hone, d E' hk hh⟩⟩
  | .tup c, v, fp, k, h, hn => by
    simp only [R] at h
    obtain ⟨cs, hv, hr⟩ := h
    obtain ⟨Gs, a, b, c', d⟩ := Rc_absorb c cs fp k hr hn
    exact ⟨Gs, a, b, c', fun E' hk hh => by simp only [absorb, R]; exact ⟨cs, hv, d E' hk hh⟩⟩
  | .sl .view n l, v, fp, k, h, _ => by
    have hf : fp = [] := by
      simp only [R] at h
      rcases h with h | ⟨_, _, _, _, h | h | h⟩
      · exact h.2
      · exact h.2.2.2
      · exact absurd h.1 (by simp)
      · exact h.2.1
    subst hf; exact Absorbed.none h
  | .sl (.dep i) n l, v, fp, k, h, _ => by
    have hf : fp = [] := by
      simp only [R] at h
      rcases h with h | ⟨_, _, _, _, h | h | h⟩
      · exact h.2
      · exact h.2.2.2
      · exact absurd h.1 (by simp)
      · exact h.2.1
    subst hf; exact Absorbed.none h
  | .int _ _, v, fp, k, h, _ => by have h' := h; simp only [R] at h'; obtain ⟨_, rfl⟩ := h'; exact Absorbed.none h
  | .bool _, v, fp, k, h, _ => by have h' := h; simp only [R] at h'; obtain ⟨_, rfl⟩ := h'; exact Absorbed.none h
  | .str _, v, fp, k, h, _ => by have h' := h; simp only [R] at h'; obtain ⟨_, rfl⟩ := h'; exact Absorbed.none h
  | .vptr _ _ _, v, fp, k, h, _ => by
    have hf : fp = [] := by simp only [R] at h; rcases h with h | h; exact h.2; exact h.1
    subst hf; exact Absorbed.none h
  | .obj _ _, v, fp, k, h, _ => by have h' := h; simp only [R] at h'; obtain ⟨rfl, _⟩ := h'; exact Absorbed.none h
  | .ptr _ _ _ _, v, fp, k, h, _ => by have h' := h; simp only [R] at h'; obtain ⟨rfl, _⟩ := h'; exact Absorbed.none h
  | .fn _ _, v, fp, k, h, _ => by have h' := h; simp only [R] at h'; obtain ⟨rfl, _⟩ := h'; exact Absorbed.none h
  | .undef, v, fp, k, h, _ => by have h' := h; simp only [R] at h'; subst h'; exact Absorbed.none h
theorem Rc_absorb {q : Nat} {w : World} {E : Env} : ∀ (c : List AV) (cs : List Value) (fp : List Nat) (k : Nat), Rc w E c cs fp → fp.Nodup → Absorbed q w E k (absorbc q k c).2 fp (fun E' => Rc w E' (absorbc q k c).1 cs [])
  | [], [], fp, k, h, _ => by
    simp only [Rc] at h; subst h
    exact ⟨[], rfl, fun j ob g hl => by simp [look, absorbc] at hl, fun i j oi oj gi gj b hl => by simp [look, absorbc] at hl, fun E' hk _ => by simp [absorbc, Rc]⟩
  | [], _ :: _, _, _, h, _ => by simp [Rc] at h
  | _ :: _, [], _, _, h, _ => by simp [Rc] at h
  | x :: xs, c :: cs, fp, k, h, hn => by
    simp only [Rc] at h
    obtain ⟨f1, f2, h1, h2, rfl⟩ := h
    have n1 := (List.nodup_append.1 hn)
    have := (R_absorb x c f1 k h1 n1.1).append (Rc_absorb xs cs f2 (k + (absorb q k x).2.length) h2 n1.2.1) hn
    obtain ⟨Gs, a, b, c', d⟩ := this
    exact ⟨Gs, a, b, c', fun E' hk hh => by
      have := d E' hk hh
      simp only [absorbc, Rc]
      exact ⟨[], [], this.1, this.2, rfl⟩⟩
end
end Go.Aw
