/-
  Proved here: the rule for a region whose order of evaluation is open.
  No condition beyond what each statement spells out.
-/
import Derived.Test.YtbbefoefjmgnoaaAwWeak
set_option linter.all false
namespace Go.Aw

def upd (J : Nat → Bool) (i : Nat) : Nat → Bool := fun j => if j = i then true else J j

/-- A value that is there once operation i has run. -/
def dv (J : Nat → Bool) (i : Nat) (v : AV) : AV := if J i = true then v else .undef

theorem dv_true {J : Nat → Bool} {i : Nat} {v : AV} (h : J i = true) : dv J i v = v := by simp [dv, h]
@[simp] theorem dv_upd (J : Nat → Bool) (i : Nat) (v : AV) : dv (upd J i) i v = v := by simp [dv, upd]
theorem dv_upd_ne (J : Nat → Bool) {i j : Nat} (v : AV) (h : j ≠ i) : dv (upd J i) j v = dv J j v := by simp [dv, upd, h]

def drawSteps (P : Program) (S : (Nat → Bool) → AS) : Nat → List Oper → Prop
  | _, [] => True
  | i, o :: r => (o.guard = none ∧ ∀ J : Nat → Bool, J i = false → (∀ e ∈ o.after.toList, Region.binds .any e = true → J e.on = true) → aop P o (S J) fun s' => Weak s' (S (upd J i))) ∧ drawSteps P S (i + 1) r

/-- Every edge leads back. -/
def fwd : Nat → List Oper → Bool
  | _, [] => true
  | i, o :: r => (o.after.toList.all fun e => !Region.binds .any e || decide (e.on < i)) && fwd (i + 1) r

theorem drawSteps_get {P : Program} {S : (Nat → Bool) → AS} : ∀ {l : List Oper} {k i : Nat} {o : Oper}, drawSteps P S k l → l[i]? = some o →
    o.guard = none ∧ ∀ J : Nat → Bool, J (k + i) = false → (∀ e ∈ o.after.toList, Region.binds .any e = true → J e.on = true) → aop P o (S J) fun s' => Weak s' (S (upd J (k + i)))
  | [], _, _, _, _, h => by simp at h
  | x :: xs, k, 0, o, hd, h => by
    simp at h; subst h; exact hd.1
  | x :: xs, k, i + 1, o, hd, h => by
    have := drawSteps_get (k := k + 1) (i := i) hd.2 (by simpa using h)
    rwa [show k + 1 + i = k + (i + 1) by omega] at this

theorem fwd_get : ∀ {l : List Oper} {k i : Nat} {o : Oper}, fwd k l = true → l[i]? = some o → ∀ e ∈ o.after.toList, Region.binds .any e = true → e.on < k + i
  | [], _, _, _, _, h => by simp at h
  | x :: xs, k, 0, o, hf, h => by
    simp at h; subst h
    simp only [fwd, Bool.and_eq_true, List.all_eq_true] at hf
    intro e he hb
    have := hf.1 e he
    simpa [hb] using this
  | x :: xs, k, i + 1, o, hf, h => by
    simp only [fwd, Bool.and_eq_true] at hf
    have := fwd_get (k := k + 1) (i := i) hf.2 (by simpa using h)
    rwa [show k + 1 + i = k + (i + 1) by omega] at this

def left (l : List Bool) : Nat := (l.filter fun b => !b).length

theorem left_cons (b : Bool) (l : List Bool) : left (b :: l) = (if b = true then 0 else 1) + left l := by
  cases b <;> simp [left] <;> omega

theorem left_set : ∀ {l : List Bool} {i : Nat}, l[i]? = some false → left (l.set i true) + 1 = left l
  | [], _, h => by simp at h
  | b :: l, 0, h => by simp at h; subst h; simp [left_cons]; omega
  | b :: l, i + 1, h => by
    have := left_set (l := l) (i := i) (by simpa using h)
    rw [List.set_cons_succ, left_cons, left_cons]
    omega

theorem left_zero {l : List Bool} (h : left l = 0) : ∀ {i : Nat} {b : Bool}, l[i]? = some b → b = true := by
  intro i b hb
  have hm := List.mem_of_getElem? hb
  cases b with
  | true => rfl
  | false =>
    have : false ∈ l.filter (fun b => !b) := List.mem_filter.2 ⟨hm, rfl⟩
    rw [List.eq_nil_of_length_eq_zero h] at this
    simp at this

theorem left_pos {l : List Bool} (h : left l ≠ 0) : ∃ i : Nat, l[i]? = some false ∧ ∀ j : Nat, j < i → l[j]? = some true := by
  induction l with
  | nil => simp [left] at h
  | cons b l ih =>
    cases b with
    | false => exact ⟨0, rfl, fun j hj => by omega⟩
    | true =>
      have : left l ≠ 0 := by rw [left_cons] at h; simpa using h
      obtain ⟨i, h1, h2⟩ := ih this
      refine ⟨i + 1, by simpa using h1, fun j hj => ?_⟩
      cases j with
      | zero => rfl
      | succ j => simpa using h2 j (by omega)

theorem draw_ok {P : Program} {ops : Array Oper} {s : AS} {K : AS → Prop} (S : (Nat → Bool) → AS) (h0 : Weak s (S fun _ => false)) (hf : fwd 0 ops.toList = true) (hs : drawSteps P S 0 ops.toList)
    (he : ∀ J : Nat → Bool, (∀ i, i < ops.size → J i = true) → K (S J)) : DrawOk P ops s K := by
  intro B a w Q hr hk
  have key : ∀ (fuel : Nat) (listed : Array Bool) (a : Act) (w : World), listed.size = ops.size → left listed.toList = fuel → Rel B (S fun i => listed.getD i false) a w → wpAny P .any ops Q fuel listed a w := by
    intro fuel
    induction fuel with
    | zero =>
      intro listed a w hl hz r
      have hall : ∀ i, i < ops.size → listed.getD i false = true := by
        intro i hi
        have hi' : i < listed.size := by omega
        have := left_zero hz (i := i) (b := listed[i]) (by simp [hi'])
        simp [Array.getD, hi', this]
      refine ⟨?_, hk _ _ _ (he _ hall) r⟩
      unfold Region.ready
      rw [List.filter_eq_nil_iff]
      intro i hi
      have hi2 : i < ops.size := by simpa using hi
      have h1 := hall i hi2
      have hi' : i < listed.size := by omega
      have h2 : listed.getD i true = true := by
        rw [Array.getD_eq_getD_getElem?] at h1 ⊢
        rw [Array.getElem?_eq_getElem hi'] at h1 ⊢
        exact h1
      rw [h2]
      simp
    | succ fuel ih =>
      intro listed a w hl hz r
      constructor
      · intro hnil
        exfalso
        obtain ⟨i, h1, h2⟩ := left_pos (l := listed.toList) (by omega)
        have hi : i < listed.size := by have := (List.getElem?_eq_some_iff.1 h1).1; simpa using this
        have hio : i < ops.size := by omega
        have : i ∈ Region.ready .any ops listed := by
          unfold Region.ready
          rw [List.mem_filter]
          refine ⟨by simpa using hio, ?_⟩
          have h1' : listed[i]? = some false := by simpa using h1
          have hop : ops[i]? = some ops[i] := by simp [hio]
          simp only [Array.getD_eq_getD_getElem?, h1', Option.getD_some, Bool.not_false, Bool.true_and, hop, Option.map_some]
          rw [Array.all_eq_true']
          intro e he
          cases hb : Region.binds .any e with
          | false => simp
          | true =>
            have := fwd_get hf (i := i) (o := ops[i]) (by simp [hio]) e (by simpa using he) hb
            have h3 := h2 e.on (by omega)
            have h3' : listed[e.on]? = some true := by simpa using h3
            simp [h3']
        rw [hnil] at this
        simp at this
      · intro i hi
        unfold Region.ready at hi
        rw [List.mem_filter] at hi
        obtain ⟨hi1, hi2⟩ := hi
        have hio : i < ops.size := by simpa using hi1
        have hil : i < listed.size := by omega
        have hop : ops[i]? = some ops[i] := by simp [hio]
        simp only [Bool.and_eq_true, hop, Option.map_some, Option.getD_some] at hi2
        obtain ⟨h1, h2⟩ := hi2
        have h1' : listed[i]? = some false := by
          simp only [Array.getD_eq_getD_getElem?] at h1
          rw [Array.getElem?_eq_getElem hil] at h1 ⊢
          simpa using h1
        rw [Array.all_eq_true'] at h2
        obtain ⟨hg, hst⟩ := drawSteps_get hs (i := i) (o := ops[i]) (by simp [hio])
        rw [Nat.zero_add] at hst
        have hst' := hst (fun j => listed.getD j false) (by simp [h1']) (fun e he hb => by
          have := h2 e (by simpa using he)
          simpa [hb] using this)
        obtain ⟨s', hw, hstep⟩ := aop_sound (B := B) hst'
        unfold wpOp
        rw [hop]
        simp only [Region.wanted, hg, if_true]
        refine .inl (hstep a w _ Q r fun a' w' r' => ih _ _ _ (by simpa using hl) ?_ ?_)
        · have := left_set (l := listed.toList) (i := i) (by simpa using h1')
          rw [Array.toList_setIfInBounds]
          omega
        · have hu : upd (fun j => listed.getD j false) i = fun j => (listed.setIfInBounds i true).getD j false := by
            funext j
            unfold upd
            simp only [Array.getD_eq_getD_getElem?, Array.getElem?_setIfInBounds]
            by_cases hj : j = i
            · subst hj; simp [hil]
            · simp [hj, Ne.symm hj]
          rw [← hu]
          exact hw B a' w' r'
  obtain ⟨G, r⟩ := hr
  have r2 : Rel B s a { w with drawn := w.drawn + 1 } := ⟨G, { len := r.len, defs := r.defs, ok := fun i ob g hl hlive => (r.ok i ob g hl hlive).keeps (w' := { w with drawn := w.drawn + 1 }) ⟨fun b h => ⟨h, rfl⟩, fun _ h => h, fun _ _ _ h => ⟨h, rfl⟩, fun _ _ _ h => h, fun _ _ _ _ _ h => h⟩ (fun _ _ => rfl), apart := r.apart, fresh := r.fresh, tmps := Rc_keeps (w := w) (E := env B s.o G w) (w' := { w with drawn := w.drawn + 1 }) (E' := env B s.o G { w with drawn := w.drawn + 1 }) ⟨fun b h => ⟨h, rfl⟩, fun _ h => h, fun _ _ _ h => ⟨h, rfl⟩, fun _ _ _ h => h, fun _ _ _ _ _ h => h⟩ _ _ _ (by simp) r.tmps, size := r.size, frame := r.frame, base := r.base, same := r.same.trans ⟨rfl, rfl, rfl⟩ }⟩
  refine key _ _ _ _ (by simp) (by simp [left]) ?_
  have hJ : (fun i => (Array.replicate ops.size false).getD i false) = fun _ => false := by
    funext i
    simp only [Array.getD_eq_getD_getElem?, Array.getElem?_replicate]
    split <;> rfl
  rw [hJ]
  exact h0 _ _ _ r2

theorem awp_draw {P : Program} {id : Nat} {l : List Oper} {s : AS} {Q : Exit → AS → Prop} (S : (Nat → Bool) → AS) (h0 : Weak s (S fun _ => false)) (hf : fwd 0 l = true) (hs : drawSteps P S 0 l)
    (he : ∀ J : Nat → Bool, (∀ i, i < l.length → J i = true) → Q .normal (S J)) : awp P (.region id l.toArray true) s Q :=
  draw_ok (ops := l.toArray) S h0 (by simpa using hf) (by simpa using hs) (by simpa using he)

theorem aop_k {P : Program} {o : Oper} {s : AS} {K : AS → Prop} (h : ∀ K' : AS → Prop, (∀ s', K s' → K' s') → aop P o s K') : aop P o s K := h K fun _ h => h
end Go.Aw
