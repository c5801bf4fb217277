/-
  Proved here: a region whose order of evaluation is open is walked as if its order were given.
  No condition beyond what each statement spells out.
-/
import Derived.Test.YtbbefoefjmgnoaaAwMono
set_option linter.all false
set_option linter.unusedVariables false
set_option linter.unusedSimpArgs false
namespace Go.Aw

/-- The operations that an operation waits for. -/
def pre (op : Oper) : List Nat := (op.after.toList.filter fun e => Region.binds .any e).map (·.on)

/-- What has run is closed under what it waits for. -/
def Clo (l : List Oper) (J : Nat → Bool) : Prop := ∀ j op, l[j]? = some op → J j = true → ∀ e ∈ pre op, J e = true

theorem mem_pre {op : Oper} {n : Nat} : n ∈ pre op ↔ ∃ e ∈ op.after.toList, Region.binds .any e = true ∧ e.on = n := by
  simp [pre, List.mem_map, List.mem_filter, and_assoc]

theorem draw_ok2 {P : Program} {ops : Array Oper} {s : AS} {K : AS → Prop} (S : (Nat → Bool) → AS) (h0 : Weak s (S fun _ => false)) (hf : ∀ i op, ops.toList[i]? = some op → ∀ e ∈ pre op, e < i)
    (hs : ∀ i op, ops.toList[i]? = some op → op.guard = none ∧ ∀ J : Nat → Bool, Clo ops.toList J → J i = false → (∀ e ∈ pre op, J e = true) → aop P op (S J) fun s' => Weak s' (S (upd J i)))
    (he : ∀ J : Nat → Bool, (∀ i, i < ops.size → J i = true) → K (S J)) : DrawOk P ops s K := by
  intro B a w Q hr hk
  have key : ∀ (fuel : Nat) (listed : Array Bool) (a : Act) (w : World), listed.size = ops.size → left listed.toList = fuel → Clo ops.toList (fun i => listed.getD i false) → Rel B (S fun i => listed.getD i false) a w → wpAny P .any ops Q fuel listed a w := by
    intro fuel
    induction fuel with
    | zero =>
      intro listed a w hl hz _ r
      have hall : ∀ i, i < ops.size → listed.getD i false = true := by
        intro i hi
        have hi' : i < listed.size := by omega
        have := left_zero hz (i := i) (b := listed[i]) (by simp [hi'])
        simp [Array.getD, hi', this]
      refine ⟨?_, hk _ _ _ (he _ hall) r⟩
      unfold Region.ready
      rw [List.filter_eq_nil_iff]
      intro i hi
      have hi2 : i < ops.size := by simpa using hi
      have h1 := hall i hi2
      have hi' : i < listed.size := by omega
      have h2 : listed.getD i true = true := by
        rw [Array.getD_eq_getD_getElem?] at h1 ⊢
        rw [Array.getElem?_eq_getElem hi'] at h1 ⊢
        exact h1
      rw [h2]
      simp
    | succ fuel ih =>
      intro listed a w hl hz hc r
      constructor
      · intro hnil
        exfalso
        obtain ⟨i, h1, h2⟩ := left_pos (l := listed.toList) (by omega)
        have hi : i < listed.size := by have := (List.getElem?_eq_some_iff.1 h1).1; simpa using this
        have hio : i < ops.size := by omega
        have : i ∈ Region.ready .any ops listed := by
          unfold Region.ready
          rw [List.mem_filter]
          refine ⟨by simpa using hio, ?_⟩
          have h1' : listed[i]? = some false := by simpa using h1
          have hop : ops[i]? = some ops[i] := by simp [hio]
          simp only [Array.getD_eq_getD_getElem?, h1', Option.getD_some, Bool.not_false, Bool.true_and, hop, Option.map_some]
          rw [Array.all_eq_true']
          intro e he
          cases hb : Region.binds .any e with
          | false => simp
          | true =>
            have := hf i ops[i] (by simp [hio]) e.on (mem_pre.2 ⟨e, by simpa using he, hb, rfl⟩)
            have h3 := h2 e.on this
            have h3' : listed[e.on]? = some true := by simpa using h3
            simp [h3']
        rw [hnil] at this
        simp at this
      · intro i hi
        unfold Region.ready at hi
        rw [List.mem_filter] at hi
        obtain ⟨hi1, hi2⟩ := hi
        have hio : i < ops.size := by simpa using hi1
        have hil : i < listed.size := by omega
        have hop : ops[i]? = some ops[i] := by simp [hio]
        simp only [Bool.and_eq_true, hop, Option.map_some, Option.getD_some] at hi2
        obtain ⟨h1, h2⟩ := hi2
        have h1' : listed[i]? = some false := by
          simp only [Array.getD_eq_getD_getElem?] at h1
          rw [Array.getElem?_eq_getElem hil] at h1 ⊢
          simpa using h1
        rw [Array.all_eq_true'] at h2
        obtain ⟨hg, hst⟩ := hs i ops[i] (by simp [hio])
        have hpre : ∀ e ∈ pre ops[i], listed.getD e false = true := fun n hn => by
          obtain ⟨e, he, hb, rfl⟩ := mem_pre.1 hn
          have := h2 e (by simpa using he)
          simpa [hb] using this
        have hst' := hst (fun j => listed.getD j false) hc (by simp [h1']) hpre
        obtain ⟨s', hw, hstep⟩ := aop_sound (B := B) hst'
        unfold wpOp
        rw [hop]
        simp only [Region.wanted, hg, if_true]
        have hu : upd (fun j => listed.getD j false) i = fun j => (listed.setIfInBounds i true).getD j false := by
          funext j
          unfold upd
          simp only [Array.getD_eq_getD_getElem?, Array.getElem?_setIfInBounds]
          by_cases hj : j = i
          · subst hj; simp [hil]
          · simp [hj, Ne.symm hj]
        refine .inl (hstep a w _ Q r fun a' w' r' => ih _ _ _ (by simpa using hl) ?_ ?_ ?_)
        · have := left_set (l := listed.toList) (i := i) (by simpa using h1')
          rw [Array.toList_setIfInBounds]
          omega
        · rw [← hu]
          intro j op hj hJ e he
          by_cases hji : j = i
          · subst hji
            have : op = ops[j] := by rw [show ops.toList[j]? = some ops[j] by simp [hio]] at hj; exact (Option.some.inj hj).symm
            subst this
            unfold upd
            split
            · rfl
            · exact hpre e he
          · unfold upd at hJ ⊢
            rw [if_neg hji] at hJ
            split
            · rfl
            · exact hc j op hj hJ e he
        · rw [← hu]
          exact hw B a' w' r'
  obtain ⟨G, r⟩ := hr
  have r2 : Rel B s a { w with drawn := w.drawn + 1 } := ⟨G, { len := r.len, defs := r.defs, ok := fun i ob g hl hlive => (r.ok i ob g hl hlive).keeps (w' := { w with drawn := w.drawn + 1 }) ⟨fun b h => ⟨h, rfl⟩, fun _ h => h, fun _ _ _ h => ⟨h, rfl⟩, fun _ _ _ h => h, fun _ _ _ _ _ h => h⟩ (fun _ _ => rfl), apart := r.apart, fresh := r.fresh, tmps := Rc_keeps (w := w) (E := env B s.o G w) (w' := { w with drawn := w.drawn + 1 }) (E' := env B s.o G { w with drawn := w.drawn + 1 }) ⟨fun b h => ⟨h, rfl⟩, fun _ h => h, fun _ _ _ h => ⟨h, rfl⟩, fun _ _ _ h => h, fun _ _ _ _ _ h => h⟩ _ _ _ (by simp) r.tmps, size := r.size, frame := r.frame, base := r.base, same := r.same.trans ⟨rfl, rfl, rfl⟩ }⟩
  have hJ : (fun i => (Array.replicate ops.size false).getD i false) = fun _ => false := by
    funext i
    simp only [Array.getD_eq_getD_getElem?, Array.getElem?_replicate]
    split <;> rfl
  refine key _ _ _ _ (by simp) (by simp [left]) (by rw [hJ]; intro j op _ h; cases h) ?_
  rw [hJ]
  exact h0 _ _ _ r2

/-- What operation i may lean on: what the operations have left for which it waits. -/
def mstep (i : Nat) (pr : List Nat) (j : Nat) (op : Oper) (v : AV) (t : List AV) : List AV :=
  match op.dst with
  | none => t
  | some d => if j = i then t else if j ∈ pr then t.set d v else if i ∈ pre op then t else t.set d .undef
def maskT (i : Nat) (pr : List Nat) : Nat → List Oper → List AV → List AV → List AV
  | _, [], _, t => t
  | j, op :: r, vs, t => maskT i pr (j + 1) r vs.tail (mstep i pr j op (vs.headD .undef) t)
def dstep (J : Nat → Bool) (j : Nat) (op : Oper) (v : AV) (t : List AV) : List AV :=
  match op.dst with
  | none => t
  | some d => if J j = true then t.set d v else t
def doneT (J : Nat → Bool) : Nat → List Oper → List AV → List AV → List AV
  | _, [], _, t => t
  | j, op :: r, vs, t => doneT J (j + 1) r vs.tail (dstep J j op (vs.headD .undef) t)

theorem wk_set : ∀ {t2 t : List AV} (d : Nat) {v2 v : AV}, wk t2 t → (v = v2 ∨ v = .undef) → wk (t2.set d v2) (t.set d v)
  | [], [], _, _, _, _, _ => trivial
  | [], _ :: _, _, _, _, h, _ => h.elim
  | _ :: _, [], _, _, _, h, _ => h.elim
  | _ :: _, _ :: _, 0, _, _, h, hv => ⟨hv, h.2⟩
  | _ :: _, _ :: _, d + 1, _, _, h, hv => ⟨h.1, wk_set d h.2 hv⟩

theorem wk_set_undef : ∀ {t2 t : List AV} (d : Nat), wk t2 t → wk t2 (t.set d .undef)
  | [], [], _, _ => trivial
  | [], _ :: _, _, h => h.elim
  | _ :: _, [], _, h => h.elim
  | _ :: _, _ :: _, 0, h => ⟨.inr rfl, h.2⟩
  | _ :: _, _ :: _, d + 1, h => ⟨h.1, wk_set_undef d h.2⟩

theorem wk_length : ∀ {t2 t : List AV}, wk t2 t → t2.length = t.length
  | [], [], _ => rfl
  | [], _ :: _, h => h.elim
  | _ :: _, [], h => h.elim
  | _ :: _, _ :: _, h => by simp [wk_length h.2]

theorem wk_rfl : ∀ t : List AV, wk t t
  | [] => trivial
  | _ :: xs => ⟨.inl rfl, wk_rfl xs⟩

theorem mask_done {J : Nat → Bool} {i : Nat} {pr : List Nat} (hi : J i = false) (hpr : ∀ e ∈ pr, J e = true ∧ e < i) :
    ∀ (l : List Oper) (j : Nat) (vs vs' : List AV) (t2 t : List AV), (∀ k op, l[k]? = some op → J (j + k) = true → ∀ e ∈ pre op, J e = true) → (∀ k, j + k < i → vs'.getD k .undef = vs.getD k .undef) → wk t2 t → wk (doneT J j l vs t2) (maskT i pr j l vs' t)
  | [], _, _, _, _, _, _, _, h => h
  | op :: r, j, vs, vs', t2, t, hc, hv, h => by
    simp only [doneT, maskT]
    refine mask_done hi hpr r (j + 1) vs.tail vs'.tail _ _ (fun k q hk hJ => hc (k + 1) q (by simpa using hk) (by rwa [show j + (k + 1) = j + 1 + k by omega])) (fun k hk => by
      have := hv (k + 1) (by omega)
      cases vs <;> cases vs' <;> simpa [List.getD] using this) ?_
    have h0 : j < i → vs'.headD .undef = vs.headD .undef := fun hj => by
      have := hv 0 (by omega)
      cases vs <;> cases vs' <;> simpa [List.getD] using this
    unfold dstep mstep
    cases hd : op.dst with
    | none => exact h
    | some d =>
      dsimp only
      by_cases hji : j = i
      · subst hji; rw [if_pos rfl, if_neg (by rw [hi]; simp)]; exact h
      · rw [if_neg hji]
        by_cases hp : j ∈ pr
        · rw [if_pos hp, if_pos (hpr j hp).1]
          exact wk_set d h (.inl (h0 (hpr j hp).2))
        · rw [if_neg hp]
          by_cases hq : i ∈ pre op
          · rw [if_pos hq]
            have : J j ≠ true := fun hJ => by
              have := hc 0 op rfl hJ i hq
              rw [hi] at this; cases this
            rw [if_neg this]; exact h
          · rw [if_neg hq]
            split
            · exact wk_set d h (.inr rfl)
            · exact wk_set_undef d h

theorem doneT_set {J : Nat → Bool} (d : Nat) (x : AV) : ∀ (l : List Oper) (j : Nat) (vs : List AV) (t : List AV), (∀ op ∈ l, op.dst ≠ some d) → doneT J j l vs (t.set d x) = (doneT J j l vs t).set d x
  | [], _, _, _, _ => rfl
  | op :: r, j, vs, t, h => by
    simp only [doneT]
    rw [← doneT_set d x r (j + 1) vs.tail _ (fun q hq => h q (by simp [hq]))]
    congr 1
    unfold dstep
    cases hd : op.dst with
    | none => rfl
    | some d' =>
      dsimp only
      have : d' ≠ d := fun e => h op (by simp) (by rw [hd, e])
      split
      · rw [List.set_comm _ _ (Ne.symm this)]
      · rfl

theorem doneT_congr {J J' : Nat → Bool} : ∀ (l : List Oper) (j : Nat) (vs : List AV) (t : List AV), (∀ k, k < l.length → J (j + k) = J' (j + k)) → doneT J j l vs t = doneT J' j l vs t
  | [], _, _, _, _ => rfl
  | op :: r, j, vs, t, h => by
    simp only [doneT]
    have h0 : J j = J' j := h 0 (by simp)
    have : dstep J j op (vs.headD .undef) t = dstep J' j op (vs.headD .undef) t := by unfold dstep; rw [h0]
    rw [this]
    exact doneT_congr r (j + 1) vs.tail _ fun k hk => by
      have := h (k + 1) (by simpa using hk)
      rwa [show j + (k + 1) = j + 1 + k by omega] at this

/-- No two operations write one temporary. -/
def distinct : List Oper → Bool
  | [] => true
  | op :: r => (match op.dst with
    | none => true
    | some d => r.all fun q => decide (q.dst ≠ some d)) && distinct r

theorem doneT_upd {J : Nat → Bool} : ∀ (l : List Oper) (j i : Nat) (op : Oper) (vs : List AV) (t : List AV) (v : AV), distinct l = true → l[i]? = some op → J (j + i) = false → vs.getD i .undef = v →
    doneT (upd J (j + i)) j l vs t = setO (doneT J j l vs t) op.dst v
  | [], _, _, _, _, _, _, _, h, _, _ => by simp at h
  | q :: r, j, 0, op, vs, t, v, hd, h, hJ, hv => by
    simp at h; subst h
    simp only [doneT, Nat.add_zero] at hJ ⊢
    rw [doneT_congr (J := upd J j) (J' := J) r (j + 1) vs.tail _ (fun k _ => by unfold upd; rw [if_neg (by omega)])]
    have h1 : dstep (upd J j) j q (vs.headD .undef) t = setO t q.dst v := by
      have hv' : vs.headD .undef = v := by cases vs <;> simpa [List.getD] using hv
      unfold dstep setO
      rw [hv']
      cases q.dst with
      | none => rfl
      | some d => simp [upd]
    have h2 : dstep J j q (vs.headD .undef) t = t := by
      unfold dstep
      cases q.dst with
      | none => rfl
      | some d => simp [hJ]
    rw [h1, h2]
    cases hq : q.dst with
    | none => rfl
    | some d =>
      simp only [distinct, hq, Bool.and_eq_true, List.all_eq_true, decide_eq_true_eq] at hd
      exact doneT_set d v r (j + 1) vs.tail t hd.1
  | q :: r, j, i + 1, op, vs, t, v, hd, h, hJ, hv => by
    simp only [distinct, Bool.and_eq_true] at hd
    simp only [doneT]
    have h1 : dstep (upd J (j + (i + 1))) j q (vs.headD .undef) t = dstep J j q (vs.headD .undef) t := by
      unfold dstep
      have : upd J (j + (i + 1)) j = J j := by unfold upd; rw [if_neg (by omega)]
      rw [this]
    rw [h1, show j + (i + 1) = j + 1 + i by omega]
    exact doneT_upd r (j + 1) i op vs.tail _ v hd.2 (by simpa using h) (by rwa [show j + 1 + i = j + (i + 1) by omega]) (by cases vs <;> simpa [List.getD] using hv)

/-- The objects that are there, by what has run: the last creation. -/
def oJ (J : Nat → Bool) (b : List AObj) : List (Nat × List AObj) → List AObj
  | [] => b
  | q :: r => if J q.1 = true then q.2 else oJ J b r
def top (b : List AObj) : List (Nat × List AObj) → List AObj
  | [] => b
  | q :: _ => q.2
def onTop (pr : List Nat) : List (Nat × List AObj) → Bool
  | [] => true
  | q :: _ => decide (q.1 ∈ pr)
def inb (pr : List Nat) (n : Nat) : Bool := decide (n ∈ pr)

def ChainOk (l : List Oper) (b : List AObj) : List (Nat × List AObj) → Prop
  | [] => True
  | q :: r => (∃ new, q.2 = top b r ++ new) ∧ (∀ p, r.head? = some p → p.1 < q.1 ∧ ∃ op, l[q.1]? = some op ∧ p.1 ∈ pre op) ∧ ChainOk l b r

theorem oJ_top {l : List Oper} {b : List AObj} (J : Nat → Bool) : ∀ {h : List (Nat × List AObj)}, ChainOk l b h → ∃ ext, top b h = oJ J b h ++ ext
  | [], _ => ⟨[], by simp [top, oJ]⟩
  | q :: r, hc => by
    obtain ⟨new, hn⟩ := hc.1
    obtain ⟨ext, he⟩ := oJ_top J hc.2.2
    simp only [oJ, top]
    split
    · exact ⟨[], by simp⟩
    · exact ⟨ext ++ new, by rw [hn, he, List.append_assoc]⟩

theorem oJ_ext {l : List Oper} {b : List AObj} {J : Nat → Bool} {pr : List Nat} (hp : ∀ e ∈ pr, J e = true) : ∀ {h : List (Nat × List AObj)}, ChainOk l b h → ∃ ext, oJ J b h = oJ (inb pr) b h ++ ext
  | [], _ => ⟨[], by simp [oJ]⟩
  | q :: r, hc => by
    simp only [oJ]
    by_cases hq : q.1 ∈ pr
    · rw [if_pos (hp _ hq), if_pos (by simpa [inb] using hq)]; exact ⟨[], by simp⟩
    · rw [if_neg (show ¬ inb pr q.1 = true by simpa [inb] using hq)]
      split
      · obtain ⟨new, hn⟩ := hc.1
        obtain ⟨ext, he⟩ := oJ_top (inb pr) hc.2.2
        exact ⟨ext ++ new, by rw [hn, he, List.append_assoc]⟩
      · exact oJ_ext hp hc.2.2

theorem oJ_skip (J : Nat → Bool) (b : List AObj) : ∀ {s h : List (Nat × List AObj)}, (∀ q ∈ s, J q.1 = false) → oJ J b (s ++ h) = oJ J b h
  | [], _, _ => rfl
  | q :: s, h, hs => by
    simp only [List.cons_append, oJ]
    rw [if_neg (by rw [hs q (by simp)]; simp)]
    exact oJ_skip J b fun p hp => hs p (by simp [hp])

/-- What was created later has not run while this one has not. -/
theorem chain_false {l : List Oper} {b : List AObj} {J : Nat → Bool} (hJ : Clo l J) : ∀ {s h : List (Nat × List AObj)} {q : Nat × List AObj}, ChainOk l b (s ++ q :: h) → J q.1 = false → ∀ p ∈ s, J p.1 = false
  | [], _, _, _, _ => fun _ hp => by cases hp
  | x :: s, h, q, hc, hq => by
    have ih := chain_false hJ hc.2.2 hq
    intro p hp
    rcases List.mem_cons.1 hp with rfl | hp
    · cases hJx : J p.1 with
      | false => rfl
      | true =>
        exfalso
        cases s with
        | nil =>
          obtain ⟨_, op, h1, h2⟩ := hc.2.1 q rfl
          have := hJ _ op h1 hJx _ h2
          rw [hq] at this; cases this
        | cons y s =>
          obtain ⟨_, op, h1, h2⟩ := hc.2.1 y rfl
          have := hJ _ op h1 hJx _ h2
          rw [ih y (by simp)] at this; cases this
    · exact ih p hp

def dval (op : Oper) (s : AS) : AV := match op.dst with
  | some d => s.t.getD d .undef
  | none => .undef

/-- A walk through a region of an open order: each operation leans only on what it waits for. -/
def dwalk (P : Program) (l : List Oper) (t : List AV) (b : List AObj) (K : AS → Prop) : Nat → List Oper → List AV → List (Nat × List AObj) → Prop
  | _, [], vs, h => K ⟨doneT (fun _ => true) 0 l vs t, top b h⟩
  | i, op :: r, vs, h => op.guard = none ∧ quiet op.op = true ∧ (∀ e ∈ pre op, e < i) ∧
      aop P op ⟨maskT i (pre op) 0 l vs t, oJ (inb (pre op)) b h⟩ fun s' =>
        (onTop (pre op) h = true ∨ s'.o.length = (oJ (inb (pre op)) b h).length) ∧
        dwalk P l t b K (i + 1) r (vs ++ [dval op s']) (if s'.o.length = (oJ (inb (pre op)) b h).length then h else (i, s'.o) :: h)

/-- What is known of one operation. -/
structure Item (P : Program) (l : List Oper) (t : List AV) (b : List AObj) (j : Nat) (op : Oper) (vs : List AV) (hf : List (Nat × List AObj)) : Prop where
  guard : op.guard = none
  quiet : quiet op.op = true
  pre : ∀ e ∈ pre op, e < j
  ex : ∃ x new hj suf, hf = suf ++ hj ∧ (∀ q ∈ hj, q.1 < j) ∧ (vs.getD j .undef = x ∨ vs.getD j .undef = .undef) ∧
    aop P op ⟨maskT j (Aw.pre op) 0 l (vs.take j) t, oJ (inb (Aw.pre op)) b hj⟩ (fun s' => s' = ⟨setO (maskT j (Aw.pre op) 0 l (vs.take j) t) op.dst x, oJ (inb (Aw.pre op)) b hj ++ new⟩) ∧
    ((new = [] ∧ ∀ q ∈ suf, j < q.1) ∨ (onTop (Aw.pre op) hj = true ∧ ∃ s2, suf = s2 ++ [(j, oJ (inb (Aw.pre op)) b hj ++ new)] ∧ ∀ q ∈ s2, j < q.1))

theorem oJ_onTop {b : List AObj} {pr : List Nat} {h : List (Nat × List AObj)} (ht : onTop pr h = true) : oJ (inb pr) b h = top b h := by
  cases h with
  | nil => rfl
  | cons q r => simp only [onTop] at ht; simp only [oJ, top, inb, ht, if_true]

theorem dwalk_get {P : Program} {l : List Oper} {t : List AV} {b : List AObj} {K : AS → Prop} : ∀ (r : List Oper) (i : Nat) (vs : List AV) (h : List (Nat × List AObj)), l.drop i = r → vs.length = i → i ≤ l.length → (∀ q ∈ h, q.1 < i) → ChainOk l b h → dwalk P l t b K i r vs h →
    ∃ vs' hf, K ⟨doneT (fun _ => true) 0 l (vs ++ vs') t, top b hf⟩ ∧ ChainOk l b hf ∧ (∃ suf, hf = suf ++ h ∧ ∀ q ∈ suf, i ≤ q.1 ∧ q.1 < l.length) ∧ ∀ j op, i ≤ j → l[j]? = some op → Item P l t b j op (vs ++ vs') hf
  | [], i, vs, h, hr, hv, hi, hlt, hc, hd => by
    refine ⟨[], h, by simpa [dwalk] using hd, hc, ⟨[], rfl, by simp⟩, fun j op hij hj => ?_⟩
    have : l.length ≤ i := by simpa using hr
    have := (List.getElem?_eq_some_iff.1 hj).1
    omega
  | op :: r, i, vs, h, hr, hv, hi, hlt, hc, hd => by
    have hil : i < l.length := by
      rcases Nat.lt_or_ge i l.length with h' | h'
      · exact h'
      · rw [List.drop_of_length_le h'] at hr; cases hr
    have hop : l[i]? = some op := by
      have := congrArg List.head? hr
      rw [List.head?_drop] at this; simpa using this
    simp only [dwalk] at hd
    obtain ⟨hg, hq, hpr, ha⟩ := hd
    obtain ⟨x, new, x2, ⟨h1, h2⟩, _, _, h3⟩ := aop_mono (ext := []) hq (wk_rfl _) ha (.inl rfl)
    have h4 := h3 (fun s' => s' = ⟨setO (maskT i (pre op) 0 l vs t) op.dst x2, oJ (inb (pre op)) b h ++ [] ++ new⟩) rfl
    rw [List.append_nil] at h4
    have hval : ∀ (y : AV) (os : List AObj), dval op ⟨setO (maskT i (pre op) 0 l vs t) op.dst y, os⟩ = y ∨ dval op ⟨setO (maskT i (pre op) 0 l vs t) op.dst y, os⟩ = .undef := by
      intro y os
      unfold dval setO
      cases op.dst with
      | none => exact .inr rfl
      | some d =>
        dsimp only
        rw [List.getD_eq_getElem?_getD, List.getElem?_set_self']
        cases (maskT i (pre op) 0 l vs t)[d]? with
        | none => exact .inr rfl
        | some z => exact .inl rfl
    generalize hvv : dval op ⟨setO (maskT i (pre op) 0 l vs t) op.dst x, oJ (inb (pre op)) b h ++ new⟩ = vv at h2
    have hvx : vv = x2 ∨ vv = .undef := by
      rcases hval x (oJ (inb (pre op)) b h ++ new) with e | e
      · rw [hvv] at e; subst e; assumption
      · rw [hvv] at e; exact .inr e
    have hlen : ((oJ (inb (pre op)) b h ++ new).length = (oJ (inb (pre op)) b h).length) ↔ new = [] := by
      rw [List.length_append]; constructor
      · intro e; exact List.eq_nil_of_length_eq_zero (by omega)
      · rintro rfl; simp
    have hdr : l.drop (i + 1) = r := by rw [← List.drop_drop, hr]; rfl
    have item : ∀ (vs' : List AV) (hf : List (Nat × List AObj)), ((∃ suf, hf = suf ++ h ∧ new = [] ∧ ∀ q ∈ suf, i < q.1) ∨ (onTop (pre op) h = true ∧ ∃ s2, hf = s2 ++ (i, oJ (inb (pre op)) b h ++ new) :: h ∧ ∀ q ∈ s2, i < q.1)) → Item P l t b i op ((vs ++ [vv]) ++ vs') hf := by
      intro vs' hf hcase
      have e1 : ((vs ++ [vv]) ++ vs').take i = vs := by rw [List.append_assoc, List.take_left' hv]
      have e2 : ((vs ++ [vv]) ++ vs').getD i .undef = vv := by
        rw [List.append_assoc, List.getD_eq_getElem?_getD, List.getElem?_append_right (by omega), hv, Nat.sub_self]; rfl
      refine ⟨hg, hq, hpr, x2, new, h, ?_⟩
      rw [e1, e2]
      rcases hcase with ⟨suf, rfl, hn, hs⟩ | ⟨ht, s2, rfl, hs⟩
      · exact ⟨suf, rfl, hlt, hvx, h4, .inl ⟨hn, hs⟩⟩
      · exact ⟨s2 ++ [(i, oJ (inb (pre op)) b h ++ new)], by simp, hlt, hvx, h4, .inr ⟨ht, s2, rfl, hs⟩⟩
    by_cases hnew : new = []
    · rw [if_pos (hlen.2 hnew)] at h2
      obtain ⟨vs', hf, k1, k2, ⟨suf, k3, k4⟩, k5⟩ := dwalk_get r (i + 1) (vs ++ [vv]) h hdr (by simp [hv]) (by omega) (fun q hq => by have := hlt q hq; omega) hc h2
      refine ⟨vv :: vs', hf, by simpa using k1, k2, ⟨suf, k3, fun q hq => by have := k4 q hq; omega⟩, fun j op' hij hj => ?_⟩
      by_cases hji : j = i
      · subst hji
        rw [hop] at hj; obtain rfl := Option.some.inj hj
        have := item vs' hf (.inl ⟨suf, k3, hnew, fun q hq => by have := k4 q hq; omega⟩)
        simpa using this
      · have := k5 j op' (by omega) hj
        simpa using this
    · rw [if_neg (fun e => hnew (hlen.1 e))] at h2
      have ht : onTop (pre op) h = true := h1.resolve_right (fun e => hnew (hlen.1 e))
      have hc' : ChainOk l b ((i, oJ (inb (pre op)) b h ++ new) :: h) := by
        refine ⟨⟨new, by rw [oJ_onTop ht]⟩, fun p hp => ?_, hc⟩
        cases h with
        | nil => cases hp
        | cons q h =>
          obtain rfl := Option.some.inj hp
          exact ⟨hlt _ (by simp), op, hop, by simpa [onTop] using ht⟩
      obtain ⟨vs', hf, k1, k2, ⟨suf, k3, k4⟩, k5⟩ := dwalk_get r (i + 1) (vs ++ [vv]) _ hdr (by simp [hv]) (by omega) (fun q hq => by
        rcases List.mem_cons.1 hq with rfl | hq
        · simp
        · have := hlt q hq; omega) hc' h2
      refine ⟨vv :: vs', hf, by simpa using k1, k2, ⟨suf ++ [(i, oJ (inb (pre op)) b h ++ new)], by simp [k3], fun q hq => by
        rcases List.mem_append.1 hq with hq | hq
        · have := k4 q hq; omega
        · simp at hq; subst hq; exact ⟨by simp, hil⟩⟩, fun j op' hij hj => ?_⟩
      by_cases hji : j = i
      · subst hji
        rw [hop] at hj; obtain rfl := Option.some.inj hj
        have := item vs' hf (.inr ⟨ht, suf, k3, fun q hq => by have := k4 q hq; omega⟩)
        simpa using this
      · have := k5 j op' (by omega) hj
        simpa using this

theorem awp_drawn {P : Program} {id : Nat} {l : List Oper} {s : AS} {Q : Exit → AS → Prop} (hdst : distinct l = true) (h : dwalk P l s.t s.o (Q .normal) 0 l [] []) : awp P (.region id l.toArray true) s Q := by
  obtain ⟨vs, hf, hK, hc, ⟨suf0, hsuf0, hlt0⟩, hit⟩ := dwalk_get l 0 [] [] rfl rfl (by omega) (by simp) trivial h
  simp only [List.nil_append] at hK hit
  have hit' : ∀ j op, l[j]? = some op → Item P l s.t s.o j op vs hf := fun j op hj => hit j op (by omega) hj
  refine draw_ok2 (ops := l.toArray) (fun J => ⟨doneT J 0 l vs s.t, oJ J s.o hf⟩) ?_ ?_ ?_ ?_
  · have e1 : ∀ (l : List Oper) (j : Nat) (vs t : List AV), doneT (fun _ => false) j l vs t = t := by
      intro l
      induction l with
      | nil => intros; rfl
      | cons op r ih =>
        intro j vs t
        simp only [doneT]
        rw [ih]
        unfold dstep
        cases op.dst <;> simp
    have e2 : ∀ h : List (Nat × List AObj), oJ (fun _ => false) s.o h = s.o := by
      intro h
      induction h with
      | nil => rfl
      | cons q r ih => simp [oJ, ih]
    rw [e1, e2]
    exact fun _ _ _ r => r
  · intro i op hi; exact (hit' i op (by simpa using hi)).pre
  · intro i op hi
    have hi' : l[i]? = some op := by simpa using hi
    have it := hit' i op hi'
    refine ⟨it.guard, fun J hJ hJi hpre => ?_⟩
    have hJ' : Clo l J := by simpa using hJ
    obtain ⟨x, new, hj, suf, hfe, hlt, hvx, hop, hcase⟩ := it.ex
    have hmask : wk (doneT J 0 l vs s.t) (maskT i (pre op) 0 l (vs.take i) s.t) :=
      mask_done hJi (fun e he => ⟨hpre e he, it.pre e he⟩) l 0 vs (vs.take i) s.t s.t (fun k q hk hJk => hJ' k q hk (by simpa using hJk)) (fun k hk => by
        rw [List.getD_eq_getElem?_getD, List.getD_eq_getElem?_getD, List.getElem?_take]; simp [show k < i by omega]) (wk_rfl _)
    -- the objects
    have hskip : ∀ (J' : Nat → Bool) (s2 : List (Nat × List AObj)), (∀ q ∈ s2, J' q.1 = false) → ∀ h', oJ J' s.o (s2 ++ h') = oJ J' s.o h' := fun J' s2 h1 h' => oJ_skip J' s.o h1
    have hprf : ∀ q : Nat × List AObj, i ≤ q.1 → inb (pre op) q.1 = false := fun q hq => by
      cases hb : inb (pre op) q.1 with
      | false => rfl
      | true => have := it.pre q.1 (by simpa [inb] using hb); omega
    have hoc : oJ (inb (pre op)) s.o hf = oJ (inb (pre op)) s.o hj := by
      rw [hfe]
      refine oJ_skip _ _ fun q hq => hprf q ?_
      rcases hcase with ⟨_, h1⟩ | ⟨_, s2, rfl, h1⟩
      · have := h1 q hq; omega
      · rcases List.mem_append.1 hq with hq | hq
        · have := h1 q hq; omega
        · simp at hq; subst hq; simp
    obtain ⟨ext, hext⟩ := oJ_ext (J := J) hpre hc
    rw [hoc] at hext
    have hobj : (new = [] ∧ oJ (upd J i) s.o hf = oJ J s.o hf) ∨ (ext = [] ∧ oJ (upd J i) s.o hf = oJ (inb (pre op)) s.o hj ++ new) := by
      rcases hcase with ⟨h1, h2⟩ | ⟨ht, s2, rfl, h2⟩
      · refine .inl ⟨h1, ?_⟩
        have : ∀ h : List (Nat × List AObj), (∀ q ∈ h, q.1 ≠ i) → oJ (upd J i) s.o h = oJ J s.o h := by
          intro h
          induction h with
          | nil => intro _; rfl
          | cons q r ih =>
            intro hq
            simp only [oJ]
            rw [ih fun p hp => hq p (by simp [hp])]
            have : upd J i q.1 = J q.1 := by unfold upd; rw [if_neg (hq q (by simp))]
            rw [this]
        refine this hf fun q hq => ?_
        rw [hfe] at hq
        rcases List.mem_append.1 hq with hq | hq
        · have := h2 q hq; omega
        · have := hlt q hq; omega
      · right
        have hfe' : hf = s2 ++ (i, oJ (inb (pre op)) s.o hj ++ new) :: hj := by simp [hfe]
        have hs2 := chain_false hJ' (s := s2) (by rw [← hfe']; exact hc) hJi
        constructor
        · have h3 : oJ J s.o hf = oJ J s.o hj := by
            rw [hfe', hskip J s2 hs2]
            simp only [oJ]; rw [if_neg (by rw [hJi]; simp)]
          have h4 : oJ J s.o hj = oJ (inb (pre op)) s.o hj := by
            rw [oJ_onTop ht]
            cases hj with
            | nil => rfl
            | cons q r =>
              simp only [onTop, decide_eq_true_eq] at ht
              simp only [oJ, top]; rw [if_pos (hpre _ ht)]
          rw [h3, h4] at hext
          have := congrArg List.length hext
          rw [List.length_append] at this
          exact List.eq_nil_of_length_eq_zero (by omega)
        · rw [hfe', hskip (upd J i) s2 (fun q hq => by
            have := h2 q hq
            unfold upd; rw [if_neg (by omega)]; exact hs2 q hq)]
          simp [oJ, upd]
    obtain ⟨x', new', x2, rfl', hx2, _, hfin⟩ := aop_mono (ext := ext) it.quiet hmask hop (by
      rcases hobj with ⟨h1, _⟩ | ⟨h1, _⟩
      · right; rintro s' rfl; simp [h1]
      · exact .inl h1)
    rw [← hext] at hfin
    refine hfin _ ?_
    -- both outcomes are one
    have hset : new' = new ∧ (setO (maskT i (pre op) 0 l (vs.take i) s.t) op.dst x' = setO (maskT i (pre op) 0 l (vs.take i) s.t) op.dst x) := by
      simp only [AS.mk.injEq, List.append_cancel_left_eq] at rfl'
      exact ⟨rfl'.2, rfl'.1⟩
    have hto : wk (setO (doneT J 0 l vs s.t) op.dst x2) (doneT (upd J i) 0 l vs s.t) := by
      have := doneT_upd l 0 i op vs s.t (vs.getD i .undef) hdst hi' (by simpa using hJi) rfl
      rw [Nat.zero_add] at this
      rw [this]
      have hL := wk_length hmask
      unfold setO at hset ⊢
      cases hd : op.dst with
      | none => exact wk_rfl _
      | some d =>
        rw [hd] at hset
        dsimp only at hset ⊢
        rcases Nat.lt_or_ge d (doneT J 0 l vs s.t).length with hdl | hle
        · have hxx : x' = x := by
            have := congrArg (fun t => t[d]?) hset.2
            simpa [hL ▸ hdl] using this
          refine wk_set d (wk_rfl _) ?_
          rcases hvx with e | e
          · rw [e, ← hxx]; assumption
          · exact .inr e
        · rw [List.set_eq_of_length_le hle, List.set_eq_of_length_le hle]
          exact wk_rfl _
    rcases hobj with ⟨h1, h2⟩ | ⟨h1, h2⟩
    · show Weak _ ⟨_, oJ (upd J i) s.o hf⟩
      rw [h2, hset.1, h1, List.append_nil]
      exact weak_t hto
    · show Weak _ ⟨_, oJ (upd J i) s.o hf⟩
      rw [h2, hset.1, hext, h1, List.append_nil]
      exact weak_t hto
  · intro J hJ
    have e1 : doneT J 0 l vs s.t = doneT (fun _ => true) 0 l vs s.t := doneT_congr l 0 vs s.t fun k hk => by rw [Nat.zero_add]; exact hJ k (by simpa using hk)
    have e2 : oJ J s.o hf = top s.o hf := by
      cases hf with
      | nil => rfl
      | cons q r =>
        simp only [oJ, top]
        rw [if_pos (hJ q.1 ?_)]
        have := (hlt0 q (by
          have : q :: r = suf0 := by simpa using hsuf0
          rw [← this]; simp)).2
        simpa using this
    show Q .normal ⟨doneT J 0 l vs s.t, oJ J s.o hf⟩
    rw [e1, e2]
    exact hK
theorem dwalk_nil {P : Program} {l : List Oper} {t : List AV} {b : List AObj} {K : AS → Prop} {i : Nat} {vs : List AV} {h : List (Nat × List AObj)} {t' : List AV} {o' : List AObj} (ht : doneT (fun _ => true) 0 l vs t = t') (ho : top b h = o') (hk : K ⟨t', o'⟩) : dwalk P l t b K i [] vs h := by
  simp only [dwalk, ht, ho]; exact hk

theorem dwalk_cons {P : Program} {l : List Oper} {t : List AV} {b : List AObj} {K : AS → Prop} {i : Nat} {op : Oper} {r : List Oper} {vs : List AV} {h : List (Nat × List AObj)} (hg : op.guard = none) (hq : quiet op.op = true)
    {pr : List Nat} {m : List AV} {om : List AObj} (hpr : pre op = pr) (hlt : (pr.all fun e => decide (e < i)) = true) (hm : maskT i pr 0 l vs t = m) (ho : oJ (inb pr) b h = om)
    (ha : ∀ K' : AS → Prop, (∀ s', (onTop pr h = true ∨ s'.o.length = om.length) → dwalk P l t b K (i + 1) r (vs ++ [dval op s']) (if s'.o.length = om.length then h else (i, s'.o) :: h) → K' s') → aop P op ⟨m, om⟩ K') : dwalk P l t b K i (op :: r) vs h := by
  subst hpr; subst hm; subst ho
  simp only [dwalk]
  exact ⟨hg, hq, fun e he => by have := List.all_eq_true.1 hlt e he; simpa using this, ha _ fun s' h1 h2 => ⟨h1, h2⟩⟩
theorem idp {p : Prop} (h : p) : p := h
attribute [irreducible] dwalk
def upds (t : List AV) : List (Nat × AV) → List AV
  | [] => t
  | p :: r => upds (t.set p.1 p.2) r
theorem awp_loop' {P : Program} {c : Code} {s : AS} {Q : Exit → AS → Prop} {ι : Type} (inv : List AV → List AObj → ι → AS) (μ : ι → Nat) (i : ι) (h0 : Weak s (inv s.t s.o i)) (h : ∀ i, ∀ K : AS → Prop, (∀ s' j, Weak s' (inv s.t s.o j) → μ j < μ i → K s') → awp P c (inv s.t s.o i) (AThen K Q)) : awp P (.loop c) s Q := awp_loop (inv s.t s.o) μ i h0 h
attribute [simp] pre mstep maskT dstep doneT oJ top onTop inb dval upds
end Go.Aw
