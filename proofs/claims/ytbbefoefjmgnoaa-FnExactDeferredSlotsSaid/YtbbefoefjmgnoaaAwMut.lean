/-
  Proved here: contracts with an argument that is changed in place.
  No condition beyond what each statement spells out.
-/
import Derived.Test.YtbbefoefjmgnoaaAwDraw
set_option linter.all false
set_option linter.unusedVariables false
namespace Go.Aw

mutual
/-- Made of plain values and of handles of the first m objects as they were lent. -/
def rigid (m : Nat) : AV → Bool
  | .int _ _ => true
  | .bool _ => true
  | .str _ => true
  | .obj i ver => decide (i < m) && ver == 0
  | .agg c => rigidc m c
  | .tup c => rigidc m c
  | _ => false
def rigidc (m : Nat) : List AV → Bool
  | [] => true
  | x :: xs => rigid m x && rigidc m xs
end

mutual
theorem R_rigid {w1 w2 : World} {E1 E2 : Env} {m : Nat} {hv : Nat → Option Value} (h1 : ∀ i v, i < m → E1.H i 0 v → hv i = some v) (h2 : ∀ i v, i < m → E2.H i 0 v → hv i = some v) :
    ∀ (x : AV) (v1 v2 : Value), rigid m x = true → R w1 E1 x v1 [] → R w2 E2 x v2 [] → v1 = v2
  | .int _ _, _, _, _, a, b => by simp only [R] at a b; rw [a.1, b.1]
  | .bool _, _, _, _, a, b => by simp only [R] at a b; rw [a.1, b.1]
  | .str _, _, _, _, a, b => by simp only [R] at a b; rw [a.1, b.1]
  | .obj i ver, v1, v2, hr, a, b => by
    simp only [rigid, Bool.and_eq_true, decide_eq_true_eq, beq_iff_eq] at hr
    obtain ⟨hi, rfl⟩ := hr
    simp only [R] at a b
    have e1 := h1 i v1 hi a.2
    have e2 := h2 i v2 hi b.2
    rw [e1] at e2
    exact Option.some.inj e2
  | .agg c, _, _, hr, a, b => by
    simp only [R] at a b
    obtain ⟨c1, rfl, _, a⟩ := a
    obtain ⟨c2, rfl, _, b⟩ := b
    rw [Rc_rigid h1 h2 c c1 c2 (by simpa [rigid] using hr) a b]
  | .tup c, _, _, hr, a, b => by
    simp only [R] at a b
    obtain ⟨c1, rfl, a⟩ := a
    obtain ⟨c2, rfl, b⟩ := b
    rw [Rc_rigid h1 h2 c c1 c2 (by simpa [rigid] using hr) a b]
  | .sl _ _ _, _, _, hr, _, _ => by simp [rigid] at hr
  | .vptr _ _ _, _, _, hr, _, _ => by simp [rigid] at hr
  | .ptr _ _ _ _, _, _, hr, _, _ => by simp [rigid] at hr
  | .fn _ _, _, _, hr, _, _ => by simp [rigid] at hr
  | .undef, _, _, hr, _, _ => by simp [rigid] at hr
theorem Rc_rigid {w1 w2 : World} {E1 E2 : Env} {m : Nat} {hv : Nat → Option Value} (h1 : ∀ i v, i < m → E1.H i 0 v → hv i = some v) (h2 : ∀ i v, i < m → E2.H i 0 v → hv i = some v) :
    ∀ (x : List AV) (v1 v2 : List Value), rigidc m x = true → Rc w1 E1 x v1 [] → Rc w2 E2 x v2 [] → v1 = v2
  | [], [], [], _, _, _ => rfl
  | [], _ :: _, _, _, a, _ => by simp [Rc] at a
  | [], [], _ :: _, _, _, b => by simp [Rc] at b
  | _ :: _, [], _, _, a, _ => by simp [Rc] at a
  | _ :: _, _ :: _, [], _, _, b => by simp [Rc] at b
  | x :: xs, c1 :: r1, c2 :: r2, hr, a, b => by
    simp only [Rc] at a b
    simp only [rigidc, Bool.and_eq_true] at hr
    obtain ⟨f1, f2, a1, a2, e⟩ := a
    obtain ⟨rfl, rfl⟩ : f1 = [] ∧ f2 = [] := by simpa using e
    obtain ⟨f1, f2, b1, b2, e⟩ := b
    obtain ⟨rfl, rfl⟩ : f1 = [] ∧ f2 = [] := by simpa using e
    rw [R_rigid h1 h2 x c1 c2 hr.1 a1 b1, Rc_rigid h1 h2 xs r1 r2 hr.2 a2 b2]
end

/-- What a function hands back that has changed its first argument. -/
def HandsM (P : Program) (fn : Func) (s : AS) (p x' r : AV) : Prop :=
  (∃ ys, s.rvs P fn.results.toList = some ys ∧ single ys = r ∧ r.scalar = true) ∧ s.t[0]? = some p ∧ resOk s.o p = true ∧ (uses p).Nodup ∧ res s.o p = x' ∧ clean x' = true

theorem okM_of_awp {P : Program} (hm : P.follows .mixedOrders = true) {f : FuncId} {fn : Func} {c : Code} (hf : P.funcs[f]? = some fn) (hb : fn.body = some c) {x x' : AV} {rest : List AV} {rr : AV}
    (hrig : rigid (absorb 0 0 x).2.length (absorb 0 0 x).1 = true)
    (h : awp P c ⟨((absorb 0 0 x).1 :: rest) ++ List.replicate (fn.ntmps - (rest.length + 1)) .undef, (absorb 0 0 x).2⟩ (fun e s => (e = .normal ∨ e = .ret) ∧ HandsM P fn s (absorb 0 0 x).1 x' rr)) : OkM P f x x' rest rr := by
  intro w v vs fp hx hnd hlt hrest
  have hl := Rc_length hrest
  obtain ⟨Gs, hlen, hobj, hap, hdone⟩ := R_absorb (q := 0) x v fp 0 hx hnd
  generalize hB : (⟨w, fun b => b < w.heap.size ∧ b ∉ fp, (· ∈ fp), fun i => match (absorb 0 0 x).2[i]?, Gs[i]? with
    | some ob, some g => some (.slice g.a ob.els.length g.cap)
    | _, _ => none⟩ : Base) = B
  have hw0 : B.w0 = w := by rw [← hB]
  have hA0 : ∀ b, B.A0 b ↔ b < w.heap.size ∧ b ∉ fp := by intro b; rw [← hB]
  have hO0 : ∀ b, B.O0 b ↔ b ∈ fp := by intro b; rw [← hB]
  have hh0 : ∀ i ob g, look (absorb 0 0 x).2 Gs i ob g → B.h0 i = some (.slice g.a ob.els.length g.cap) := by
    intro i ob g hl
    rw [← hB]
    simp only [hl.1, hl.2]
  have kE : Keeps w (envBut w (· ∈ fp)) w (env B (absorb 0 0 x).2 Gs w) := by
    refine ⟨fun b hb => ⟨⟨.inl ((hA0 b).2 hb), fun i ob g hl _ hF => ?_⟩, rfl⟩, fun _ _ => trivial, fun _ _ _ h => h.elim, fun _ _ _ h => h.elim, fun _ _ _ _ _ h => h.elim⟩
    obtain ⟨_, _, _, f', _, _, h3, h4⟩ := hobj _ _ _ hl
    exact hb.2 (h4 _ ((h3 _).1 hF))
  have r0 : Rel' B ⟨((absorb 0 0 x).1 :: rest) ++ List.replicate (fn.ntmps - (rest.length + 1)) .undef, (absorb 0 0 x).2⟩ Gs { tmps := (v :: vs).toArray ++ Array.replicate (fn.ntmps - (v :: vs).toArray.size) Go.undef, defers := [] } w := by
    refine { len := hlen, defs := rfl, ok := ?_, apart := ?_, fresh := ?_, tmps := ?_, size := by rw [hw0]; exact Nat.le_refl _, frame := by rw [hw0]; exact fun _ _ _ => rfl, base := ?_, same := by rw [hw0]; exact Same.rfl }
    · intro i ob g hl _
      obtain ⟨_, h2, _, f', hown, h3, h4, h5⟩ := hobj _ _ _ hl
      refine ⟨f', ?_, h3, fun b hb => (h4 b).2 hb⟩
      rw [h2]
      exact hown.keeps kE.plain (fun _ _ => rfl)
    · intro i j oi oj gi gj b hi hj _ _ hfi hfj
      exact hap _ _ _ _ _ _ b hi hj hfi hfj
    · intro i ob g b hl _ hF
      obtain ⟨_, _, _, f', _, _, h3, h4⟩ := hobj _ _ _ hl
      have := h4 _ ((h3 _).1 hF)
      exact ⟨.inl ((hO0 b).2 this), hlt b this⟩
    · have h0 : R w (env B (absorb 0 0 x).2 Gs w) (absorb 0 0 x).1 v [] := hdone _ kE fun j ob g hl => by
        obtain ⟨_, _, h3, _⟩ := hobj _ _ _ hl
        rw [Nat.zero_add]
        exact ⟨ob, g, hl, Nat.zero_le _, fun _ _ => rfl, fun _ y hy => by rw [hh0 _ _ _ hl] at hy; exact Option.some.inj hy⟩
      have h1 : Rc w (env B (absorb 0 0 x).2 Gs w) ((absorb 0 0 x).1 :: rest) (v :: vs) [] := by
        simp only [Rc]
        exact ⟨[], [], h0, Rc_keeps kE _ _ _ (by simp) hrest, rfl⟩
      have h2 : ∀ n, Rc w (env B (absorb 0 0 x).2 Gs w) (List.replicate n .undef) (List.replicate n Go.undef) [] := by
        intro n
        induction n with
        | zero => simp [Rc]
        | succ n ih => simp only [List.replicate_succ, Rc]; exact ⟨[], [], by simp [R], ih, rfl⟩
      have := Rc_append h1 (h2 (fn.ntmps - (rest.length + 1)))
      simpa [hl] using this
    · intro b hb
      have := (hA0 b).1 hb
      exact ⟨by rw [hw0]; exact this.1, fun h => this.2 ((hO0 b).1 h)⟩
  have hv0 : R w (env B (absorb 0 0 x).2 Gs w) (absorb 0 0 x).1 v [] := hdone _ kE fun j ob g hl => by
    rw [Nat.zero_add]
    exact ⟨ob, g, hl, Nat.zero_le _, fun _ _ => rfl, fun _ y hy => by rw [hh0 _ _ _ hl] at hy; exact Option.some.inj hy⟩
  refine calls_of_wp hf hb (wp_mono (awp_sound hm c _ _ h _ _ ⟨_, r0⟩) fun e a w' he => ?_)
  obtain ⟨s, ⟨he, ⟨ys, hys, hyr, hsc⟩, ht0, hok, hu, hres, hcl⟩, G, r⟩ := he
  obtain ⟨u, hrun, hR⟩ := run_results r hys
  have hhv : ∀ (o : List AObj) (G' : List CO) (w'' : World) i y, i < (absorb 0 0 x).2.length → (env B o G' w'').H i 0 y → B.h0 i = some y := by
    intro o G' w'' i y hi hH
    obtain ⟨_, _, _, _, _, hz⟩ := hH
    have hg : ∃ ob g, look (absorb 0 0 x).2 Gs i ob g := ⟨_, _, List.getElem?_eq_getElem hi, List.getElem?_eq_getElem (by omega)⟩
    obtain ⟨ob, g, hl⟩ := hg
    have e := hh0 _ _ _ hl
    rw [hz rfl _ e]
    exact e
  obtain ⟨v1, hv1, hr1⟩ := Rc_get r.tmps ht0
  have hvv : v = v1 := R_rigid (hv := B.h0) (hhv _ _ _) (hhv _ _ _) _ _ _ hrig hv0 hr1
  subst hvv
  obtain ⟨fp', k1, k2, k3⟩ := R_res r _ v hok hu hr1
  rw [hres] at k1
  have hfin : ∃ u' fp', Ending.returned u = .returned u' ∧ R w' envNone rr u' [] ∧ R w' envNone x' v fp' ∧ fp'.Nodup ∧
      (∀ b ∈ fp', (b ∈ fp ∨ w.heap.size ≤ b) ∧ b < w'.heap.size) ∧ w.heap.size ≤ w'.heap.size ∧ (∀ b, b < w.heap.size → b ∉ fp → w'.heap[b]? = w.heap[b]?) ∧ Same w w' := by
    refine ⟨u, fp', rfl, ?_, R_clean (E := (env _ s.o G w').plain) (fun _ _ => trivial) rfl rfl rfl _ _ _ hcl k1, k2, fun b hb => ?_, by have := r.size; rwa [hw0] at this, fun b hb hn => by have := r.frame b (by rw [hw0]; exact hb) (fun h => hn ((hO0 b).1 h)); rwa [hw0] at this, by have := r.same; rwa [hw0] at this⟩
    · rw [hyr] at hR
      cases rr <;> simp only [AV.scalar] at hsc <;> first | (cases hsc; done) | (simp only [R] at hR ⊢; exact hR)
    · obtain ⟨i, ob, g, _, hl, hlive, hF⟩ := k3 b hb
      have := r.fresh _ _ _ b hl hlive hF
      rw [hw0, hO0] at this
      exact this
  rcases he with rfl | rfl
  · exact ⟨r.defs, u, hrun, hfin⟩
  · exact ⟨r.defs, u, hrun, hfin⟩
end Go.Aw
