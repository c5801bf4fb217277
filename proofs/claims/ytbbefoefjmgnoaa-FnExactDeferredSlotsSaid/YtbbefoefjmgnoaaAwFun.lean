/-
  Proved here: that the abstract walk of a function is sound.
  No condition beyond what each statement spells out.
-/
import Derived.Test.YtbbefoefjmgnoaaAwWp
import Derived.Test.YtbbefoefjmgnoaaAwMutB
import Derived.Orders
set_option linter.all false
namespace Go.Aw

/-- What holds of a state holds of a weaker one. -/
def Weak (s s' : AS) : Prop := ∀ B a w, Rel B s a w → Rel B s' a w

def AThen (K : AS → Prop) (Q : Exit → AS → Prop) : Exit → AS → Prop
  | .normal, s => K s
  | e, s => Q e s

def AIn (id : Nat) (Q : Exit → AS → Prop) : Exit → AS → Prop
  | .exit id', s => if id' = id then Q .normal s else Q (.exit id') s
  | e, s => Q e s

def lift (B : Base) (Q : Exit → AS → Prop) : Exit → Act → World → Prop := fun e a w => ∃ s, Q e s ∧ Rel B s a w

/-- The value of a guard. -/
def guardA (all : List Oper) (s : AS) (j : Nat) : AV := match all[j]? with
  | some o => match o.dst with
    | some d => s.t.getD d .undef
    | none => .undef
  | none => .undef

/-- A call that changes what is lent to it. -/
def amut (P : Program) (o : Oper) (s : AS) (K : AS → Prop) : Prop :=
  match o.op with
  | .call ⟨.value f, ⟨[x, y]⟩, _⟩ => match s.ev f with
    | .fn g [] => callable P g = true ∧ (s.ev y).plainV = true ∧ resOk s.o (s.ev x) = true ∧ (uses (s.ev x)).Nodup ∧ ∃ x' r, OkM P g (res s.o (s.ev x)) x' [s.ev y] r ∧ r.plainV = true ∧ mt s.o (s.ev x) x' = true ∧ K (s.mutated o.dst (s.ev x) x' r)
    | _ => False
  | _ => False

theorem amut_sound {P : Program} {B : Base} {o : Oper} {s : AS} {K : AS → Prop} (h : amut P o s K) : ∃ s', K s' ∧ Step P B o s s' := by
  obtain ⟨dst, op, ty, pos, after, gd⟩ := o
  unfold amut at h
  dsimp only at h
  split at h
  · split at h
    · rename_i hf
      obtain ⟨h1, h2, h3, h4, x', r, h5, h6, h7, h8⟩ := h
      exact ⟨_, h8, step_mut _ _ _ _ hf h1 h2 h6 h3 h4 h7 h5⟩
    · exact h.elim
  · exact h.elim

def awpL (P : Program) (all : List Oper) : List Oper → AS → (AS → Prop) → Prop
  | [], s, K => K s
  | o :: r, s, K => match o.guard with
    | none => (aop P o s fun s' => awpL P all r s' K) ∨ (amut P o s fun s' => awpL P all r s' K)
    | some (j, want) => match guardA all s j with
      | .bool b => (b = want → aop P o s fun s' => awpL P all r s' K) ∧ (b ≠ want → awpL P all r (s.put o.dst .undef) K)
      | _ => False

/-- A region whose order is open. -/
def DrawOk (P : Program) (ops : Array Oper) (s : AS) (K : AS → Prop) : Prop :=
  ∀ B a w (Q : Exit → Act → World → Prop), Rel B s a w → (∀ a' w' s', K s' → Rel B s' a' w' → Q .normal a' w') →
    wpAny P .any ops Q ops.size (Array.replicate ops.size false) a { w with drawn := w.drawn + 1 }

def awp (P : Program) : Code → AS → (Exit → AS → Prop) → Prop
  | .skip, s, Q => Q .normal s
  | .region _ ops false, s, Q => awpL P ops.toList ops.toList s (Q .normal)
  | .region _ ops true, s, Q => DrawOk P ops s (Q .normal)
  | .seq x y, s, Q => awp P x s (AThen (fun s' => awp P y s' Q) Q)
  | .cond c x y, s, Q => match s.ev c with
    | .bool b => (b = true → awp P x s Q) ∧ (b = false → awp P y s Q)
    | _ => False
  | .block id c, s, Q => awp P c s (AIn id Q)
  | .loop c, s, Q => ∃ (ι : Type) (inv : ι → AS) (μ : ι → Nat) (i : ι), Weak s (inv i) ∧ ∀ i, awp P c (inv i) (AThen (fun s' => ∃ j, Weak s' (inv j) ∧ μ j < μ i) Q)
  | .exit id, s, Q => Q (.exit id) s
  | .ret, s, Q => Q .ret s
  | _, _, _ => False

theorem guard_ok {B : Base} {s : AS} {G : List CO} {a : Act} {w : World} (r : Rel' B s G a w) {all : List Oper} {j : Nat} {b : Bool} (h : guardA all s j = .bool b) : yielded all.toArray a.tmps j = some b := by
  unfold guardA at h
  split at h
  · rename_i o ho
    split at h
    · rename_i d hd
      have h1 := r.ev (.tmp d)
      simp only [AS.ev] at h1
      rw [h] at h1
      simp only [R] at h1
      have h2 := h1.1
      simp only [Act.eval] at h2
      simp [yielded, ho, hd]
      rw [Array.getD_eq_getD_getElem?] at h2
      cases hg : a.tmps[d]? with
      | none => simp [hg] at h2; cases h2
      | some v => simp [hg] at h2; simp [h2]
    · cases h
  · cases h

theorem awpL_sound {P : Program} {B : Base} {all : List Oper} {Q : Exit → Act → World → Prop} : ∀ (l : List Oper) (s : AS) (K : AS → Prop), awpL P all l s K → ∀ a w, Rel B s a w → (∀ a' w' s', K s' → Rel B s' a' w' → Q .normal a' w') → wpList P all.toArray Q l a w
  | [], s, K, h, a, w, r, hk => hk _ _ _ h r
  | o :: l, s, K, h, a, w, r, hk => by
    simp only [awpL] at h
    have stepped : ((aop P o s fun s' => awpL P all l s' K) ∨ (amut P o s fun s' => awpL P all l s' K)) → Region.wanted o (yielded all.toArray a.tmps) = true → wpList P all.toArray Q (o :: l) a w := by
      intro h hw
      obtain ⟨s', h', hst⟩ : ∃ s', awpL P all l s' K ∧ Step P B o s s' := by
        rcases h with h | h
        · exact aop_sound (B := B) h
        · exact amut_sound (B := B) h
      simp only [wpList, hw, if_true]
      exact .inl (hst a w _ Q r fun a' w' r' => awpL_sound l s' K h' a' w' r' hk)
    split at h
    · rename_i hg
      exact stepped h (by simp [Region.wanted, hg])
    · rename_i j want hg
      split at h
      · rename_i b hb
        obtain ⟨G, r'⟩ := r
        have hy := guard_ok r' hb
        by_cases hbw : b = want
        · exact stepped (.inl (h.1 hbw)) (by simp [Region.wanted, hg, hy, hbw])
        · have hw : Region.wanted o (yielded all.toArray a.tmps) = false := by simp [Region.wanted, hg, hy, hbw]
          simp only [wpList, hw, Bool.false_eq_true, if_false]
          exact awpL_sound l _ K (h.2 hbw) _ _ ⟨G, r'.put o.dst (by simp [R])⟩ hk
      · exact h.elim

theorem min_of {ι : Type} (p : ι → Prop) (μ : ι → Nat) (h : ∃ i, p i) : ∃ i, p i ∧ ∀ j, p j → μ i ≤ μ j := by
  obtain ⟨i, hi⟩ := h
  generalize hn : μ i = n
  induction n using Nat.strongRecOn generalizing i with
  | _ n ih =>
    by_cases hex : ∃ j, p j ∧ μ j < n
    · obtain ⟨j, hj, hlt⟩ := hex
      exact ih (μ j) hlt j hj rfl
    · refine ⟨i, hi, fun j hj => ?_⟩
      rw [hn]
      exact Nat.le_of_not_lt fun hlt => hex ⟨j, hj, hlt⟩

open Classical in
noncomputable def least {ι : Type} (p : ι → Prop) (μ : ι → Nat) : Nat := if h : ∃ i, p i then μ (min_of p μ h).choose else 0

theorem least_le {ι : Type} {p : ι → Prop} {μ : ι → Nat} {j : ι} (h : p j) : least p μ ≤ μ j := by
  have hex : ∃ i, p i := ⟨j, h⟩
  unfold least
  rw [dif_pos hex]
  exact (min_of p μ hex).choose_spec.2 j h

theorem least_at {ι : Type} {p : ι → Prop} {μ : ι → Nat} (h : ∃ i, p i) : ∃ i, p i ∧ least p μ = μ i := by
  refine ⟨(min_of p μ h).choose, (min_of p μ h).choose_spec.1, ?_⟩
  unfold least
  rw [dif_pos h]

theorem awp_sound {P : Program} (hm : P.follows .mixedOrders = true) {B : Base} : ∀ (c : Code) (s : AS) (Q : Exit → AS → Prop), awp P c s Q → ∀ a w, Rel B s a w → c.wp P (lift B Q) a w
  | .skip, s, Q, h, a, w, r => wp_skip ⟨s, h, r⟩
  | .region id ops false, s, Q, h, a, w, r => wp_region_list (by
      have := awpL_sound (Q := lift B Q) ops.toList s (Q .normal) h a w r (fun a' w' s' h' r' => ⟨s', h', r'⟩)
      simpa using this)
  | .region id ops true, s, Q, h, a, w, r => wp_region_any hm (h B a w (lift B Q) r fun a' w' s' h' r' => ⟨s', h', r'⟩)
  | .seq x y, s, Q, h, a, w, r => wp_seq (wp_mono (awp_sound hm x s _ h a w r) fun e a' w' he => by
      obtain ⟨s', h', r'⟩ := he
      cases e with
      | normal => exact awp_sound hm y s' Q h' a' w' r'
      | _ => exact ⟨s', h', r'⟩)
  | .cond c x y, s, Q, h, a, w, r => by
    simp only [awp] at h
    split at h
    · rename_i b hb
      obtain ⟨G, r'⟩ := r
      exact wp_cond_split (r'.boolv hb) (fun hb => awp_sound hm x s Q (h.1 hb) a w ⟨G, r'⟩) (fun hb => awp_sound hm y s Q (h.2 hb) a w ⟨G, r'⟩)
    · exact h.elim
  | .block id c, s, Q, h, a, w, r => wp_block (wp_mono (awp_sound hm c s _ h a w r) fun e a' w' he => by
      obtain ⟨s', h', r'⟩ := he
      cases e with
      | exit id' =>
        simp only [AIn] at h'
        simp only [Exit.inBlock]
        split at h'
        · rename_i hid; rw [if_pos hid]; exact ⟨s', h', r'⟩
        · rename_i hid; rw [if_neg hid]; exact ⟨s', h', r'⟩
      | _ => exact ⟨s', h', r'⟩)
  | .loop c, s, Q, h, a, w, r => by
    obtain ⟨ι, inv, μ, i, h0, hr⟩ := h
    refine wp_loop (fun a w => ∃ i, Rel B (inv i) a w) (fun a w => least (fun i => Rel B (inv i) a w) μ) ⟨i, h0 B a w r⟩ fun a w hex => ?_
    obtain ⟨i, hi, hmin⟩ := least_at (μ := μ) hex
    refine wp_mono (awp_sound hm c (inv i) _ (hr i) a w hi) fun e a' w' he => ?_
    obtain ⟨s', h', r'⟩ := he
    cases e with
    | normal =>
      obtain ⟨j, hw, hlt⟩ := h'
      have hj := hw B a' w' r'
      refine ⟨⟨j, hj⟩, ?_⟩
      rw [hmin]
      exact Nat.lt_of_le_of_lt (least_le hj) hlt
    | _ => exact ⟨s', h', r'⟩
  | .exit id, s, Q, h, a, w, r => wp_exit ⟨s, h, r⟩
  | .ret, s, Q, h, a, w, r => wp_ret ⟨s, h, r⟩
  | .rangeFunc _ _ _ _, _, _, h, _, _, _ => by simp [awp] at h
  | .scope _, _, _, h, _, _, _ => by simp [awp] at h
  | .label _, _, _, h, _, _, _ => by simp [awp] at h
  | .goto _, _, _, h, _, _, _ => by simp [awp] at h
  | .refuse _, _, _, h, _, _, _ => by simp [awp] at h

/-- The value that a result's variable holds. -/
def AS.rv (P : Program) (s : AS) : ResultVar → Option AV
  | .tmp t => some (s.t.getD t .undef)
  | .cell t ty => match s.t.getD t .undef with
    | .ptr i ver idx off => match s.at i ver idx with
      | some (_, e) => match aggSize P ty with
        | some n => if off + n ≤ e.length then some (.agg (((rtc (dpf i) true e).drop off).take n)) else none
        | none => if oneSize P ty then (rtc (dpf i) true e)[off]? else none
      | none => none
    | _ => none

/-- Its reading. -/
def rvRun (a : Act) : ResultVar → Sem Value
  | .tmp t => pure (a.tmps.getD t Go.undef)
  | .cell t ty => do loadVar ty (← asAddr (a.tmps.getD t Go.undef))

theorem results_rv (fn : Func) (a : Act) : results fn a.tmps = (do let vs ← fn.results.mapM (rvRun a); pure (if h : vs.size = 1 then vs[0] else .tuple vs)) := by
  unfold results
  congr 1
  all_goals (congr 1; all_goals (funext x; cases x <;> rfl))

theorem run_rv {P : Program} {B : Base} {s : AS} {G : List CO} {a : Act} {w : World} (r : Rel' B s G a w) {rv : ResultVar} {x : AV} (h : s.rv P rv = some x) :
    ∃ v, (rvRun a rv).run P w = .ok v w ∧ R w (env B s.o G w) x v [] := by
  cases rv with
  | tmp t =>
    simp only [AS.rv, Option.some.injEq] at h
    subst h
    exact ⟨a.tmps.getD t Go.undef, rfl, r.ev (.tmp t)⟩
  | cell t ty =>
    simp only [AS.rv] at h
    split at h
    · rename_i i ver idx off hx
      split at h
      · rename_i ob e ha
        obtain ⟨ho, he⟩ := at_some ha
        obtain ⟨g, b, f, hl, hlive, hga, hv⟩ := r.ptr (x := .tmp t) hx ho
        obtain ⟨b', f', cs, ha', hcn, hc, hone, hrc⟩ := r.elem hl hlive he
        rw [hga] at ha'
        simp only [Option.some.injEq, Addr.mk.injEq, and_true] at ha'
        obtain ⟨rfl, rfl⟩ := ha'
        have hle := Rc_length hrc
        rw [rtc_length] at hle
        simp only [Act.eval] at hv
        split at h
        · rename_i n hn
          split at h
          · rename_i hfit
            obtain rfl := Option.some.inj h
            refine ⟨.agg ((cs.drop off).take n).toArray, ?_, by simp only [R]; exact ⟨_, rfl, mem_slice hone, Rc_slice off n hrc⟩⟩
            have := run_load_part_agg (P := P) (t := ty) (k := off) (n := n) (cs := cs) hn (by omega) hc
            simp only [Instr.loadAt, Instr.sureAddr, pure_bind] at this
            simp [rvRun, hv, asAddr, ← Nat.add_assoc, this]
          · cases h
        · split at h
          · rename_i hone1
            obtain ⟨v, hv', hR⟩ := Rc_get hrc h
            refine ⟨v, ?_, hR⟩
            have := run_load_part_one (P := P) (t := ty) hone1 hv' hc
            simp only [Instr.loadAt, Instr.sureAddr, pure_bind] at this
            simp [rvRun, hv, asAddr, ← Nat.add_assoc, this]
          · cases h
      · cases h
    · cases h

def AS.rvs (P : Program) (s : AS) : List ResultVar → Option (List AV)
  | [] => some []
  | x :: xs => match s.rv P x with
    | some y => match AS.rvs P s xs with
      | some ys => some (y :: ys)
      | none => none
    | none => none

def single : List AV → AV
  | [x] => x
  | xs => .tup xs

/-- What the function hands back. -/
def Hands (P : Program) (fn : Func) (s : AS) (r : AV) : Prop :=
  ∃ ys, s.rvs P fn.results.toList = some ys ∧ resOk s.o (single ys) = true ∧ (uses (single ys)).Nodup ∧ res s.o (single ys) = r ∧ clean r = true

theorem run_rvs {P : Program} {B : Base} {s : AS} {G : List CO} {a : Act} {w : World} (r : Rel' B s G a w) : ∀ {l : List ResultVar} {ys : List AV}, s.rvs P l = some ys →
    ∃ vs, (l.mapM (m := Sem) (rvRun a)).run P w = .ok vs w ∧ Rc w (env B s.o G w) ys vs []
  | [], ys, h => by
    simp only [AS.rvs, Option.some.injEq] at h
    subst h
    exact ⟨[], by simp, by simp [Rc]⟩
  | x :: xs, ys, h => by
    simp only [AS.rvs] at h
    split at h
    · rename_i y hy
      split at h
      · rename_i ys' hys
        obtain rfl := Option.some.inj h
        obtain ⟨v, h1, h2⟩ := run_rv r hy
        obtain ⟨vs, h3, h4⟩ := run_rvs r hys
        refine ⟨v :: vs, ?_, by simp only [Rc]; exact ⟨[], [], h2, h4, rfl⟩⟩
        simp only [List.mapM_cons, Sem.run_bind]
        rw [h1]
        simp only [Result.andThen_ok]
        rw [h3]
        simp
      · cases h
    · cases h

theorem run_results {P : Program} {B : Base} {s : AS} {G : List CO} {a : Act} {w : World} (r : Rel' B s G a w) {fn : Func} {ys : List AV} (h : s.rvs P fn.results.toList = some ys) :
    ∃ v, (results fn a.tmps).run P w = .ok v w ∧ R w (env B s.o G w) (single ys) v [] := by
  obtain ⟨vs, h1, h2⟩ := run_rvs r h
  have hl := Rc_length h2
  have hm : (fn.results.mapM (m := Sem) (rvRun a)).run P w = .ok vs.toArray w := by
    rw [Array.mapM_eq_mapM_toList]
    simp only [Sem.run_map]
    rw [h1]
    rfl
  rw [results_rv]
  simp only [Sem.run_bind]
  rw [hm]
  simp only [Result.andThen_ok, Sem.run_pure]
  match ys, vs, hl, h2 with
  | [y], [v], _, h2 =>
    refine ⟨v, by simp, ?_⟩
    simp only [Rc] at h2
    obtain ⟨f1, f2, h3, _, e⟩ := h2
    obtain ⟨rfl, _⟩ : f1 = [] ∧ f2 = [] := by simpa using e
    exact h3
  | [], [], _, h2 => exact ⟨.tuple #[], by simp, by simp only [single, R]; exact ⟨[], rfl, h2⟩⟩
  | y1 :: y2 :: ys, v1 :: v2 :: vs, _, h2 => exact ⟨.tuple (v1 :: v2 :: vs).toArray, by simp, by simp only [single, R]; exact ⟨_, rfl, h2⟩⟩

/-- A function's contract, by its body. -/
theorem ok_of_awp {P : Program} (hm : P.follows .mixedOrders = true) {f : FuncId} {fn : Func} {c : Code} (hf : P.funcs[f]? = some fn) (hb : fn.body = some c) {args : List AV} {rr : AV}
    (h : awp P c ⟨args ++ List.replicate (fn.ntmps - args.length) .undef, []⟩ (fun e s => (e = .normal ∨ e = .ret) ∧ Hands P fn s rr)) : Ok P f args rr := by
  intro w vs hargs
  have hl := Rc_length hargs
  have r0 : Rel' ⟨w, fun b => b < w.heap.size, fun _ => False, fun _ => none⟩ ⟨args ++ List.replicate (fn.ntmps - args.length) .undef, []⟩ [] { tmps := vs.toArray ++ Array.replicate (fn.ntmps - vs.toArray.size) Go.undef, defers := [] } w := by
    refine ⟨rfl, rfl, fun i ob g hl => by simp [look] at hl, fun i j oi oj gi gj b hl => by simp [look] at hl, fun i ob g b hl => by simp [look] at hl, ?_, Nat.le_refl _, fun _ _ _ => rfl, fun b hb => ⟨hb, fun h => h⟩, Same.rfl⟩
    have h1 : Rc w (env ⟨w, fun b => b < w.heap.size, fun _ => False, fun _ => none⟩ [] [] w) args vs [] := Rc_keeps (w := w) (w' := w) (E := envAll w) (E' := env ⟨w, fun b => b < w.heap.size, fun _ => False, fun _ => none⟩ [] [] w) ⟨fun b hb => ⟨⟨.inl hb, fun i ob g hl => by simp [look] at hl⟩, rfl⟩, fun _ _ => trivial, fun _ _ _ h => by exact h.elim, fun _ _ _ h => by exact h.elim, fun _ _ _ _ _ h => by exact h.elim⟩ _ _ _ (by simp) hargs
    have h2 : ∀ n, Rc w (env ⟨w, fun b => b < w.heap.size, fun _ => False, fun _ => none⟩ [] [] w) (List.replicate n .undef) (List.replicate n Go.undef) [] := by
      intro n
      induction n with
      | zero => simp [Rc]
      | succ n ih => simp only [List.replicate_succ, Rc]; exact ⟨[], [], by simp [R], ih, rfl⟩
    have := Rc_append h1 (h2 (fn.ntmps - args.length))
    simpa [hl] using this
  refine calls_of_wp hf hb (wp_mono (awp_sound hm c _ _ h _ _ ⟨_, r0⟩) fun e a w' he => ?_)
  obtain ⟨s, ⟨he, ys, hys, hok, hu, hres, hcl⟩, G, r⟩ := he
  obtain ⟨v, hrun, hR⟩ := run_results r hys
  obtain ⟨fp, h1, h2, h3⟩ := R_res r _ v hok hu hR
  rw [hres] at h1
  have hfin : ∃ v' fp, Ending.returned v = .returned v' ∧ R w' envNone rr v' fp ∧ fp.Nodup ∧ (∀ b ∈ fp, w.heap.size ≤ b ∧ b < w'.heap.size) ∧ w.heap.size ≤ w'.heap.size ∧ (∀ b, b < w.heap.size → w'.heap[b]? = w.heap[b]?) ∧ Same w w' := by
    refine ⟨v, fp, rfl, R_clean (E := (env _ s.o G w').plain) (fun _ _ => trivial) rfl rfl rfl _ _ _ hcl h1, h2, fun b hb => ?_, r.size, fun b hb => r.frame b hb (fun h => h), r.same⟩
    obtain ⟨i, ob, g, _, hl, hlive, hF⟩ := h3 b hb
    have := r.fresh _ _ _ b hl hlive hF
    exact ⟨this.1.resolve_left (fun h => h), this.2⟩
  rcases he with rfl | rfl
  · exact ⟨r.defs, v, hrun, hfin⟩
  · exact ⟨r.defs, v, hrun, hfin⟩

theorem awpL_nil {P : Program} {all : List Oper} {s : AS} {K : AS → Prop} (h : K s) : awpL P all [] s K := h

theorem awpL_cons {P : Program} {all r : List Oper} {o : Oper} {s : AS} {K : AS → Prop} (hg : o.guard = none) (h : ∀ K' : AS → Prop, (∀ s', awpL P all r s' K → K' s') → aop P o s K') : awpL P all (o :: r) s K := by
  simp only [awpL, hg]
  exact .inl (h _ fun _ h => h)

theorem awpL_mut {P : Program} {all r : List Oper} {o : Oper} {s : AS} {K : AS → Prop} (hg : o.guard = none) (h : ∀ K' : AS → Prop, (∀ s', awpL P all r s' K → K' s') → amut P o s K') : awpL P all (o :: r) s K := by
  simp only [awpL, hg]
  exact .inr (h _ fun _ h => h)

theorem awp_seq {P : Program} {x y : Code} {s : AS} {Q : Exit → AS → Prop} (h : ∀ K : AS → Prop, (∀ s', awp P y s' Q → K s') → awp P x s (AThen K Q)) : awp P (.seq x y) s Q := h _ fun _ h => h

theorem awp_region {P : Program} {id : Nat} {l : List Oper} {s : AS} {Q : Exit → AS → Prop} (h : awpL P l l s (Q .normal)) : awp P (.region id l.toArray false) s Q := by
  simpa [awp] using h

theorem awp_cond {P : Program} {c : Operand} {x y : Code} {s : AS} {Q : Exit → AS → Prop} {b : Bool} (hc : s.ev c = .bool b) (h1 : b = true → awp P x s Q) (h2 : b = false → awp P y s Q) : awp P (.cond c x y) s Q := by
  simp only [awp, hc]
  exact ⟨h1, h2⟩

theorem awp_block {P : Program} {id : Nat} {c : Code} {s : AS} {Q : Exit → AS → Prop} (h : awp P c s (AIn id Q)) : awp P (.block id c) s Q := h
theorem awp_exit {P : Program} {id : Nat} {s : AS} {Q : Exit → AS → Prop} (h : Q (.exit id) s) : awp P (.exit id) s Q := h
theorem awp_ret {P : Program} {s : AS} {Q : Exit → AS → Prop} (h : Q .ret s) : awp P .ret s Q := h
theorem awp_skip {P : Program} {s : AS} {Q : Exit → AS → Prop} (h : Q .normal s) : awp P .skip s Q := h
theorem awp_loop {P : Program} {c : Code} {s : AS} {Q : Exit → AS → Prop} {ι : Type} (inv : ι → AS) (μ : ι → Nat) (i : ι) (h0 : Weak s (inv i)) (h : ∀ i, ∀ K : AS → Prop, (∀ s' j, Weak s' (inv j) → μ j < μ i → K s') → awp P c (inv i) (AThen K Q)) : awp P (.loop c) s Q :=
  ⟨ι, inv, μ, i, h0, fun i => h i _ fun _ j h1 h2 => ⟨j, h1, h2⟩⟩

theorem awp_then {X : AS → Prop} {K : AS → Prop} {Q : Exit → AS → Prop} {s : AS} (hk : ∀ s', X s' → K s') (h : X s) : AThen K Q .normal s := hk s h

theorem awp_then_ret {K : AS → Prop} {Q : Exit → AS → Prop} {s : AS} (h : Q .ret s) : AThen K Q .ret s := h
theorem awp_then_exit {K : AS → Prop} {Q : Exit → AS → Prop} {s : AS} {id : Nat} (h : Q (.exit id) s) : AThen K Q (.exit id) s := h
theorem awp_in_normal {Q : Exit → AS → Prop} {s : AS} {id : Nat} (h : Q .normal s) : AIn id Q .normal s := h
theorem awp_in_ret {Q : Exit → AS → Prop} {s : AS} {id : Nat} (h : Q .ret s) : AIn id Q .ret s := h
theorem awp_in_eq {Q : Exit → AS → Prop} {s : AS} {id : Nat} (h : Q .normal s) : AIn id Q (.exit id) s := by simpa [AIn] using h
theorem awp_in_ne {Q : Exit → AS → Prop} {s : AS} {id id' : Nat} (hne : id' ≠ id) (h : Q (.exit id') s) : AIn id Q (.exit id') s := by simpa [AIn, hne] using h

/-- The end of a function. -/
theorem hands_mk {P : Program} {fn : Func} {s : AS} {r : AV} {ys : List AV} (h1 : s.rvs P fn.results.toList = some ys) (h2 : resOk s.o (single ys) = true) (h3 : (uses (single ys)).Nodup) (h4 : res s.o (single ys) = r) (h5 : clean r = true) : Hands P fn s r := ⟨ys, h1, h2, h3, h4, h5⟩

/-- Known values may be forgotten. -/
def wk : List AV → List AV → Prop
  | [], [] => True
  | x :: xs, y :: ys => (y = x ∨ y = .undef) ∧ wk xs ys
  | _, _ => False

theorem Rc_wk {w : World} {E : Env} : ∀ {t t' : List AV} {vs : List Value}, wk t t' → Rc w E t vs [] → Rc w E t' vs []
  | [], [], _, _, h => h
  | [], _ :: _, _, h, _ => h.elim
  | _ :: _, [], _, h, _ => h.elim
  | _ :: _, _ :: _, [], _, h => by simp [Rc] at h
  | x :: xs, y :: ys, v :: vs, h, hr => by
    simp only [Rc] at hr ⊢
    obtain ⟨f1, f2, h1, h2, e⟩ := hr
    obtain ⟨rfl, rfl⟩ : f1 = [] ∧ f2 = [] := by simpa using e
    refine ⟨[], [], ?_, Rc_wk h.2 h2, rfl⟩
    rcases h.1 with rfl | rfl
    · exact h1
    · simp [R]

theorem weak_t {t t' : List AV} {o : List AObj} (h : wk t t') : Weak ⟨t, o⟩ ⟨t', o⟩ := by
  rintro B a w ⟨G, r⟩
  exact ⟨G, { r with tmps := Rc_wk h r.tmps }⟩

theorem wrap64 (n : Int) (h1 : -9223372036854775808 ≤ n) (h2 : n ≤ 9223372036854775807) : IntKind.i64.wrap n = n := by rw [IntKind.wrap_i64]; omega

mutual
/-- How many slices a value owns. -/
def absN : AV → Nat
  | .sl .own _ _ => 1
  | .agg c => absNc c
  | .tup c => absNc c
  | _ => 0
def absNc : List AV → Nat
  | [] => 0
  | x :: xs => absN x + absNc xs
end
mutual
/-- A callee's result, its own slices as objects from k on. -/
def absV (q k : Nat) : AV → AV
  | .sl .own _ _ => .obj k q
  | .agg c => .agg (absVc q k c)
  | .tup c => .tup (absVc q k c)
  | .int a b => .int a b
  | .bool b => .bool b
  | .str s => .str s
  | .sl g n l => .sl g n l
  | .vptr g c off => .vptr g c off
  | .obj i v => .obj i v
  | .ptr i v j o => .ptr i v j o
  | .fn f c => .fn f c
  | .undef => .undef
def absVc (q k : Nat) : List AV → List AV
  | [] => []
  | x :: xs => absV q k x :: absVc q (k + absN x) xs
end
mutual
/-- The objects of a callee's result. -/
def absO (q : Nat) : AV → List AObj
  | .sl .own n l => [⟨true, false, n, q, l⟩]
  | .agg c => absOc q c
  | .tup c => absOc q c
  | .int _ _ => []
  | .bool _ => []
  | .str _ => []
  | .sl _ _ _ => []
  | .vptr _ _ _ => []
  | .obj _ _ => []
  | .ptr _ _ _ _ => []
  | .fn _ _ => []
  | .undef => []
def absOc (q : Nat) : List AV → List AObj
  | [] => []
  | x :: xs => absO q x ++ absOc q xs
end
mutual
theorem absO_length (q : Nat) : ∀ x : AV, (absO q x).length = absN x
  | .sl .own _ _ => rfl
  | .sl .view _ _ => rfl
  | .sl (.dep _) _ _ => rfl
  | .agg c => absOc_length q c
  | .tup c => absOc_length q c
  | .int _ _ => rfl
  | .bool _ => rfl
  | .str _ => rfl
  | .vptr _ _ _ => rfl
  | .obj _ _ => rfl
  | .ptr _ _ _ _ => rfl
  | .fn _ _ => rfl
  | .undef => rfl
theorem absOc_length (q : Nat) : ∀ c : List AV, (absOc q c).length = absNc c
  | [] => rfl
  | x :: xs => by simp only [absOc, absNc, List.length_append, absO_length q x, absOc_length q xs]
end
mutual
theorem absorb_eq (q k : Nat) : ∀ x : AV, absorb q k x = (absV q k x, absO q x)
  | .sl .own _ _ => rfl
  | .sl .view _ _ => rfl
  | .sl (.dep _) _ _ => rfl
  | .agg c => by simp only [absorb, absV, absO, absorbc_eq q k c]
  | .tup c => by simp only [absorb, absV, absO, absorbc_eq q k c]
  | .int _ _ => rfl
  | .bool _ => rfl
  | .str _ => rfl
  | .vptr _ _ _ => rfl
  | .obj _ _ => rfl
  | .ptr _ _ _ _ => rfl
  | .fn _ _ => rfl
  | .undef => rfl
theorem absorbc_eq (q k : Nat) : ∀ c : List AV, absorbc q k c = (absVc q k c, absOc q c)
  | [] => rfl
  | x :: xs => by simp only [absorbc, absVc, absOc, absorb_eq q k x, absorbc_eq q _ xs, absO_length]
end

attribute [simp] wk AS.ev AS.put AS.box AS.shut AV.fit AV.cells AV.isObj AS.at AS.stored loadA ofV rt rtc rtr AV.kept dpf vwf AS.args arg argc AS.called absV absVc absO absOc absN absNc absorb_eq absorbc_eq AS.target AS.source AS.appended AS.resliced AS.bound AS.made intBin strBin AObj.kill
  AV.solid AV.good AV.known AV.scalar inOrder inOrder.go AS.built kills kill1 usesc uses resc res resOk resOkc fillA clean cleanc cleanr single AS.rv AS.rvs guardA AThen AIn AV.nd rowsNd_nil rowsNd_cons rowsNd_set dropf AV.plainV
end Go.Aw
