/-
  Proved here: what it means to lend memory to a call that changes it in place.
  No condition beyond what each statement spells out.
-/
import Derived.Test.YtbbefoefjmgnoaaAwSteps7
set_option linter.all false
set_option linter.unusedVariables false
set_option linter.unusedSimpArgs false
namespace Go.Aw

def AV.plainV : AV → Bool
  | .int _ _ => true
  | .bool _ => true
  | .str _ => true
  | _ => false

/-- The environment of a callee to which some blocks are lent. -/
def envBut (w : World) (O : Nat → Prop) : Env := ⟨fun b => b < w.heap.size ∧ ¬ O b, fun _ => True, fun _ _ => False, fun _ _ _ => False, fun _ _ _ _ _ => False⟩

/-- A contract with a first argument that is changed in place: the same value reads as `x` before and as `x'` behind the call. -/
def OkM (P : Program) (f : FuncId) (x x' : AV) (rest : List AV) (r : AV) : Prop :=
  ∀ (w : World) (v : Value) (vs : List Value) (fp : List Nat), R w (envBut w (· ∈ fp)) x v fp → fp.Nodup → (∀ b ∈ fp, b < w.heap.size) → Rc w (envBut w (· ∈ fp)) rest vs [] →
    Calls P f (v :: vs).toArray w fun e w' => ∃ u fp', e = .returned u ∧ R w' envNone r u [] ∧ R w' envNone x' v fp' ∧ fp'.Nodup ∧
      (∀ b ∈ fp', (b ∈ fp ∨ w.heap.size ≤ b) ∧ b < w'.heap.size) ∧ w.heap.size ≤ w'.heap.size ∧ (∀ b, b < w.heap.size → b ∉ fp → w'.heap[b]? = w.heap[b]?) ∧ Same w w'

mutual
/-- The new rows fit the objects that were lent. -/
def mt (o : List AObj) : AV → AV → Bool
  | .obj i _, .sl .own n _ => match o[i]? with
    | some ob => decide (ob.n = n)
    | none => false
  | .agg c, .agg c' => mtc o c c'
  | .int _ _, x => x.plainV
  | .bool _, x => x.plainV
  | .str _, x => x.plainV
  | _, _ => false
def mtc (o : List AObj) : List AV → List AV → Bool
  | [], [] => true
  | x :: xs, y :: ys => mt o x y && mtc o xs ys
  | _, _ => false
end

mutual
/-- What becomes of the objects that were lent. -/
def newRows : AV → AV → List (Nat × List (List AV))
  | .obj i _, .sl _ _ rows => [(i, rows)]
  | .agg c, .agg c' => newRowsc c c'
  | _, _ => []
def newRowsc : List AV → List AV → List (Nat × List (List AV))
  | x :: xs, y :: ys => newRows x y ++ newRowsc xs ys
  | _, _ => []
end

theorem plainV_fp {w : World} {E : Env} {x : AV} {v : Value} {fp : List Nat} (hx : x.plainV = true) (h : R w E x v fp) : fp = [] := by
  cases x <;> simp only [AV.plainV] at hx <;> first | (cases hx; done) | (simp only [R] at h; exact h.2)

/-- One object behind the call. -/
structure Part where
  i : Nat
  rows : List (List AV)
  fp : List Nat

def PartOk (o : List AObj) (G : List CO) (w' : World) (p : Part) : Prop :=
  ∃ ob g, look o G p.i ob g ∧ ob.live = true ∧ ob.box = false ∧ OwnOk w' envNone ob.n p.rows g.a g.cap p.fp ∧ p.rows.length = ob.els.length

def fps (L : List Part) : List Nat := L.flatMap (·.fp)

mutual
theorem R_parts {B : Base} {s : AS} {G : List CO} {w w' : World} : ∀ (x x' : AV) (v : Value) (fp' : List Nat), resOk s.o x = true → mt s.o x x' = true → R w (env B s.o G w) x v [] → R w' envNone x' v fp' →
    ∃ L : List Part, L.map (·.i) = uses x ∧ newRows x x' = L.map (fun p => (p.i, p.rows)) ∧ fp' = fps L ∧ ∀ p ∈ L, PartOk s.o G w' p
  | .obj i ver, .sl .own n rows, v, fp', ho, hm, h, h' => by
    cases hob : AV.isObj s.o i ver with
    | none => simp [resOk, hob] at ho
    | some ob =>
      simp only [resOk, hob] at ho
      simp only [R] at h
      obtain ⟨_, ob', g, hl, _, hh, _⟩ := h
      obtain ⟨h1, h2, h3⟩ := isObj_some hob
      obtain rfl := Option.some.inj (hl.1.symm.trans h1)
      have hv := hh h2 h3
      obtain ⟨a, cap, hv', hown⟩ := R_own.1 h'
      rw [hv] at hv'
      simp only [Value.slice.injEq] at hv'
      obtain ⟨rfl, hlen, rfl⟩ := hv'
      simp only [mt, h1, decide_eq_true_eq] at hm
      refine ⟨[⟨i, rows, fp'⟩], rfl, rfl, by simp [fps], ?_⟩
      intro p hp
      simp at hp; subst hp
      exact ⟨_, g, hl, h2, by simpa using ho, by rw [hm]; exact hown, hlen.symm⟩
  | .agg c, .agg c', v, fp', ho, hm, h, h' => by
    simp only [R] at h h'
    obtain ⟨cs, rfl, _, hr⟩ := h
    obtain ⟨cs', hv, _, hr'⟩ := h'
    have : cs = cs' := by simpa using hv
    subst this
    obtain ⟨L, h1, h2, h3, h4⟩ := Rc_parts c c' cs fp' (by simpa [resOk] using ho) (by simpa [mt] using hm) hr hr'
    exact ⟨L, by simpa [uses] using h1, by simpa [newRows] using h2, h3, h4⟩
  | .int _ _, x', v, fp', _, hm, _, h' => ⟨[], rfl, by simp [newRows], by simpa [fps] using plainV_fp (by simpa [mt] using hm) h', by simp⟩
  | .bool _, x', v, fp', _, hm, _, h' => ⟨[], rfl, by simp [newRows], by simpa [fps] using plainV_fp (by simpa [mt] using hm) h', by simp⟩
  | .str _, x', v, fp', _, hm, _, h' => ⟨[], rfl, by simp [newRows], by simpa [fps] using plainV_fp (by simpa [mt] using hm) h', by simp⟩
  | .sl _ _ _, _, _, _, _, hm, _, _ => by simp [mt] at hm
  | .vptr _ _ _, _, _, _, _, hm, _, _ => by simp [mt] at hm
  | .ptr _ _ _ _, _, _, _, _, hm, _, _ => by simp [mt] at hm
  | .tup _, _, _, _, _, hm, _, _ => by simp [mt] at hm
  | .fn _ _, _, _, _, _, hm, _, _ => by simp [mt] at hm
  | .undef, _, _, _, _, hm, _, _ => by simp [mt] at hm
  | .obj _ _, .sl .view _ _, _, _, _, hm, _, _ => by simp [mt] at hm
  | .obj _ _, .sl (.dep _) _ _, _, _, _, hm, _, _ => by simp [mt] at hm
  | .obj _ _, .int _ _, _, _, _, hm, _, _ => by simp [mt] at hm
  | .obj _ _, .bool _, _, _, _, hm, _, _ => by simp [mt] at hm
  | .obj _ _, .str _, _, _, _, hm, _, _ => by simp [mt] at hm
  | .obj _ _, .vptr _ _ _, _, _, _, hm, _, _ => by simp [mt] at hm
  | .obj _ _, .obj _ _, _, _, _, hm, _, _ => by simp [mt] at hm
  | .obj _ _, .ptr _ _ _ _, _, _, _, hm, _, _ => by simp [mt] at hm
  | .obj _ _, .agg _, _, _, _, hm, _, _ => by simp [mt] at hm
  | .obj _ _, .tup _, _, _, _, hm, _, _ => by simp [mt] at hm
  | .obj _ _, .fn _ _, _, _, _, hm, _, _ => by simp [mt] at hm
  | .obj _ _, .undef, _, _, _, hm, _, _ => by simp [mt] at hm
  | .agg _, .sl _ _ _, _, _, _, hm, _, _ => by simp [mt] at hm
  | .agg _, .int _ _, _, _, _, hm, _, _ => by simp [mt] at hm
  | .agg _, .bool _, _, _, _, hm, _, _ => by simp [mt] at hm
  | .agg _, .str _, _, _, _, hm, _, _ => by simp [mt] at hm
  | .agg _, .vptr _ _ _, _, _, _, hm, _, _ => by simp [mt] at hm
  | .agg _, .obj _ _, _, _, _, hm, _, _ => by simp [mt] at hm
  | .agg _, .ptr _ _ _ _, _, _, _, hm, _, _ => by simp [mt] at hm
  | .agg _, .tup _, _, _, _, hm, _, _ => by simp [mt] at hm
  | .agg _, .fn _ _, _, _, _, hm, _, _ => by simp [mt] at hm
  | .agg _, .undef, _, _, _, hm, _, _ => by simp [mt] at hm
theorem Rc_parts {B : Base} {s : AS} {G : List CO} {w w' : World} : ∀ (c c' : List AV) (cs : List Value) (fp' : List Nat), resOkc s.o c = true → mtc s.o c c' = true → Rc w (env B s.o G w) c cs [] → Rc w' envNone c' cs fp' →
    ∃ L : List Part, L.map (·.i) = usesc c ∧ newRowsc c c' = L.map (fun p => (p.i, p.rows)) ∧ fp' = fps L ∧ ∀ p ∈ L, PartOk s.o G w' p
  | [], [], [], fp', _, _, _, h' => by simp only [Rc] at h'; exact ⟨[], rfl, by simp [newRowsc], by simp [h', fps], by simp⟩
  | [], [], _ :: _, _, _, _, h, _ => by simp [Rc] at h
  | [], _ :: _, _, _, _, hm, _, _ => by simp [mtc] at hm
  | _ :: _, [], _, _, _, hm, _, _ => by simp [mtc] at hm
  | _ :: _, _ :: _, [], _, _, _, h, _ => by simp [Rc] at h
  | x :: xs, y :: ys, c :: cs, fp', ho, hm, h, h' => by
    simp only [Rc] at h h'
    obtain ⟨g1, g2, h1, h2, e⟩ := h
    obtain ⟨rfl, rfl⟩ : g1 = [] ∧ g2 = [] := by simpa using e
    obtain ⟨f1, f2, h1', h2', rfl⟩ := h'
    simp only [resOkc, Bool.and_eq_true] at ho
    simp only [mtc, Bool.and_eq_true] at hm
    obtain ⟨L1, a1, a2, rfl, a4⟩ := R_parts x y c f1 ho.1 hm.1 h1 h1'
    obtain ⟨L2, b1, b2, rfl, b4⟩ := Rc_parts xs ys cs f2 ho.2 hm.2 h2 h2'
    refine ⟨L1 ++ L2, by simp [usesc, a1, b1], by simp [newRowsc, a2, b2], by simp [fps], ?_⟩
    intro p hp
    rcases List.mem_append.1 hp with hp | hp
    · exact a4 p hp
    · exact b4 p hp
end

/-- Readings of what was lent are forgotten. -/
def dropf (u : List Nat) : Tg → Option Tg
  | .own => none
  | .view => some .view
  | .dep i => if i ∈ u then none else some (.dep i)

/-- A value that does not read what another owns. -/
def AV.nd : AV → Bool
  | .int _ _ => true
  | .bool _ => true
  | .str _ => true
  | .sl .own _ _ => true
  | .obj _ _ => true
  | .ptr _ _ _ _ => true
  | _ => false

theorem R_nd {w : World} {E : Env} {D : Nat → Nat → Prop} {x : AV} {v : Value} {fp : List Nat} (hx : x.nd = true) (h : R w E x v fp) : R w { E with D := D } x v fp := by
  cases x with
  | int _ _ => simpa [R] using h
  | bool _ => simpa [R] using h
  | str _ => simpa [R] using h
  | sl g n l =>
    cases g with
    | own =>
      obtain ⟨a, cap, hv, hown⟩ := R_own.1 h
      exact R_own.2 ⟨a, cap, hv, hown⟩
    | _ => cases hx
  | obj _ _ => simp only [R] at h ⊢; exact h
  | ptr _ _ _ _ => simp only [R] at h ⊢; exact h
  | _ => cases hx
theorem Rc_nd {w : World} {E : Env} {D : Nat → Nat → Prop} : ∀ {c : List AV} {cs : List Value} {fp : List Nat}, c.all AV.nd = true → Rc w E c cs fp → Rc w { E with D := D } c cs fp
  | [], [], _, _, h => h
  | [], _ :: _, _, _, h => by simp [Rc] at h
  | _ :: _, [], _, _, h => by simp [Rc] at h
  | x :: xs, c :: cs, fp, hp, h => by
    simp only [Rc] at h ⊢
    simp only [List.all_cons, Bool.and_eq_true] at hp
    obtain ⟨f1, f2, h1, h2, h3⟩ := h
    exact ⟨f1, f2, R_nd hp.1 h1, Rc_nd hp.2 h2, h3⟩
theorem Rr_nd {w : World} {E : Env} {D : Nat → Nat → Prop} : ∀ {l : List (List AV)} {b off n : Nat} {fp : List Nat}, (l.all fun r => r.all AV.nd) = true → Rr w E l b off n fp → Rr w { E with D := D } l b off n fp
  | [], _, _, _, _, _, h => h
  | e :: es, b, off, n, fp, hp, h => by
    simp only [Rr] at h ⊢
    simp only [List.all_cons, Bool.and_eq_true] at hp
    obtain ⟨cs, f1, f2, h1, h2, h3, h4, h5, h6⟩ := h
    exact ⟨cs, f1, f2, h1, h2, h3, Rc_nd hp.1 h4, Rr_nd hp.2 h5, h6⟩

/-- Rows of such values. -/
def rowsNd (l : List (List AV)) : Bool := l.all fun r => r.all AV.nd
theorem rowsNd_nil : rowsNd [] = true := rfl
theorem rowsNd_cons (r : List AV) (l : List (List AV)) : rowsNd (r :: l) = (r.all AV.nd && rowsNd l) := rfl
theorem rowsNd_set {l : List (List AV)} {k : Nat} {r : List AV} (h : rowsNd l = true) (hr : r.all AV.nd = true) : rowsNd (l.set k r) = true := by
  unfold rowsNd at *
  rw [List.all_eq_true] at h ⊢
  intro x hx
  rcases List.mem_or_eq_of_mem_set hx with hx | rfl
  · exact h x hx
  · exact hr

/-- What a box keeps. -/
def AObj.forget (ob : AObj) (u : List Nat) : AObj :=
  if ob.box then (if rowsNd ob.els = true then ob else { ob with els := rtr (dropf u) true ob.els }) else ob
theorem forget_live (ob : AObj) (u : List Nat) : (ob.forget u).live = ob.live := by unfold AObj.forget; split <;> (try split) <;> rfl
theorem forget_ver (ob : AObj) (u : List Nat) : (ob.forget u).ver = ob.ver := by unfold AObj.forget; split <;> (try split) <;> rfl
theorem forget_n (ob : AObj) (u : List Nat) : (ob.forget u).n = ob.n := by unfold AObj.forget; split <;> (try split) <;> rfl
theorem forget_len (ob : AObj) (u : List Nat) : (ob.forget u).els.length = ob.els.length := by unfold AObj.forget; split <;> (try split) <;> simp [rtr_length]

def AObj.aged (ob : AObj) (N : List (Nat × List (List AV))) (u : List Nat) (i : Nat) : AObj :=
  match N.find? (fun p => p.1 == i) with
  | some p => { ob with els := p.2 }
  | none => ob.forget u

def ageO (N : List (Nat × List (List AV))) (u : List Nat) : Nat → List AObj → List AObj
  | _, [] => []
  | i, ob :: r => ob.aged N u i :: ageO N u (i + 1) r

theorem ageO_get (N : List (Nat × List (List AV))) (u : List Nat) : ∀ (o : List AObj) (k i : Nat), (ageO N u k o)[i]? = (o[i]?).map fun ob => ob.aged N u (k + i)
  | [], _, _ => by simp [ageO]
  | ob :: r, k, 0 => by simp [ageO]
  | ob :: r, k, i + 1 => by
    simp only [ageO, List.getElem?_cons_succ]
    rw [ageO_get N u r (k + 1) i, show k + 1 + i = k + (i + 1) by omega]

/-- The state behind a call that changes what was lent. -/
def AS.mutated (s : AS) (d : Option Tmp) (x x' r : AV) : AS :=
  AS.put ⟨rtc (dropf (uses x)) true s.t, ageO (newRows x x') (uses x) 0 s.o⟩ d r

def ageG (L : List Part) : Nat → List CO → List CO
  | _, [] => []
  | i, g :: r => (match L.find? (fun p => p.i == i) with
    | some p => { g with F := fun b => b ∈ p.fp }
    | none => g) :: ageG L (i + 1) r

theorem ageG_get (L : List Part) : ∀ (G : List CO) (k i : Nat), (ageG L k G)[i]? = (G[i]?).map fun g => match L.find? (fun p => p.i == k + i) with
    | some p => { g with F := fun b => b ∈ p.fp }
    | none => g
  | [], _, _ => by simp [ageG]
  | g :: r, k, 0 => by simp [ageG]
  | g :: r, k, i + 1 => by
    simp only [ageG, List.getElem?_cons_succ]
    rw [ageG_get L r (k + 1) i, show k + 1 + i = k + (i + 1) by omega]

theorem ageG_length (L : List Part) : ∀ (G : List CO) (k : Nat), (ageG L k G).length = G.length
  | [], _ => rfl
  | g :: r, k => by simp [ageG, ageG_length L r]
theorem ageO_length (N : List (Nat × List (List AV))) (u : List Nat) : ∀ (o : List AObj) (k : Nat), (ageO N u k o).length = o.length
  | [], _ => rfl
  | g :: r, k => by simp [ageO, ageO_length N u r]
end Go.Aw
