/-
  Proved here: steps of single operations, second part.
  No condition beyond what each statement spells out.
-/
import Derived.Test.YtbbefoefjmgnoaaAwSteps
set_option linter.all false
namespace Go.Aw

def sizeA (P : Program) (t : TypeId) : Option Nat := (P.info? t).map (·.size)

section
variable {P : Program} {B : Base} {s : AS} {dst : Option Tmp} {ty : TypeId} {pos : String} {after : Array Edge} {gd : Option (Nat × Bool)}

theorem step_store (t : TypeId) (x y : Operand) {i ver idx off : Nat} {ob : AObj} {e : List AV} (hx : s.ev x = .ptr i ver idx off) (ho : AV.isObj s.o i ver = some ob) (he : ob.els[idx]? = some e)
    (hfy : (s.ev y).fit s.o = true) (hsz : sizeA P t = some (s.ev y).cells.length) (hfit : off + (s.ev y).cells.length ≤ e.length) (hbox : ob.box = true ∨ (s.ev y).cells.all AV.solid = true) :
    Step P B ⟨dst, .store t x y, ty, pos, after, gd⟩ s ((s.stored i idx off ob e (s.ev y).cells).put dst .undef) :=
  step_skip' fun G a w r => by
    obtain ⟨g, b, f, hl, hlive, ha, hv⟩ := r.ptr hx ho
    have hc := R_cells hfy (r.ev y)
    obtain ⟨b', f', ha', hst, hrel⟩ := r.stored (P := P) hl hlive he hfit hbox hc.2.1 hc.1
    rw [ha] at ha'
    simp only [Option.some.injEq, Addr.mk.injEq, and_true] at ha'
    obtain ⟨rfl, rfl⟩ := ha'
    have hlen := Rc_length hc.1
    refine ⟨_, ?_, _, hrel.put dst (by simp [R])⟩
    unfold sizeA at hsz
    cases hi : P.info? t with
    | none => simp [hi] at hsz
    | some inf =>
      simp only [hi, Option.map_some, Option.some.injEq] at hsz
      have hlen' : (a.eval y).cells.size = inf.size := by rw [hsz]; simpa using hlen
      simp [execOp, hv, Instr.storeAt, Instr.sureAddr, storeVar, sizeOf, typeInfo, hi, hlen', hst]

theorem elemA_some {t e : TypeId} {n by' : Nat} (h : elemA P t = some (e, n, by')) : P.underlying t = some (.slice e) ∧ ∃ i, P.info? e = some i ∧ i.size = n ∧ i.bytes = by' := by
  unfold elemA at h
  split at h
  · rename_i e' hu
    cases hi : P.info? e' with
    | none => simp [hi] at h
    | some i =>
      simp [hi] at h
      obtain ⟨rfl, rfl, rfl⟩ := h
      exact ⟨hu, i, hi, rfl, rfl⟩
  · cases h

theorem run_indexAt {t e : TypeId} {n by' : Nat} (h : elemA P t = some (e, n, by')) (b f len cap : Nat) (k : IntKind) (i : Int) (h0 : 0 ≤ i) (h1 : i < len) (w : World) :
    (Instr.indexAt t (.slice (some ⟨b, f, none⟩) len cap) (.int k i)).run P w = .ok (.pointer (some ⟨b, f + i.toNat * n, none⟩)) w := by
  obtain ⟨hu, inf, hi, hs, _⟩ := elemA_some h
  simp [Instr.indexAt, asIntOf, run_underlying hu, h0, h1, sizeOf, typeInfo, hi, hs, addr_add]

theorem Rel'.objv {G : List CO} {a : Act} {w : World} (r : Rel' B s G a w) {x : Operand} {i ver : Nat} {ob : AObj} (hx : s.ev x = .obj i ver) (ho : AV.isObj s.o i ver = some ob) :
    ∃ g, Aw.look s.o G i ob g ∧ ob.live = true ∧ a.eval x = .slice g.a ob.els.length g.cap := by
  have h := r.ev x
  rw [hx] at h
  simp only [R] at h
  obtain ⟨_, ob', g, hl, _, hh, _⟩ := h
  obtain ⟨h1, h2, h3⟩ := isObj_some ho
  obtain rfl := Option.some.inj (hl.1.symm.trans h1)
  exact ⟨g, hl, h2, hh h2 h3⟩

theorem Rel'.intv {G : List CO} {a : Act} {w : World} (r : Rel' B s G a w) {x : Operand} {k : IntKind} {n : Int} (hx : s.ev x = .int k n) : a.eval x = .int k n := by
  have h := r.ev x
  rw [hx] at h
  simp only [R] at h
  exact h.1

theorem Rel'.boolv {G : List CO} {a : Act} {w : World} (r : Rel' B s G a w) {x : Operand} {n : Bool} (hx : s.ev x = .bool n) : a.eval x = .bool n := by
  have h := r.ev x
  rw [hx] at h
  simp only [R] at h
  exact h.1

theorem Rel'.strv {G : List CO} {a : Act} {w : World} (r : Rel' B s G a w) {x : Operand} {n : List UInt8} (hx : s.ev x = .str n) : a.eval x = .string ⟨n.toArray⟩ := by
  have h := r.ev x
  rw [hx] at h
  simp only [R] at h
  exact h.1

theorem step_index_obj (t : TypeId) (x ix : Operand) {i ver : Nat} {ob : AObj} {e : TypeId} {by' : Nat} {k : IntKind} {n : Int} (hx : s.ev x = .obj i ver) (ho : AV.isObj s.o i ver = some ob) (hi : s.ev ix = .int k n)
    (ht : elemA P t = some (e, ob.n, by')) (h0 : 0 ≤ n) (h1 : n < ob.els.length) : Step P B ⟨dst, .indexAddr t x ix, ty, pos, after, gd⟩ s (s.put dst (.ptr i ver n.toNat 0)) :=
  step_pure fun G a w r => by
    obtain ⟨g, hl, hlive, hv⟩ := r.objv hx ho
    have hlt : n.toNat < ob.els.length := by omega
    obtain ⟨b, f, cs, ha, _⟩ := r.elem hl hlive (List.getElem?_eq_getElem hlt)
    refine ⟨.pointer (some ⟨b, f + n.toNat * ob.n, none⟩), ?_, ?_⟩
    · simp only [execOp, hv, ha, r.intv hi]
      simp [run_indexAt ht b f _ g.cap k n h0 h1]
    · simp only [R]
      obtain ⟨h1, h2, h3⟩ := isObj_some ho
      exact ⟨trivial, ob, g, hl, Nat.le_of_eq h3.symm, fun _ _ => ⟨b, f, ha, by simp⟩⟩

theorem fit_dead {o : List AObj} {G : List CO} {w : World} {g : Tg} {n : Nat} {l : List (List AV)} (hf : (AV.sl g n l).fit o = true) : ¬ (env B o G w).dead g := by
  cases g with
  | own => exact fun h => h
  | view => exact fun h => h
  | dep i =>
    simp only [AV.fit] at hf
    refine fun hd => hd (fun ob hob => ?_)
    simpa [hob] using hf

theorem Rel'.slv {G : List CO} {a : Act} {w : World} (r : Rel' B s G a w) {x : Operand} {g : Tg} {n : Nat} {l : List (List AV)} (hx : s.ev x = .sl g n l) (hf : (AV.sl g n l).fit s.o = true) :
    ∃ ad cap, a.eval x = .slice ad l.length cap ∧ (l.length ≤ maxLen ∧ l.length ≤ cap) ∧ ((l = [] ∧ (g = .own → cap = 0)) ∨ ∃ b f, ad = some ⟨b, f, none⟩ ∧ g ≠ .own ∧ (env B s.o G w).tg g b ∧ Rr w ((env B s.o G w).sub g) l b f n []) := by
  have h := r.ev x
  rw [hx] at h
  simp only [R] at h
  rcases h with h | ⟨ad, cap, hv, hl, h⟩
  · exact absurd h.1 (fit_dead hf)
  · refine ⟨ad, cap, hv, hl, ?_⟩
    rcases h with h | ⟨_, _, _, _, _, _, _, _, _, _, _, _, _, hfp, _⟩ | ⟨hg, _, h⟩
    · exact .inl ⟨h.2.1, fun _ => h.2.2.1⟩
    · cases hfp
    · rcases h with h | ⟨b, f, ha, ht, hr⟩
      · exact .inl ⟨h, fun e => absurd e hg⟩
      · exact .inr ⟨b, f, ha, hg, ht, hr⟩

theorem step_index_sl (t : TypeId) (x ix : Operand) {g : Tg} {m : Nat} {l : List (List AV)} {e : TypeId} {by' : Nat} {k : IntKind} {n : Int} {c : List AV} (hx : s.ev x = .sl g m l) (hf : (AV.sl g m l).fit s.o = true) (hi : s.ev ix = .int k n)
    (ht : elemA P t = some (e, m, by')) (h0 : 0 ≤ n) (hc : l[n.toNat]? = some c) : Step P B ⟨dst, .indexAddr t x ix, ty, pos, after, gd⟩ s (s.put dst (.vptr g c 0)) :=
  step_pure fun G a w r => by
    obtain ⟨ad, cap, hv, hl, h⟩ := r.slv hx hf
    have hlt := (List.getElem?_eq_some_iff.1 hc).1
    rcases h with ⟨h, _⟩ | ⟨b, f, rfl, hg, htg, hr⟩
    · rw [h] at hlt; simp at hlt
    · refine ⟨.pointer (some ⟨b, f + n.toNat * m, none⟩), ?_, ?_⟩
      · simp only [execOp, hv, r.intv hi]
        simp [run_indexAt ht b f l.length cap k n h0 (by omega)]
      · simp only [R]
        obtain ⟨f1, f2, f3, cs, hfe, hn, hcs, hone, hrc, _, _⟩ := Rr_get hr hc
        have : f2 = [] := by
          have := congrArg List.length hfe
          simp at this
          exact List.eq_nil_of_length_eq_zero (by omega)
        subst this
        exact .inr ⟨trivial, b, f + n.toNat * m, cs, by simp, htg, hcs, hone, hrc⟩

def arrA (P : Program) (t : TypeId) : Option (Nat × Nat) :=
  match P.underlying t with
  | some (.array n e) => (P.info? e).map fun i => (n, i.size)
  | _ => none

theorem step_index_arr (t : TypeId) (x ix : Operand) {i ver idx off len sz : Nat} {ob : AObj} {k : IntKind} {n : Int} (hx : s.ev x = .ptr i ver idx off) (ho : AV.isObj s.o i ver = some ob) (hi : s.ev ix = .int k n)
    (ht : arrA P t = some (len, sz)) (h0 : 0 ≤ n) (h1 : n < len) : Step P B ⟨dst, .indexAddr t x ix, ty, pos, after, gd⟩ s (s.put dst (.ptr i ver idx (off + n.toNat * sz))) :=
  step_pure fun G a w r => by
    obtain ⟨g, b, f, hl, hlive, ha, hv⟩ := r.ptr hx ho
    refine ⟨.pointer (some ⟨b, f + (idx * ob.n + (off + n.toNat * sz)), none⟩), ?_, ?_⟩
    · unfold arrA at ht
      split at ht
      · rename_i n' e' hu
        cases hi' : P.info? e' with
        | none => simp [hi'] at ht
        | some inf =>
          simp [hi'] at ht
          obtain ⟨rfl, rfl⟩ := ht
          simp [execOp, hv, r.intv hi, Instr.indexAt, asIntOf, run_underlying hu, Instr.sureAddr, h0, h1, sizeOf, typeInfo, hi', addr_add, Nat.add_assoc]
      · cases ht
    · simp only [R]
      obtain ⟨h1, h2, h3⟩ := isObj_some ho
      exact ⟨trivial, ob, g, hl, Nat.le_of_eq h3.symm, fun _ _ => ⟨b, f, ha, rfl⟩⟩

def isSlice (P : Program) (t : TypeId) : Bool := match P.underlying t with | some (.slice _) => true | _ => false
def isString (P : Program) (t : TypeId) : Bool := match P.underlying t with | some .string => true | _ => false

theorem isSlice_some {t : TypeId} (h : isSlice P t = true) : ∃ e, P.underlying t = some (.slice e) := by
  unfold isSlice at h; split at h
  · rename_i e he; exact ⟨e, he⟩
  · cases h

theorem isString_some {t : TypeId} (h : isString P t = true) : P.underlying t = some .string := by
  unfold isString at h; split at h
  · assumption
  · cases h

theorem step_len_obj (t : TypeId) (x : Operand) {i ver : Nat} {ob : AObj} (hx : s.ev x = .obj i ver) (ho : AV.isObj s.o i ver = some ob) (ht : isSlice P t = true) :
    Step P B ⟨dst, .call { callee := .builtin .len, args := #[x], argTypes := #[t] }, ty, pos, after, gd⟩ s (s.put dst (.int .i64 ob.els.length)) :=
  step_pure fun G a w r => by
    obtain ⟨g, hl, hlive, hv⟩ := r.objv hx ho
    obtain ⟨e, he⟩ := isSlice_some ht
    exact ⟨.int .i64 ob.els.length, by simp [execOp, resolve, invoke, builtin, hv, Builtin.len_, run_underlying he, goInt], by simp [R]⟩

theorem step_len_sl (t : TypeId) (x : Operand) {g : Tg} {n : Nat} {l : List (List AV)} (hx : s.ev x = .sl g n l) (hf : (AV.sl g n l).fit s.o = true) (ht : isSlice P t = true) :
    Step P B ⟨dst, .call { callee := .builtin .len, args := #[x], argTypes := #[t] }, ty, pos, after, gd⟩ s (s.put dst (.int .i64 l.length)) :=
  step_pure fun G a w r => by
    obtain ⟨ad, cap, hv, _⟩ := r.slv hx hf
    obtain ⟨e, he⟩ := isSlice_some ht
    exact ⟨.int .i64 l.length, by simp [execOp, resolve, invoke, builtin, hv, Builtin.len_, run_underlying he, goInt], by simp [R]⟩

theorem size_mk (l : List UInt8) : (⟨l.toArray⟩ : ByteArray).size = l.length := by show l.toArray.size = _; simp

theorem step_len_str (t : TypeId) (x : Operand) {l : List UInt8} (hx : s.ev x = .str l) (ht : isString P t = true) :
    Step P B ⟨dst, .call { callee := .builtin .len, args := #[x], argTypes := #[t] }, ty, pos, after, gd⟩ s (s.put dst (.int .i64 l.length)) :=
  step_pure fun G a w r => by
    have hv := r.strv hx
    have he := isString_some ht
    exact ⟨.int .i64 l.length, by simp [execOp, resolve, invoke, builtin, hv, Builtin.len_, run_underlying he, goInt, size_mk], by simp [R]⟩

theorem step_index_str (t : TypeId) (x ix : Operand) {l : List UInt8} {k : IntKind} {n : Int} {u : UInt8} (hx : s.ev x = .str l) (hi : s.ev ix = .int k n) (ht : isString P t = true) (h0 : 0 ≤ n) (hu : l[n.toNat]? = some u) :
    Step P B ⟨dst, .index t x ix, ty, pos, after, gd⟩ s (s.put dst (.int .u8 u.toNat)) :=
  step_pure fun G a w r => by
    have hv := r.strv hx
    have he := isString_some ht
    have hlt := (List.getElem?_eq_some_iff.1 hu).1
    have hg : (⟨l.toArray⟩ : ByteArray)[n.toNat]? = some u := by
      rw [getElem?_pos (⟨l.toArray⟩ : ByteArray) n.toNat (by simpa [size_mk] using hlt)]
      obtain ⟨_, rfl⟩ := List.getElem?_eq_some_iff.1 hu
      rfl
    exact ⟨.int .u8 u.toNat, by simp [execOp, hv, r.intv hi, Instr.index, asIntOf, run_underlying he, h0, hg], by simp [R]⟩

theorem step_extract (x : Operand) (ix : Nat) {c : List AV} {y : AV} (hx : s.ev x = .tup c) (hy : c[ix]? = some y) : Step P B ⟨dst, .extract x ix, ty, pos, after, gd⟩ s (s.put dst y) :=
  step_pure fun G a w r => by
    have h := r.ev x
    rw [hx] at h
    simp only [R] at h
    obtain ⟨cs, hv, hr⟩ := h
    obtain ⟨v, hv', hR⟩ := Rc_get hr hy
    exact ⟨v, by simp [execOp, hv, Instr.extract, hv'], hR⟩

theorem step_makeFunc (f : FuncId) (cap : Array Operand) : Step P B ⟨dst, .makeFunc (.func f) #[] cap, ty, pos, after, gd⟩ s (s.put dst (.fn f (s.args cap))) :=
  step_pure fun G a w r => by
    refine ⟨.func (.func f) #[] (cap.map a.eval), by simp [execOp, Instr.makeFunc], ?_⟩
    simp only [R]
    refine ⟨trivial, cap.toList.map a.eval, ?_, Rc_map_ev r cap.toList⟩
    congr 1
    apply Array.ext'; simp

theorem step_not (t : TypeId) (x : Operand) {b : Bool} (hx : s.ev x = .bool b) : Step P B ⟨dst, .unOp .not t x, ty, pos, after, gd⟩ s (s.put dst (.bool !b)) :=
  step_pure fun G a w r => ⟨.bool !b, by simp [execOp, r.boolv hx, Op.unary], by simp [R]⟩

theorem step_neg (t : TypeId) (x : Operand) {k : IntKind} {n : Int} (hx : s.ev x = .int k n) : Step P B ⟨dst, .unOp .neg t x, ty, pos, after, gd⟩ s (s.put dst (.int k (k.wrap (0 - n)))) :=
  step_pure fun G a w r => ⟨.int k (k.wrap (0 - n)), by simp [execOp, r.intv hx, Op.unary, Op.intArith], by simp [R]⟩

theorem step_pick (c x y : Operand) {b : Bool} (hc : s.ev c = .bool b) : Step P B ⟨dst, .pick c x y, ty, pos, after, gd⟩ s (s.put dst (if b then s.ev x else s.ev y)) :=
  step_pure fun G a w r => ⟨if b then a.eval x else a.eval y, by simp [execOp, r.boolv hc, asBool], by cases b; exact r.ev y; exact r.ev x⟩

/-- Integer operations. -/
def intBin (op : BinOp) (k : IntKind) (a b : Int) : Option AV :=
  match op with
  | .add => some (.int k (k.wrap (a + b)))
  | .sub => some (.int k (k.wrap (a - b)))
  | .mul => some (.int k (k.wrap (a * b)))
  | .quo => if b = 0 then none else some (.int k (k.wrap (a.tdiv b)))
  | .rem => if b = 0 then none else some (.int k (a.tmod b))
  | .eql => some (.bool (a == b))
  | .neq => some (.bool (a != b))
  | .lss => some (.bool (decide (a < b)))
  | .leq => some (.bool (decide (a ≤ b)))
  | .gtr => some (.bool (decide (a > b)))
  | .geq => some (.bool (decide (a ≥ b)))
  | _ => none

theorem eqGuard_int (op : BinOp) (t : TypeId) (x y : Operand) (k : IntKind) (n : Int) (v : Value) : eqGuard op t x y (.int k n) v = pure () := eqGuard_at_int op t x y v k n

theorem step_int (op : BinOp) (t t2 : TypeId) (x y : Operand) {k : IntKind} {m n : Int} {z : AV} (hx : s.ev x = .int k m) (hy : s.ev y = .int k n) (hz : intBin op k m n = some z) :
    Step P B ⟨dst, .binOp op t x y t2, ty, pos, after, gd⟩ s (s.put dst z) :=
  step_pure fun G a w r => by
    have hv := r.intv hx
    have hv2 := r.intv hy
    cases op <;> simp only [intBin] at hz <;> first | cases hz; done | skip
    all_goals first
      | (obtain rfl := Option.some.inj hz; exact ⟨_, (by simp [execOp, hv, hv2, eqGuard_at_int, binOp, Op.intArith, Op.intCmp]; rfl), by simp [R]⟩)
      | (split at hz
         · cases hz
         · rename_i hb; obtain rfl := Option.some.inj hz; exact ⟨_, (by simp [execOp, hv, hv2, eqGuard_at_int, binOp, Op.intDiv, hb]; rfl), by simp [R]⟩)
      | cases hz
end
end Go.Aw
