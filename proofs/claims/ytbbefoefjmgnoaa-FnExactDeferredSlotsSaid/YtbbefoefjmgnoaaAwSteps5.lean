/-
  Proved here: steps of single operations, fifth part.
  No condition beyond what each statement spells out.
-/
import Derived.Test.YtbbefoefjmgnoaaAwSteps4
import Derived.Laws.Tables
set_option linter.all false
set_option linter.unusedVariables false
namespace Go.Aw

/-- The concrete cells of plain abstract ones. -/
def toV : AV → Value
  | .int k n => .int k n
  | .bool b => .bool b
  | .str s => .string ⟨s.toArray⟩
  | _ => .tuple #[]

def AV.scalar : AV → Bool
  | .int _ _ => true
  | .bool _ => true
  | .str _ => true
  | _ => false

theorem R_scalar {w : World} {E : Env} {x : AV} {v : Value} {fp : List Nat} (hs : x.scalar = true) (h : R w E x v fp) : v = toV x := by
  cases x <;> simp only [AV.scalar] at hs <;> first | cases hs; done | skip
  all_goals first | (simp only [R] at h; exact h.1) | cases hs

theorem Rc_scalar {w : World} {E : Env} : ∀ {c : List AV} {cs : List Value} {fp : List Nat}, c.all AV.scalar = true → Rc w E c cs fp → cs = c.map toV
  | [], [], _, _, _ => rfl
  | [], _ :: _, _, _, h => by simp [Rc] at h
  | _ :: _, [], _, _, h => by simp [Rc] at h
  | x :: xs, c :: cs, fp, hs, h => by
    simp only [Rc] at h
    simp only [List.all_cons, Bool.and_eq_true] at hs
    obtain ⟨f1, f2, h1, h2, _⟩ := h
    simp [R_scalar hs.1 h1, Rc_scalar hs.2 h2]

/-- What '==' says of two values of a struct type. -/
def EqA (P : Program) (t : TypeId) (c1 c2 : List AV) (b : Bool) : Prop :=
  ∀ (op : BinOp) (x y : Operand) (w : World), (op = .eql ∨ op = .neq) →
    (do eqGuard op t x y (.agg (c1.map toV).toArray) (.agg (c2.map toV).toArray); binOp op t (.agg (c1.map toV).toArray) (.agg (c2.map toV).toArray) : Sem Value).run P w =
      .ok (.bool (if op = .eql then b else !b)) w

def boolType (P : Program) (t : TypeId) : Bool := match P.underlying t with | some .bool => true | _ => false

def intType (P : Program) (t : TypeId) : Option IntKind := match P.underlying t with | some (.int k) => some k | _ => none

section
variable {P : Program} {B : Base} {s : AS} {dst : Option Tmp} {ty : TypeId} {pos : String} {after : Array Edge} {gd : Option (Nat × Bool)}

theorem Rel'.aggv {G : List CO} {a : Act} {w : World} (r : Rel' B s G a w) {x : Operand} {c : List AV} (hx : s.ev x = .agg c) (hs : c.all AV.scalar = true) : a.eval x = .agg (c.map toV).toArray := by
  have h := r.ev x
  rw [hx] at h
  simp only [R] at h
  obtain ⟨cs, hv, _, hr⟩ := h
  rw [hv, Rc_scalar hs hr]

theorem step_eq_agg (op : BinOp) (t t2 : TypeId) (x y : Operand) {c1 c2 : List AV} {b : Bool} (hop : op = .eql ∨ op = .neq) (hx : s.ev x = .agg c1) (hy : s.ev y = .agg c2) (h1 : c1.all AV.scalar = true) (h2 : c2.all AV.scalar = true) (he : EqA P t c1 c2 b) :
    Step P B ⟨dst, .binOp op t x y t2, ty, pos, after, gd⟩ s (s.put dst (.bool (if op = .eql then b else !b))) :=
  step_pure fun G a w r => by
    have e := he op x y w hop
    refine ⟨.bool (if op = .eql then b else !b), ?_, by simp [R]⟩
    simp only [execOp, r.aggv hx h1, r.aggv hy h2]
    rw [show (do let v ← (do eqGuard op t x y (.agg (c1.map toV).toArray) (.agg (c2.map toV).toArray); binOp op t (.agg (c1.map toV).toArray) (.agg (c2.map toV).toArray)); pure (Next.value v) : Sem Next).run P w =
      ((do eqGuard op t x y (.agg (c1.map toV).toArray) (.agg (c2.map toV).toArray); binOp op t (.agg (c1.map toV).toArray) (.agg (c2.map toV).toArray) : Sem Value).run P w).andThen fun v w' => .ok (Next.value v) w' from by simp only [Sem.run_bind, Sem.run_pure]]
    rw [e]
    rfl

theorem run_equalIn_bool (w : World) (d : Nat) {t : TypeId} (hu : P.underlying t = some .bool) (b1 b2 : Bool) : (Op.equalIn (d + 1) t (.bool b1) (.bool b2)).run P w = .ok (b1 == b2) w := by
  simp only [Op.equalIn, Sem.run_bind, run_underlying hu, Result.andThen_ok, Sem.run_pure]

theorem step_eq_bool (op : BinOp) (t t2 : TypeId) (x y : Operand) {b1 b2 : Bool} (hop : op = .eql ∨ op = .neq) (hx : s.ev x = .bool b1) (hy : s.ev y = .bool b2) (ht : boolType P t = true) :
    Step P B ⟨dst, .binOp op t x y t2, ty, pos, after, gd⟩ s (s.put dst (.bool (if op = .eql then b1 == b2 else b1 != b2))) :=
  step_pure fun G a w r => by
    have hu : P.underlying t = some .bool := by unfold boolType at ht; split at ht; assumption; cases ht
    have hE : (Op.equal t (.bool b1) (.bool b2)).run P w = .ok (b1 == b2) w := by
      exact run_equalIn_bool w 9999 hu b1 b2
    refine ⟨.bool (if op = .eql then b1 == b2 else b1 != b2), ?_, by simp [R]⟩
    simp only [execOp, r.boolv hx, r.boolv hy, eqGuard_at_bool, pure_bind]
    rcases hop with rfl | rfl
    · simp only [binOp, Sem.run_bind, hE, Result.andThen_ok, Sem.run_pure, if_true]
    · simp only [binOp, Sem.run_bind, hE, Result.andThen_ok, Sem.run_pure]
      rfl

theorem toList_mk (l : List UInt8) : (⟨l.toArray⟩ : ByteArray).toList = l := by rw [ByteArray.toList_eq]

theorem append_mk (l m : List UInt8) : (⟨l.toArray⟩ : ByteArray) ++ ⟨m.toArray⟩ = ⟨(l ++ m).toArray⟩ := by
  apply ByteArray.ext
  simp [ByteArray.data_append]

/-- String operations. -/
def strBin (op : BinOp) (a b : List UInt8) : Option AV :=
  match op with
  | .add => if a.length + b.length ≤ 9223372036854775807 then some (.str (a ++ b)) else none
  | .eql => some (.bool (a == b))
  | .neq => some (.bool (!(a == b)))
  | .lss => some (.bool (Op.bytesLess a b))
  | .leq => some (.bool (Op.bytesLess a b || a == b))
  | .gtr => some (.bool (!(Op.bytesLess a b || a == b)))
  | .geq => some (.bool (!Op.bytesLess a b))
  | _ => none

theorem step_str (op : BinOp) (t t2 : TypeId) (x y : Operand) {l m : List UInt8} {z : AV} (hx : s.ev x = .str l) (hy : s.ev y = .str m) (hz : strBin op l m = some z) :
    Step P B ⟨dst, .binOp op t x y t2, ty, pos, after, gd⟩ s (s.put dst z) :=
  step_pure fun G a w r => by
    have hv := r.strv hx
    have hv2 := r.strv hy
    have hexec : ∀ {v : Value}, (Op.stringOp op ⟨l.toArray⟩ ⟨m.toArray⟩).run P w = .ok v w → (execOp a.eval ⟨dst, .binOp op t x y t2, ty, pos, after, gd⟩).run P w = .ok (.value v) w := by
      intro v h
      have hb : binOp op t (.string ⟨l.toArray⟩) (.string ⟨m.toArray⟩) = Op.stringOp op ⟨l.toArray⟩ ⟨m.toArray⟩ := by cases op <;> rfl
      simp [execOp, hv, hv2, eqGuard_at_string, hb, h]
    cases op <;> simp only [strBin] at hz <;> first | cases hz; done | skip
    case add =>
      split at hz
      · rename_i hle
        obtain rfl := Option.some.inj hz
        refine ⟨.string ⟨(l ++ m).toArray⟩, hexec ?_, by simp [R]⟩
        have h0 : ¬ (9223372036854775807 < ((l.length : Int) + (m.length : Int))) := by omega
        simp only [Op.stringOp, size_mk, append_mk]
        simp [h0]
      · cases hz
    all_goals first
      | (obtain rfl := Option.some.inj hz; exact ⟨_, hexec (by simp only [Op.stringOp, toList_mk, Sem.run_pure]; rfl), by simp [R]⟩)
      | cases hz

theorem step_conv_int (src d : TypeId) (x : Operand) {k k' : IntKind} {n : Int} (hx : s.ev x = .int k n) (hd : intType P d = some k') (hs : (P.underlying src).isSome = true) :
    Step P B ⟨dst, .convert src d x, ty, pos, after, gd⟩ s (s.put dst (.int k' (k'.wrap n))) :=
  step_pure fun G a w r => by
    obtain ⟨ds, hds⟩ := Option.isSome_iff_exists.1 hs
    have hu : P.underlying d = some (.int k') := by
      unfold intType at hd
      split at hd
      · obtain rfl := Option.some.inj hd; assumption
      · cases hd
    exact ⟨.int k' (k'.wrap n), by simp [execOp, r.intv hx, convert, run_underlying hds, run_underlying hu, Conv.intToInt], by simp [R]⟩

theorem step_conv_str (src d : TypeId) (x : Operand) {l : List UInt8} (hx : s.ev x = .str l) (hd : isString P d = true) (hs : isString P src = true) :
    Step P B ⟨dst, .convert src d x, ty, pos, after, gd⟩ s (s.put dst (.str l)) :=
  step_pure fun G a w r => by
    exact ⟨.string ⟨l.toArray⟩, by simp [execOp, r.strv hx, convert, run_underlying (isString_some hs), run_underlying (isString_some hd)], by simp [R]⟩

/-- The bytes of rows of one byte. -/
def bytesOf : List (List AV) → Option (List UInt8)
  | [] => some []
  | [.int .u8 n] :: r => (bytesOf r).map (UInt8.ofNat n.toNat :: ·)
  | _ => none

theorem Rv_bytes {w : World} {E : Env} : ∀ {l : List (List AV)} {vs : List Value} {fp : List Nat} {bs : List UInt8}, bytesOf l = some bs → Rv w E l vs 1 fp → ∃ ns : List Int, vs = ns.map (.int .u8) ∧ bs = ns.map fun n => UInt8.ofNat n.toNat
  | [], vs, _, bs, hb, h => by
    simp only [bytesOf, Option.some.injEq] at hb
    simp only [Rv] at h
    exact ⟨[], by simp [h.1], by simp [← hb]⟩
  | e :: es, vs, fp, bs, hb, h => by
    match e, hb with
    | [.int .u8 n], hb =>
      simp only [bytesOf] at hb
      cases hr : bytesOf es with
      | none => simp [hr] at hb
      | some b2 =>
        simp only [hr, Option.map_some, Option.some.injEq] at hb
        simp only [Rv] at h
        obtain ⟨cs, rest, f1, f2, rfl, hn, _, hrc, hrest, _⟩ := h
        obtain ⟨ns, rfl, rfl⟩ := Rv_bytes hr hrest
        have := Rc_scalar (c := [.int .u8 n]) (by simp [AV.scalar]) hrc
        exact ⟨n :: ns, by simp [this, toV], by simp [← hb]⟩

theorem forIn_bytes (P : Program) (w : World) {body : Value → ByteArray → Sem (ForInStep ByteArray)} (hb : ∀ n r, body (.int .u8 n) r = pure (ForInStep.yield (r.push (UInt8.ofNat n.toNat)))) : ∀ (ns : List Int) (s0 : ByteArray),
    (forIn (m := Sem) (ns.map (Value.int .u8)) s0 body).run P w = .ok ⟨s0.data ++ (ns.map fun n => UInt8.ofNat n.toNat).toArray⟩ w
  | [], s0 => by simp
  | n :: ns, s0 => by
    simp only [List.map_cons, List.forIn_cons, hb, pure_bind]
    rw [forIn_bytes P w hb ns]
    congr 2
    apply Array.ext'
    simp [ByteArray.push]

theorem run_toStr {G : List CO} {a : Act} {w : World} (r : Rel' B s G a w) {x : Operand} {ad : Option Addr} {b f cap : Nat} {l : List (List AV)} {E : Env} {bs : List UInt8} {fp : List Nat} (hv : a.eval x = .slice ad l.length cap)
    (hb : bytesOf l = some bs) (h : l = [] ∨ (ad = some ⟨b, f, none⟩ ∧ Rr w E l b f 1 fp)) : (Conv.bytesToString (a.eval x)).run P w = .ok (.string ⟨bs.toArray⟩) w := by
  rw [hv]
  obtain ⟨vs, hvs, ns, hns, hbs, hlen⟩ : ∃ vs : List Value, (∀ a', ad = some a' → (loadCells a' l.length).run P w = .ok vs.toArray w) ∧ ∃ ns : List Int, vs = ns.map (.int .u8) ∧ bs = (ns.map fun n => UInt8.ofNat n.toNat) ∧ vs.length = l.length := by
    rcases h with rfl | ⟨rfl, hr⟩
    · simp only [bytesOf, Option.some.injEq] at hb
      refine ⟨[], fun a' _ => by simp [loadCells, loadCellsFrom], [], rfl, by simp [← hb], rfl⟩
    · obtain ⟨vs, hv', hc'⟩ := Rr_iff.1 hr
      have hl := Rv_length hv'
      obtain ⟨ns, h1, h2⟩ := Rv_bytes hb hv'
      refine ⟨vs, fun a' ha' => ?_, ns, h1, h2, by simpa using hl⟩
      obtain rfl := Option.some.inj ha'
      have := hc'.run (P := P)
      rwa [hl, Nat.mul_one] at this
  cases ad with
  | none =>
    have hl0 : l = [] := by
      rcases h with h | h
      · exact h
      · cases h.1
    subst hl0
    have : vs = [] := List.eq_nil_of_length_eq_zero (by simpa using hlen)
    subst this
    have : ns = [] := by simpa using hns.symm
    subst this
    subst hbs
    simp [Conv.bytesToString]
    rfl
  | some a' =>
    subst hns
    subst hbs
    simp only [Conv.bytesToString, Sem.run_bind, hvs a' rfl, Result.andThen_ok]
    simp only [List.forIn_toArray]
    rw [forIn_bytes P w (fun _ _ => rfl) ns ByteArray.empty]
    simp

theorem step_conv_bytes_view (src d : TypeId) (x : Operand) {g : Tg} {l : List (List AV)} {e : TypeId} {by' : Nat} {bs : List UInt8} (hx : s.ev x = .sl g 1 l) (hf : (AV.sl g 1 l).fit s.o = true) (hd : isString P d = true) (hs : elemA P src = some (e, 1, by')) (he : intType P e = some .u8)
    (hb : bytesOf l = some bs) : Step P B ⟨dst, .convert src d x, ty, pos, after, gd⟩ s (s.put dst (.str bs)) :=
  step_pure fun G a w r => by
    obtain ⟨hu, _⟩ := elemA_some hs
    have hue : P.underlying e = some (.int .u8) := by
      unfold intType at he
      split at he
      · obtain rfl := Option.some.inj he; assumption
      · cases he
    obtain ⟨ad, cap, hv, _, h⟩ := r.slv hx hf
    have hrun : (Conv.bytesToString (a.eval x)).run P w = .ok (.string ⟨bs.toArray⟩) w := by
      rcases h with ⟨rfl, _⟩ | ⟨b, f, rfl, _, _, hr⟩
      · exact run_toStr (b := 0) (f := 0) (E := envNone) (fp := []) r hv hb (.inl rfl)
      · exact run_toStr r hv hb (.inr ⟨rfl, hr⟩)
    refine ⟨.string ⟨bs.toArray⟩, ?_, by simp [R]⟩
    rw [hv] at hrun
    simp [execOp, hv, convert, run_underlying hu, run_underlying (isString_some hd), run_underlying hue, hrun]

theorem step_conv_bytes_obj (src d : TypeId) (x : Operand) {i ver : Nat} {ob : AObj} {e : TypeId} {by' : Nat} {bs : List UInt8} (hx : s.ev x = .obj i ver) (ho : AV.isObj s.o i ver = some ob) (hd : isString P d = true) (hs : elemA P src = some (e, 1, by')) (hn : ob.n = 1) (he : intType P e = some .u8)
    (hb : bytesOf ob.els = some bs) : Step P B ⟨dst, .convert src d x, ty, pos, after, gd⟩ s (s.put dst (.str bs)) :=
  step_pure fun G a w r => by
    obtain ⟨hu, _⟩ := elemA_some hs
    have hue : P.underlying e = some (.int .u8) := by
      unfold intType at he
      split at he
      · obtain rfl := Option.some.inj he; assumption
      · cases he
    obtain ⟨g, hl, hlive, hv⟩ := r.objv hx ho
    obtain ⟨fp, ⟨_, hown⟩, _, _⟩ := r.ok i ob g hl hlive
    have hrun : (Conv.bytesToString (a.eval x)).run P w = .ok (.string ⟨bs.toArray⟩) w := by
      rcases hown with ⟨h, _⟩ | ⟨b, f, C, ety, fz, fps, ha, _, _, _, _, _, _, hr⟩
      · exact run_toStr (b := 0) (f := 0) (E := envNone) (fp := []) r hv hb (.inl h)
      · rw [hn] at hr; exact run_toStr r hv hb (.inr ⟨ha, hr⟩)
    refine ⟨.string ⟨bs.toArray⟩, ?_, by simp [R]⟩
    rw [hv] at hrun
    simp [execOp, hv, convert, run_underlying hu, run_underlying (isString_some hd), run_underlying hue, hrun]
end
end Go.Aw
