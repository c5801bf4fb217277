/-
  Proved here: that the abstract step of every operation is sound.
  No condition beyond what each statement spells out.
-/
import Derived.Test.YtbbefoefjmgnoaaAwSteps7
import Derived.Test.YtbbefoefjmgnoaaAwClose
set_option linter.all false
namespace Go.Aw

/-- The element at which a pointer points. -/
def AS.at (s : AS) (i ver idx : Nat) : Option (AObj × List AV) :=
  match AV.isObj s.o i ver with
  | some ob => match ob.els[idx]? with
    | some e => some (ob, e)
    | none => none
  | none => none

/-- A load of cells. -/
def loadA (P : Program) (t : TypeId) (c : List AV) (off : Nat) (K : AV → Prop) : Prop :=
  match aggSize P t with
  | some n => off + n ≤ c.length ∧ K (.agg ((c.drop off).take n))
  | none => oneSize P t = true ∧ match c[off]? with
    | some y => K y
    | none => False

/-- What one operation does to the state, as a transformer of what is to hold behind it. -/
def aop (P : Program) (o : Oper) (s : AS) (K : AS → Prop) : Prop :=
  match o.op with
  | .move x => K (s.put o.dst (s.ev x))
  | .assign x => K (s.put o.dst (s.ev x))
  | .pick c x y => match s.ev c with
    | .bool b => K (s.put o.dst (if b then s.ev x else s.ev y))
    | _ => False
  | .alloc t => match zeroA P t with
    | some z => K (s.box o.dst z)
    | none => False
  | .box _ x => (s.ev x).fit s.o = true ∧ K (s.box o.dst (s.ev x).cells)
  | .build t parts => match placesA P t with
    | some pl => match zeroA P t with
      | some z0 => (∀ p ∈ parts.toList, (s.ev p.2).fit s.o = true) ∧ match fillA pl z0 (parts.toList.map fun p => (p.1, s.ev p.2)) with
        | some z => K (s.put o.dst (.agg z))
        | none => False
      | none => False
    | none => False
  | .buildSlice t len parts => match elemA P t with
    | some (e, n, _) => zeroSz P e n = true ∧ inOrder parts.toList = true ∧ len = parts.toList.length ∧ len * n ≤ 16777216 ∧ len ≤ 16777216 ∧
        resOkc s.o ((parts.toList.map (·.2)).map s.ev) = true ∧ (usesc ((parts.toList.map (·.2)).map s.ev)).Nodup ∧
        (∀ x ∈ resc s.o ((parts.toList.map (·.2)).map s.ev), x.good = true ∧ x.cells.length = n) ∧ K (s.built o.dst n (parts.toList.map (·.2)))
    | none => False
  | .load t x => match s.ev x with
    | .ptr i ver idx off => match s.at i ver idx with
      | some (_, e) => loadA P t (rtc (dpf i) true e) off fun y => K (s.put o.dst y)
      | none => False
    | .vptr g c off => (AV.vptr g c off).fit s.o = true ∧ loadA P t c off fun y => K (s.put o.dst y)
    | _ => False
  | .store t x y => match s.ev x with
    | .ptr i ver idx off => match s.at i ver idx with
      | some (ob, e) => (s.ev y).fit s.o = true ∧ sizeA P t = some (s.ev y).cells.length ∧ off + (s.ev y).cells.length ≤ e.length ∧
          if (ob.box || (s.ev y).cells.all AV.solid) = true then K ((s.stored i idx off ob e (s.ev y).cells).put o.dst .undef)
          else resOkc s.o (s.ev y).cells = true ∧ (usesc (s.ev y).cells).Nodup ∧ i ∉ usesc (s.ev y).cells ∧ K ((s.shut i idx off ob e (s.ev y).cells).put o.dst .undef)
      | none => False
    | _ => False
  | .fieldAddr t x f => match fieldA P t f with
    | some fo => match s.ev x with
      | .ptr i ver idx off => (AV.isObj s.o i ver).isSome = true ∧ K (s.put o.dst (.ptr i ver idx (off + fo)))
      | .vptr g c off => (AV.vptr g c off).fit s.o = true ∧ K (s.put o.dst (.vptr g c (off + fo)))
      | _ => False
    | none => False
  | .indexAddr t x ix => match s.ev ix with
    | .int _ n => 0 ≤ n ∧ match s.ev x with
      | .obj i ver => match AV.isObj s.o i ver with
        | some ob => match elemA P t with
          | some (_, m, _) => m = ob.n ∧ n < ob.els.length ∧ K (s.put o.dst (.ptr i ver n.toNat 0))
          | none => False
        | none => False
      | .sl g m l => (AV.sl g m l).fit s.o = true ∧ match elemA P t with
        | some (_, m', _) => m' = m ∧ match l[n.toNat]? with
          | some c => K (s.put o.dst (.vptr g c 0))
          | none => False
        | none => False
      | .ptr i ver idx off => (AV.isObj s.o i ver).isSome = true ∧ match arrA P t with
        | some (len, sz) => n < len ∧ K (s.put o.dst (.ptr i ver idx (off + n.toNat * sz)))
        | none => False
      | _ => False
    | _ => False
  | .index t x ix => match s.ev x with
    | .str l => match s.ev ix with
      | .int _ n => isString P t = true ∧ 0 ≤ n ∧ match l[n.toNat]? with
        | some u => K (s.put o.dst (.int .u8 u.toNat))
        | none => False
      | _ => False
    | _ => False
  | .extract x ix => match s.ev x with
    | .tup c => match c[ix]? with
      | some y => K (s.put o.dst y)
      | none => False
    | _ => False
  | .makeFunc (.func f) ⟨[]⟩ cap => K (s.put o.dst (.fn f (s.args cap)))
  | .makeSlice t x y => match elemA P t with
    | some (e, n, by') => match zeroA P e with
      | some z => match s.ev x with
        | .int _ l => match s.ev y with
          | .int _ c => zeroSz P e n = true ∧ 0 ≤ l ∧ l ≤ c ∧ (by' : Int) * c ≤ 281474976710656 ∧ c ≤ 9223372036854775807 ∧ 0 < n ∧ K (s.made o.dst n (List.replicate l.toNat z))
          | _ => False
        | _ => False
      | none => False
    | none => False
  | .slice t x lo hi none => match s.ev x with
    | .str l => match s.bound 0 lo with
      | some a => match s.bound l.length hi with
        | some b => isString P t = true ∧ a ≤ b ∧ b ≤ l.length ∧ K (s.put o.dst (.str ((l.take b).drop a)))
        | none => False
      | none => False
    | .sl g n l => match s.bound 0 lo with
      | some a => match s.bound l.length hi with
        | some b => match elemA P t with
          | some (_, m, _) => m = n ∧ (AV.sl g n l).fit s.o = true ∧ a ≤ b ∧ b ≤ l.length ∧ K (s.put o.dst (.sl g n ((l.take b).drop a)))
          | none => False
        | none => False
      | none => False
    | .obj i ver => match AV.isObj s.o i ver with
      | some ob => match s.bound 0 lo with
        | some a => match s.bound ob.els.length hi with
          | some b => match elemA P t with
            | some (_, m, _) => m = ob.n ∧ ob.box = false ∧ a ≤ b ∧ b ≤ ob.els.length ∧ K (s.resliced o.dst i ob ((ob.els.take b).drop a))
            | none => False
          | none => False
        | none => False
      | none => False
    | _ => False
  | .unOp .not _ x => match s.ev x with
    | .bool b => K (s.put o.dst (.bool !b))
    | _ => False
  | .unOp .neg _ x => match s.ev x with
    | .int k n => K (s.put o.dst (.int k (k.wrap (0 - n))))
    | _ => False
  | .binOp op t x y _ => match s.ev x with
    | .int k m => match s.ev y with
      | .int k' n => k' = k ∧ match intBin op k m n with
        | some z => K (s.put o.dst z)
        | none => False
      | _ => False
    | .str l => match s.ev y with
      | .str m => match strBin op l m with
        | some z => K (s.put o.dst z)
        | none => False
      | _ => False
    | .bool a => match s.ev y with
      | .bool b => (op = .eql ∨ op = .neq) ∧ boolType P t = true ∧ K (s.put o.dst (.bool (if op = .eql then a == b else a != b)))
      | _ => False
    | .agg c1 => match s.ev y with
      | .agg c2 => (op = .eql ∨ op = .neq) ∧ c1.all AV.scalar = true ∧ c2.all AV.scalar = true ∧ ∃ b, EqA P t c1 c2 b ∧ K (s.put o.dst (.bool (if op = .eql then b else !b)))
      | _ => False
    | _ => False
  | .convert src d x => match s.ev x with
    | .int _ n => match intType P d with
      | some k' => (P.underlying src).isSome = true ∧ K (s.put o.dst (.int k' (k'.wrap n)))
      | none => False
    | .str l => isString P src = true ∧ isString P d = true ∧ K (s.put o.dst (.str l))
    | .sl g n l => match elemA P src with
      | some (e, m, _) => m = 1 ∧ n = 1 ∧ (AV.sl g n l).fit s.o = true ∧ isString P d = true ∧ intType P e = some .u8 ∧ ∃ bs, bytesOf l = some bs ∧ K (s.put o.dst (.str bs))
      | none => False
    | .obj i ver => match AV.isObj s.o i ver with
      | some ob => match elemA P src with
        | some (e, m, _) => m = 1 ∧ ob.n = 1 ∧ isString P d = true ∧ intType P e = some .u8 ∧ ∃ bs, bytesOf ob.els = some bs ∧ K (s.put o.dst (.str bs))
        | none => False
      | none => False
    | _ => False
  | .call ⟨.builtin .len, ⟨[x]⟩, ⟨[t]⟩⟩ => match s.ev x with
    | .str l => isString P t = true ∧ K (s.put o.dst (.int .i64 l.length))
    | .sl g n l => (AV.sl g n l).fit s.o = true ∧ isSlice P t = true ∧ K (s.put o.dst (.int .i64 l.length))
    | .obj i ver => match AV.isObj s.o i ver with
      | some ob => isSlice P t = true ∧ K (s.put o.dst (.int .i64 ob.els.length))
      | none => False
    | _ => False
  | .call ⟨.builtin .append, ⟨[x, y]⟩, ⟨[tS, xT]⟩⟩ => match elemA P tS with
    | some (e, n, by') => zeroSz P e n = true ∧ appendable P xT = true ∧ match s.target n (s.ev x) with
      | some (i, ob, s1) => match s1.source i n (s.ev y) with
        | some (l2, o2) => (ob.els.length + l2.length) * by' ≤ 140737488355328 ∧ ob.els.length + l2.length ≤ 9223372036854775807 ∧ K (s.appended o2 o.dst i ob l2)
        | none => False
      | none => False
    | none => False
  | .call ⟨.value f, args, _⟩ => match s.ev f with
    | .fn g cap => callable P g = true ∧ ∃ r, Ok P g (argc s.o (s.args args ++ cap)) r ∧ K (s.called o.dst r)
    | _ => False
  | _ => False

theorem at_some {s : AS} {i ver idx : Nat} {ob : AObj} {e : List AV} (h : s.at i ver idx = some (ob, e)) : AV.isObj s.o i ver = some ob ∧ ob.els[idx]? = some e := by
  unfold AS.at at h
  split at h
  · rename_i ob' h1
    split at h
    · rename_i e' h2
      simp only [Option.some.injEq, Prod.mk.injEq] at h
      obtain ⟨rfl, rfl⟩ := h
      exact ⟨h1, h2⟩
    · cases h
  · cases h

theorem isSome_obj {s : AS} {i ver : Nat} (h : (AV.isObj s.o i ver).isSome = true) : ∃ ob, AV.isObj s.o i ver = some ob := Option.isSome_iff_exists.1 h

theorem loadA_ptr {P : Program} {B : Base} {s : AS} {dst : Option Tmp} {ty : TypeId} {pos : String} {after : Array Edge} {gd : Option (Nat × Bool)} {t : TypeId} {x : Operand} {i ver idx off : Nat} {ob : AObj} {e : List AV} {K : AS → Prop}
    (hx : s.ev x = .ptr i ver idx off) (ha : s.at i ver idx = some (ob, e)) (h : loadA P t (rtc (dpf i) true e) off fun y => K (s.put dst y)) : ∃ s', K s' ∧ Step P B ⟨dst, .load t x, ty, pos, after, gd⟩ s s' := by
  obtain ⟨h1, h2⟩ := at_some ha
  unfold loadA at h
  split at h
  · rename_i n hn
    exact ⟨_, h.2, step_load_ptr_agg t x hx h1 h2 hn (by have := h.1; rwa [rtc_length] at this)⟩
  · split at h
    · rename_i y hy
      exact ⟨_, h.2, step_load_ptr_one t x hx h1 h2 h.1 hy⟩
    · exact h.2.elim

theorem loadA_vptr {P : Program} {B : Base} {s : AS} {dst : Option Tmp} {ty : TypeId} {pos : String} {after : Array Edge} {gd : Option (Nat × Bool)} {t : TypeId} {x : Operand} {g : Tg} {c : List AV} {off : Nat} {K : AS → Prop}
    (hx : s.ev x = .vptr g c off) (hf : (AV.vptr g c off).fit s.o = true) (h : loadA P t c off fun y => K (s.put dst y)) : ∃ s', K s' ∧ Step P B ⟨dst, .load t x, ty, pos, after, gd⟩ s s' := by
  unfold loadA at h
  split at h
  · rename_i n hn
    exact ⟨_, h.2, step_load_vptr_agg t x hx hf hn h.1⟩
  · split at h
    · rename_i y hy
      exact ⟨_, h.2, step_load_vptr_one t x hx hf h.1 hy⟩
    · exact h.2.elim

theorem aop_sound {P : Program} {B : Base} {o : Oper} {s : AS} {K : AS → Prop} (h : aop P o s K) : ∃ s', K s' ∧ Step P B o s s' := by
  obtain ⟨dst, op, ty, pos, after, gd⟩ := o
  unfold aop at h
  dsimp only at h
  split at h
  case h_1 => exact ⟨_, h, step_move _⟩
  case h_2 => exact ⟨_, h, step_assign _⟩
  case h_3 =>
    split at h
    · rename_i hc; exact ⟨_, h, step_pick _ _ _ hc⟩
    · exact h.elim
  case h_4 =>
    split at h
    · rename_i hz; exact ⟨_, h, step_alloc _ hz⟩
    · exact h.elim
  case h_5 => exact ⟨_, h.2, step_box _ _ h.1⟩
  case h_6 =>
    split at h
    · rename_i hp
      split at h
      · rename_i hz
        obtain ⟨h1, h⟩ := h
        split at h
        · rename_i hf; exact ⟨_, h, step_build _ _ hp hz h1 hf⟩
        · exact h.elim
      · exact h.elim
    · exact h.elim
  case h_7 =>
    split at h
    · rename_i he
      obtain ⟨h1, h2, h3, h4, h5, h6, h7, h8, h9⟩ := h
      exact ⟨_, h9, step_buildSlice _ _ _ he h1 h2 h3 h4 h5 h6 h7 h8⟩
    · exact h.elim
  case h_8 =>
    split at h
    · rename_i hx
      split at h
      · rename_i ha; exact loadA_ptr hx ha h
      · exact h.elim
    · rename_i hx; exact loadA_vptr hx h.1 h.2
    · exact h.elim
  case h_9 =>
    split at h
    · rename_i hx
      split at h
      · rename_i ha
        obtain ⟨a1, a2⟩ := at_some ha
        obtain ⟨h1, h2, h3, h⟩ := h
        split at h
        · rename_i hb
          exact ⟨_, h, step_store _ _ _ hx a1 a2 h1 h2 h3 (by simpa using hb)⟩
        · rename_i hb
          obtain ⟨h4, h5, h6, h7⟩ := h
          exact ⟨_, h7, step_store_close _ _ _ hx a1 a2 h1 h2 h3 (by simp at hb; exact hb.1) h4 h5 h6⟩
      · exact h.elim
    · exact h.elim
  case h_10 =>
    split at h
    · rename_i hf
      split at h
      · rename_i hx
        obtain ⟨ob, ho⟩ := isSome_obj h.1
        exact ⟨_, h.2, step_field_ptr _ _ _ hx ho hf⟩
      · rename_i hx; exact ⟨_, h.2, step_field_vptr _ _ _ hx h.1 hf⟩
      · exact h.elim
    · exact h.elim
  case h_11 =>
    split at h
    · rename_i hi
      obtain ⟨h0, h⟩ := h
      split at h
      · rename_i hx
        split at h
        · rename_i ho
          split at h
          · rename_i he
            obtain ⟨rfl, h1, h2⟩ := h
            exact ⟨_, h2, step_index_obj _ _ _ hx ho hi he h0 h1⟩
          · exact h.elim
        · exact h.elim
      · rename_i hx
        obtain ⟨hf, h⟩ := h
        split at h
        · rename_i he
          obtain ⟨rfl, h⟩ := h
          split at h
          · rename_i hc; exact ⟨_, h, step_index_sl _ _ _ hx hf hi he h0 hc⟩
          · exact h.elim
        · exact h.elim
      · rename_i hx
        obtain ⟨hs, h⟩ := h
        obtain ⟨ob, ho⟩ := isSome_obj hs
        split at h
        · rename_i ha; exact ⟨_, h.2, step_index_arr _ _ _ hx ho hi ha h0 h.1⟩
        · exact h.elim
      · exact h.elim
    · exact h.elim
  case h_12 =>
    split at h
    · rename_i hx
      split at h
      · rename_i hi
        obtain ⟨ht, h0, h⟩ := h
        split at h
        · rename_i hu; exact ⟨_, h, step_index_str _ _ _ hx hi ht h0 hu⟩
        · exact h.elim
      · exact h.elim
    · exact h.elim
  case h_13 =>
    split at h
    · rename_i hx
      split at h
      · rename_i hy; exact ⟨_, h, step_extract _ _ hx hy⟩
      · exact h.elim
    · exact h.elim
  case h_14 => exact ⟨_, h, step_makeFunc _ _⟩
  case h_15 =>
    split at h
    · rename_i he
      split at h
      · rename_i hz
        split at h
        · rename_i hx
          split at h
          · rename_i hy
            obtain ⟨h1, h2, h3, h4, h5, h6, h7⟩ := h
            exact ⟨_, h7, step_makeSlice _ _ _ he hz h1 hx hy h2 h3 h4 h5 h6⟩
          · exact h.elim
        · exact h.elim
      · exact h.elim
    · exact h.elim
  case h_16 =>
    split at h
    · rename_i hx
      split at h
      · rename_i hl
        split at h
        · rename_i hh
          obtain ⟨h1, h2, h3, h4⟩ := h
          exact ⟨_, h4, step_slice_str _ _ _ _ hx h1 hl hh h2 h3⟩
        · exact h.elim
      · exact h.elim
    · rename_i hx
      split at h
      · rename_i hl
        split at h
        · rename_i hh
          split at h
          · rename_i he
            obtain ⟨rfl, h1, h2, h3, h4⟩ := h
            exact ⟨_, h4, step_slice_sl _ _ _ _ hx h1 he hl hh h2 h3⟩
          · exact h.elim
        · exact h.elim
      · exact h.elim
    · rename_i hx
      split at h
      · rename_i ho
        split at h
        · rename_i hl
          split at h
          · rename_i hh
            split at h
            · rename_i he
              obtain ⟨rfl, h1, h2, h3, h4⟩ := h
              exact ⟨_, h4, step_slice_obj _ _ _ _ hx ho h1 he hl hh h2 h3⟩
            · exact h.elim
          · exact h.elim
        · exact h.elim
      · exact h.elim
    · exact h.elim
  case h_17 =>
    split at h
    · rename_i hx; exact ⟨_, h, step_not _ _ hx⟩
    · exact h.elim
  case h_18 =>
    split at h
    · rename_i hx; exact ⟨_, h, step_neg _ _ hx⟩
    · exact h.elim
  case h_19 =>
    split at h
    · rename_i hx
      split at h
      · rename_i hy
        obtain ⟨rfl, h⟩ := h
        split at h
        · rename_i hz; exact ⟨_, h, step_int _ _ _ _ _ hx hy hz⟩
        · exact h.elim
      · exact h.elim
    · rename_i hx
      split at h
      · rename_i hy
        split at h
        · rename_i hz; exact ⟨_, h, step_str _ _ _ _ _ hx hy hz⟩
        · exact h.elim
      · exact h.elim
    · rename_i hx
      split at h
      · rename_i hy; exact ⟨_, h.2.2, step_eq_bool _ _ _ _ _ h.1 hx hy h.2.1⟩
      · exact h.elim
    · rename_i hx
      split at h
      · rename_i hy
        obtain ⟨h1, h2, h3, b, h4, h5⟩ := h
        exact ⟨_, h5, step_eq_agg _ _ _ _ _ h1 hx hy h2 h3 h4⟩
      · exact h.elim
    · exact h.elim
  case h_20 =>
    split at h
    · rename_i hx
      split at h
      · rename_i hk; exact ⟨_, h.2, step_conv_int _ _ _ hx hk h.1⟩
      · exact h.elim
    · rename_i hx; exact ⟨_, h.2.2, step_conv_str _ _ _ hx h.2.1 h.1⟩
    · rename_i hx
      split at h
      · rename_i he
        obtain ⟨rfl, rfl, h1, h2, h3, bs, h4, h5⟩ := h
        exact ⟨_, h5, step_conv_bytes_view _ _ _ hx h1 h2 he h3 h4⟩
      · exact h.elim
    · rename_i hx
      split at h
      · rename_i ho
        split at h
        · rename_i he
          obtain ⟨rfl, h1, h2, h3, bs, h4, h5⟩ := h
          exact ⟨_, h5, step_conv_bytes_obj _ _ _ hx ho h2 he h1 h3 h4⟩
        · exact h.elim
      · exact h.elim
    · exact h.elim
  case h_21 =>
    split at h
    · rename_i hx; exact ⟨_, h.2, step_len_str _ _ hx h.1⟩
    · rename_i hx; exact ⟨_, h.2.2, step_len_sl _ _ hx h.1 h.2.1⟩
    · rename_i hx
      split at h
      · rename_i ho; exact ⟨_, h.2, step_len_obj _ _ hx ho h.1⟩
      · exact h.elim
    · exact h.elim
  case h_22 =>
    split at h
    · rename_i he
      obtain ⟨h1, h2, h⟩ := h
      split at h
      · rename_i ht
        split at h
        · rename_i hs
          obtain ⟨h3, h4, h5⟩ := h
          exact ⟨_, h5, step_append _ _ _ _ he h1 h2 ht hs h3 h4⟩
        · exact h.elim
      · exact h.elim
    · exact h.elim
  case h_23 =>
    split at h
    · rename_i hf
      obtain ⟨h1, r, h2, h3⟩ := h
      exact ⟨_, h3, step_call _ _ _ hf h1 h2⟩
    · exact h.elim
  case h_24 => exact h.elim
end Go.Aw
