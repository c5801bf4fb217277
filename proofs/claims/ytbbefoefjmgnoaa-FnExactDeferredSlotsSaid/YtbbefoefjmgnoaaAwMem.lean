/-
  Proved here: allocation and reading of memory.
  No condition beyond what each statement spells out.
-/
import Derived.Test.YtbbefoefjmgnoaaAwOps
set_option linter.all false
namespace Go.Aw

/-- What a load out of object i gives of what i owns. -/
def dpf (i : Nat) : Tg → Option Tg
  | .own => some (.dep i)
  | g => some g

theorem dpf_retags {B : Base} {o : List AObj} {G : List CO} {w : World} {i : Nat} {ob : AObj} {g : CO} (hl : look o G i ob g) (hlive : ob.live = true) (box : Bool) :
    Retags (dpf i) true ((env B o G w).of box) (env B o G w) (fun b => g.F b ∧ ∀ a, g.a = some a → b ≠ a.block) where
  own t e := by
    obtain rfl := Option.some.inj e
    exact ⟨by simp, fun b hb => ⟨ob, g, hl, hlive, hb.1, hb.2⟩⟩
  view t e := by
    obtain rfl := Option.some.inj e
    exact ⟨rfl, fun b hb => by cases box <;> exact hb⟩
  dep j t e := by
    obtain rfl := Option.some.inj e
    refine ⟨by simp, ?_, fun b hb => ?_⟩
    · by_cases h : (env B o G w).V j
      · left; cases box
        · trivial
        · exact h
      · right; exact h
    · cases box
      · exact hb.elim
      · exact hb
  hh _ j v x h := by cases box; exact h.elim; exact h
  hl _ j v k q x h := by cases box; exact h.elim; exact h

theorem isObj_some {o : List AObj} {i ver : Nat} {ob : AObj} (h : AV.isObj o i ver = some ob) : o[i]? = some ob ∧ ob.live = true ∧ ob.ver = ver := by
  unfold AV.isObj at h
  split at h
  · rename_i x hx
    split at h
    · rename_i hc
      obtain rfl := Option.some.inj h
      exact ⟨hx, hc⟩
    · cases h
  · cases h

theorem Rel'.look {B : Base} {s : AS} {G : List CO} {a : Act} {w : World} (r : Rel' B s G a w) {i : Nat} {ob : AObj} (h : s.o[i]? = some ob) : ∃ g, look s.o G i ob g := by
  have hi : i < G.length := by rw [r.len]; exact (List.getElem?_eq_some_iff.1 h).1
  exact ⟨G[i], h, List.getElem?_eq_getElem hi⟩

/-- The cells of one element of an object. -/
theorem Rel'.elem {B : Base} {s : AS} {G : List CO} {a : Act} {w : World} (r : Rel' B s G a w) {i idx : Nat} {ob : AObj} {g : CO} {e : List AV} (hl : Aw.look s.o G i ob g) (hlive : ob.live = true) (he : ob.els[idx]? = some e) :
    ∃ b f cs, g.a = some ⟨b, f, none⟩ ∧ cs.length = ob.n ∧ CellsAt w b (f + idx * ob.n) cs ∧ (∀ x ∈ cs, x.oneCell' = true) ∧ Rc w (env B s.o G w) (rtc (dpf i) true e) cs [] := by
  obtain ⟨fp, ⟨_, h⟩, hnd, hF⟩ := r.ok i ob g hl hlive
  rcases h with ⟨h, _⟩ | ⟨b, f, C, ty, fz, fps, ha, hb, hz, h1, h2, h3, rfl, hr⟩
  · rw [h] at he; simp at he
  obtain ⟨f1, f2, f3, cs, rfl, hn, hc, ho, hrc, _, _⟩ := Rr_get hr he
  refine ⟨b, f, cs, ha, hn, hc, ho, ?_⟩
  refine Rc_rt (dpf_retags hl hlive ob.box) e cs f2 (fun x hx => ⟨hF x (by simp [hx]), fun a' ha' => ?_⟩) hrc
  rw [ha] at ha'
  obtain rfl := Option.some.inj ha'
  simp only [List.nodup_cons] at hnd
  rintro rfl
  exact hnd.1 (by simp [hx])

theorem Rc_slice {w : World} {E : Env} {c : List AV} {cs : List Value} (off n : Nat) (h : Rc w E c cs []) : Rc w E ((c.drop off).take n) ((cs.drop off).take n) [] := by
  obtain ⟨f1, f2, e, _, h2⟩ := Rc_split off h
  obtain ⟨rfl, rfl⟩ : f1 = [] ∧ f2 = [] := by simpa using e.symm
  obtain ⟨f1, f2, e, h3, _⟩ := Rc_split n h2
  obtain ⟨rfl, rfl⟩ : f1 = [] ∧ f2 = [] := by simpa using e.symm
  exact h3

theorem mem_slice {cs : List Value} {off n : Nat} (ho : ∀ x ∈ cs, x.oneCell' = true) : ∀ x ∈ (cs.drop off).take n, x.oneCell' = true :=
  fun x hx => ho x (List.mem_of_mem_drop (List.mem_of_mem_take hx))

theorem CellsAt.slice {w : World} {b off : Nat} {cs : List Value} (k n : Nat) (h : CellsAt w b off cs) : CellsAt w b (off + k) ((cs.drop k).take n) := h.drop.take

theorem rtc_length (f : Tg → Option Tg) (h : Bool) : ∀ c, (rtc f h c).length = c.length
  | [] => rfl
  | _ :: xs => by simp [rtc, rtc_length f h xs]

theorem run_load_part_agg {P : Program} {w : World} {t : TypeId} {b off k n : Nat} {cs : List Value} (ht : aggSize P t = some n) (hfit : k + n ≤ cs.length) (h : CellsAt w b off cs) :
    (Instr.loadAt t (.pointer (some ⟨b, off + k, none⟩))).run P w = .ok (.agg ((cs.drop k).take n).toArray) w := by
  have hl : ((cs.drop k).take n).length = n := by simp; omega
  simpa [Instr.loadAt, Instr.sureAddr] using run_load_agg (P := P) (t := t) (by rw [hl]; exact ht) (h.slice k n)

theorem run_load_part_one {P : Program} {w : World} {t : TypeId} {b off k : Nat} {cs : List Value} {v : Value} (ht : oneSize P t = true) (hv : cs[k]? = some v) (h : CellsAt w b off cs) :
    (Instr.loadAt t (.pointer (some ⟨b, off + k, none⟩))).run P w = .ok v w := by
  have : (cs.drop k).take 1 = [v] := by
    obtain ⟨hk, rfl⟩ := List.getElem?_eq_some_iff.1 hv
    rw [List.drop_eq_getElem_cons hk, List.take_succ_cons, List.take_zero]
  have h1 := h.slice k 1
  rw [this] at h1
  simpa [Instr.loadAt, Instr.sureAddr] using run_load_one (P := P) (t := t) ht h1

section
variable {P : Program} {B : Base} {s : AS} {dst : Option Tmp} {ty : TypeId} {pos : String} {after : Array Edge} {gd : Option (Nat × Bool)}

theorem Rel'.ptr {G : List CO} {a : Act} {w : World} (r : Rel' B s G a w) {x : Operand} {i ver idx off : Nat} {ob : AObj} (hx : s.ev x = .ptr i ver idx off) (ho : AV.isObj s.o i ver = some ob) :
    ∃ g b f, Aw.look s.o G i ob g ∧ ob.live = true ∧ g.a = some ⟨b, f, none⟩ ∧ a.eval x = .pointer (some ⟨b, f + (idx * ob.n + off), none⟩) := by
  have h := r.ev x
  rw [hx] at h
  simp only [R] at h
  obtain ⟨_, ob', g, hl, _, hh⟩ := h
  obtain ⟨h1, h2, h3⟩ := isObj_some ho
  obtain rfl := Option.some.inj (hl.1.symm.trans h1)
  obtain ⟨b, f, ha, hv⟩ := hh h2 h3
  exact ⟨g, b, f, hl, h2, ha, hv⟩

theorem step_load_ptr_agg (t : TypeId) (x : Operand) {i ver idx off n : Nat} {ob : AObj} {e : List AV} (hx : s.ev x = .ptr i ver idx off) (ho : AV.isObj s.o i ver = some ob) (he : ob.els[idx]? = some e)
    (hn : aggSize P t = some n) (hfit : off + n ≤ e.length) : Step P B ⟨dst, .load t x, ty, pos, after, gd⟩ s (s.put dst (.agg ((rtc (dpf i) true e).drop off |>.take n))) :=
  step_pure fun G a w r => by
    obtain ⟨g, b, f, hl, hlive, ha, hv⟩ := r.ptr hx ho
    obtain ⟨b', f', cs, ha', hcn, hc, hone, hrc⟩ := r.elem hl hlive he
    rw [ha] at ha'
    simp only [Option.some.injEq, Addr.mk.injEq, and_true] at ha'
    obtain ⟨rfl, rfl⟩ := ha'
    have hle := Rc_length hrc
    rw [rtc_length] at hle
    refine ⟨.agg ((cs.drop off).take n).toArray, ?_, ?_⟩
    · simp only [execOp, hv, ← Nat.add_assoc]
      simp [run_load_part_agg (P := P) (k := off) (n := n) (cs := cs) hn (by omega) hc]
    · simp only [R]
      exact ⟨_, rfl, mem_slice hone, Rc_slice off n hrc⟩

theorem step_load_ptr_one (t : TypeId) (x : Operand) {i ver idx off : Nat} {ob : AObj} {e : List AV} {y : AV} (hx : s.ev x = .ptr i ver idx off) (ho : AV.isObj s.o i ver = some ob) (he : ob.els[idx]? = some e)
    (hn : oneSize P t = true) (hy : (rtc (dpf i) true e)[off]? = some y) : Step P B ⟨dst, .load t x, ty, pos, after, gd⟩ s (s.put dst y) :=
  step_pure fun G a w r => by
    obtain ⟨g, b, f, hl, hlive, ha, hv⟩ := r.ptr hx ho
    obtain ⟨b', f', cs, ha', hcn, hc, hone, hrc⟩ := r.elem hl hlive he
    rw [ha] at ha'
    simp only [Option.some.injEq, Addr.mk.injEq, and_true] at ha'
    obtain ⟨rfl, rfl⟩ := ha'
    obtain ⟨v, hv', hR⟩ := Rc_get hrc hy
    refine ⟨v, ?_, hR⟩
    simp only [execOp, hv, ← Nat.add_assoc]
    simp [run_load_part_one (P := P) hn hv' hc]

/-- The reading through a pointer into memory that is only read. -/
theorem Rel'.vptr {G : List CO} {a : Act} {w : World} (r : Rel' B s G a w) {x : Operand} {g : Tg} {c : List AV} {off : Nat} (hx : s.ev x = .vptr g c off) (hf : (AV.vptr g c off).fit s.o = true) :
    ∃ b o cs, a.eval x = .pointer (some ⟨b, o + off, none⟩) ∧ CellsAt w b o cs ∧ (∀ x ∈ cs, x.oneCell' = true) ∧ Rc w (env B s.o G w) c cs [] := by
  have h := r.ev x
  rw [hx] at h
  simp only [R] at h
  rcases h with ⟨hd, _⟩ | ⟨_, b, o, cs, hv, ht, hcs, hc, hr⟩
  · cases g with
    | own => exact hd.elim
    | view => exact hd.elim
    | dep i =>
      simp only [AV.fit] at hf
      exfalso
      refine hd (fun ob hob => ?_)
      simpa [hob] using hf
  · refine ⟨b, o, cs, hv, hcs, hc, Rc_keeps (w' := w) (E' := env B s.o G w) ?_ _ _ _ (by simp) hr⟩
    cases g with
    | own => exact ht.elim
    | view => exact ⟨fun _ h => ⟨h, rfl⟩, fun _ _ => trivial, fun _ _ _ h => h.elim, fun _ _ _ h => h.elim, fun _ _ _ _ _ h => h.elim⟩
    | dep i => exact ⟨fun _ h => ⟨h, rfl⟩, fun _ _ => trivial, fun j b _ h => ⟨by obtain ⟨rfl, h⟩ := h; exact h, rfl⟩, fun _ _ _ h => h.elim, fun _ _ _ _ _ h => h.elim⟩

theorem step_load_vptr_agg (t : TypeId) (x : Operand) {g : Tg} {c : List AV} {off n : Nat} (hx : s.ev x = .vptr g c off) (hf : (AV.vptr g c off).fit s.o = true)
    (hn : aggSize P t = some n) (hfit : off + n ≤ c.length) : Step P B ⟨dst, .load t x, ty, pos, after, gd⟩ s (s.put dst (.agg (c.drop off |>.take n))) :=
  step_pure fun G a w r => by
    obtain ⟨b, o, cs, hv, hc, hone, hrc⟩ := r.vptr hx hf
    have hle := Rc_length hrc
    refine ⟨.agg ((cs.drop off).take n).toArray, ?_, ?_⟩
    · simp only [execOp, hv]
      simp [run_load_part_agg (P := P) (k := off) (n := n) (cs := cs) hn (by omega) hc]
    · simp only [R]
      exact ⟨_, rfl, mem_slice hone, Rc_slice off n hrc⟩

theorem step_load_vptr_one (t : TypeId) (x : Operand) {g : Tg} {c : List AV} {off : Nat} {y : AV} (hx : s.ev x = .vptr g c off) (hf : (AV.vptr g c off).fit s.o = true)
    (hn : oneSize P t = true) (hy : c[off]? = some y) : Step P B ⟨dst, .load t x, ty, pos, after, gd⟩ s (s.put dst y) :=
  step_pure fun G a w r => by
    obtain ⟨b, o, cs, hv, hc, hone, hrc⟩ := r.vptr hx hf
    obtain ⟨v, hv', hR⟩ := Rc_get hrc hy
    refine ⟨v, ?_, hR⟩
    simp only [execOp, hv]
    simp [run_load_part_one (P := P) hn hv' hc]

theorem run_fieldAt {t : TypeId} {f fo : Nat} (h : fieldA P t f = some fo) (w : World) (b o : Nat) : (Instr.fieldAt t (.pointer (some ⟨b, o, none⟩)) f).run P w = .ok (.pointer (some ⟨b, o + fo, none⟩)) w := by
  unfold fieldA at h
  split at h
  · rename_i fs hu
    split at h
    · rename_i fd hfd
      split at h
      · rename_i inf hi
        split at h
        · cases h
        · rename_i hz
          obtain rfl := Option.some.inj h
          simp [Instr.fieldAt, run_underlying hu, hfd, Instr.sureAddr, fieldPlace, sizeOf, typeInfo, hi, hz, addr_add]
      · cases h
    · cases h
  · cases h

theorem step_field_ptr (t : TypeId) (x : Operand) (f : Nat) {i ver idx off fo : Nat} {ob : AObj} (hx : s.ev x = .ptr i ver idx off) (ho : AV.isObj s.o i ver = some ob) (hf : fieldA P t f = some fo) :
    Step P B ⟨dst, .fieldAddr t x f, ty, pos, after, gd⟩ s (s.put dst (.ptr i ver idx (off + fo))) :=
  step_pure fun G a w r => by
    obtain ⟨g, b, k, hl, hlive, ha, hv⟩ := r.ptr hx ho
    refine ⟨.pointer (some ⟨b, k + (idx * ob.n + (off + fo)), none⟩), ?_, ?_⟩
    · simp only [execOp, hv]
      simp [run_fieldAt hf, Nat.add_assoc]
    · simp only [R]
      obtain ⟨h1, h2, h3⟩ := isObj_some ho
      exact ⟨trivial, ob, g, hl, Nat.le_of_eq h3.symm, fun _ _ => ⟨b, k, ha, rfl⟩⟩

theorem step_field_vptr (t : TypeId) (x : Operand) (f : Nat) {g : Tg} {c : List AV} {off fo : Nat} (hx : s.ev x = .vptr g c off) (hfit : (AV.vptr g c off).fit s.o = true) (hf : fieldA P t f = some fo) :
    Step P B ⟨dst, .fieldAddr t x f, ty, pos, after, gd⟩ s (s.put dst (.vptr g c (off + fo))) :=
  step_pure fun G a w r => by
    obtain ⟨b, o, cs, hv, hc, hone, hrc⟩ := r.vptr hx hfit
    refine ⟨.pointer (some ⟨b, o + (off + fo), none⟩), ?_, ?_⟩
    · simp only [execOp, hv]
      simp [run_fieldAt hf, Nat.add_assoc]
    · have h := r.ev x
      rw [hx] at h
      simp only [R] at h ⊢
      rcases h with h | ⟨h1, b', o', cs', hv', ht, hcs, hc', hr⟩
      · exact .inl ⟨h.1, trivial⟩
      · rw [hv] at hv'
        simp only [Value.pointer.injEq, Option.some.injEq, Addr.mk.injEq, and_true] at hv'
        refine .inr ⟨trivial, b', o', cs', ?_, ht, hcs, hc', hr⟩
        obtain ⟨rfl, h2⟩ := hv'
        simp only [Value.pointer.injEq, Option.some.injEq, Addr.mk.injEq, and_true, true_and]
        omega
end
end Go.Aw
