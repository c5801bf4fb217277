/-
  Proved here: what an operation does to a state, it does to one of which more is known.
  No condition beyond what each statement spells out.
-/
import Derived.Test.YtbbefoefjmgnoaaAwDraw
set_option linter.all false
set_option linter.unusedVariables false
set_option linter.unusedSimpArgs false
namespace Go.Aw

/-- Operations that change no object. -/
def quiet : Op → Bool
  | .move _ | .assign _ | .load _ _ | .fieldAddr _ _ _ | .indexAddr _ _ _ | .index _ _ _ | .extract _ _ | .unOp _ _ _ | .binOp _ _ _ _ _ | .convert _ _ _ | .pick _ _ _ | .alloc _ | .box _ _ | .build _ _ => true
  | .call ⟨.builtin .len, ⟨[_]⟩, ⟨[_]⟩⟩ => true
  | .call ⟨.value _, _, _⟩ => true
  | _ => false

def setO (t : List AV) : Option Tmp → AV → List AV
  | some d, x => t.set d x
  | none, _ => t

theorem put_eq (t : List AV) (o : List AObj) (d : Option Tmp) (x : AV) : AS.put ⟨t, o⟩ d x = ⟨setO t d x, o⟩ := by cases d <;> rfl

theorem wk_get : ∀ {t2 t : List AV} (i : Nat), wk t2 t → t.getD i .undef = t2.getD i .undef ∨ t.getD i .undef = .undef
  | [], [], _, _ => .inl rfl
  | [], _ :: _, _, h => h.elim
  | _ :: _, [], _, h => h.elim
  | x :: xs, y :: ys, 0, h => by simpa [List.getD] using h.1
  | x :: xs, y :: ys, i + 1, h => by simpa [List.getD] using wk_get i h.2

theorem box_eq (t : List AV) (o : List AObj) (d : Option Tmp) (c : List AV) : AS.box ⟨t, o⟩ d c = ⟨setO t d (.ptr o.length 0 0 0), o ++ [⟨true, true, c.length, 0, [c]⟩]⟩ := put_eq _ _ _ _
theorem called_eq (t : List AV) (o : List AObj) (d : Option Tmp) (r : AV) : AS.called ⟨t, o⟩ d r = ⟨setO t d (absorb 1 o.length r).1, o ++ (absorb 1 o.length r).2⟩ := put_eq _ _ _ _

section
variable {t t2 : List AV} {o ext : List AObj}

theorem ev_wk (hw : wk t2 t) (x : Operand) : (AS.ev ⟨t, o⟩ x) = (AS.ev ⟨t2, o ++ ext⟩ x) ∨ (AS.ev ⟨t, o⟩ x) = .undef := by
  cases x with
  | tmp i => exact wk_get i hw
  | const v => exact .inl rfl
  | func f => exact .inl rfl
  | global g => exact .inl rfl

theorem ev_mono (hw : wk t2 t) {x : Operand} {y : AV} (h : AS.ev ⟨t, o⟩ x = y) (hy : y ≠ .undef) : AS.ev ⟨t2, o ++ ext⟩ x = y := by
  rcases ev_wk (o := o) (ext := ext) hw x with h' | h'
  · rw [← h', h]
  · rw [h] at h'; exact absurd h' hy

theorem get_app {i : Nat} {ob : AObj} (h : o[i]? = some ob) : (o ++ ext)[i]? = some ob := by
  rw [List.getElem?_append_left (List.getElem?_eq_some_iff.1 h).1]; exact h

theorem isObj_app {i ver : Nat} {ob : AObj} (h : AV.isObj o i ver = some ob) : AV.isObj (o ++ ext) i ver = some ob := by
  unfold AV.isObj at h ⊢
  split at h
  · rename_i x hx
    rw [get_app hx]; exact h
  · cases h

theorem at_app {i ver idx : Nat} {p : AObj × List AV} (h : AS.at ⟨t, o⟩ i ver idx = some p) : AS.at ⟨t2, o ++ ext⟩ i ver idx = some p := by
  unfold AS.at at h ⊢
  split at h
  · rename_i ob h1
    simp only [isObj_app h1]; exact h
  · cases h

theorem isSome_app {i ver : Nat} (h : (AV.isObj o i ver).isSome = true) : (AV.isObj (o ++ ext) i ver).isSome = true := by
  obtain ⟨ob, h⟩ := Option.isSome_iff_exists.1 h
  rw [isObj_app h]; rfl

theorem fit_app {x : AV} (h : x.fit o = true) : x.fit (o ++ ext) = true := by
  cases x with
  | sl g n l =>
    cases g with
    | dep i =>
      simp only [AV.fit] at h ⊢
      split at h
      · rename_i ob hob; rw [get_app hob]; exact h
      · cases h
    | _ => rfl
  | vptr g c off =>
    cases g with
    | dep i =>
      simp only [AV.fit] at h ⊢
      split at h
      · rename_i ob hob; rw [get_app hob]; exact h
      · cases h
    | _ => rfl
  | obj i ver => simp only [AV.fit] at h ⊢; exact isSome_app h
  | ptr i ver _ _ => simp only [AV.fit] at h ⊢; exact isSome_app h
  | undef => cases h
  | tup _ => cases h
  | _ => rfl

theorem fit_ne {x : AV} (h : x.fit o = true) : x ≠ .undef := by rintro rfl; cases h

/-- One reads no less than the other. -/
def subv (x2 x : AV) : Prop := ∀ w E v fp, R w E x2 v fp → R w E x v fp
end

mutual
theorem arg_app {o ext : List AObj} : ∀ (x : AV), arg o x ≠ .undef → ∀ (w : World) (v : Value), R w (envAll w) (arg (o ++ ext) x) v [] → R w (envAll w) (arg o x) v []
  | .obj i ver, hn, w, v, h => by
    cases ho : AV.isObj o i ver with
    | none => exact absurd (by simp only [arg, ho]) hn
    | some ob => simp only [arg, ho, isObj_app ho] at h ⊢; exact h
  | .ptr i ver idx off, hn, w, v, h => by
    cases ho : AV.isObj o i ver with
    | none => exact absurd (by simp only [arg, ho]) hn
    | some ob => simp only [arg, ho, isObj_app ho] at h ⊢; exact h
  | .agg c, _, w, v, h => by
    simp only [arg, R] at h ⊢
    obtain ⟨cs, h1, h2, h3⟩ := h
    exact ⟨cs, h1, h2, argc_app c w cs h3⟩
  | .tup c, _, w, v, h => by
    simp only [arg, R] at h ⊢
    obtain ⟨cs, h1, h3⟩ := h
    exact ⟨cs, h1, argc_app c w cs h3⟩
  | .fn f c, _, w, v, h => by
    simp only [arg, R] at h ⊢
    obtain ⟨h0, cs, h1, h3⟩ := h
    exact ⟨h0, cs, h1, argc_app c w cs h3⟩
  | .int _ _, _, _, _, h => h
  | .bool _, _, _, _, h => h
  | .str _, _, _, _, h => h
  | .sl .own _ _, _, _, _, h => h
  | .sl .view _ _, _, _, _, h => h
  | .sl (.dep i) n l, hn, w, v, h => by
    cases ho : o[i]? with
    | none => simp [arg, ho] at hn
    | some ob => simp only [arg, ho, get_app ho] at h ⊢; exact h
  | .vptr .own _ _, _, _, _, h => h
  | .vptr .view _ _, _, _, _, h => h
  | .vptr (.dep i) c off, hn, w, v, h => by
    cases ho : o[i]? with
    | none => simp [arg, ho] at hn
    | some ob => simp only [arg, ho, get_app ho] at h ⊢; exact h
  | .undef, hn, _, _, _ => absurd rfl hn
theorem argc_app {o ext : List AObj} : ∀ (c : List AV) (w : World) (cs : List Value), Rc w (envAll w) (argc (o ++ ext) c) cs [] → Rc w (envAll w) (argc o c) cs []
  | [], _, _, h => h
  | x :: xs, w, [], h => by simp [argc, Rc] at h
  | x :: xs, w, c :: cs, h => by
    simp only [argc, Rc] at h ⊢
    obtain ⟨f1, f2, h1, h2, e⟩ := h
    obtain ⟨rfl, rfl⟩ : f1 = [] ∧ f2 = [] := by simpa using e
    refine ⟨[], [], ?_, argc_app xs w cs h2, rfl⟩
    by_cases hn : arg o x = .undef
    · rw [hn]; simp [R]
    · exact arg_app x hn w c h1
end

theorem argc_wk {o : List AObj} : ∀ {a2 a : List AV}, wk a2 a → wk (argc o a2) (argc o a)
  | [], [], _ => trivial
  | [], _ :: _, h => h.elim
  | _ :: _, [], h => h.elim
  | x :: xs, y :: ys, h => by
    refine ⟨?_, argc_wk h.2⟩
    rcases h.1 with rfl | rfl
    · exact .inl rfl
    · exact .inr rfl

theorem args_wk {t t2 : List AV} {o ext : List AObj} (hw : wk t2 t) (l : List Operand) (cap : List AV) : wk (l.map (AS.ev ⟨t2, o ++ ext⟩) ++ cap) (l.map (AS.ev ⟨t, o⟩) ++ cap) := by
  induction l with
  | nil =>
    simp only [List.map_nil, List.nil_append]
    induction cap with
    | nil => trivial
    | cons x xs ih => exact ⟨.inl rfl, ih⟩
  | cons x xs ih => exact ⟨ev_wk hw x, ih⟩

theorem Ok.mono {P : Program} {f : FuncId} {a a2 : List AV} {r : AV} (h : Ok P f a r) (hs : ∀ w vs, Rc w (envAll w) a2 vs [] → Rc w (envAll w) a vs []) : Ok P f a2 r :=
  fun w vs hr => h w vs (hs w vs hr)

theorem absorb_none : ∀ (q k k' : Nat) (x : AV), (absorb q k x).2 = [] → absorb q k' x = absorb q k x := by
  intro q k k' x h
  exact (go q k k').1 x h
where
  go (q k k' : Nat) : (∀ x : AV, (absorb q k x).2 = [] → absorb q k' x = absorb q k x) ∧ (∀ c : List AV, (absorbc q k c).2 = [] → absorbc q k' c = absorbc q k c) :=
    ⟨fun x => one x, fun c => all c⟩
  one {q k k' : Nat} : ∀ x : AV, (absorb q k x).2 = [] → absorb q k' x = absorb q k x
    | .sl .own n l, h => by simp [absorb] at h
    | .agg c, h => by simp only [absorb] at h ⊢; rw [all c h]
    | .tup c, h => by simp only [absorb] at h ⊢; rw [all c h]
    | .sl .view _ _, _ => rfl
    | .sl (.dep _) _ _, _ => rfl
    | .int _ _, _ => rfl
    | .bool _, _ => rfl
    | .str _, _ => rfl
    | .vptr _ _ _, _ => rfl
    | .obj _ _, _ => rfl
    | .ptr _ _ _ _, _ => rfl
    | .fn _ _, _ => rfl
    | .undef, _ => rfl
  all {q k k' : Nat} : ∀ c : List AV, (absorbc q k c).2 = [] → absorbc q k' c = absorbc q k c
    | [], _ => rfl
    | x :: xs, h => by
      simp only [absorbc, List.append_eq_nil_iff] at h ⊢
      have h1 := one (k' := k') x h.1
      rw [h1]
      have h2 : (absorb q k x).2.length = 0 := by rw [h.1]; rfl
      rw [h2] at h ⊢
      have h3 := all (k := k + 0) (k' := k' + 0) xs h.2
      rw [h3]

/-- What an operation does to a state, it does to one of which more is known. -/
theorem aop_mono {P : Program} {op : Oper} {t t2 : List AV} {o ext : List AObj} {K : AS → Prop} (q : quiet op.op = true) (hw : wk t2 t) (h : aop P op ⟨t, o⟩ K) (hext : ext = [] ∨ ∀ s', K s' → s'.o.length = o.length) :
    ∃ x new x2, K ⟨setO t op.dst x, o ++ new⟩ ∧ (x = x2 ∨ x = .undef) ∧ (ext = [] ∨ new = []) ∧ ∀ K2 : AS → Prop, K2 ⟨setO t2 op.dst x2, o ++ ext ++ new⟩ → aop P op ⟨t2, o ++ ext⟩ K2 := by
  have same : ∀ {x : AV}, K (AS.put ⟨t, o⟩ op.dst x) → (∀ K2 : AS → Prop, K2 (AS.put ⟨t2, o ++ ext⟩ op.dst x) → aop P op ⟨t2, o ++ ext⟩ K2) →
      ∃ x new x2, K ⟨setO t op.dst x, o ++ new⟩ ∧ (x = x2 ∨ x = .undef) ∧ (ext = [] ∨ new = []) ∧ ∀ K2 : AS → Prop, K2 ⟨setO t2 op.dst x2, o ++ ext ++ new⟩ → aop P op ⟨t2, o ++ ext⟩ K2 := by
    intro x h1 h2
    refine ⟨x, [], x, by rw [List.append_nil, ← put_eq]; exact h1, .inl rfl, .inr rfl, fun K2 hK => h2 K2 ?_⟩
    rw [put_eq]; rw [List.append_nil] at hK; exact hK
  obtain ⟨dst, op, ty, pos, after, gd⟩ := op
  have E : ∀ {x : Operand} {y : AV}, AS.ev ⟨t, o⟩ x = y → y ≠ .undef → AS.ev ⟨t2, o ++ ext⟩ x = y := fun h hy => ev_mono hw h hy
  unfold aop at h
  dsimp only at h q same ⊢
  split at h
  case h_1 =>
    rename_i X
    refine ⟨_, [], AS.ev ⟨t2, o ++ ext⟩ X, by rw [put_eq] at h; rw [List.append_nil]; exact h, ev_wk hw X, .inr rfl, fun K2 hK => ?_⟩
    unfold aop; dsimp only; rw [put_eq]; rw [List.append_nil] at hK; exact hK
  case h_2 =>
    rename_i X
    refine ⟨_, [], AS.ev ⟨t2, o ++ ext⟩ X, by rw [put_eq] at h; rw [List.append_nil]; exact h, ev_wk hw X, .inr rfl, fun K2 hK => ?_⟩
    unfold aop; dsimp only; rw [put_eq]; rw [List.append_nil] at hK; exact hK
  case h_3 =>
    split at h
    · rename_i b hc
      rename_i X Y _
      refine ⟨if b then AS.ev ⟨t, o⟩ X else AS.ev ⟨t, o⟩ Y, [], if b then AS.ev ⟨t2, o ++ ext⟩ X else AS.ev ⟨t2, o ++ ext⟩ Y, by rw [put_eq] at h; rw [List.append_nil]; exact h, ?_, .inr rfl, fun K2 hK => ?_⟩
      · cases b
        · exact ev_wk hw Y
        · exact ev_wk hw X
      · unfold aop; dsimp only; rw [E hc (by simp)]; dsimp only; rw [put_eq]; rw [List.append_nil] at hK; exact hK
    · exact h.elim
  case h_4 =>
    split at h
    · rename_i z hz
      rcases hext with rfl | hext
      · refine ⟨.ptr o.length 0 0 0, [⟨true, true, z.length, 0, [z]⟩], .ptr o.length 0 0 0, by rw [box_eq] at h; exact h, .inl rfl, .inl rfl, fun K2 hK => ?_⟩
        unfold aop; dsimp only; rw [hz]; dsimp only; rw [box_eq, List.append_nil]; rw [List.append_nil] at hK; exact hK
      · have := hext _ h
        rw [box_eq] at this; simp at this
    · exact h.elim
  case h_5 =>
    rename_i X
    obtain ⟨h1, h2⟩ := h
    have hX := E (x := X) rfl (fit_ne h1)
    rcases hext with rfl | hext
    · refine ⟨.ptr o.length 0 0 0, [⟨true, true, (AS.ev ⟨t, o⟩ X).cells.length, 0, [(AS.ev ⟨t, o⟩ X).cells]⟩], .ptr o.length 0 0 0, by rw [box_eq] at h2; exact h2, .inl rfl, .inl rfl, fun K2 hK => ?_⟩
      unfold aop; dsimp only; rw [hX]; refine ⟨fit_app h1, ?_⟩; rw [box_eq, List.append_nil]; rw [List.append_nil] at hK; exact hK
    · have := hext _ h2
      rw [box_eq] at this; simp at this
  case h_6 =>
    rename_i T parts
    split at h
    · rename_i pl hp
      split at h
      · rename_i z0 hz
        obtain ⟨h1, h⟩ := h
        split at h
        · rename_i z hf
          have hparts : (parts.toList.map fun p => (p.1, AS.ev ⟨t2, o ++ ext⟩ p.2)) = parts.toList.map fun p => (p.1, AS.ev ⟨t, o⟩ p.2) :=
            List.map_congr_left fun p hp => by rw [E (x := p.2) rfl (fit_ne (h1 p hp))]
          refine same h fun K2 hK => ?_
          unfold aop; dsimp only; rw [hp]; dsimp only; rw [hz]; dsimp only
          refine ⟨fun p hp => by rw [E (x := p.2) rfl (fit_ne (h1 p hp))]; exact fit_app (h1 p hp), ?_⟩
          rw [hparts, hf]; exact hK
        · exact h.elim
      · exact h.elim
    · exact h.elim
  case h_7 => cases q
  case h_8 =>
    rename_i T X
    split at h
    · rename_i hx
      split at h
      · rename_i ob e ha
        unfold loadA at h
        split at h
        · rename_i n hn
          refine same h.2 fun K2 hK => ?_
          unfold aop; dsimp only; rw [E hx (by simp)]; dsimp only; rw [at_app ha]; dsimp only; unfold loadA; rw [hn]; exact ⟨h.1, hK⟩
        · rename_i hn
          obtain ⟨h1, h⟩ := h
          split at h
          · rename_i y hy
            refine same h fun K2 hK => ?_
            unfold aop; dsimp only; rw [E hx (by simp)]; dsimp only; rw [at_app ha]; dsimp only; unfold loadA; rw [hn]; dsimp only; rw [hy]; exact ⟨h1, hK⟩
          · exact h.elim
      · exact h.elim
    · rename_i hx
      obtain ⟨hf, h⟩ := h
      unfold loadA at h
      split at h
      · rename_i n hn
        refine same h.2 fun K2 hK => ?_
        unfold aop; dsimp only; rw [E hx (by simp)]; dsimp only; unfold loadA; rw [hn]; exact ⟨fit_app hf, h.1, hK⟩
      · rename_i hn
        obtain ⟨h1, h⟩ := h
        split at h
        · rename_i y hy
          refine same h fun K2 hK => ?_
          unfold aop; dsimp only; rw [E hx (by simp)]; dsimp only; unfold loadA; rw [hn]; dsimp only; rw [hy]; exact ⟨fit_app hf, h1, hK⟩
        · exact h.elim
    · exact h.elim
  case h_9 => cases q
  case h_10 =>
    split at h
    · rename_i fo hf
      split at h
      · rename_i hx
        refine same h.2 fun K2 hK => ?_
        unfold aop; dsimp only; rw [hf]; dsimp only; rw [E hx (by simp)]; exact ⟨isSome_app h.1, hK⟩
      · rename_i hx
        refine same h.2 fun K2 hK => ?_
        unfold aop; dsimp only; rw [hf]; dsimp only; rw [E hx (by simp)]; exact ⟨fit_app h.1, hK⟩
      · exact h.elim
    · exact h.elim
  case h_11 =>
    split at h
    · rename_i hi
      obtain ⟨h0, h⟩ := h
      split at h
      · rename_i hx
        split at h
        · rename_i ob ho
          split at h
          · rename_i he
            refine same h.2.2 fun K2 hK => ?_
            unfold aop; dsimp only; rw [E hi (by simp)]; dsimp only; rw [E hx (by simp)]; dsimp only; rw [isObj_app ho]; dsimp only; rw [he]; exact ⟨h0, h.1, h.2.1, hK⟩
          · exact h.elim
        · exact h.elim
      · rename_i hx
        obtain ⟨hf, h⟩ := h
        split at h
        · rename_i he
          obtain ⟨hm, h⟩ := h
          split at h
          · rename_i hc
            refine same h fun K2 hK => ?_
            unfold aop; dsimp only; rw [E hi (by simp)]; dsimp only; rw [E hx (by simp)]; dsimp only; rw [he]; dsimp only; rw [hc]; exact ⟨h0, fit_app hf, hm, hK⟩
          · exact h.elim
        · exact h.elim
      · rename_i hx
        obtain ⟨hs, h⟩ := h
        split at h
        · rename_i ha
          refine same h.2 fun K2 hK => ?_
          unfold aop; dsimp only; rw [E hi (by simp)]; dsimp only; rw [E hx (by simp)]; dsimp only; rw [ha]; exact ⟨h0, isSome_app hs, h.1, hK⟩
        · exact h.elim
      · exact h.elim
    · exact h.elim
  case h_12 =>
    split at h
    · rename_i hx
      split at h
      · rename_i hi
        obtain ⟨ht, h0, h⟩ := h
        split at h
        · rename_i hu
          refine same h fun K2 hK => ?_
          unfold aop; dsimp only; rw [E hx (by simp)]; dsimp only; rw [E hi (by simp)]; dsimp only; rw [hu]; exact ⟨ht, h0, hK⟩
        · exact h.elim
      · exact h.elim
    · exact h.elim
  case h_13 =>
    split at h
    · rename_i hx
      split at h
      · rename_i hy
        refine same h fun K2 hK => ?_
        unfold aop; dsimp only; rw [E hx (by simp)]; dsimp only; rw [hy]; exact hK
      · exact h.elim
    · exact h.elim
  case h_14 => cases q
  case h_15 => cases q
  case h_16 => cases q
  case h_17 =>
    split at h
    · rename_i hx
      refine same h fun K2 hK => ?_
      unfold aop; dsimp only; rw [E hx (by simp)]; exact hK
    · exact h.elim
  case h_18 =>
    split at h
    · rename_i hx
      refine same h fun K2 hK => ?_
      unfold aop; dsimp only; rw [E hx (by simp)]; exact hK
    · exact h.elim
  case h_19 =>
    split at h
    · rename_i hx
      split at h
      · rename_i hy
        obtain ⟨hk, h⟩ := h
        split at h
        · rename_i hz
          refine same h fun K2 hK => ?_
          unfold aop; dsimp only; rw [E hx (by simp)]; dsimp only; rw [E hy (by simp)]; dsimp only; rw [hz]; exact ⟨hk, hK⟩
        · exact h.elim
      · exact h.elim
    · rename_i hx
      split at h
      · rename_i hy
        split at h
        · rename_i hz
          refine same h fun K2 hK => ?_
          unfold aop; dsimp only; rw [E hx (by simp)]; dsimp only; rw [E hy (by simp)]; dsimp only; rw [hz]; exact hK
        · exact h.elim
      · exact h.elim
    · rename_i hx
      split at h
      · rename_i hy
        refine same h.2.2 fun K2 hK => ?_
        unfold aop; dsimp only; rw [E hx (by simp)]; dsimp only; rw [E hy (by simp)]; exact ⟨h.1, h.2.1, hK⟩
      · exact h.elim
    · rename_i hx
      split at h
      · rename_i hy
        obtain ⟨h1, h2, h3, b, h4, h5⟩ := h
        refine same h5 fun K2 hK => ?_
        unfold aop; dsimp only; rw [E hx (by simp)]; dsimp only; rw [E hy (by simp)]; exact ⟨h1, h2, h3, b, h4, hK⟩
      · exact h.elim
    · exact h.elim
  case h_20 =>
    split at h
    · rename_i hx
      split at h
      · rename_i hk
        refine same h.2 fun K2 hK => ?_
        unfold aop; dsimp only; rw [E hx (by simp)]; dsimp only; rw [hk]; exact ⟨h.1, hK⟩
      · exact h.elim
    · rename_i hx
      refine same h.2.2 fun K2 hK => ?_
      unfold aop; dsimp only; rw [E hx (by simp)]; exact ⟨h.1, h.2.1, hK⟩
    · rename_i hx
      split at h
      · rename_i he
        obtain ⟨h1, h2, h3, h4, h5, bs, h6, h7⟩ := h
        refine same h7 fun K2 hK => ?_
        unfold aop; dsimp only; rw [E hx (by simp)]; dsimp only; rw [he]; exact ⟨h1, h2, fit_app h3, h4, h5, bs, h6, hK⟩
      · exact h.elim
    · rename_i hx
      split at h
      · rename_i ho
        split at h
        · rename_i he
          obtain ⟨h1, h2, h3, h4, bs, h6, h7⟩ := h
          refine same h7 fun K2 hK => ?_
          unfold aop; dsimp only; rw [E hx (by simp)]; dsimp only; rw [isObj_app ho]; dsimp only; rw [he]; exact ⟨h1, h2, h3, h4, bs, h6, hK⟩
        · exact h.elim
      · exact h.elim
    · exact h.elim
  case h_21 =>
    split at h
    · rename_i hx
      refine same h.2 fun K2 hK => ?_
      unfold aop; dsimp only; rw [E hx (by simp)]; exact ⟨h.1, hK⟩
    · rename_i hx
      refine same h.2.2 fun K2 hK => ?_
      unfold aop; dsimp only; rw [E hx (by simp)]; exact ⟨fit_app h.1, h.2.1, hK⟩
    · rename_i hx
      split at h
      · rename_i ho
        refine same h.2 fun K2 hK => ?_
        unfold aop; dsimp only; rw [E hx (by simp)]; dsimp only; rw [isObj_app ho]; exact ⟨h.1, hK⟩
      · exact h.elim
    · exact h.elim
  case h_22 => cases q
  case h_23 =>
    rename_i F args tys
    split at h
    · rename_i g cap hf
      obtain ⟨h1, r, h2, h3⟩ := h
      have hok : Ok P g (argc (o ++ ext) (AS.args ⟨t2, o ++ ext⟩ args ++ cap)) r := h2.mono fun w vs hr =>
        Rc_wk (argc_wk (args_wk (o := o) (ext := ext) hw args.toList cap)) (argc_app _ w vs hr)
      rcases hext with rfl | hext
      · refine ⟨(absorb 1 o.length r).1, (absorb 1 o.length r).2, (absorb 1 o.length r).1, by rw [called_eq] at h3; exact h3, .inl rfl, .inl rfl, fun K2 hK => ?_⟩
        unfold aop; dsimp only; rw [E hf (by simp)]; refine ⟨h1, r, hok, ?_⟩; rw [called_eq, List.append_nil]; rw [List.append_nil] at hK; exact hK
      · have hn := hext _ h3
        simp only [called_eq, List.length_append] at hn
        have hn' : (absorb 1 o.length r).2 = [] := List.eq_nil_of_length_eq_zero (by omega)
        have ha := absorb_none 1 o.length (o ++ ext).length r hn'
        refine ⟨(absorb 1 o.length r).1, [], (absorb 1 o.length r).1, ?_, .inl rfl, .inr rfl, fun K2 hK => ?_⟩
        · rw [called_eq, hn'] at h3; exact h3
        · unfold aop; dsimp only; rw [E hf (by simp)]
          refine ⟨h1, r, hok, ?_⟩
          unfold AS.called; rw [ha, hn', put_eq]; simpa using hK
    · exact h.elim
  case h_24 => exact h.elim
end Go.Aw
