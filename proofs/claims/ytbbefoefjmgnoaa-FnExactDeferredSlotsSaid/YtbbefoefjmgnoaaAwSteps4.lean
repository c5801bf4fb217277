/-
  Proved here: steps of single operations, fourth part.
  No condition beyond what each statement spells out.
-/
import Derived.Test.YtbbefoefjmgnoaaAwSteps3
set_option linter.all false
set_option linter.unusedVariables false
namespace Go.Aw

/-- A slice bound. -/
def AS.bound (s : AS) (d : Nat) : Option Operand → Option Nat
  | none => some d
  | some x => match s.ev x with
    | .int _ n => if 0 ≤ n then some n.toNat else none
    | _ => none

section
variable {P : Program} {B : Base} {s : AS} {dst : Option Tmp} {ty : TypeId} {pos : String} {after : Array Edge} {gd : Option (Nat × Bool)}

theorem run_bounds {G : List CO} {a : Act} {w : World} (r : Rel' B s G a w) {isS : Bool} {len cap lo hi : Nat} {lx hx : Option Operand} (hl : s.bound 0 lx = some lo) (hh : s.bound len hx = some hi) (h1 : lo ≤ hi) (h2 : hi ≤ len) (h3 : len ≤ cap) :
    (Instr.sliceBounds isS len cap (lx.map a.eval) (hx.map a.eval) none).run P w = .ok (lo, hi, cap) w := by
  have bnd : ∀ {x : Operand} {d n : Nat} {y : Nat} {code : BoundsCode}, s.bound d (some x) = some n → n ≤ y → (Instr.sliceBound (a.eval x) y code).run P w = .ok n w := by
    intro x d n y code h hy
    simp only [AS.bound] at h
    cases hx : s.ev x with
    | int k m =>
      simp only [hx] at h
      split at h
      · rename_i h0
        obtain rfl := Option.some.inj h
        rw [r.intv hx]
        simp [Instr.sliceBound, asIntOf, h0]
        omega
      · cases h
    | _ => simp [hx] at h
  cases lx with
  | none =>
    simp only [AS.bound, Option.some.injEq] at hl
    subst hl
    cases hx with
    | none =>
      simp only [AS.bound, Option.some.injEq] at hh
      subst hh
      simp [Instr.sliceBounds]
    | some y =>
      have := bnd (code := if isS then .sliceAcap else .sliceAlen) hh (Nat.le_trans h2 h3)
      simp [Instr.sliceBounds, this]
  | some x =>
    have hb := fun (c : BoundsCode) => bnd (code := c) hl h1
    cases hx with
    | none =>
      simp only [AS.bound, Option.some.injEq] at hh
      subst hh
      simp [Instr.sliceBounds, hb]
    | some y =>
      have := bnd (code := if isS then .sliceAcap else .sliceAlen) hh (Nat.le_trans h2 h3)
      simp [Instr.sliceBounds, this, hb]

theorem extract_mk (l : List UInt8) (a b : Nat) (h : b ≤ l.length) : (⟨l.toArray⟩ : ByteArray).extract a b = ⟨((l.take b).drop a).toArray⟩ := by
  apply ByteArray.ext
  simp [ByteArray.data_extract, List.drop_take]

theorem step_slice_str (t : TypeId) (x : Operand) (lx hx : Option Operand) {l : List UInt8} {lo hi : Nat} (hs : s.ev x = .str l) (ht : isString P t = true) (hl : s.bound 0 lx = some lo) (hh : s.bound l.length hx = some hi) (h1 : lo ≤ hi) (h2 : hi ≤ l.length) :
    Step P B ⟨dst, .slice t x lx hx none, ty, pos, after, gd⟩ s (s.put dst (.str ((l.take hi).drop lo))) :=
  step_pure fun G a w r => by
    have hv := r.strv hs
    have he := isString_some ht
    have hb := run_bounds (P := P) r (isS := false) hl (by rw [← size_mk l] at hh; exact hh) h1 (by rw [size_mk]; exact h2) (Nat.le_refl (⟨l.toArray⟩ : ByteArray).size)
    refine ⟨.string ⟨((l.take hi).drop lo).toArray⟩, ?_, by simp [R]⟩
    rw [← extract_mk l lo hi h2]
    simp [execOp, hv, Instr.sliceAt, Instr.slice, run_underlying he, hb]

theorem Rr_sub {w : World} {E : Env} {l : List (List AV)} {b f n lo hi : Nat} (h1 : lo ≤ hi) (h2 : hi ≤ l.length) {fp : List Nat} (h : Rr w E l b f n fp) :
    ∃ f1 f2 f3, fp = f1 ++ f2 ++ f3 ∧ Rr w E ((l.take hi).drop lo) b (f + lo * n) n f2 := by
  have e : l = (l.take hi).take lo ++ ((l.take hi).drop lo ++ l.drop hi) := by rw [← List.append_assoc, List.take_append_drop, List.take_append_drop]
  rw [e] at h
  obtain ⟨f1, g, rfl, _, h3⟩ := Rr_append.1 h
  obtain ⟨f2, f3, rfl, h4, _⟩ := Rr_append.1 h3
  have : ((l.take hi).take lo).length = lo := by simp; omega
  rw [this] at h4
  exact ⟨f1, f2, f3, by simp, h4⟩

theorem sub_length {α : Type} (l : List α) {lo hi : Nat} (h1 : lo ≤ hi) (h2 : hi ≤ l.length) : ((l.take hi).drop lo).length = hi - lo := by simp; omega

theorem step_slice_sl (t : TypeId) (x : Operand) (lx hx : Option Operand) {g : Tg} {n : Nat} {l : List (List AV)} {e by' lo hi : Nat} (hs : s.ev x = .sl g n l) (hf : (AV.sl g n l).fit s.o = true) (ht : elemA P t = some (e, n, by'))
    (hl : s.bound 0 lx = some lo) (hh : s.bound l.length hx = some hi) (h1 : lo ≤ hi) (h2 : hi ≤ l.length) :
    Step P B ⟨dst, .slice t x lx hx none, ty, pos, after, gd⟩ s (s.put dst (.sl g n ((l.take hi).drop lo))) :=
  step_pure fun G a w r => by
    obtain ⟨hu, inf, hi', hsz, _⟩ := elemA_some ht
    obtain ⟨ad, cap, hv, hlen, h⟩ := r.slv hs hf
    have hb := run_bounds (P := P) r (isS := true) hl hh h1 h2 hlen.2
    have hsl := sub_length l h1 h2
    refine ⟨.slice (if cap = lo then ad else ad.map (·.add (lo * n))) (hi - lo) (cap - lo), ?_, ?_⟩
    · simp [execOp, hv, Instr.sliceAt, Instr.slice, run_underlying hu, hb, sizeOf, typeInfo, hi', hsz]
    · simp only [R]
      refine .inr ⟨_, _, by rw [hsl], ⟨by rw [hsl]; omega, by rw [hsl]; omega⟩, ?_⟩
      rcases h with ⟨rfl, hcap⟩ | ⟨b, f, rfl, hg, htg, hr⟩
      · by_cases hg : g = .own
        · exact .inl ⟨hg, by simp, by rw [hcap hg]; simp, trivial⟩
        · exact .inr (.inr ⟨hg, trivial, .inl (by simp)⟩)
      · refine .inr (.inr ⟨hg, trivial, ?_⟩)
        by_cases hc : cap = lo
        · left
          exact List.eq_nil_of_length_eq_zero (by rw [hsl]; omega)
        · right
          obtain ⟨f1, f2, f3, hfe, hr'⟩ := Rr_sub h1 h2 hr
          have : f2 = [] := by
            have := congrArg List.length hfe
            simp at this
            exact List.eq_nil_of_length_eq_zero (by omega)
          subst this
          exact ⟨b, f + lo * n, by simp [hc, addr_add], htg, hr'⟩

def AS.resliced (s : AS) (d : Option Tmp) (i : Nat) (ob : AObj) (l : List (List AV)) : AS :=
  AS.put ⟨s.t, s.o.set i { ob with ver := ob.ver + 1, els := l }⟩ d (.obj i (ob.ver + 1))

theorem step_slice_obj (t : TypeId) (x : Operand) (lx hx : Option Operand) {i ver : Nat} {ob : AObj} {e by' lo hi : Nat} (hs : s.ev x = .obj i ver) (ho : AV.isObj s.o i ver = some ob) (hbox : ob.box = false) (ht : elemA P t = some (e, ob.n, by'))
    (hl : s.bound 0 lx = some lo) (hh : s.bound ob.els.length hx = some hi) (h1 : lo ≤ hi) (h2 : hi ≤ ob.els.length) :
    Step P B ⟨dst, .slice t x lx hx none, ty, pos, after, gd⟩ s (s.resliced dst i ob ((ob.els.take hi).drop lo)) :=
  step_val fun G a w r => by
    obtain ⟨hu, inf, hi', hsz, _⟩ := elemA_some ht
    obtain ⟨g, hlk, hlive, hv⟩ := r.objv hs ho
    obtain ⟨fp, ⟨hlen, hown⟩, hnd, hF⟩ := r.ok i ob g hlk hlive
    have hcap : ob.els.length ≤ g.cap := by
      rcases hown with h | ⟨_, _, _, _, _, _, _, _, _, _, h, _⟩
      · simp [h.1]
      · exact h
    have hb := run_bounds (P := P) r (isS := true) hl hh h1 h2 hcap
    have hsl := sub_length ob.els h1 h2
    have hrun : (execOp a.eval ⟨dst, .slice t x lx hx none, ty, pos, after, gd⟩).run P w = .ok (.value (.slice (if g.cap = lo then g.a else g.a.map (·.add (lo * ob.n))) (hi - lo) (g.cap - lo))) w := by
      simp [execOp, hv, Instr.sliceAt, Instr.slice, run_underlying hu, hb, sizeOf, typeInfo, hi', hsz]
    have hblk : ∀ a' , (if g.cap = lo then g.a else g.a.map (·.add (lo * ob.n))) = some a' → ∃ a0, g.a = some a0 ∧ a'.block = a0.block := by
      intro a' h
      split at h
      · exact ⟨a', h, rfl⟩
      · cases hga : g.a with
        | none => simp [hga] at h
        | some a0 =>
          simp only [hga, Option.map_some, Option.some.injEq] at h
          refine ⟨a0, rfl, ?_⟩
          rw [← h]; unfold Addr.add; split <;> rfl
    have hm := r.modify hlk hlive { ob with ver := ob.ver + 1, els := (ob.els.take hi).drop lo } ⟨(if g.cap = lo then g.a else g.a.map (·.add (lo * ob.n))), g.cap - lo, g.F⟩ w (by simp) rfl (by simp) (fun b hb => .inl hb) (fun b hb hne => ⟨hb, fun a' ha' => by
        obtain ⟨a0, h0, hbe⟩ := hblk a' ha'
        rw [hbe]; exact hne a0 h0⟩) (fun _ _ _ => rfl) (Nat.le_refl _) (fun k _ => by
      generalize env B (s.o.set i { ob with ver := ob.ver + 1, els := (ob.els.take hi).drop lo }) (G.set i ⟨(if g.cap = lo then g.a else g.a.map (·.add (lo * ob.n))), g.cap - lo, g.F⟩) w = E' at k ⊢
      simp only [ObjOk, hbox, Env.of, Bool.false_eq_true, if_false]
      rw [hbox] at hown
      simp only [Env.of, Bool.false_eq_true, if_false] at hown
      rcases hown with ⟨h, hc0, _⟩ | ⟨b, f, C, ety, fz, fps, ha, hbk, hz, k1, k2, k3, rfl, hr⟩
      · exact ⟨[], ⟨by rw [hsl]; omega, .inl ⟨by rw [h]; simp, by rw [hc0]; simp, rfl⟩⟩, by simp, by simp⟩
      · obtain ⟨f1, f2, f3, rfl, hr'⟩ := Rr_sub h1 h2 hr
        by_cases hc : g.cap = lo
        · exact ⟨[], ⟨by rw [hsl]; omega, .inl ⟨List.eq_nil_of_length_eq_zero (by rw [hsl]; omega), by omega, rfl⟩⟩, by simp, by simp⟩
        · have hsub : f2.Sublist (f1 ++ f2 ++ f3) := (List.sublist_append_right f1 f2).trans (List.sublist_append_left _ _)
          have hmul : (g.cap - lo) * ob.n + lo * ob.n = g.cap * ob.n := by rw [← Nat.add_mul]; congr 1; omega
          refine ⟨b :: f2, ⟨by rw [hsl]; omega, .inr ⟨b, f + lo * ob.n, C, ety, fz, f2, by simp [hc, ha, addr_add], hbk, hz, by omega, by rw [hsl]; omega, by omega, rfl, Rr_keeps k.plain _ _ _ _ _ rfl (fun _ _ => rfl) hr'⟩⟩, ?_, ?_⟩
          · exact List.nodup_cons.2 ⟨fun h => (List.nodup_cons.1 hnd).1 (hsub.subset h), hsub.nodup (List.nodup_cons.1 hnd).2⟩
          · intro x hx
            rcases List.mem_cons.1 hx with rfl | hx
            · exact hF x (by simp)
            · exact hF x (List.mem_cons_of_mem _ (hsub.subset hx)))
    refine ⟨_, w, hrun, _, hm.1.put dst ?_⟩
    simp only [R]
    have hiG : i < G.length := (List.getElem?_eq_some_iff.1 hlk.2).1
    have hio : i < s.o.length := (List.getElem?_eq_some_iff.1 hlk.1).1
    exact ⟨trivial, _, _, ⟨by simp [hio]; rfl, by simp [hiG]; rfl⟩, Nat.le_refl _, fun _ _ => by simp [hsl], fun h => by omega⟩
end
end Go.Aw
