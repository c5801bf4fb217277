/-
  Proved here: steps of single operations, third part.
  No condition beyond what each statement spells out.
-/
import Derived.Test.YtbbefoefjmgnoaaAwSteps2
set_option linter.all false
namespace Go.Aw

def zeroSz (P : Program) (e : TypeId) (n : Nat) : Bool :=
  match (P.info? e).bind (·.zero) with
  | some z => z.cells.size == n
  | none => false

theorem zeroSz_some {P : Program} {e : TypeId} {n : Nat} {inf : TypeInfo} (h : zeroSz P e n = true) (hi : P.info? e = some inf) : ∃ z, inf.zero = some z ∧ z.cells.size = n := by
  unfold zeroSz at h
  cases hz : inf.zero with
  | none => simp [hi, hz] at h
  | some z => exact ⟨z, rfl, by simpa [hi, hz] using h⟩

/-- The object to which is appended. -/
def AS.target (s : AS) (n : Nat) : AV → Option (Nat × AObj × AS)
  | .obj i v => match AV.isObj s.o i v with
    | some ob => if ob.box = false ∧ ob.n = n then some (i, ob, s) else none
    | none => none
  | .sl .own _ [] => some (s.o.length, ⟨true, false, n, 0, []⟩, ⟨s.t, s.o ++ [⟨true, false, n, 0, []⟩]⟩)
  | _ => none

/-- What is appended, and the state behind its reading. -/
def AS.source (s : AS) (i n : Nat) : AV → Option (List (List AV) × List AObj)
  | .obj j v => match AV.isObj s.o j v with
    | some ob => if ob.box = false ∧ ob.n = n ∧ j ≠ i then some (ob.els, s.o.set j ob.kill) else none
    | none => none
  | .sl .own _ [] => some ([], s.o)
  | .sl .view m l => if m = n then some (l, s.o) else none
  | .str l => if n = 1 then some (l.map fun u => [.int .u8 u.toNat], s.o) else none
  | _ => none

def AS.appended (s : AS) (o : List AObj) (d : Option Tmp) (i : Nat) (ob : AObj) (l2 : List (List AV)) : AS :=
  AS.put ⟨s.t, o.set i { ob with ver := ob.ver + 1, els := ob.els ++ l2 }⟩ d (.obj i (ob.ver + 1))

/-- The type of what is appended: a slice, or a string. -/
def appendable (P : Program) (t : TypeId) : Bool := match P.underlying t with | some (.slice _) => true | some .string => true | _ => false

theorem appendable_some {P : Program} {t : TypeId} (h : appendable P t = true) : ∃ d, P.underlying t = some d ∧ ∀ k, d ≠ .int k := by
  unfold appendable at h
  split at h
  · exact ⟨_, ‹_›, by simp⟩
  · exact ⟨_, ‹_›, by simp⟩
  · cases h

theorem Rv_str (w : World) (E : Env) : ∀ l : List UInt8, Rv w E (l.map fun u => [.int .u8 u.toNat]) (l.map fun u => .int .u8 u.toNat) 1 []
  | [] => by simp [Rv]
  | u :: t => by
    simp only [List.map_cons, Rv]
    exact ⟨[.int .u8 u.toNat], _, [], [], rfl, rfl, by simp [Value.oneCell'], by simp [Rc, R], Rv_str w E t, rfl⟩

section
variable {P : Program} {B : Base} {s : AS} {dst : Option Tmp} {ty : TypeId} {pos : String} {after : Array Edge} {gd : Option (Nat × Bool)}

theorem Rel'.target {G : List CO} {a : Act} {w : World} (r : Rel' B s G a w) {x : Operand} {n i : Nat} {ob : AObj} {s1 : AS} (ht : s.target n (s.ev x) = some (i, ob, s1)) :
    ∃ G1 g, Rel' B s1 G1 a w ∧ Aw.look s1.o G1 i ob g ∧ ob.live = true ∧ ob.box = false ∧ ob.n = n ∧ a.eval x = .slice g.a ob.els.length g.cap ∧ s1.t = s.t := by
  cases hx : s.ev x with
  | obj j v =>
    rw [hx] at ht
    simp only [AS.target] at ht
    cases ho : AV.isObj s.o j v with
    | none => simp [ho] at ht
    | some o =>
      simp only [ho] at ht
      split at ht
      · rename_i hc
        simp only [Option.some.injEq, Prod.mk.injEq] at ht
        obtain ⟨rfl, rfl, rfl⟩ := ht
        obtain ⟨g, hl, hlive, hv⟩ := r.objv hx ho
        exact ⟨G, g, r, hl, hlive, hc.1, hc.2, hv, rfl⟩
      · cases ht
  | sl g m l =>
    rw [hx] at ht
    cases g with
    | own =>
      cases l with
      | nil =>
        simp only [AS.target, Option.some.injEq, Prod.mk.injEq] at ht
        obtain ⟨rfl, rfl, rfl⟩ := ht
        obtain ⟨ad, cap, hv, _, h⟩ := r.slv hx rfl
        have hcap : cap = 0 := by
          rcases h with h | ⟨_, _, _, h, _⟩
          · exact h.2 rfl
          · exact absurd rfl h
        subst hcap
        have hadd := r.add [⟨true, false, n, 0, []⟩] [⟨ad, 0, fun _ => False⟩] w rfl (Nat.le_refl _) (fun _ _ => rfl) (fun j ob g b hl _ hF => by
          cases j with
          | zero => obtain ⟨_, h2⟩ := hl; simp at h2; subst h2; exact hF.elim
          | succ j => simp [Aw.look] at hl) (fun i j _ _ gi _ b hi hj _ _ hfi _ => by
          cases i with
          | zero => obtain ⟨_, h2⟩ := hi; simp at h2; subst h2; exact hfi.elim
          | succ i => simp [Aw.look] at hi) (fun k j ob g hl _ => by
          cases j with
          | zero =>
            obtain ⟨h1, h2⟩ := hl
            simp at h1 h2
            subst h1; subst h2
            exact ⟨[], ⟨by simp, .inl ⟨rfl, rfl, rfl⟩⟩, by simp, by simp⟩
          | succ j => simp [Aw.look] at hl)
        refine ⟨_, ⟨ad, 0, fun _ => False⟩, hadd.1, ⟨by simp, by rw [← r.len]; simp⟩, rfl, rfl, rfl, ?_, rfl⟩
        simpa using hv
      | cons _ _ => cases ht
    | view => simp [AS.target] at ht
    | dep _ => simp [AS.target] at ht
  | int _ _ => rw [hx] at ht; simp [AS.target] at ht
  | bool _ => rw [hx] at ht; simp [AS.target] at ht
  | str _ => rw [hx] at ht; simp [AS.target] at ht
  | vptr _ _ _ => rw [hx] at ht; simp [AS.target] at ht
  | ptr _ _ _ _ => rw [hx] at ht; simp [AS.target] at ht
  | agg _ => rw [hx] at ht; simp [AS.target] at ht
  | tup _ => rw [hx] at ht; simp [AS.target] at ht
  | fn _ _ => rw [hx] at ht; simp [AS.target] at ht
  | undef => rw [hx] at ht; simp [AS.target] at ht

theorem ev_congr {s s1 : AS} (h : s1.t = s.t) (x : Operand) : s1.ev x = s.ev x := by cases x <;> simp [AS.ev, h]

theorem step_append (tS xT : TypeId) (x y : Operand) {e : TypeId} {n by' i : Nat} {ob : AObj} {s1 : AS} {l2 : List (List AV)} {o2 : List AObj} (he : elemA P tS = some (e, n, by')) (hz : zeroSz P e n = true) (hxt : appendable P xT = true)
    (ht : s.target n (s.ev x) = some (i, ob, s1)) (hs : s1.source i n (s.ev y) = some (l2, o2))
    (hbytes : (ob.els.length + l2.length) * by' ≤ 140737488355328) (h63 : ob.els.length + l2.length ≤ 9223372036854775807) :
    Step P B ⟨dst, .call { callee := .builtin .append, args := #[x, y], argTypes := #[tS, xT] }, ty, pos, after, gd⟩ s (s.appended o2 dst i ob l2) :=
  step_val fun G0 a w r0 => by
    obtain ⟨hu, inf, hi, hsz, hby⟩ := elemA_some he
    obtain ⟨z, hz1, hz2⟩ := zeroSz_some hz hi
    obtain ⟨G, g, r, hl, hlive, hbox, hn, hv, hst⟩ := r0.target ht
    have hev := ev_congr hst y
    rw [← hev] at hs
    have hexec : ∀ {v w'}, (Builtin.append_ #[tS, xT] ty #[.slice g.a ob.els.length g.cap, a.eval y]).run P w = .ok v w' → (execOp a.eval ⟨dst, .call { callee := .builtin .append, args := #[x, y], argTypes := #[tS, xT] }, ty, pos, after, gd⟩).run P w = .ok (.value v) w' := by
      intro v w' h
      simp [execOp, resolve, invoke, builtin, hv, h]
    obtain ⟨fp, hown, hnd, hF⟩ := r.ok i ob g hl hlive
    rw [hbox] at hown
    have fin : ∀ {s2 : AS} {G2 : List CO} {g2 : CO} {news : List Value} {fp2 : List Nat}, Rel' B s2 G2 a w → Aw.look s2.o G2 i ob g2 → g2.a = g.a → g2.cap = g.cap → s2.t = s1.t → s2.o = o2 →
        (Builtin.lenOf (a.eval y)).run P w = .ok l2.length w → (∀ w', w'.heap = w.heap → (Builtin.firstCells ob.n l2.length (a.eval y)).run P w' = .ok news.toArray w') →
        Rv w (env B s2.o G2 w).plain l2 news ob.n fp2 → OwnOk w (env B s2.o G2 w).plain ob.n ob.els g2.a g2.cap fp → (fp ++ fp2).Nodup → (∀ b ∈ fp ++ fp2, g2.F b) →
        ∃ v w', (execOp a.eval ⟨dst, .call { callee := .builtin .append, args := #[x, y], argTypes := #[tS, xT] }, ty, pos, after, gd⟩).run P w = .ok (.value v) w' ∧ Rel B (s.appended o2 dst i ob l2) (a.put dst v) w' := by
      intro s2 G2 g2 news fp2 r2 hl2 ha hc hst2 ho2 hlen hnews hrv hown2 hnd2 hF2
      obtain ⟨v, w', G', hrun, hr', hR⟩ := r2.append (P := P) (ty := ty) hl2 hlive hbox hu (appendable_some hxt) hi hz1 (by rw [hsz, hn]) (by rw [hz2, hn]) hlen hnews hrv hown2 hnd2 hF2 (by rw [hby]; exact hbytes) h63
      rw [ha, hc] at hrun
      refine ⟨v, w', hexec hrun, G', ?_⟩
      have := hr'.put dst hR
      rw [ho2, hst2, hst] at this
      exact this
    cases hy : s1.ev y with
    | obj j ver =>
      rw [hy] at hs
      simp only [AS.source] at hs
      cases ho : AV.isObj s1.o j ver with
      | none => simp [ho] at hs
      | some oj =>
        simp only [ho] at hs
        split at hs
        · rename_i hc
          simp only [Option.some.injEq, Prod.mk.injEq] at hs
          obtain ⟨rfl, rfl⟩ := hs
          obtain ⟨gj, hlj, hlj', hvj⟩ := r.objv hy ho
          have htr := r.transfer (i := i) (j := j) (Ne.symm hc.2.2) hl hlj hlive hlj'
          obtain ⟨fj, hownj, hndj, hFj⟩ := r.ok j oj gj hlj hlj'
          rw [hc.1] at hownj
          obtain ⟨fp2, hfp2s, hfp2n, news, hrv, hnews⟩ : ∃ fp2 : List Nat, (∀ b ∈ fp2, b ∈ fj) ∧ fp2.Nodup ∧ ∃ news, Rv w (env B s1.o G w).plain oj.els news ob.n fp2 ∧ ∀ w', w'.heap = w.heap → (Builtin.firstCells ob.n oj.els.length (.slice gj.a oj.els.length gj.cap)).run P w' = .ok news.toArray w' := by
            have hnn : oj.n = ob.n := by rw [hc.2.1, hn]
            rcases hownj.2 with ⟨h1, h2, h3⟩ | ⟨b, off, C, ety, fz, fps, ha, hb, hz', k1, k2, k3, rfl, hr⟩
            · refine ⟨[], by simp, by simp, [], by rw [h1]; simp [Rv], fun w' _ => ?_⟩
              rw [h1]
              cases hga : gj.a with
              | none => simp [Builtin.firstCells]
              | some a' => simp [Builtin.firstCells, loadCells, loadCellsFrom]
            · obtain ⟨vs, hv', hc'⟩ := Rr_iff.1 hr
              refine ⟨fps, fun b hb => List.mem_cons_of_mem _ hb, (List.nodup_cons.1 hndj).2, vs, by rw [← hnn]; exact hv', fun w' hw' => ?_⟩
              rw [ha, ← hnn]
              exact firstCells_run (Rv_length hv') (hc'.heap hw')
          have hlook2 : Aw.look (s1.o.set j oj.kill) (G.set i { g with F := fun b => g.F b ∨ gj.F b }) i ob { g with F := fun b => g.F b ∨ gj.F b } := by
            refine ⟨by rw [List.getElem?_set_ne hc.2.2]; exact hl.1, ?_⟩
            have := (List.getElem?_eq_some_iff.1 hl.2).1
            simp [this]
          refine fin htr.1 hlook2 rfl rfl rfl rfl (by rw [hvj]; simp [Builtin.lenOf]) (by rw [hvj]; exact hnews) (Rv_keeps htr.2.plain (fun _ _ => rfl) hrv) (hown.keeps htr.2.plain (fun _ _ => rfl)) ?_ ?_
          · refine List.nodup_append.2 ⟨hnd, hfp2n, fun b hb b' hb' e => ?_⟩
            subst e
            exact hc.2.2 (r.apart j i _ _ _ _ b hlj hl hlj' hlive (hFj b (hfp2s b hb')) (hF b hb))
          · intro b hb
            rcases List.mem_append.1 hb with hb | hb
            · exact .inl (hF b hb)
            · exact .inr (hFj b (hfp2s b hb))
        · cases hs
    | sl tg m l =>
      rw [hy] at hs
      have hdone : ∀ {news : List Value}, s1.o = o2 → (Builtin.lenOf (a.eval y)).run P w = .ok l2.length w → (∀ w', w'.heap = w.heap → (Builtin.firstCells ob.n l2.length (a.eval y)).run P w' = .ok news.toArray w') →
          Rv w (env B s1.o G w).plain l2 news ob.n [] → _ := fun {news} h1 h2 h3 h4 => fin (news := news) (fp2 := []) r hl rfl rfl rfl h1 h2 h3 h4 hown (by simpa using hnd) (by simpa using hF)
      cases tg with
      | own =>
        cases l with
        | nil =>
          simp only [AS.source, Option.some.injEq, Prod.mk.injEq] at hs
          obtain ⟨rfl, rfl⟩ := hs
          obtain ⟨ad, cap, hvy, _, _⟩ := r.slv hy rfl
          refine hdone (news := []) rfl (by rw [hvy]; simp [Builtin.lenOf]) (fun w' _ => ?_) (by simp [Rv])
          rw [hvy]
          cases ad with
          | none => simp [Builtin.firstCells]
          | some a' => simp [Builtin.firstCells, loadCells, loadCellsFrom]
        | cons _ _ => cases hs
      | view =>
        simp only [AS.source] at hs
        split at hs
        · rename_i hm
          subst hm
          simp only [Option.some.injEq, Prod.mk.injEq] at hs
          obtain ⟨rfl, rfl⟩ := hs
          obtain ⟨ad, cap, hvy, _, h⟩ := r.slv hy rfl
          rcases h with ⟨rfl, _⟩ | ⟨b, f, rfl, _, _, hr⟩
          · refine hdone (news := []) rfl (by rw [hvy]; simp [Builtin.lenOf]) (fun w' _ => ?_) (by simp [Rv])
            rw [hvy]
            cases ad with
            | none => simp [Builtin.firstCells]
            | some a' => simp [Builtin.firstCells, loadCells, loadCellsFrom]
          · obtain ⟨vs, hv', hc'⟩ := Rr_iff.1 hr
            refine hdone (news := vs) rfl (by rw [hvy]; simp [Builtin.lenOf]) (fun w' hw' => ?_) (by rw [hn]; exact hv')
            rw [hvy, hn]
            exact firstCells_run (Rv_length hv') (hc'.heap hw')
        · cases hs
      | dep _ => cases hs
    | str l =>
      rw [hy] at hs
      simp only [AS.source] at hs
      split at hs
      · rename_i h1
        simp only [Option.some.injEq, Prod.mk.injEq] at hs
        obtain ⟨rfl, rfl⟩ := hs
        have hvy := r.strv hy
        refine fin (news := l.map fun u => .int .u8 u.toNat) (fp2 := []) r hl rfl rfl rfl rfl (by rw [hvy]; simp [Builtin.lenOf, size_mk]) (fun w' _ => ?_) ?_ hown (by simpa using hnd) (by simpa using hF)
        · rw [hvy]
          have : (⟨l.toArray⟩ : ByteArray).extract 0 (l.map fun u => [AV.int .u8 u.toNat]).length = ⟨l.toArray⟩ := by
            have e : (l.map fun u => [AV.int .u8 u.toNat]).length = (⟨l.toArray⟩ : ByteArray).size := by simp [size_mk]
            rw [e, ByteArray.extract_zero_size]
          simp only [Builtin.firstCells, this]
          simp
        · rw [hn, h1]
          exact Rv_str _ _ l
      · cases hs
    | int _ _ => rw [hy] at hs; cases hs
    | bool _ => rw [hy] at hs; cases hs
    | vptr _ _ _ => rw [hy] at hs; cases hs
    | ptr _ _ _ _ => rw [hy] at hs; cases hs
    | agg _ => rw [hy] at hs; cases hs
    | tup _ => rw [hy] at hs; cases hs
    | fn _ _ => rw [hy] at hs; cases hs
    | undef => rw [hy] at hs; cases hs
end
end Go.Aw
