/-
  Proved here: append to an owned slice.
  No condition beyond what each statement spells out.
-/
import Derived.Test.YtbbefoefjmgnoaaAwApp
set_option linter.all false
namespace Go.Aw

theorem heap_drew (w : World) : w.drew.heap = w.heap := rfl

theorem cellsAt_block {w : World} {b off : Nat} {C : Array Value} {e : TypeId} {fz : Nat × Nat} {vs : List Value} (hb : w.heap[b]? = some (.cells C e fz)) (h : ∀ j v, vs[j]? = some v → C[off + j]? = some v) : CellsAt w b off vs := by
  intro j v hv
  simp [World.cell?, hb, h j v hv]

theorem firstCells_run {P : Program} {w : World} {b off m n len cap : Nat} {vs : List Value} (hn : vs.length = m * n) (h : CellsAt w b off vs) :
    (Builtin.firstCells n m (.slice (some ⟨b, off, none⟩) len cap)).run P w = .ok vs.toArray w :=
  run_firstCells_some w n m _ len cap vs hn (fun j v hv => by rw [addr_add]; exact h j v hv)

theorem CellsAt.heap {w w' : World} {b off : Nat} {vs : List Value} (h : CellsAt w b off vs) (hh : w'.heap = w.heap) : CellsAt w' b off vs := h.same (by rw [hh])

/-- The run of an append to an owned row, and what it leaves. -/
theorem Rel'.append {P : Program} {B : Base} {s : AS} {G : List CO} {a : Act} {w : World} (r : Rel' B s G a w) {i : Nat} {ob : AObj} {g : CO} (hl : Aw.look s.o G i ob g) (hlive : ob.live = true) (hbox : ob.box = false)
    {tS xT ty e : TypeId} {inf : TypeInfo} {z : Value} (ht : P.underlying tS = some (.slice e)) (hxt : ∃ d, P.underlying xT = some d ∧ ∀ k, d ≠ .int k) (hi : P.info? e = some inf) (hz : inf.zero = some z) (hsz : inf.size = ob.n) (hzs : z.cells.size = ob.n)
    {x : Value} {l2 : List (List AV)} {news : List Value} {fp fp2 : List Nat} (hlen : (Builtin.lenOf x).run P w = .ok l2.length w)
    (hnews : ∀ w', w'.heap = w.heap → (Builtin.firstCells ob.n l2.length x).run P w' = .ok news.toArray w')
    (hrv : Rv w (env B s.o G w).plain l2 news ob.n fp2) (hown : OwnOk w (env B s.o G w).plain ob.n ob.els g.a g.cap fp) (hnd : (fp ++ fp2).Nodup) (hF : ∀ b ∈ fp ++ fp2, g.F b)
    (hbytes : (ob.els.length + l2.length) * inf.bytes ≤ 140737488355328) (h63 : ob.els.length + l2.length ≤ 9223372036854775807) :
    ∃ v w' G', (Builtin.append_ #[tS, xT] ty #[.slice g.a ob.els.length g.cap, x]).run P w = .ok v w' ∧
      Rel' B ⟨s.t, s.o.set i { ob with ver := ob.ver + 1, els := ob.els ++ l2 }⟩ G' a w' ∧
      R w' (env B (s.o.set i { ob with ver := ob.ver + 1, els := ob.els ++ l2 }) G' w') (.obj i (ob.ver + 1)) v [] := by
  -- the old cells
  obtain ⟨olds, hro, hold⟩ : ∃ olds, Rv w (env B s.o G w).plain ob.els olds ob.n fp.tail ∧
      ∀ w', w'.heap = w.heap → (Builtin.firstCells inf.size ob.els.length (.slice g.a ob.els.length g.cap)).run P w' = .ok olds.toArray w' := by
    rcases hown.2 with ⟨h1, h2, h3⟩ | ⟨b, off, C, ety, fz, fps, ha, hb, hz', h1, h2, h3, rfl, hr⟩
    · subst h3
      refine ⟨[], by simp [h1, Rv], fun w' hw' => ?_⟩
      rw [h1]
      cases hga : g.a with
      | none => simp [Builtin.firstCells]
      | some a' => simp [Builtin.firstCells, loadCells, loadCellsFrom]
    · obtain ⟨vs, hv, hc⟩ := Rr_iff.1 hr
      refine ⟨vs, hv, fun w' hw' => ?_⟩
      rw [ha, hsz]
      exact firstCells_run (Rv_length hv) (hc.heap hw')
  obtain ⟨hroom, hgrow⟩ := run_append (P := P) (w := w) (tS := tS) (xT := xT) (ty := ty) ht hxt hi hz (base := g.a) (sLen := ob.els.length) (sCap := g.cap) (x := x) hlen (by rw [hsz]; exact hnews) hold hbytes h63
  have hR : ∀ {w' : World} {G' : List CO} {g' : CO}, G'[i]? = some g' → (s.o[i]? = some ob) → R w' (env B (s.o.set i { ob with ver := ob.ver + 1, els := ob.els ++ l2 }) G' w') (.obj i (ob.ver + 1)) (.slice g'.a (ob.els.length + l2.length) g'.cap) [] := by
    intro w' G' g' hg' ho
    simp only [R]
    refine ⟨trivial, { ob with ver := ob.ver + 1, els := ob.els ++ l2 }, g', ⟨?_, hg'⟩, Nat.le_refl _, ⟨fun _ _ => by simp, fun h => by omega⟩⟩
    have := (List.getElem?_eq_some_iff.1 ho).1
    simp [this]
  have hiG : i < G.length := (List.getElem?_eq_some_iff.1 hl.2).1
  by_cases hcase : ob.els.length + l2.length ≤ g.cap
  · -- in place
    rcases hown.2 with ⟨h1, h2, h3⟩ | ⟨b, off, C, ety, fz, fps, ha, hb, hz', h1, h2, h3, rfl, hr⟩
    · -- nothing to append, no capacity
      have hl2 : l2 = [] := List.eq_nil_of_length_eq_zero (by omega)
      subst hl2
      have hnw : news = [] := List.eq_nil_of_length_eq_zero (by simpa using Rv_length hrv)
      subst hnw
      have hrun := hroom hcase w (by cases g.a <;> simp [storeCells])
      have hm := r.modify hl hlive { ob with ver := ob.ver + 1, els := ob.els ++ [] } g w (by simp) rfl (by simp) (fun b hb => .inl hb) (fun b hb hne => ⟨hb, hne⟩) (fun _ _ _ => rfl) (Nat.le_refl _) (fun k _ => by
        refine ⟨fp, ?_, (List.nodup_append.1 hnd).1, fun b hb => hF b (by simp [hb])⟩
        generalize env B (s.o.set i { ob with ver := ob.ver + 1, els := ob.els ++ [] }) (G.set i g) w = E' at k ⊢
        have h5 := hown.keeps k.plain (fun _ _ => rfl)
        simpa [hbox, Env.of] using h5)
      refine ⟨_, w, _, hrun, hm.1, ?_⟩
      exact hR (by simp [hiG]) hl.1
    · have hnl := Rv_length hrv
      have hol := Rv_length hro
      have hfit : off + ob.els.length * ob.n + news.length ≤ C.size := by
        rw [hnl, Nat.add_assoc, ← Nat.add_mul]
        exact Nat.le_trans (Nat.add_le_add_left (Nat.mul_le_mul_right _ hcase) _) h1
      have hst := run_store_cells (P := P) hb hz' hfit (Rv_one hrv)
      have hrun := hroom hcase (w.setCells b (off + ob.els.length * ob.n) news) (by rw [ha, hsz]; simpa [addr_add] using hst)
      have hbF : g.F b := hF b (by simp)
      have hother : ∀ b', b' ≠ b → (w.setCells b (off + ob.els.length * ob.n) news).heap[b']? = w.heap[b']? := fun b' hne => heap_setCells b b' hne _ _ _
      obtain ⟨C', hC', hCs⟩ := block_setCells b ety fz news (off + ob.els.length * ob.n) w C hb
      have hm := r.modify hl hlive { ob with ver := ob.ver + 1, els := ob.els ++ l2 } g (w.setCells b (off + ob.els.length * ob.n) news) (by simp) rfl (by simp) (fun b hb => .inl hb) (fun b hb hne => ⟨hb, hne⟩)
        (fun b' hlt hne => hother b' (fun e => hne ⟨e ▸ hbF, ⟨b, off, none⟩, ha, e⟩)) (by rw [size_setCells]; exact Nat.le_refl _) (fun k _ => by
        have hnd' : (b :: fps ++ fp2).Nodup := hnd
        simp only [List.cons_append, List.nodup_cons, List.mem_append, not_or] at hnd'
        refine ⟨b :: (fps ++ fp2), ?_, by simpa using hnd, fun b' hb' => hF b' (by simpa using hb')⟩
        generalize env B (s.o.set i { ob with ver := ob.ver + 1, els := ob.els ++ l2 }) (G.set i g) (w.setCells b (off + ob.els.length * ob.n) news) = E' at k ⊢
        simp only [hbox, Env.of, Bool.false_eq_true, if_false]
        refine ⟨by simp [maxLen]; omega, .inr ⟨b, off, C', ety, fz, fps ++ fp2, ha, hC', by rw [hCs]; exact hz', by rw [hCs]; exact h1, by simpa using hcase, h3, rfl, ?_⟩⟩
        refine Rr_iff.2 ⟨olds ++ news, ?_, CellsAt.append.2 ⟨?_, ?_⟩⟩
        · refine Rv_append (Rv_keeps k.plain (fun b' hb' => hother b' (fun e => hnd'.1.2 (e ▸ hb'))) hrv) (Rv_keeps k.plain (fun b' hb' => hother b' (fun e => hnd'.1.1 (e ▸ hb'))) hro)
        · obtain ⟨vs, hv, hc⟩ := Rr_iff.1 hr
          have hov : olds = vs := by
            have e1 := hold w rfl
            rw [ha, hsz, firstCells_run (Rv_length hv) hc] at e1
            simpa using e1.symm
          subst hov
          intro j v hv
          rw [World.cell?_setCells_out]
          · exact hc j v hv
          · intro _ _
            have : j < olds.length := (List.getElem?_eq_some_iff.1 hv).1
            left; simp only; omega
        · intro j v hv
          have hj : j < news.length := (List.getElem?_eq_some_iff.1 hv).1
          rw [hol]
          have := World.cell?_setCells_in b news (off + ob.els.length * ob.n) w (fun j hj => by
            have : off + ob.els.length * ob.n + j < C.size := by omega
            simp [World.cell?, hb, this]) j hj
          rw [this]
          rw [List.getElem?_eq_getElem hj] at hv
          exact hv)
      refine ⟨_, _, _, hrun, hm.1, ?_⟩
      exact hR (by simp [hiG]) hl.1
  · -- a new array
    have hrun := hgrow (by omega)
    generalize hcap : grownCap w (ob.els.length + l2.length) g.cap e = cap' at hrun
    have hcge : ob.els.length + l2.length ≤ cap' := by rw [← hcap]; exact grownCap_ge _ _ _ _
    have hcle : cap' ≤ maxLen := by rw [← hcap]; exact grownCap_le_maxLen _ _ _ _ (by simp [maxLen]; omega)
    generalize hCd : olds.toArray ++ news.toArray ++ Builtin.zeroCells z.cells (cap' - (ob.els.length + l2.length)) = C at hrun
    have hsame : ∀ b', b' < w.heap.size → (w.drew.alloc (.cells C e)).heap[b']? = w.heap[b']? := fun b' hlt => heap_alloc w.drew _ b' hlt
    have hself : (w.drew.alloc (.cells C e)).heap[w.heap.size]? = some (.cells C e) := heap_alloc_self w.drew _
    have hol := Rv_length hro
    have hnl := Rv_length hrv
    have hCsz : C.size = cap' * ob.n := by
      rw [← hCd]
      simp only [Array.size_append, List.size_toArray, size_zeroCells, hzs, hol, hnl, ← Nat.add_mul]
      congr 1; omega
    have hm := r.modify hl hlive { ob with ver := ob.ver + 1, els := ob.els ++ l2 } ⟨some ⟨w.heap.size, 0, none⟩, cap', fun b => g.F b ∨ b = w.heap.size⟩ (w.drew.alloc (.cells C e)) (by simp) rfl (by simp)
      (fun b hb => by
        rcases hb with hb | hb
        · exact .inl hb
        · right; subst hb; simp) (fun b hb hne => ⟨.inl hb, fun a' ha' => by
          obtain rfl := Option.some.inj ha'
          have := (r.fresh _ _ _ b hl hlive hb).2
          simp only; omega⟩) (fun b hlt _ => hsame b hlt) (by simp) (fun k _ => by
      have hfpl : ∀ b ∈ fp ++ fp2, b < w.heap.size := fun b hb => (r.fresh _ _ _ b hl hlive (hF b hb)).2
      have hsub : ∀ b ∈ fp.tail, b ∈ fp := fun b hb => List.mem_of_mem_tail hb
      have hsubl : (fp.tail ++ fp2).Nodup := by
        cases fp with
        | nil => exact hnd
        | cons c t => simp only [List.cons_append, List.nodup_cons] at hnd; exact hnd.2
      refine ⟨w.heap.size :: (fp.tail ++ fp2), ?_, ?_, ?_⟩
      · generalize env B (s.o.set i { ob with ver := ob.ver + 1, els := ob.els ++ l2 }) (G.set i ⟨some ⟨w.heap.size, 0, none⟩, cap', fun b => g.F b ∨ b = w.heap.size⟩) (w.drew.alloc (.cells C e)) = E' at k ⊢
        simp only [hbox, Env.of, Bool.false_eq_true, if_false]
        refine ⟨by simp [maxLen]; omega, .inr ⟨w.heap.size, 0, C, e, (0, 0), _, rfl, hself, .inr rfl, by simp [hCsz], by simpa using hcge, hcle, rfl, ?_⟩⟩
        refine Rr_iff.2 ⟨olds ++ news, Rv_append (Rv_keeps k.plain (fun b' hb' => hsame b' (hfpl b' (by simp [hb']))) hrv) (Rv_keeps k.plain (fun b' hb' => hsame b' (hfpl b' (List.mem_append_left _ (hsub b' hb')))) hro), ?_⟩
        refine cellsAt_block hself (fun j v hv => ?_)
        rw [← hCd, show olds.toArray ++ news.toArray = (olds ++ news).toArray by simp, Nat.zero_add, Array.getElem?_append_left (by simpa using (List.getElem?_eq_some_iff.1 hv).1)]
        simpa using hv
      · rw [List.nodup_cons]
        refine ⟨fun hmem => ?_, hsubl⟩
        have : w.heap.size < w.heap.size := hfpl _ (by
          rcases List.mem_append.1 hmem with h | h
          · exact List.mem_append_left _ (hsub _ h)
          · exact List.mem_append_right _ h)
        omega
      · intro b hb
        rcases List.mem_cons.1 hb with rfl | hb
        · exact .inr rfl
        · left
          rcases List.mem_append.1 hb with h | h
          · exact hF b (List.mem_append_left _ (hsub _ h))
          · exact hF b (List.mem_append_right _ h))
    refine ⟨_, _, _, hrun, hm.1, ?_⟩
    exact hR (g' := ⟨some ⟨w.heap.size, 0, none⟩, cap', fun b => g.F b ∨ b = w.heap.size⟩) (by simp [hiG]) hl.1
end Go.Aw
