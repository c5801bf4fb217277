/-
  Proved here: steps of single operations, seventh part.
  No condition beyond what each statement spells out.
-/
import Derived.Test.YtbbefoefjmgnoaaAwSteps6
set_option linter.all false
namespace Go.Aw

def AS.built (s : AS) (d : Option Tmp) (n : Nat) (xs : List Operand) : AS :=
  AS.put ⟨s.t, (kills (usesc (xs.map s.ev)) (s.o ++ [⟨true, false, n, 0, []⟩])).set s.o.length ⟨true, false, n, 1, (resc s.o (xs.map s.ev)).map AV.cells⟩⟩ d (.obj s.o.length 1)

/-- The parts of a literal, in their order. -/
def inOrder (parts : List (Nat × Operand)) : Bool := go 0 parts
where go : Nat → List (Nat × Operand) → Bool
  | _, [] => true
  | k, p :: r => p.1 == k && go (k + 1) r

theorem inOrder_go : ∀ (parts : List (Nat × Operand)) (k : Nat), inOrder.go k parts = true → parts = ((parts.map (·.2)).zipIdx k).map fun p => (p.2, p.1)
  | [], _, _ => rfl
  | p :: r, k, h => by
    simp only [inOrder.go, Bool.and_eq_true, beq_iff_eq] at h
    simp only [List.map_cons, List.zipIdx_cons]
    rw [← inOrder_go r (k + 1) h.2, ← h.1]

section
variable {P : Program} {B : Base} {s : AS} {dst : Option Tmp} {ty : TypeId} {pos : String} {after : Array Edge} {gd : Option (Nat × Bool)}

theorem run_buildSlice {t e : TypeId} {n by' len : Nat} {vs : List Value} {w : World} (he : elemA P t = some (e, n, by')) (hz : zeroSz P e n = true) (hlen : len = vs.length) (hbig : len * n ≤ 16777216) (hv : ∀ v ∈ vs, v.cells.size = n) :
    (Instr.buildSlice t len ((vs.zipIdx).map fun p => (p.2, p.1)).toArray).run P w = .ok (.slice (some ⟨w.heap.size, 0, none⟩) len len) (w.alloc (.cells (vs.flatMap fun v => v.cells.toList).toArray e)) := by
  obtain ⟨hu, inf, hi, hs, _⟩ := elemA_some he
  obtain ⟨z, hz1, hz2⟩ := zeroSz_some hz hi
  have hb : ¬ (16777216 < len * inf.size) := by rw [hs]; omega
  have hf : ∀ arr : Array Value, arr.size = len * n → Instr.fill (fun i => some (i * inf.size, inf.size)) arr ((vs.zipIdx).map fun p => (p.2, p.1)) = some (vs.flatMap fun v => v.cells.toList).toArray := by
    intro arr ha
    have := fill_rows inf.size vs 0 [] arr.toList (by rw [hs]; exact hv) (by simp) (by simp [ha, hs, hlen])
    simpa using this
  by_cases h0 : len * inf.size = 0
  · have := hf #[] (by rw [← hs, h0]; rfl)
    simp [Instr.buildSlice, run_underlying hu, sizeOf, typeInfo, hi, h0, Array.range_zero', this, newRow]
  · have := hf ((Array.range (len * inf.size)).map (z.cells[· % z.cells.size]!)) (by simp [hs])
    simp [Instr.buildSlice, run_underlying hu, sizeOf, typeInfo, hi, hb, h0, zeroValue, hz1, this, newRow]

theorem step_buildSlice (t : TypeId) (len : Nat) (parts : Array (Nat × Operand)) {e : TypeId} {n by' : Nat} (he : elemA P t = some (e, n, by')) (hz : zeroSz P e n = true) (hord : inOrder parts.toList = true) (hlen : len = parts.toList.length) (hbig : len * n ≤ 16777216) (hl24 : len ≤ 16777216)
    (hok : resOkc s.o ((parts.toList.map (·.2)).map s.ev) = true) (hu : (usesc ((parts.toList.map (·.2)).map s.ev)).Nodup)
    (hgood : ∀ x ∈ resc s.o ((parts.toList.map (·.2)).map s.ev), x.good = true ∧ x.cells.length = n) :
    Step P B ⟨dst, .buildSlice t len parts, ty, pos, after, gd⟩ s (s.built dst n (parts.toList.map (·.2))) :=
  step_val fun G a w r => by
    generalize hxs : parts.toList.map (·.2) = xs at *
    have hparts : parts.toList = (xs.zipIdx).map fun p => (p.2, p.1) := by rw [← hxs]; exact inOrder_go _ 0 hord
    obtain ⟨fp, hrc, hnd, hOf⟩ := Rc_res r _ _ hok hu (Rc_map_ev r xs)
    obtain ⟨hrv, hsz⟩ := Rc_rows hrc hgood
    have hvl : (xs.map a.eval).length = len := by rw [hlen, ← hxs]; simp
    have hrun : (execOp a.eval ⟨dst, .buildSlice t len parts, ty, pos, after, gd⟩).run P w = .ok (.value (.slice (some ⟨w.heap.size, 0, none⟩) len len)) (w.alloc (.cells ((xs.map a.eval).flatMap fun v => v.cells.toList).toArray e)) := by
      have e1 : parts.map (fun (i, x) => (i, a.eval x)) = (((xs.map a.eval).zipIdx).map fun p => (p.2, p.1)).toArray := by
        apply Array.ext'
        simp only [Array.toList_map, hparts, List.map_map, List.zipIdx_map]
        rfl
      have := run_buildSlice (P := P) (t := t) (len := len) (w := w) he hz hvl.symm hbig hsz
      simp only [execOp, e1, Sem.run_bind, this, Result.andThen_ok, Sem.run_pure]
    -- an empty object, then what is used, then its rows
    have hadd := r.add [⟨true, false, n, 0, []⟩] [⟨none, 0, fun _ => False⟩] w rfl (Nat.le_refl _) (fun _ _ => rfl) (fun j ob g b hl _ hF => by
      cases j with
      | zero => obtain ⟨_, h2⟩ := hl; simp at h2; subst h2; exact hF.elim
      | succ j => simp [Aw.look] at hl) (fun i j _ _ gi _ b hi hj _ _ hfi _ => by
      cases i with
      | zero => obtain ⟨_, h2⟩ := hi; simp at h2; subst h2; exact hfi.elim
      | succ i => simp [Aw.look] at hi) (fun k j ob g hl _ => by
      cases j with
      | zero =>
        obtain ⟨h1, h2⟩ := hl
        simp at h1 h2
        subst h1; subst h2
        exact ⟨[], ⟨by simp, .inl ⟨rfl, rfl, rfl⟩⟩, by simp, by simp⟩
      | succ j => simp [Aw.look] at hl)
    have hlk : Aw.look (s.o ++ [⟨true, false, n, 0, []⟩]) (G ++ [⟨none, 0, fun _ => False⟩]) s.o.length ⟨true, false, n, 0, []⟩ ⟨none, 0, fun _ => False⟩ := ⟨by simp, by rw [← r.len]; simp⟩
    have hlive : ∀ j ∈ usesc (xs.map s.ev), ∃ ob, s.o[j]? = some ob ∧ ob.live = true := fun j hj => resOkc_live hok j hj
    have hlt : ∀ j ∈ usesc (xs.map s.ev), j < s.o.length := fun j hj => by obtain ⟨ob, h, _⟩ := hlive j hj; exact (List.getElem?_eq_some_iff.1 h).1
    obtain ⟨G2, g2, r2, k2, hlk2, ha2, hc2, hF2⟩ := Rel'.transfers (k := s.o.length) (ok := ⟨true, false, n, 0, []⟩) rfl _ hadd.1 hlk hu (fun h => by have := hlt _ h; omega) (fun j hj => by
      obtain ⟨ob, h1, h2⟩ := hlive j hj
      exact ⟨ob, by simp only; rw [List.getElem?_append_left (hlt j hj)]; exact h1, h2⟩)
    have hOf2 : ∀ b ∈ fp, g2.F b := fun b hb => by
      obtain ⟨i, ob, g, hi, hli, hil, hf⟩ := hOf b hb
      exact (hF2 b).2 (.inr ⟨i, ob, g, hi, look_app_left hli, hil, hf⟩)
    have kk := (hadd.2.trans k2).plain
    have hfl : ∀ b ∈ fp, b < w.heap.size := fun b hb => (r2.fresh _ _ _ b hlk2 rfl (hOf2 b hb)).2
    generalize hCd : ((xs.map a.eval).flatMap fun v => v.cells.toList) = cs at *
    have hcl := Rv_length hrv
    have hself : (w.alloc (.cells cs.toArray e)).heap[w.heap.size]? = some (.cells cs.toArray e) := heap_alloc_self w _
    have hrl : ((resc s.o (xs.map s.ev)).map AV.cells).length = len := by
      have := Rc_length hrc
      rw [List.length_map, ← this, hvl]
    have hlm : len ≤ maxLen := by simp only [maxLen]; omega
    have hm := r2.modify hlk2 rfl ⟨true, false, n, 1, (resc s.o (xs.map s.ev)).map AV.cells⟩ ⟨some ⟨w.heap.size, 0, none⟩, len, fun b => g2.F b ∨ b = w.heap.size⟩ (w.alloc (.cells cs.toArray e)) (by simp) rfl (by simp)
      (fun b hb => by
        rcases hb with hb | hb
        · exact .inl hb
        · right; subst hb; simp) (fun b hb hne => ⟨.inl hb, fun a' ha' => by
          obtain rfl := Option.some.inj ha'
          have := (r2.fresh _ _ _ b hlk2 rfl hb).2
          simp only; omega⟩) (fun b hlt _ => heap_alloc w _ b hlt) (by simp) (fun k _ => by
      refine ⟨w.heap.size :: fp, ?_, ?_, ?_⟩
      · generalize env B _ _ (w.alloc (.cells cs.toArray e)) = E' at k ⊢
        simp only [Env.of, Bool.false_eq_true, if_false]
        refine ⟨by rw [hrl]; exact hlm, .inr ⟨w.heap.size, 0, cs.toArray, e, (0, 0), fp, rfl, hself, .inr rfl, ?_, by rw [hrl]; exact Nat.le_refl _, hlm, rfl, ?_⟩⟩
        · simp [hcl]
          rw [← hrl]; simp
        · refine Rr_iff.2 ⟨cs, Rv_keeps k.plain (fun b hb => heap_alloc w _ b (hfl b hb)) (Rv_keeps kk (fun _ _ => rfl) hrv), ?_⟩
          refine cellsAt_block hself (fun j v hv => by simpa using hv)
      · refine List.nodup_cons.2 ⟨fun h => by have := hfl _ h; omega, hnd⟩
      · intro b hb
        rcases List.mem_cons.1 hb with rfl | hb
        · exact .inr rfl
        · exact .inl (hOf2 b hb))
    refine ⟨_, _, hrun, _, hm.1.put dst ?_⟩
    simp only [R]
    have h1 := (List.getElem?_eq_some_iff.1 hlk2.1).1
    have h2 := (List.getElem?_eq_some_iff.1 hlk2.2).1
    refine ⟨trivial, ⟨true, false, n, 1, (resc s.o (xs.map s.ev)).map AV.cells⟩, ⟨some ⟨w.heap.size, 0, none⟩, len, fun b => g2.F b ∨ b = w.heap.size⟩, ⟨?_, ?_⟩, Nat.le_refl _, ⟨fun _ _ => by simp only [hrl], fun h => by omega⟩⟩
    · rw [List.getElem?_set_self h1]
    · rw [List.getElem?_set_self h2]

/-- The places of a struct's fields. -/
def placesA (P : Program) (t : TypeId) : Option (List (Nat × Nat)) :=
  match P.underlying t with
  | some (.struct fields) => fields.toList.mapM (fun f => (P.info? f.type).map fun i => (f.offset, i.size))
  | _ => none

def fillA (pl : List (Nat × Nat)) : List AV → List (Nat × AV) → Option (List AV)
  | cs, [] => some cs
  | cs, (i, x) :: rest => match pl[i]? with
    | some (off, size) => if x.cells.length = size ∧ off + size ≤ cs.length then fillA pl (cs.take off ++ x.cells ++ cs.drop (off + size)) rest else none
    | none => none

theorem fill_ok {G : List CO} {a : Act} {w : World} (r : Rel' B s G a w) (pl : List (Nat × Nat)) : ∀ (parts : List (Nat × Operand)) (cs : List AV) (vs : List Value) (z : List AV), (∀ p ∈ parts, (s.ev p.2).fit s.o = true) →
    Rc w (env B s.o G w) cs vs [] → (∀ x ∈ vs, x.oneCell' = true) → fillA pl cs (parts.map fun p => (p.1, s.ev p.2)) = some z →
    ∃ vs', Instr.fill (pl.toArray[·]?) vs.toArray (parts.map fun p => (p.1, a.eval p.2)) = some vs'.toArray ∧ Rc w (env B s.o G w) z vs' [] ∧ ∀ x ∈ vs', x.oneCell' = true
  | [], cs, vs, z, _, h, ho, hz => by
    simp only [List.map_nil, fillA, Option.some.injEq] at hz
    subst hz
    exact ⟨vs, rfl, h, ho⟩
  | (i, x) :: rest, cs, vs, z, hf, h, ho, hz => by
    simp only [List.map_cons, fillA] at hz
    cases hp : pl[i]? with
    | none => simp [hp] at hz
    | some p =>
      obtain ⟨off, size⟩ := p
      simp only [hp] at hz
      split at hz
      · rename_i hc
        have hx := R_cells (hf (i, x) (by simp)) (r.ev x)
        have hxl := Rc_length hx.1
        have hl := Rc_length h
        obtain ⟨f1, f2, e, h1, h2⟩ := Rc_split off h
        obtain ⟨rfl, rfl⟩ : f1 = [] ∧ f2 = [] := by simpa using e.symm
        obtain ⟨f1, f2, e, h3, h4⟩ := Rc_split size h2
        obtain ⟨rfl, rfl⟩ : f1 = [] ∧ f2 = [] := by simpa using e.symm
        rw [List.drop_drop, List.drop_drop] at h4
        have hnew := Rc_append (Rc_append h1 hx.1) h4
        have hvl : (vs.take off).length = off := by simp; omega
        obtain ⟨vs', h5, h6, h7⟩ := fill_ok r pl rest _ (vs.take off ++ (a.eval x).cells.toList ++ vs.drop (off + size)) z (fun p hp => hf p (by simp [hp])) hnew (fun y hy => by
          simp only [List.mem_append] at hy
          rcases hy with (hy | hy) | hy
          · exact ho y (List.mem_of_mem_take hy)
          · exact hx.2.1 y hy
          · exact ho y (List.mem_of_mem_drop hy)) hz
        refine ⟨vs', ?_, h6, h7⟩
        simp only [List.map_cons, Instr.fill]
        have hpa : pl.toArray[i]? = some (off, size) := by simpa using hp
        have hsz : (a.eval x).cells.size = size := by rw [← hc.1, ← hxl]; simp
        simp only [hpa]
        have hcond : ¬ (((a.eval x).cells.size ≠ size) || decide (off + (a.eval x).cells.size > vs.toArray.size)) = true := by
          simp [hsz]; omega
        rw [if_neg (by simpa using hcond)]
        have := foldl_set off (a.eval x).cells.toList 0 (vs.take off) (vs.drop off) (by simpa using hvl) (by simp [hsz]; omega)
        rw [List.take_append_drop] at this
        rw [← Array.foldl_toList, Array.toList_zipIdx, this, ← h5]
        congr 2
        rw [List.drop_drop]
        simp [hsz]
      · cases hz

theorem step_build (t : TypeId) (parts : Array (Nat × Operand)) {pl : List (Nat × Nat)} {z0 z : List AV} (hp : placesA P t = some pl) (hz0 : zeroA P t = some z0) (hf : ∀ p ∈ parts.toList, (s.ev p.2).fit s.o = true)
    (hz : fillA pl z0 (parts.toList.map fun p => (p.1, s.ev p.2)) = some z) : Step P B ⟨dst, .build t parts, ty, pos, after, gd⟩ s (s.put dst (.agg z)) :=
  step_pure fun G a w r => by
    unfold zeroA at hz0
    cases hi : P.info? t with
    | none => simp [hi] at hz0
    | some inf =>
      cases hv : inf.zero with
      | none => simp [hi, hv] at hz0
      | some zv =>
        simp only [hi, hv, Option.bind_some] at hz0
        split at hz0
        · rename_i hall
          obtain rfl := Option.some.inj hz0
          obtain ⟨vs', h1, h2, h3⟩ := fill_ok r pl parts.toList _ zv.cells.toList z hf (Rc_ofV w _ _) (List.all_eq_true.1 hall) hz
          refine ⟨.agg vs'.toArray, ?_, by simp only [R]; exact ⟨vs', rfl, h3, h2⟩⟩
          unfold placesA at hp
          split at hp
          · rename_i fields hu
            have hb : P.built t (parts.map fun p => (p.1, a.eval p.2)).toList = some vs'.toArray := by
              simp only [Program.built, hi, hu, hv, hp]
              rw [Array.toList_map, ← h1]
            have hrun := run_build (P := P) w t (parts.map fun p => (p.1, a.eval p.2)) vs'.toArray hb
            simp only [execOp, Sem.run_bind]
            rw [show (parts.map fun (x : Nat × Operand) => match x with | (i, x) => (i, a.eval x)) = parts.map fun p => (p.1, a.eval p.2) from rfl, hrun]
            rfl
          · cases hp
        · cases hz0

theorem madeCells_get (z : Array Value) (n j : Nat) (hj : j < n) : (madeCells z n)[j]? = some (z[j % z.size]!) := by
  simp [madeCells, hj]

theorem Rv_replicate {w : World} {E : Env} {c : List AV} {cs : List Value} {n : Nat} (hn : cs.length = n) (ho : ∀ x ∈ cs, x.oneCell' = true) (hr : Rc w E c cs []) : ∀ m, Rv w E (List.replicate m c) (List.replicate m cs).flatten n []
  | 0 => by simp [Rv]
  | m + 1 => by
    simp only [List.replicate_succ, List.flatten_cons, Rv]
    exact ⟨cs, _, [], [], rfl, hn, ho, hr, Rv_replicate hn ho hr m, rfl⟩

theorem flatten_replicate_get (cs : List Value) : ∀ (m j : Nat), j < m * cs.length → (List.replicate m cs).flatten[j]? = cs[j % cs.length]?
  | 0, j, h => by simp at h
  | m + 1, j, h => by
    simp only [List.replicate_succ, List.flatten_cons]
    by_cases hj : j < cs.length
    · rw [List.getElem?_append_left hj, Nat.mod_eq_of_lt hj]
    · rw [List.getElem?_append_right (by omega), flatten_replicate_get cs m (j - cs.length) (by rw [Nat.add_mul] at h; omega)]
      congr 1
      exact (Nat.mod_eq_sub_mod (by omega)).symm

def AS.made (s : AS) (d : Option Tmp) (n : Nat) (l : List (List AV)) : AS := AS.put ⟨s.t, s.o ++ [⟨true, false, n, 1, l⟩]⟩ d (.obj s.o.length 1)

theorem step_makeSlice (t : TypeId) (x y : Operand) {e : TypeId} {n by' : Nat} {k k' : IntKind} {l c : Int} {z : List AV} (he : elemA P t = some (e, n, by')) (hz : zeroA P e = some z) (hzn : zeroSz P e n = true) (hx : s.ev x = .int k l) (hy : s.ev y = .int k' c)
    (h0 : 0 ≤ l) (h1 : l ≤ c) (hb : (by' : Int) * c ≤ 281474976710656) (h63 : c ≤ 9223372036854775807) (hn0 : 0 < n) :
    Step P B ⟨dst, .makeSlice t x y, ty, pos, after, gd⟩ s (s.made dst n (List.replicate l.toNat z)) :=
  step_val fun G a w r => by
    obtain ⟨hu, inf, hi, hs, hby⟩ := elemA_some he
    obtain ⟨zv, hz1, hz2⟩ := zeroSz_some hzn hi
    have hrun := run_make (P := P) w t e inf zv hu hi hz1 k k' l c h0 h1 (by rw [hby]; exact hb) h63
    unfold zeroA at hz
    simp only [hi, hz1, Option.bind_some] at hz
    split at hz
    · rename_i hall
      obtain rfl := Option.some.inj hz
      have hzl : zv.cells.toList.length = n := by simpa using hz2
      obtain ⟨G', r', k', hG⟩ := r.add1 ⟨true, false, n, 1, List.replicate l.toNat (zv.cells.toList.map ofV)⟩ c.toNat (madeCells zv.cells (c.toNat * inf.size)) e (by simp; omega) (by simp [maxLen]; omega) (by simp [size_madeCells, hs]) (fun w' E' k hb => by
        refine Rr_iff.2 ⟨_, Rv_replicate hzl (List.all_eq_true.1 hall) (Rc_ofV w' E' _) l.toNat, ?_⟩
        refine cellsAt_block hb (fun j v hv => ?_)
        have hj := (List.getElem?_eq_some_iff.1 hv).1
        have hfl : (List.replicate l.toNat zv.cells.toList).flatten.length = l.toNat * n := by simp [hz2]
        rw [hfl] at hj
        rw [flatten_replicate_get _ _ _ (by rw [hzl]; exact hj), hzl] at hv
        have hle : l.toNat * n ≤ c.toNat * inf.size := by rw [hs]; exact Nat.mul_le_mul_right _ (by omega)
        rw [Nat.zero_add, madeCells_get _ _ _ (by omega), hz2]
        have hm : j % n < zv.cells.size := by rw [hz2]; exact Nat.mod_lt _ hn0
        rw [getElem!_pos zv.cells (j % n) hm]
        rw [← hv]
        simp [hm])
      refine ⟨.slice (some ⟨w.heap.size, 0, none⟩) l.toNat c.toNat, _, by simp only [execOp, r.intv hx, r.intv hy, Sem.run_bind, hrun, Result.andThen_ok, Sem.run_pure], G', r'.put dst ?_⟩
      simp only [R]
      exact ⟨trivial, _, _, look_last hG, Nat.le_refl _, ⟨fun _ _ => by simp, fun h => by omega⟩⟩
    · cases hz
end
end Go.Aw
