/-
  Proved here: steps towards the statement of this claim, text SPL.
  No condition beyond what each statement spells out.
-/
import Derived.Test.YtonajehhfkkglabGreatF4
import Derived.Test.YtonajehhfkkglabGreatI1
import Derived.Test.YtonajehhfkkglabGreatF8
import Derived.Test.YtonajehhfkkglabGreatF5
set_option linter.all false
set_option maxRecDepth 4000
set_option maxHeartbeats 4000000
namespace Go.Proofs.YtonajehhfkkglabGreat
open Go.Aw
theorem sumN_join {α : Type} (f : α → Nat) : ∀ a b : List α, sumN f (a ++ b) = sumN f a + sumN f b
  | [], b => by simp [sumN]
  | x :: xs, b => by simp only [List.cons_append, sumN, sumN_join f xs b]; omega
theorem cPage_lin (p : DPage) : cPage p ≤ 20 * szPage p + 20 := by
  have h1 := sumN_le_c 3 cToken_le p.queue
  have h2 := sumN_le_c 3 cNode_le p.builder.nodes
  simp only [szPage, szPolicy, szBuilder, szL, cPage, cPolicy, cBuilder, sumN_const]
  omega
theorem page_facts (g : DPage) (hg : szPage g ≤ 1099511627776) : (cPage g ≤ 21990232555540 ∧ g.queue.length ≤ 4611686018427387904) ∧ (∀ x ∈ g.queue, x.attrs.length ≤ 4611686018427387904) ∧ g.builder.nodes.length ≤ 4611686018427387904 ∧ (∀ x ∈ g.builder.nodes, x.attrs.length ≤ 4611686018427387904) := by
  have h := cPage_lin g
  refine ⟨⟨by omega, ?_⟩, ?_, ?_, ?_⟩
  · simp only [szPage, szL] at hg; omega
  · exact attrs_Token (by simp only [szPage, szL] at hg; omega)
  · simp only [szPage, szBuilder, szL] at hg; omega
  · exact attrs_Node (by simp only [szPage, szBuilder, szL] at hg; omega)
end Go.Proofs.YtonajehhfkkglabGreat

set_option maxRecDepth 4000
set_option maxHeartbeats 4000000
namespace Go.Proofs.YtonajehhfkkglabGreat
open Go.Aw
set_option maxRecDepth 100000
theorem insMod_in [Tabs Tryz.prog] (l : List DModule) (m : DModule) (i : Nat) (hi : i < l.length) (hn : l.length ≤ 1099511627776) : OkG Tryz.prog 131 [.give (.sl .own 5 (l.map eModule)), .view (.int .i64 i), .give (.sl .own 5 [eModule m])] (.sl .own 5 ((l.take i ++ m :: l.drop i).map eModule)) := by
  have h := ins_okG (P := Tryz.prog) (f := 131) (n := l.length) (i := i) (k := 5) (l := l.map eModule) (x := eModule m) (by simp) hi (by simp [List.all_map, flatv]) (by simp [flatv])
    (fun w b off c C e fz olds news vb voff vc Cv ev fzv hb hz hc hol h1o hfit hnc hmax hne hvb hzv hcv hnl h1n => by
      by_cases hr : l.length + 1 ≤ c
      · exact insMod_shift w b off l.length c i vb voff vc C Cv e ev fz fzv olds news hi hr hb hz hc hol h1o hfit hmax hne hvb hzv hcv hnl h1n
      · exact insMod_grow w b off l.length c i vb voff vc C Cv e ev fz fzv olds news hi (by omega) hn hb hz hc hol h1o hfit hnc hmax hne hvb hzv hcv hnl h1n)
  rw [← List.map_take, ← List.map_drop, List.append_assoc] at h
  simpa using h
theorem insMod_end [Tabs Tryz.prog] (l : List DModule) (m : DModule) (hn : l.length ≤ 1099511627776) : OkG Tryz.prog 131 [.give (.sl .own 5 (l.map eModule)), .view (.int .i64 l.length), .give (.sl .own 5 [eModule m])] (.sl .own 5 ((l ++ [m]).map eModule)) := by
  have h := ins_okG_end (P := Tryz.prog) (f := 131) (n := l.length) (k := 5) (l := l.map eModule) (x := eModule m) (by simp) (by simp [List.all_map, flatv]) (by simp [flatv])
    (fun w base bb c olds news vb voff vc hol hnc hmax hcv hnl h1n hor => by
      obtain ⟨inf, hinf, hq⟩ := Option.map_eq_some_iff.1 (show (Tryz.prog.info? 133).map (fun i => (i.size, i.bytes)) = some (5, 64) by kernel_rfl)
      obtain ⟨hsz, hby⟩ := Prod.mk.inj hq
      obtain ⟨z, hz0, hzc⟩ := zeroSz_some Tryz.zsz133 hinf
      have hmax2 : c ≤ 9223372036854775807 := hmax
      have holds : ∀ w', w'.heap = w.heap → (Builtin.firstCells inf.size l.length (.slice base l.length c)).run Tryz.prog w' = .ok olds.toArray w' := by
        intro w' hw'
        rcases hor with ⟨h0, h1⟩ | ⟨off, C, e, fz, rfl, hb, hz, hc, hfit⟩
        · rw [h0] at hol ⊢
          obtain rfl := List.eq_nil_of_length_eq_zero (by simpa using hol)
          cases base with
          | none => simp [Builtin.firstCells]
          | some a' => simp [Builtin.firstCells, loadCells, loadCellsFrom]
        · rw [hsz]
          exact firstCells_run hol (hc.heap hw')
      obtain ⟨hroom, hgrow⟩ := run_append (P := Tryz.prog) (w := w) (tS := 48) (xT := 48) (ty := 48) Tryz.underlying48 ⟨_, Tryz.underlying48, fun k h => by cases h⟩ hinf hz0 (base := base) (sLen := l.length) (sCap := c) (n := 1) (x := .slice (some ⟨vb, voff, none⟩) 1 vc)
        (by simp [Builtin.lenOf]) (news := news) (olds := olds) (fun w' hw' => by rw [hsz]; exact firstCells_run (by omega) (hcv.heap hw')) holds (by rw [hby]; omega) (by omega)
      by_cases hr : l.length + 1 ≤ c
      · rcases hor with ⟨h0, h1⟩ | ⟨off, C, e, fz, rfl, hb, hz, hc, hfit⟩
        · omega
        · have hst := run_store_cells (P := Tryz.prog) (off := off + l.length * 5) hb hz (by rw [hnl]; have := Nat.mul_le_mul_right 5 hr; omega) h1n
          have hrun := hroom hr _ (by rw [hsz]; simpa [addr_add] using hst)
          obtain ⟨C', hI⟩ := insd_endroom (k := 5) hb hz hc hol hnl hr hfit hmax
          exact insMod_endRun w _ l.length c vb voff vc _ _ _ hnc hmax2 (fun h => by cases h) (fun ty => hrun) ⟨_, _, _, _, _, _, _, rfl, hI⟩
      · have hrun := hgrow (by omega)
        have hgc := grownCap_ge w (l.length + 1) c 133
        have hgm : grownCap w (l.length + 1) c 133 ≤ maxLen := grownCap_le_maxLen _ _ _ _ (by simp [maxLen]; omega)
        obtain ⟨C', hI⟩ := insd_endgrow (w := w) (b := bb) (n := l.length) (k := 5) (cap := grownCap w (l.length + 1) c 133) (e := 133) (olds := olds) (news := news) (ROW := olds.toArray ++ news.toArray ++ Builtin.zeroCells z.cells (grownCap w (l.length + 1) c 133 - (l.length + 1)))
          (fun j v hv => by
            rw [show olds.toArray ++ news.toArray = (olds ++ news).toArray by simp, Array.getElem?_append_left (by simpa using (List.getElem?_eq_some_iff.1 hv).1)]
            simpa using hv)
          (by simp only [Array.size_append, List.size_toArray, size_zeroCells, hzc, hol, hnl]; omega) hgc hgm
        exact insMod_endRun w _ l.length c vb voff vc _ _ _ hnc hmax2 (fun h => by
          subst h
          rcases hor with ⟨h0, h1⟩ | ⟨off, C, e, fz, h, _⟩
          · exact h0
          · cases h) (fun ty => hrun) ⟨_, _, _, _, _, _, _, rfl, hI⟩)
  simpa using h
theorem insMod_ok [Tabs Tryz.prog] (l : List DModule) (m : DModule) (i : Nat) (hi : i ≤ l.length) (hn : l.length ≤ 1099511627776) : OkG Tryz.prog 131 [.give (.sl .own 5 (l.map eModule)), .view (.int .i64 i), .give (.sl .own 5 [eModule m])] (.sl .own 5 ((l.take i ++ m :: l.drop i).map eModule)) := by
  by_cases h : i < l.length
  · exact insMod_in l m i h hn
  · obtain rfl : i = l.length := by omega
    simpa using insMod_end l m hn
end Go.Proofs.YtonajehhfkkglabGreat

namespace Go.Aw
theorem cmp_val : ∀ a b : List UInt8, Lib.compareBytes a b = if a = b then 0 else if Op.bytesLess a b = true then -1 else 1
  | [], [] => rfl
  | [], _ :: _ => by simp [Lib.compareBytes, Op.bytesLess]
  | _ :: _, [] => by simp [Lib.compareBytes, Op.bytesLess]
  | x :: xs, y :: ys => by
    have ih := cmp_val xs ys
    simp only [Lib.compareBytes, Op.bytesLess]
    by_cases h : x < y
    · have hne : x ≠ y := UInt8.ne_of_lt h
      simp [h, hne]
    · by_cases h2 : y < x
      · have hne : x ≠ y := (UInt8.ne_of_lt h2).symm
        simp [h, h2, hne]
      · have he : x = y := UInt8.le_antisymm (UInt8.not_lt.1 h2) (UInt8.not_lt.1 h)
        subst he
        simp [h, ih]
theorem cmp_zero (a b : List UInt8) : Lib.compareBytes a b = 0 ↔ a = b := by
  rw [cmp_val]
  split
  · simp_all
  · split <;> simp_all
theorem okN_compare {P : Program} [Tabs P] {f : FuncId} {fn : Func} (hf : P.funcs[f]? = some fn) (hname : (fn.name == "runtime.NumGoroutine") = false)
    (hb : fn.body.isNone = true) (hn : Extern.findNext fn = none) (he : Extern.find fn = some Extern.BytealgCompare.compare) (s t : Str) :
    OkN P f [.str s, .str t] (.int .i64 (Lib.compareBytes s t)) := by
  intro w vs h
  obtain ⟨v1, h⟩ : ∃ v : Value, vs = [.string ⟨s.toArray⟩, .string ⟨t.toArray⟩] := by
    cases vs with
    | nil => simp [Rc] at h
    | cons a vs => cases vs with
      | nil => simp [Rc] at h
      | cons b vs => cases vs with
        | nil =>
          simp only [Rc, R] at h
          obtain ⟨f1, f2, h1, h2, h3⟩ := h
          obtain ⟨f3, f4, h4, h5, h6⟩ := h2
          exact ⟨a, by rw [h1.1, h4.1]⟩
        | cons d vs =>
          simp only [Rc, R] at h
          obtain ⟨f1, f2, h1, h2, h3⟩ := h
          obtain ⟨f3, f4, h4, h5, h6⟩ := h2
          simp [Rc] at h5
  subst h
  refine ⟨.int .i64 (Lib.compareBytes s t), w, ?_, rfl, Same.rfl, fun _ _ => by simp [R]⟩
  rw [run_callFunc_extern hf hname hb hn he, show [Value.string ⟨s.toArray⟩, Value.string ⟨t.toArray⟩].toArray = #[Value.string ⟨s.toArray⟩, Value.string ⟨t.toArray⟩] from rfl, Go.Lib.run_compareString]
  rfl
end Go.Aw
