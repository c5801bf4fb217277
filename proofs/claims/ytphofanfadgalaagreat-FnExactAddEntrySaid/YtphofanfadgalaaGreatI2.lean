/-
  Proved here: steps towards the statement of this claim, text I2.
  No condition beyond what each statement spells out.
-/
import Derived.Test.YtphofanfadgalaaGreatI1
import Derived.Test.YtphofanfadgalaaGreatPL
import Derived.Test.YtphofanfadgalaaGreatF8
import Derived.Test.YtphofanfadgalaaGreatF5
set_option linter.all false
set_option linter.unusedSimpArgs false
set_option linter.unusedVariables false
set_option maxRecDepth 4000
set_option maxHeartbeats 4000000
namespace Go.Proofs.YtphofanfadgalaaGreat
open Go.Aw
set_option maxRecDepth 100000
theorem insMod_in [Tabs Tryz.prog] (l : List DModule) (m : DModule) (i : Nat) (hi : i < l.length) (hn : l.length ≤ 1099511627776) : OkG Tryz.prog 37 [.give (.sl .own 5 (l.map eModule)), .view (.int .i64 i), .give (.sl .own 5 [eModule m])] (.sl .own 5 ((l.take i ++ m :: l.drop i).map eModule)) := by
  have h := ins_okG (P := Tryz.prog) (f := 37) (n := l.length) (i := i) (k := 5) (l := l.map eModule) (x := eModule m) (by simp) hi (by simp [List.all_map, flatv]) (by simp [flatv])
    (fun w b off c C e fz olds news vb voff vc Cv ev fzv hb hz hc hol h1o hfit hnc hmax hne hvb hzv hcv hnl h1n => by
      by_cases hr : l.length + 1 ≤ c
      · exact insMod_shift w b off l.length c i vb voff vc C Cv e ev fz fzv olds news hi hr hb hz hc hol h1o hfit hmax hne hvb hzv hcv hnl h1n
      · exact insMod_grow w b off l.length c i vb voff vc C Cv e ev fz fzv olds news hi (by omega) hn hb hz hc hol h1o hfit hnc hmax hne hvb hzv hcv hnl h1n)
  rw [← List.map_take, ← List.map_drop, List.append_assoc] at h
  simpa using h
theorem insMod_end [Tabs Tryz.prog] (l : List DModule) (m : DModule) (hn : l.length ≤ 1099511627776) : OkG Tryz.prog 37 [.give (.sl .own 5 (l.map eModule)), .view (.int .i64 l.length), .give (.sl .own 5 [eModule m])] (.sl .own 5 ((l ++ [m]).map eModule)) := by
  have h := ins_okG_end (P := Tryz.prog) (f := 37) (n := l.length) (k := 5) (l := l.map eModule) (x := eModule m) (by simp) (by simp [List.all_map, flatv]) (by simp [flatv])
    (fun w base bb c olds news vb voff vc hol hnc hmax hcv hnl h1n hor => by
      obtain ⟨inf, hinf, hq⟩ := Option.map_eq_some_iff.1 (show (Tryz.prog.info? 72).map (fun i => (i.size, i.bytes)) = some (5, 64) by kernel_rfl)
      obtain ⟨hsz, hby⟩ := Prod.mk.inj hq
      obtain ⟨z, hz0, hzc⟩ := zeroSz_some Tryz.zsz72 hinf
      have hmax2 : c ≤ 9223372036854775807 := hmax
      have holds : ∀ w', w'.heap = w.heap → (Builtin.firstCells inf.size l.length (.slice base l.length c)).run Tryz.prog w' = .ok olds.toArray w' := by
        intro w' hw'
        rcases hor with ⟨h0, h1⟩ | ⟨off, C, e, fz, rfl, hb, hz, hc, hfit⟩
        · rw [h0] at hol ⊢
          obtain rfl := List.eq_nil_of_length_eq_zero (by simpa using hol)
          cases base with
          | none => simp [Builtin.firstCells]
          | some a' => simp [Builtin.firstCells, loadCells, loadCellsFrom]
        · rw [hsz]
          exact firstCells_run hol (hc.heap hw')
      obtain ⟨hroom, hgrow⟩ := run_append (P := Tryz.prog) (w := w) (tS := 49) (xT := 49) (ty := 49) Tryz.underlying49 ⟨_, Tryz.underlying49, fun k h => by cases h⟩ hinf hz0 (base := base) (sLen := l.length) (sCap := c) (n := 1) (x := .slice (some ⟨vb, voff, none⟩) 1 vc)
        (by simp [Builtin.lenOf]) (news := news) (olds := olds) (fun w' hw' => by rw [hsz]; exact firstCells_run (by omega) (hcv.heap hw')) holds (by rw [hby]; omega) (by omega)
      by_cases hr : l.length + 1 ≤ c
      · rcases hor with ⟨h0, h1⟩ | ⟨off, C, e, fz, rfl, hb, hz, hc, hfit⟩
        · omega
        · have hst := run_store_cells (P := Tryz.prog) (off := off + l.length * 5) hb hz (by rw [hnl]; have := Nat.mul_le_mul_right 5 hr; omega) h1n
          have hrun := hroom hr _ (by rw [hsz]; simpa [addr_add] using hst)
          obtain ⟨C', hI⟩ := insd_endroom (k := 5) hb hz hc hol hnl hr hfit hmax
          exact insMod_endRun w _ l.length c vb voff vc _ _ _ hnc hmax2 (fun h => by cases h) (fun ty => hrun) ⟨_, _, _, _, _, _, _, rfl, hI⟩
      · have hrun := hgrow (by omega)
        have hgc := grownCap_ge w (l.length + 1) c 72
        have hgm : grownCap w (l.length + 1) c 72 ≤ maxLen := grownCap_le_maxLen _ _ _ _ (by simp [maxLen]; omega)
        obtain ⟨C', hI⟩ := insd_endgrow (w := w) (b := bb) (n := l.length) (k := 5) (cap := grownCap w (l.length + 1) c 72) (e := 72) (olds := olds) (news := news) (ROW := olds.toArray ++ news.toArray ++ Builtin.zeroCells z.cells (grownCap w (l.length + 1) c 72 - (l.length + 1)))
          (fun j v hv => by
            rw [show olds.toArray ++ news.toArray = (olds ++ news).toArray by simp, Array.getElem?_append_left (by simpa using (List.getElem?_eq_some_iff.1 hv).1)]
            simpa using hv)
          (by simp only [Array.size_append, List.size_toArray, size_zeroCells, hzc, hol, hnl]; omega) hgc hgm
        exact insMod_endRun w _ l.length c vb voff vc _ _ _ hnc hmax2 (fun h => by
          subst h
          rcases hor with ⟨h0, h1⟩ | ⟨off, C, e, fz, h, _⟩
          · exact h0
          · cases h) (fun ty => hrun) ⟨_, _, _, _, _, _, _, rfl, hI⟩)
  simpa using h
theorem insMod_ok [Tabs Tryz.prog] (l : List DModule) (m : DModule) (i : Nat) (hi : i ≤ l.length) (hn : l.length ≤ 1099511627776) : OkG Tryz.prog 37 [.give (.sl .own 5 (l.map eModule)), .view (.int .i64 i), .give (.sl .own 5 [eModule m])] (.sl .own 5 ((l.take i ++ m :: l.drop i).map eModule)) := by
  by_cases h : i < l.length
  · exact insMod_in l m i h hn
  · obtain rfl : i = l.length := by omega
    simpa using insMod_end l m hn
end Go.Proofs.YtphofanfadgalaaGreat
