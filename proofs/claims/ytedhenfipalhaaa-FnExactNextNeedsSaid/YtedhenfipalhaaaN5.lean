/-
  Proved here: steps towards the statement of this claim, text N5.
  No condition beyond what each statement spells out.
-/
import Derived.Test.YtedhenfipalhaaaN4
set_option linter.all false
set_option linter.unusedSimpArgs false
set_option linter.unusedVariables false
set_option maxRecDepth 4000
set_option maxHeartbeats 400000
namespace Go.Proofs.Ytedhenfipalhaaa
open Go.Aw
def nextNeeds (p : DPage) : List DRequest := mapL (slotReq p) (places openS 0 p.slots) ++ mapL (modReq p) (places openM 0 p.mods)
theorem specNextNeeds_ok [Tabs Try.prog] (p : DPage) (hl : p.slots.length ≤ 1048576) (hm : p.mods.length ≤ 1048576) : Ok Try.prog 21 [.agg (ePage .view p)] (.sl .own 5 ((nextNeeds p).map eRequest)) := by
  have k1 := specOpenSlots_ok p hl
  have k2 := specOpenMods_ok p hm
  have m1 := places_mem openS p.slots 0
  have m2 := places_mem openM p.mods 0
  have n1 := places_length openS p.slots 0
  have n2 := places_length openM p.mods 0
  unfold nextNeeds
  generalize places openS 0 p.slots = ps at *
  generalize places openM 0 p.mods = pm at *
  refine ent Try.mix Try.func21 Try.ntmps21 ?_
  have W := trivial
  repeat' first|refine st ?_|(refine nx ?_;refine so ?_)|(refine cx ?_;refine sc (fun hc=>?_) (fun hc=>?_)<;>try exact hc.elim)|(refine lx ?_;refine sp (fun hc=>?_) (fun hc=>?_)<;>try exact hc.elim)|refine sx ?_ ?_|refine sy ?_ ?_|fail
  refine awp_loop' (ι := { q : Nat × Nat // q.1 ≤ ps.length ∧ 1 ≤ q.2 }) (fun t o i => ⟨upds t [(3, .obj 1 i.1.2), (5, .int .i64 i.1.1)], o.take 1 ++ [⟨true, false, 5, i.1.2, (mapL (slotReq p) (ps.take i.1.1)).map eRequest⟩] ++ [⟨true, false, 1, 1, ps.map eInt⟩]⟩)
    (fun i => ps.length - i.1.1) ⟨(0, 1), by simp, by first | (simp; done) | (simp only; omega)⟩ (weak_o (by simp) (by simp)) ?_
  rintro ⟨⟨k, v⟩, hk, hv⟩ K1 hK1
  simp only at hk hv
  simp only [upds, List.set_cons_succ, List.set_cons_zero, List.take_succ_cons, List.take_zero, List.cons_append, List.nil_append] at hK1 ⊢
  have hk1 : IntKind.i64.wrap ((k : Int) + 1) = ((k + 1 : Nat) : Int) := by rw [wrap64] <;> omega
  by_cases hlt : k < ps.length
  · have hg := List.getElem?_eq_getElem hlt
    have hps := mapL_succ (slotReq p) ps k hlt
    have hpl := mapL_length (slotReq p) (ps.take k)
    have htl : (ps.take k).length = k := by simp; omega
    generalize mapL (slotReq p) (ps.take k) = g at *
    have hb1 : (g.length + 1) * 72 ≤ 140737488355328 := by omega
    have hb2 : g.length + 1 ≤ 9223372036854775807 := by omega
    have hb3 : g.length ≤ 9223372036854775806 := by omega
    have hz := m1 _ (List.getElem_mem hlt)
    have c1 := specSlotRequest_ok p ps[k] (by omega) (by omega) hl
    simp only [ePage, eRequest] at c1
    have W := And.intro hk1 (And.intro hg (And.intro hlt (And.intro hb1 (And.intro hb2 hb3))))
    repeat' first|refine st ?_|(refine nx ?_;refine so ?_)|(refine cx ?_;refine sc (fun hc=>?_) (fun hc=>?_)<;>try exact hc.elim)|(refine lx ?_;refine sp (fun hc=>?_) (fun hc=>?_)<;>try exact hc.elim)|refine sx ?_ ?_|refine sy ?_ ?_|fail
    refine hK1 _ ⟨(k + 1, v + 1), by simp only; omega, by simp only; omega⟩ (weak_take 3 (by simp [hps]) (by simp) (by simp) (by simp)) (by simp only; omega)
  · have htk : ps.take k = ps := List.take_of_length_le (by omega)
    rw [htk]
    have hL1 := mapL_length (slotReq p) ps
    generalize hG : mapL (slotReq p) ps = G at *
    have W := hk1
    repeat' first|refine st ?_|(refine nx ?_;refine so ?_)|(refine cx ?_;refine sc (fun hc=>?_) (fun hc=>?_)<;>try exact hc.elim)|(refine lx ?_;refine sp (fun hc=>?_) (fun hc=>?_)<;>try exact hc.elim)|refine sx ?_ ?_|refine sy ?_ ?_|fail
    refine awp_loop' (ι := { q : Nat × Nat // q.1 ≤ pm.length ∧ 1 ≤ q.2 }) (fun t o i => ⟨upds t [(3, .obj 1 i.1.2), (7, .int .i64 i.1.1)], o.take 1 ++ [⟨true, false, 5, i.1.2, (G ++ mapL (modReq p) (pm.take i.1.1)).map eRequest⟩] ++ [⟨true, false, 1, 1, ps.map eInt⟩, ⟨true, false, 1, 1, pm.map eInt⟩]⟩)
      (fun i => pm.length - i.1.1) ⟨(0, v), by simp, by first | (simp; done) | (simp only; omega)⟩ (weak_o (by simp) (by simp)) ?_
    rintro ⟨⟨k, v⟩, hk, hv⟩ K1 hK1
    simp only at hk hv
    simp only [upds, List.set_cons_succ, List.set_cons_zero, List.take_succ_cons, List.take_zero, List.cons_append, List.nil_append] at hK1 ⊢
    have hk1 : IntKind.i64.wrap ((k : Int) + 1) = ((k + 1 : Nat) : Int) := by rw [wrap64] <;> omega
    by_cases hlt : k < pm.length
    · have hg := List.getElem?_eq_getElem hlt
      have hps := mapL_succ (modReq p) pm k hlt
      have hpl := mapL_length (modReq p) (pm.take k)
      have htl : (pm.take k).length = k := by simp; omega
      generalize mapL (modReq p) (pm.take k) = g at *
      have hb1 : (G.length + g.length + 1) * 72 ≤ 140737488355328 := by omega
      have hb2 : G.length + g.length + 1 ≤ 9223372036854775807 := by omega
      have hb3 : G.length + g.length ≤ 9223372036854775806 := by omega
      have hz := m2 _ (List.getElem_mem hlt)
      have c1 := specModRequest_ok p pm[k] (by omega) (by omega) hm
      simp only [ePage, eRequest] at c1
      have W := And.intro hk1 (And.intro hg (And.intro hlt (And.intro hb1 (And.intro hb2 hb3))))
      repeat' first|refine st ?_|(refine nx ?_;refine so ?_)|(refine cx ?_;refine sc (fun hc=>?_) (fun hc=>?_)<;>try exact hc.elim)|(refine lx ?_;refine sp (fun hc=>?_) (fun hc=>?_)<;>try exact hc.elim)|refine sx ?_ ?_|refine sy ?_ ?_|fail
      refine hK1 _ ⟨(k + 1, v + 1), by simp only; omega, by simp only; omega⟩ (weak_take 4 (by simp [hps]) (by simp) (by simp) (by simp)) (by simp only; omega)
    · have htk : pm.take k = pm := List.take_of_length_le (by omega)
      rw [htk]
      have W := hk1
      repeat' first|refine st ?_|(refine nx ?_;refine so ?_)|(refine cx ?_;refine sc (fun hc=>?_) (fun hc=>?_)<;>try exact hc.elim)|(refine lx ?_;refine sp (fun hc=>?_) (fun hc=>?_)<;>try exact hc.elim)|refine sx ?_ ?_|refine sy ?_ ?_|fail
      all_goals (try (refine ⟨.inr rfl, ?_⟩; simp [Hands, Try.results21]))
      all_goals first | (rw [← List.map_append]; exact clean_eRequest _) | (simp [hG]; rw [← List.map_append]; exact clean_eRequest _) | fail
theorem implNextNeeds_ok [Tabs Try.prog] (p : DPage) (hl : p.slots.length ≤ 1048576) (hm : p.mods.length ≤ 1048576) : Ok Try.prog 22 [.agg (ePage .view p)] (.sl .own 5 ((nextNeeds p).map eRequest)) := by
  have k1 := implOpenSlots_ok p hl
  have k2 := implOpenMods_ok p hm
  have m1 := places_mem openS p.slots 0
  have m2 := places_mem openM p.mods 0
  have n1 := places_length openS p.slots 0
  have n2 := places_length openM p.mods 0
  unfold nextNeeds
  generalize places openS 0 p.slots = ps at *
  generalize places openM 0 p.mods = pm at *
  refine ent Try.mix Try.func22 Try.ntmps22 ?_
  have W := trivial
  repeat' first|refine st ?_|(refine nx ?_;refine so ?_)|(refine cx ?_;refine sc (fun hc=>?_) (fun hc=>?_)<;>try exact hc.elim)|(refine lx ?_;refine sp (fun hc=>?_) (fun hc=>?_)<;>try exact hc.elim)|refine sx ?_ ?_|refine sy ?_ ?_|fail
  refine awp_loop' (ι := { q : Nat × Nat // q.1 ≤ ps.length ∧ 1 ≤ q.2 }) (fun t o i => ⟨upds t [(3, .obj 1 i.1.2), (12, .int .i64 i.1.1)], o.take 1 ++ [⟨true, false, 5, i.1.2, (mapL (slotReq p) (ps.take i.1.1)).map eRequest⟩] ++ [⟨true, false, 1, 1, ps.map eInt⟩]⟩)
    (fun i => ps.length - i.1.1) ⟨(0, 1), by simp, by first | (simp; done) | (simp only; omega)⟩ (weak_o (by simp) (by simp)) ?_
  rintro ⟨⟨k, v⟩, hk, hv⟩ K1 hK1
  simp only at hk hv
  simp only [upds, List.set_cons_succ, List.set_cons_zero, List.take_succ_cons, List.take_zero, List.cons_append, List.nil_append] at hK1 ⊢
  have hk1 : IntKind.i64.wrap ((k : Int) + 1) = ((k + 1 : Nat) : Int) := by rw [wrap64] <;> omega
  by_cases hlt : k < ps.length
  · have hg := List.getElem?_eq_getElem hlt
    have hps := mapL_succ (slotReq p) ps k hlt
    have hpl := mapL_length (slotReq p) (ps.take k)
    have htl : (ps.take k).length = k := by simp; omega
    generalize mapL (slotReq p) (ps.take k) = g at *
    have hb1 : (g.length + 1) * 72 ≤ 140737488355328 := by omega
    have hb2 : g.length + 1 ≤ 9223372036854775807 := by omega
    have hb3 : g.length ≤ 9223372036854775806 := by omega
    have hz := m1 _ (List.getElem_mem hlt)
    have c1 := implSlotRequest_ok p ps[k] (by omega) (by omega) hl
    simp only [ePage, eRequest] at c1
    have W := And.intro hk1 (And.intro hg (And.intro hlt (And.intro hb1 (And.intro hb2 hb3))))
    repeat' first|refine st ?_|(refine nx ?_;refine so ?_)|(refine cx ?_;refine sc (fun hc=>?_) (fun hc=>?_)<;>try exact hc.elim)|(refine lx ?_;refine sp (fun hc=>?_) (fun hc=>?_)<;>try exact hc.elim)|refine sx ?_ ?_|refine sy ?_ ?_|fail
    refine hK1 _ ⟨(k + 1, v + 1), by simp only; omega, by simp only; omega⟩ (weak_take 3 (by simp [hps]) (by simp) (by simp) (by simp)) (by simp only; omega)
  · have htk : ps.take k = ps := List.take_of_length_le (by omega)
    rw [htk]
    have hL1 := mapL_length (slotReq p) ps
    generalize hG : mapL (slotReq p) ps = G at *
    have W := hk1
    repeat' first|refine st ?_|(refine nx ?_;refine so ?_)|(refine cx ?_;refine sc (fun hc=>?_) (fun hc=>?_)<;>try exact hc.elim)|(refine lx ?_;refine sp (fun hc=>?_) (fun hc=>?_)<;>try exact hc.elim)|refine sx ?_ ?_|refine sy ?_ ?_|fail
    refine awp_loop' (ι := { q : Nat × Nat // q.1 ≤ pm.length ∧ 1 ≤ q.2 }) (fun t o i => ⟨upds t [(3, .obj 1 i.1.2), (26, .int .i64 i.1.1)], o.take 1 ++ [⟨true, false, 5, i.1.2, (G ++ mapL (modReq p) (pm.take i.1.1)).map eRequest⟩] ++ [⟨true, false, 1, 1, ps.map eInt⟩, ⟨true, false, 1, 1, pm.map eInt⟩]⟩)
      (fun i => pm.length - i.1.1) ⟨(0, v), by simp, by first | (simp; done) | (simp only; omega)⟩ (weak_o (by simp) (by simp)) ?_
    rintro ⟨⟨k, v⟩, hk, hv⟩ K1 hK1
    simp only at hk hv
    simp only [upds, List.set_cons_succ, List.set_cons_zero, List.take_succ_cons, List.take_zero, List.cons_append, List.nil_append] at hK1 ⊢
    have hk1 : IntKind.i64.wrap ((k : Int) + 1) = ((k + 1 : Nat) : Int) := by rw [wrap64] <;> omega
    by_cases hlt : k < pm.length
    · have hg := List.getElem?_eq_getElem hlt
      have hps := mapL_succ (modReq p) pm k hlt
      have hpl := mapL_length (modReq p) (pm.take k)
      have htl : (pm.take k).length = k := by simp; omega
      generalize mapL (modReq p) (pm.take k) = g at *
      have hb1 : (G.length + g.length + 1) * 72 ≤ 140737488355328 := by omega
      have hb2 : G.length + g.length + 1 ≤ 9223372036854775807 := by omega
      have hb3 : G.length + g.length ≤ 9223372036854775806 := by omega
      have hz := m2 _ (List.getElem_mem hlt)
      have c1 := implModRequest_ok p pm[k] (by omega) (by omega) hm
      simp only [ePage, eRequest] at c1
      have W := And.intro hk1 (And.intro hg (And.intro hlt (And.intro hb1 (And.intro hb2 hb3))))
      repeat' first|refine st ?_|(refine nx ?_;refine so ?_)|(refine cx ?_;refine sc (fun hc=>?_) (fun hc=>?_)<;>try exact hc.elim)|(refine lx ?_;refine sp (fun hc=>?_) (fun hc=>?_)<;>try exact hc.elim)|refine sx ?_ ?_|refine sy ?_ ?_|fail
      refine hK1 _ ⟨(k + 1, v + 1), by simp only; omega, by simp only; omega⟩ (weak_take 4 (by simp [hps]) (by simp) (by simp) (by simp)) (by simp only; omega)
    · have htk : pm.take k = pm := List.take_of_length_le (by omega)
      rw [htk]
      have W := hk1
      repeat' first|refine st ?_|(refine nx ?_;refine so ?_)|(refine cx ?_;refine sc (fun hc=>?_) (fun hc=>?_)<;>try exact hc.elim)|(refine lx ?_;refine sp (fun hc=>?_) (fun hc=>?_)<;>try exact hc.elim)|refine sx ?_ ?_|refine sy ?_ ?_|fail
      all_goals (try (refine ⟨.inr rfl, ?_⟩; simp [Hands, Try.results22]))
      all_goals first | (rw [← List.map_append]; exact clean_eRequest _) | (simp [hG]; rw [← List.map_append]; exact clean_eRequest _) | fail
end Go.Proofs.Ytedhenfipalhaaa
