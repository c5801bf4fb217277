/-
  Proved here: steps towards the statement of this claim, text N4.
  No condition beyond what each statement spells out.
-/
import Derived.Test.YtonajehhfkkglaaGreatDoorN3
set_option linter.all false
set_option maxRecDepth 4000
set_option maxHeartbeats 400000
namespace Go.Proofs.YtonajehhfkkglaaGreatDoor
open Go.Aw
def mapL {α β : Type} (f : α → β) (l : List α) : List β := l.map f
@[simp] theorem mapL_nil {α β : Type} (f : α → β) : mapL f [] = [] := rfl
theorem mapL_succ {α β : Type} (f : α → β) (l : List α) (k : Nat) (h : k < l.length) : mapL f (l.take (k + 1)) = mapL f (l.take k) ++ [f l[k]] := by
  simp only [mapL]
  rw [List.take_succ_eq_append_getElem h, List.map_append]
  rfl
theorem mapL_length {α β : Type} (f : α → β) (l : List α) : (mapL f l).length = l.length := List.length_map _
def vS (s : DSlot) : Str := verdictText (kindOfMode s.mode) s.to s.done s.code
def vM (m : DModule) : Str := verdictText 5 m.to m.done m.code
def verdictsOf (p : DPage) : List Str := mapL vS p.slots ++ mapL vM p.mods
theorem specVerdictsOf_ok [Tabs Tryz.prog] (p : DPage) (hl : p.slots.length ≤ 1048576 ∧ sumN szSlot p.slots ≤ 1048576) (hm : p.mods.length ≤ 1048576 ∧ sumN szModule p.mods ≤ 1048576) : Ok Tryz.prog 23 [.agg (ePage .view p)] (.sl .own 1 ((verdictsOf p).map eStr)) := by
  obtain ⟨hl, hls⟩ := hl
  obtain ⟨hm, hms⟩ := hm
  refine ent Tryz.mix Tryz.func23 Tryz.ntmps23 ?_
  have W := trivial
  repeat' first|refine st ?_|(refine nx ?_;refine so ?_)|(refine cx ?_;refine sc (fun hc=>?_) (fun hc=>?_)<;>try exact hc.elim)|(refine lx ?_;refine sp (fun hc=>?_) (fun hc=>?_)<;>try exact hc.elim)|refine sx ?_ ?_|refine sy ?_ ?_|fail
  refine awp_loop' (ι := { q : Nat × Nat // q.1 ≤ p.slots.length ∧ 1 ≤ q.2 }) (fun t o i => ⟨upds t [(3, .obj 1 i.1.2), (4, .int .i64 i.1.1)], o.take 1 ++ [⟨true, false, 1, i.1.2, (mapL vS (p.slots.take i.1.1)).map eStr⟩]⟩)
    (fun i => p.slots.length - i.1.1) ⟨(0, 1), by simp, by first | (simp; done) | (simp only; omega)⟩ (weak_o (by simp) (by simp)) ?_
  rintro ⟨⟨k, v⟩, hk, hv⟩ K1 hK1
  simp only at hk hv
  simp only [upds, List.set_cons_succ, List.set_cons_zero, List.take_succ_cons, List.take_zero, List.cons_append, List.nil_append] at hK1 ⊢
  have hk1 : IntKind.i64.wrap ((k : Int) + 1) = ((k + 1 : Nat) : Int) := by rw [wrap64] <;> omega
  by_cases hlt : k < p.slots.length
  · have hg := List.getElem?_eq_getElem hlt
    have hps := mapL_succ vS p.slots k hlt
    have hpl := mapL_length vS (p.slots.take k)
    have htl : (p.slots.take k).length = k := by simp; omega
    generalize mapL vS (p.slots.take k) = g at *
    have hb1 : (g.length + 1) * 16 ≤ 140737488355328 := by omega
    have hb2 : g.length + 1 ≤ 9223372036854775807 := by omega
    have hb3 : g.length ≤ 9223372036854775806 := by omega
    have hz := sumN_get_le szSlot p.slots k hlt
    have c1 := specKindOfMode_ok p.slots[k].mode
    have c2 := specVerdict_ok (kindOfMode p.slots[k].mode) p.slots[k].to p.slots[k].done p.slots[k].code (by simp only [szSlot] at hz; omega)
    simp only [eAddr] at c2
    have W := And.intro hk1 (And.intro hg (And.intro hlt (And.intro hb1 (And.intro hb2 hb3))))
    repeat' first|refine st ?_|(refine nx ?_;refine so ?_)|(refine cx ?_;refine sc (fun hc=>?_) (fun hc=>?_)<;>try exact hc.elim)|(refine lx ?_;refine sp (fun hc=>?_) (fun hc=>?_)<;>try exact hc.elim)|refine sx ?_ ?_|refine sy ?_ ?_|fail
    refine hK1 _ ⟨(k + 1, v + 1), by simp only; omega, by simp only; omega⟩ (weak_take 2 (by simp [hps, vS]) (by simp) (by simp) (by simp)) (by simp only; omega)
  · have htk : p.slots.take k = p.slots := List.take_of_length_le (by omega)
    rw [htk]
    have hL1 := mapL_length vS p.slots
    generalize hG : mapL vS p.slots = G at *
    have W := hk1
    repeat' first|refine st ?_|(refine nx ?_;refine so ?_)|(refine cx ?_;refine sc (fun hc=>?_) (fun hc=>?_)<;>try exact hc.elim)|(refine lx ?_;refine sp (fun hc=>?_) (fun hc=>?_)<;>try exact hc.elim)|refine sx ?_ ?_|refine sy ?_ ?_|fail
    refine awp_loop' (ι := { q : Nat × Nat // q.1 ≤ p.mods.length ∧ 1 ≤ q.2 }) (fun t o i => ⟨upds t [(3, .obj 1 i.1.2), (6, .int .i64 i.1.1)], o.take 1 ++ [⟨true, false, 1, i.1.2, (G ++ mapL vM (p.mods.take i.1.1)).map eStr⟩]⟩)
      (fun i => p.mods.length - i.1.1) ⟨(0, v), by simp, by first | (simp; done) | (simp only; omega)⟩ (weak_o (by simp) (by simp)) ?_
    rintro ⟨⟨k, v⟩, hk, hv⟩ K1 hK1
    simp only at hk hv
    simp only [upds, List.set_cons_succ, List.set_cons_zero, List.take_succ_cons, List.take_zero, List.cons_append, List.nil_append] at hK1 ⊢
    have hk1 : IntKind.i64.wrap ((k : Int) + 1) = ((k + 1 : Nat) : Int) := by rw [wrap64] <;> omega
    by_cases hlt : k < p.mods.length
    · have hg := List.getElem?_eq_getElem hlt
      have hps := mapL_succ vM p.mods k hlt
      have hpl := mapL_length vM (p.mods.take k)
      have htl : (p.mods.take k).length = k := by simp; omega
      generalize mapL vM (p.mods.take k) = g at *
      have hb1 : (G.length + g.length + 1) * 16 ≤ 140737488355328 := by omega
      have hb2 : G.length + g.length + 1 ≤ 9223372036854775807 := by omega
      have hb3 : G.length + g.length ≤ 9223372036854775806 := by omega
      have hz := sumN_get_le szModule p.mods k hlt
      have c2 := specVerdict_ok 5 p.mods[k].to p.mods[k].done p.mods[k].code (by simp only [szModule] at hz; omega)
      simp only [eAddr] at c2
      have W := And.intro hk1 (And.intro hg (And.intro hlt (And.intro hb1 (And.intro hb2 hb3))))
      repeat' first|refine st ?_|(refine nx ?_;refine so ?_)|(refine cx ?_;refine sc (fun hc=>?_) (fun hc=>?_)<;>try exact hc.elim)|(refine lx ?_;refine sp (fun hc=>?_) (fun hc=>?_)<;>try exact hc.elim)|refine sx ?_ ?_|refine sy ?_ ?_|fail
      refine hK1 _ ⟨(k + 1, v + 1), by simp only; omega, by simp only; omega⟩ (weak_take 2 (by simp [hps, vM]) (by simp) (by simp) (by simp)) (by simp only; omega)
    · have htk : p.mods.take k = p.mods := List.take_of_length_le (by omega)
      rw [htk]
      have W := hk1
      repeat' first|refine st ?_|(refine nx ?_;refine so ?_)|(refine cx ?_;refine sc (fun hc=>?_) (fun hc=>?_)<;>try exact hc.elim)|(refine lx ?_;refine sp (fun hc=>?_) (fun hc=>?_)<;>try exact hc.elim)|refine sx ?_ ?_|refine sy ?_ ?_|fail
      all_goals (try (refine ⟨.inr rfl, ?_⟩; simp [Hands, Tryz.results23, verdictsOf]))
      all_goals first | (rw [← List.map_append]; exact clean_eStr _) | (simp [hG]; rw [← List.map_append]; exact clean_eStr _) | fail
theorem implVerdictsOf_ok [Tabs Tryz.prog] (p : DPage) (hl : p.slots.length ≤ 1048576 ∧ sumN szSlot p.slots ≤ 1048576) (hm : p.mods.length ≤ 1048576 ∧ sumN szModule p.mods ≤ 1048576) : Ok Tryz.prog 36 [.agg (ePage .view p)] (.sl .own 1 ((verdictsOf p).map eStr)) := by
  obtain ⟨hl, hls⟩ := hl
  obtain ⟨hm, hms⟩ := hm
  refine ent Tryz.mix Tryz.func36 Tryz.ntmps36 ?_
  have W := trivial
  repeat' first|refine st ?_|(refine nx ?_;refine so ?_)|(refine cx ?_;refine sc (fun hc=>?_) (fun hc=>?_)<;>try exact hc.elim)|(refine lx ?_;refine sp (fun hc=>?_) (fun hc=>?_)<;>try exact hc.elim)|refine sx ?_ ?_|refine sy ?_ ?_|fail
  refine awp_loop' (ι := { q : Nat × Nat // q.1 ≤ p.slots.length ∧ 1 ≤ q.2 }) (fun t o i => ⟨upds t [(3, .obj 1 i.1.2), (12, .int .i64 i.1.1)], o.take 1 ++ [⟨true, false, 1, i.1.2, (mapL vS (p.slots.take i.1.1)).map eStr⟩]⟩)
    (fun i => p.slots.length - i.1.1) ⟨(0, 1), by simp, by first | (simp; done) | (simp only; omega)⟩ (weak_o (by simp) (by simp)) ?_
  rintro ⟨⟨k, v⟩, hk, hv⟩ K1 hK1
  simp only at hk hv
  simp only [upds, List.set_cons_succ, List.set_cons_zero, List.take_succ_cons, List.take_zero, List.cons_append, List.nil_append] at hK1 ⊢
  have hk1 : IntKind.i64.wrap ((k : Int) + 1) = ((k + 1 : Nat) : Int) := by rw [wrap64] <;> omega
  by_cases hlt : k < p.slots.length
  · have hg := List.getElem?_eq_getElem hlt
    have hps := mapL_succ vS p.slots k hlt
    have hpl := mapL_length vS (p.slots.take k)
    have htl : (p.slots.take k).length = k := by simp; omega
    generalize mapL vS (p.slots.take k) = g at *
    have hb1 : (g.length + 1) * 16 ≤ 140737488355328 := by omega
    have hb2 : g.length + 1 ≤ 9223372036854775807 := by omega
    have hb3 : g.length ≤ 9223372036854775806 := by omega
    have hz := sumN_get_le szSlot p.slots k hlt
    have c1 := implKindOfMode_ok p.slots[k].mode
    have c2 := implVerdict_ok (kindOfMode p.slots[k].mode) p.slots[k].to p.slots[k].done p.slots[k].code (by simp only [szSlot] at hz; omega)
    simp only [eAddr] at c2
    have W := And.intro hk1 (And.intro hg (And.intro hlt (And.intro hb1 (And.intro hb2 hb3))))
    repeat' first|refine st ?_|(refine nx ?_;refine so ?_)|(refine cx ?_;refine sc (fun hc=>?_) (fun hc=>?_)<;>try exact hc.elim)|(refine lx ?_;refine sp (fun hc=>?_) (fun hc=>?_)<;>try exact hc.elim)|refine sx ?_ ?_|refine sy ?_ ?_|fail
    refine hK1 _ ⟨(k + 1, v + 1), by simp only; omega, by simp only; omega⟩ (weak_take 2 (by simp [hps, vS]) (by simp) (by simp) (by simp)) (by simp only; omega)
  · have htk : p.slots.take k = p.slots := List.take_of_length_le (by omega)
    rw [htk]
    have hL1 := mapL_length vS p.slots
    generalize hG : mapL vS p.slots = G at *
    have W := hk1
    repeat' first|refine st ?_|(refine nx ?_;refine so ?_)|(refine cx ?_;refine sc (fun hc=>?_) (fun hc=>?_)<;>try exact hc.elim)|(refine lx ?_;refine sp (fun hc=>?_) (fun hc=>?_)<;>try exact hc.elim)|refine sx ?_ ?_|refine sy ?_ ?_|fail
    refine awp_loop' (ι := { q : Nat × Nat // q.1 ≤ p.mods.length ∧ 1 ≤ q.2 }) (fun t o i => ⟨upds t [(3, .obj 1 i.1.2), (33, .int .i64 i.1.1)], o.take 1 ++ [⟨true, false, 1, i.1.2, (G ++ mapL vM (p.mods.take i.1.1)).map eStr⟩]⟩)
      (fun i => p.mods.length - i.1.1) ⟨(0, v), by simp, by first | (simp; done) | (simp only; omega)⟩ (weak_o (by simp) (by simp)) ?_
    rintro ⟨⟨k, v⟩, hk, hv⟩ K1 hK1
    simp only at hk hv
    simp only [upds, List.set_cons_succ, List.set_cons_zero, List.take_succ_cons, List.take_zero, List.cons_append, List.nil_append] at hK1 ⊢
    have hk1 : IntKind.i64.wrap ((k : Int) + 1) = ((k + 1 : Nat) : Int) := by rw [wrap64] <;> omega
    by_cases hlt : k < p.mods.length
    · have hg := List.getElem?_eq_getElem hlt
      have hps := mapL_succ vM p.mods k hlt
      have hpl := mapL_length vM (p.mods.take k)
      have htl : (p.mods.take k).length = k := by simp; omega
      generalize mapL vM (p.mods.take k) = g at *
      have hb1 : (G.length + g.length + 1) * 16 ≤ 140737488355328 := by omega
      have hb2 : G.length + g.length + 1 ≤ 9223372036854775807 := by omega
      have hb3 : G.length + g.length ≤ 9223372036854775806 := by omega
      have hz := sumN_get_le szModule p.mods k hlt
      have c2 := implVerdict_ok 5 p.mods[k].to p.mods[k].done p.mods[k].code (by simp only [szModule] at hz; omega)
      simp only [eAddr] at c2
      have W := And.intro hk1 (And.intro hg (And.intro hlt (And.intro hb1 (And.intro hb2 hb3))))
      repeat' first|refine st ?_|(refine nx ?_;refine so ?_)|(refine cx ?_;refine sc (fun hc=>?_) (fun hc=>?_)<;>try exact hc.elim)|(refine lx ?_;refine sp (fun hc=>?_) (fun hc=>?_)<;>try exact hc.elim)|refine sx ?_ ?_|refine sy ?_ ?_|fail
      refine hK1 _ ⟨(k + 1, v + 1), by simp only; omega, by simp only; omega⟩ (weak_take 2 (by simp [hps, vM]) (by simp) (by simp) (by simp)) (by simp only; omega)
    · have htk : p.mods.take k = p.mods := List.take_of_length_le (by omega)
      rw [htk]
      have W := hk1
      repeat' first|refine st ?_|(refine nx ?_;refine so ?_)|(refine cx ?_;refine sc (fun hc=>?_) (fun hc=>?_)<;>try exact hc.elim)|(refine lx ?_;refine sp (fun hc=>?_) (fun hc=>?_)<;>try exact hc.elim)|refine sx ?_ ?_|refine sy ?_ ?_|fail
      all_goals (try (refine ⟨.inr rfl, ?_⟩; simp [Hands, Tryz.results36, verdictsOf]))
      all_goals first | (rw [← List.map_append]; exact clean_eStr _) | (simp [hG]; rw [← List.map_append]; exact clean_eStr _) | fail
end Go.Proofs.YtonajehhfkkglaaGreatDoor
