/-
  Proved here: steps towards the statement of this claim, text N1.
  No condition beyond what each statement spells out.
-/
import Derived.Test.YtedhenfipalhaaaA0
import Derived.Test.YtedhenfipalhaaaF3
set_option linter.all false
set_option linter.unusedSimpArgs false
set_option linter.unusedVariables false
set_option maxRecDepth 4000
set_option maxHeartbeats 4000000
namespace Go.Proofs.Ytedhenfipalhaaa
open Go.Aw
/-- The places of those that are so. -/
def places {α : Type} (f : α → Bool) : Nat → List α → List Int
  | _, [] => []
  | i, x :: xs => if f x then (i : Int) :: places f (i + 1) xs else places f (i + 1) xs
theorem places_snoc {α : Type} (f : α → Bool) (x : α) : ∀ (l : List α) (i : Nat), places f i (l ++ [x]) = places f i l ++ (if f x then [((i + l.length : Nat) : Int)] else [])
  | [], i => by simp only [List.nil_append, places]; cases f x <;> simp
  | y :: ys, i => by
    simp only [List.cons_append, places]
    rw [places_snoc f x ys (i + 1)]
    have : i + 1 + ys.length = i + (y :: ys).length := by simp; omega
    rw [this]
    cases f y <;> simp
theorem places_succ {α : Type} (f : α → Bool) (l : List α) (k : Nat) (h : k < l.length) : places f 0 (l.take (k + 1)) = places f 0 (l.take k) ++ (if f l[k] then [(k : Int)] else []) := by
  rw [List.take_succ_eq_append_getElem h, places_snoc]
  have : (l.take k).length = k := by simp; omega
  rw [this, Nat.zero_add]
theorem places_length {α : Type} (f : α → Bool) : ∀ (l : List α) (i : Nat), (places f i l).length ≤ l.length
  | [], _ => by simp [places]
  | x :: xs, i => by
    simp only [places]
    have := places_length f xs (i + 1)
    cases f x <;> simp <;> omega
def openS (s : DSlot) : Bool := !s.done
def openM (s : DModule) : Bool := !s.done
def deferS (s : DSlot) : Bool := s.mode == 4

theorem specOpenSlots_ok [Tabs Try.prog] (p : DPage) (hl : p.slots.length ≤ 1048576) : Ok Try.prog 75 [.agg (ePage .view p)] (.sl .own 1 ((places openS 0 p.slots).map eInt)) := by
  refine ent Try.mix Try.func75 Try.ntmps75 ?_
  have W := trivial
  repeat' first|refine st ?_|(refine nx ?_;refine so ?_)|(refine cx ?_;refine sc (fun hc=>?_) (fun hc=>?_)<;>try exact hc.elim)|(refine lx ?_;refine sp (fun hc=>?_) (fun hc=>?_)<;>try exact hc.elim)|refine sx ?_ ?_|refine sy ?_ ?_|fail
  refine awp_loop' (ι := { q : Nat × Nat // q.1 ≤ p.slots.length ∧ 1 ≤ q.2 }) (fun t o i => ⟨upds t [(3, .obj 1 i.1.2), (4, .int .i64 i.1.1)], o.take 1 ++ [⟨true, false, 1, i.1.2, (places openS 0 (p.slots.take i.1.1)).map eInt⟩]⟩)
    (fun i => p.slots.length - i.1.1) ⟨(0, 1), by simp, by simp⟩ (weak_o (by simp [places]) (by simp)) ?_
  rintro ⟨⟨k, v⟩, hk, hv⟩ K1 hK1
  simp only at hk hv
  simp only [upds, List.set_cons_succ, List.set_cons_zero, List.take_succ_cons, List.take_zero, List.cons_append, List.nil_append] at hK1 ⊢
  have hk1 : IntKind.i64.wrap ((k : Int) + 1) = ((k + 1 : Nat) : Int) := by rw [wrap64] <;> omega
  by_cases hlt : k < p.slots.length
  · have hg := List.getElem?_eq_getElem hlt
    have hps := places_succ openS p.slots k hlt
    have hpl := places_length openS (p.slots.take k) 0
    have htl : (p.slots.take k).length = k := by simp; omega
    have hb1 : ((places openS 0 (p.slots.take k)).length + 1) * 8 ≤ 140737488355328 := by omega
    have hb2 : (places openS 0 (p.slots.take k)).length + 1 ≤ 9223372036854775807 := by omega
    have hb3 : (places openS 0 (p.slots.take k)).length ≤ 9223372036854775806 := by omega
    have W := And.intro hk1 (And.intro hg (And.intro hlt (And.intro hb1 (And.intro hb2 hb3))))
    repeat' first|refine st ?_|(refine nx ?_;refine so ?_)|(refine cx ?_;refine sc (fun hc=>?_) (fun hc=>?_)<;>try exact hc.elim)|(refine lx ?_;refine sp (fun hc=>?_) (fun hc=>?_)<;>try exact hc.elim)|refine sx ?_ ?_|refine sy ?_ ?_|fail
    · refine hK1 _ ⟨(k + 1, v + 1), by simp only; omega, by simp only; omega⟩ (weak_take 2 (by simp [hps, openS, hc]) (by simp) (by simp) (by simp)) (by simp only; omega)
    · refine hK1 _ ⟨(k + 1, v), by simp only; omega, hv⟩ (weak_take 2 (by simp [hps, openS, hc]) (by simp) (by simp) (by simp)) (by simp only; omega)
  · have htk : p.slots.take k = p.slots := List.take_of_length_le (by omega)
    rw [htk]
    have W := hk1
    repeat' first|refine st ?_|(refine nx ?_;refine so ?_)|(refine cx ?_;refine sc (fun hc=>?_) (fun hc=>?_)<;>try exact hc.elim)|(refine lx ?_;refine sp (fun hc=>?_) (fun hc=>?_)<;>try exact hc.elim)|refine sx ?_ ?_|refine sy ?_ ?_|fail
    all_goals (try (refine ⟨.inr rfl, ?_⟩; simp [Hands, Try.results75]))

theorem implOpenSlots_ok [Tabs Try.prog] (p : DPage) (hl : p.slots.length ≤ 1048576) : Ok Try.prog 79 [.agg (ePage .view p)] (.sl .own 1 ((places openS 0 p.slots).map eInt)) := by
  refine ent Try.mix Try.func79 Try.ntmps79 ?_
  have W := trivial
  repeat' first|refine st ?_|(refine nx ?_;refine so ?_)|(refine cx ?_;refine sc (fun hc=>?_) (fun hc=>?_)<;>try exact hc.elim)|(refine lx ?_;refine sp (fun hc=>?_) (fun hc=>?_)<;>try exact hc.elim)|refine sx ?_ ?_|refine sy ?_ ?_|fail
  refine awp_loop' (ι := { q : Nat × Nat // q.1 ≤ p.slots.length ∧ 1 ≤ q.2 }) (fun t o i => ⟨upds t [(3, .obj 1 i.1.2), (10, .int .i64 i.1.1)], o.take 1 ++ [⟨true, false, 1, i.1.2, (places openS 0 (p.slots.take i.1.1)).map eInt⟩]⟩)
    (fun i => p.slots.length - i.1.1) ⟨(0, 1), by simp, by simp⟩ (weak_o (by simp [places]) (by simp)) ?_
  rintro ⟨⟨k, v⟩, hk, hv⟩ K1 hK1
  simp only at hk hv
  simp only [upds, List.set_cons_succ, List.set_cons_zero, List.take_succ_cons, List.take_zero, List.cons_append, List.nil_append] at hK1 ⊢
  have hk1 : IntKind.i64.wrap ((k : Int) + 1) = ((k + 1 : Nat) : Int) := by rw [wrap64] <;> omega
  by_cases hlt : k < p.slots.length
  · have hg := List.getElem?_eq_getElem hlt
    have hps := places_succ openS p.slots k hlt
    have hpl := places_length openS (p.slots.take k) 0
    have htl : (p.slots.take k).length = k := by simp; omega
    have hb1 : ((places openS 0 (p.slots.take k)).length + 1) * 8 ≤ 140737488355328 := by omega
    have hb2 : (places openS 0 (p.slots.take k)).length + 1 ≤ 9223372036854775807 := by omega
    have hb3 : (places openS 0 (p.slots.take k)).length ≤ 9223372036854775806 := by omega
    have W := And.intro hk1 (And.intro hg (And.intro hlt (And.intro hb1 (And.intro hb2 hb3))))
    repeat' first|refine st ?_|(refine nx ?_;refine so ?_)|(refine cx ?_;refine sc (fun hc=>?_) (fun hc=>?_)<;>try exact hc.elim)|(refine lx ?_;refine sp (fun hc=>?_) (fun hc=>?_)<;>try exact hc.elim)|refine sx ?_ ?_|refine sy ?_ ?_|fail
    · refine hK1 _ ⟨(k + 1, v + 1), by simp only; omega, by simp only; omega⟩ (weak_take 2 (by simp [hps, openS, hc]) (by simp) (by simp) (by simp)) (by simp only; omega)
    · refine hK1 _ ⟨(k + 1, v), by simp only; omega, hv⟩ (weak_take 2 (by simp [hps, openS, hc]) (by simp) (by simp) (by simp)) (by simp only; omega)
  · have htk : p.slots.take k = p.slots := List.take_of_length_le (by omega)
    rw [htk]
    have W := hk1
    repeat' first|refine st ?_|(refine nx ?_;refine so ?_)|(refine cx ?_;refine sc (fun hc=>?_) (fun hc=>?_)<;>try exact hc.elim)|(refine lx ?_;refine sp (fun hc=>?_) (fun hc=>?_)<;>try exact hc.elim)|refine sx ?_ ?_|refine sy ?_ ?_|fail
    all_goals (try (refine ⟨.inr rfl, ?_⟩; simp [Hands, Try.results79]))

theorem specOpenMods_ok [Tabs Try.prog] (p : DPage) (hl : p.mods.length ≤ 1048576) : Ok Try.prog 77 [.agg (ePage .view p)] (.sl .own 1 ((places openM 0 p.mods).map eInt)) := by
  refine ent Try.mix Try.func77 Try.ntmps77 ?_
  have W := trivial
  repeat' first|refine st ?_|(refine nx ?_;refine so ?_)|(refine cx ?_;refine sc (fun hc=>?_) (fun hc=>?_)<;>try exact hc.elim)|(refine lx ?_;refine sp (fun hc=>?_) (fun hc=>?_)<;>try exact hc.elim)|refine sx ?_ ?_|refine sy ?_ ?_|fail
  refine awp_loop' (ι := { q : Nat × Nat // q.1 ≤ p.mods.length ∧ 1 ≤ q.2 }) (fun t o i => ⟨upds t [(3, .obj 1 i.1.2), (4, .int .i64 i.1.1)], o.take 1 ++ [⟨true, false, 1, i.1.2, (places openM 0 (p.mods.take i.1.1)).map eInt⟩]⟩)
    (fun i => p.mods.length - i.1.1) ⟨(0, 1), by simp, by simp⟩ (weak_o (by simp [places]) (by simp)) ?_
  rintro ⟨⟨k, v⟩, hk, hv⟩ K1 hK1
  simp only at hk hv
  simp only [upds, List.set_cons_succ, List.set_cons_zero, List.take_succ_cons, List.take_zero, List.cons_append, List.nil_append] at hK1 ⊢
  have hk1 : IntKind.i64.wrap ((k : Int) + 1) = ((k + 1 : Nat) : Int) := by rw [wrap64] <;> omega
  by_cases hlt : k < p.mods.length
  · have hg := List.getElem?_eq_getElem hlt
    have hps := places_succ openM p.mods k hlt
    have hpl := places_length openM (p.mods.take k) 0
    have htl : (p.mods.take k).length = k := by simp; omega
    have hb1 : ((places openM 0 (p.mods.take k)).length + 1) * 8 ≤ 140737488355328 := by omega
    have hb2 : (places openM 0 (p.mods.take k)).length + 1 ≤ 9223372036854775807 := by omega
    have hb3 : (places openM 0 (p.mods.take k)).length ≤ 9223372036854775806 := by omega
    have W := And.intro hk1 (And.intro hg (And.intro hlt (And.intro hb1 (And.intro hb2 hb3))))
    repeat' first|refine st ?_|(refine nx ?_;refine so ?_)|(refine cx ?_;refine sc (fun hc=>?_) (fun hc=>?_)<;>try exact hc.elim)|(refine lx ?_;refine sp (fun hc=>?_) (fun hc=>?_)<;>try exact hc.elim)|refine sx ?_ ?_|refine sy ?_ ?_|fail
    · refine hK1 _ ⟨(k + 1, v + 1), by simp only; omega, by simp only; omega⟩ (weak_take 2 (by simp [hps, openM, hc]) (by simp) (by simp) (by simp)) (by simp only; omega)
    · refine hK1 _ ⟨(k + 1, v), by simp only; omega, hv⟩ (weak_take 2 (by simp [hps, openM, hc]) (by simp) (by simp) (by simp)) (by simp only; omega)
  · have htk : p.mods.take k = p.mods := List.take_of_length_le (by omega)
    rw [htk]
    have W := hk1
    repeat' first|refine st ?_|(refine nx ?_;refine so ?_)|(refine cx ?_;refine sc (fun hc=>?_) (fun hc=>?_)<;>try exact hc.elim)|(refine lx ?_;refine sp (fun hc=>?_) (fun hc=>?_)<;>try exact hc.elim)|refine sx ?_ ?_|refine sy ?_ ?_|fail
    all_goals (try (refine ⟨.inr rfl, ?_⟩; simp [Hands, Try.results77]))

theorem implOpenMods_ok [Tabs Try.prog] (p : DPage) (hl : p.mods.length ≤ 1048576) : Ok Try.prog 81 [.agg (ePage .view p)] (.sl .own 1 ((places openM 0 p.mods).map eInt)) := by
  refine ent Try.mix Try.func81 Try.ntmps81 ?_
  have W := trivial
  repeat' first|refine st ?_|(refine nx ?_;refine so ?_)|(refine cx ?_;refine sc (fun hc=>?_) (fun hc=>?_)<;>try exact hc.elim)|(refine lx ?_;refine sp (fun hc=>?_) (fun hc=>?_)<;>try exact hc.elim)|refine sx ?_ ?_|refine sy ?_ ?_|fail
  refine awp_loop' (ι := { q : Nat × Nat // q.1 ≤ p.mods.length ∧ 1 ≤ q.2 }) (fun t o i => ⟨upds t [(3, .obj 1 i.1.2), (10, .int .i64 i.1.1)], o.take 1 ++ [⟨true, false, 1, i.1.2, (places openM 0 (p.mods.take i.1.1)).map eInt⟩]⟩)
    (fun i => p.mods.length - i.1.1) ⟨(0, 1), by simp, by simp⟩ (weak_o (by simp [places]) (by simp)) ?_
  rintro ⟨⟨k, v⟩, hk, hv⟩ K1 hK1
  simp only at hk hv
  simp only [upds, List.set_cons_succ, List.set_cons_zero, List.take_succ_cons, List.take_zero, List.cons_append, List.nil_append] at hK1 ⊢
  have hk1 : IntKind.i64.wrap ((k : Int) + 1) = ((k + 1 : Nat) : Int) := by rw [wrap64] <;> omega
  by_cases hlt : k < p.mods.length
  · have hg := List.getElem?_eq_getElem hlt
    have hps := places_succ openM p.mods k hlt
    have hpl := places_length openM (p.mods.take k) 0
    have htl : (p.mods.take k).length = k := by simp; omega
    have hb1 : ((places openM 0 (p.mods.take k)).length + 1) * 8 ≤ 140737488355328 := by omega
    have hb2 : (places openM 0 (p.mods.take k)).length + 1 ≤ 9223372036854775807 := by omega
    have hb3 : (places openM 0 (p.mods.take k)).length ≤ 9223372036854775806 := by omega
    have W := And.intro hk1 (And.intro hg (And.intro hlt (And.intro hb1 (And.intro hb2 hb3))))
    repeat' first|refine st ?_|(refine nx ?_;refine so ?_)|(refine cx ?_;refine sc (fun hc=>?_) (fun hc=>?_)<;>try exact hc.elim)|(refine lx ?_;refine sp (fun hc=>?_) (fun hc=>?_)<;>try exact hc.elim)|refine sx ?_ ?_|refine sy ?_ ?_|fail
    · refine hK1 _ ⟨(k + 1, v + 1), by simp only; omega, by simp only; omega⟩ (weak_take 2 (by simp [hps, openM, hc]) (by simp) (by simp) (by simp)) (by simp only; omega)
    · refine hK1 _ ⟨(k + 1, v), by simp only; omega, hv⟩ (weak_take 2 (by simp [hps, openM, hc]) (by simp) (by simp) (by simp)) (by simp only; omega)
  · have htk : p.mods.take k = p.mods := List.take_of_length_le (by omega)
    rw [htk]
    have W := hk1
    repeat' first|refine st ?_|(refine nx ?_;refine so ?_)|(refine cx ?_;refine sc (fun hc=>?_) (fun hc=>?_)<;>try exact hc.elim)|(refine lx ?_;refine sp (fun hc=>?_) (fun hc=>?_)<;>try exact hc.elim)|refine sx ?_ ?_|refine sy ?_ ?_|fail
    all_goals (try (refine ⟨.inr rfl, ?_⟩; simp [Hands, Try.results81]))

end Go.Proofs.Ytedhenfipalhaaa
