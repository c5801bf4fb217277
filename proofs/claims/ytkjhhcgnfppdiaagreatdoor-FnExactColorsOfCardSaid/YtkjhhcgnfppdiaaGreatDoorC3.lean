/-
  Proved here: steps towards the statement of this claim, text C3.
  No condition beyond what each statement spells out.
-/
import Derived.Test.YtkjhhcgnfppdiaaGreatDoorC2
import Derived.Test.YtkjhhcgnfppdiaaGreatDoorF8
set_option linter.all false
set_option linter.unusedSimpArgs false
set_option linter.unusedVariables false
set_option maxRecDepth 4000
set_option maxHeartbeats 4000000
namespace Go.Proofs.YtkjhhcgnfppdiaaGreatDoor
open Go.Aw


def colorsTo (ss : List DSheet) (l : List DNode) (k : Nat) : List Int := (List.range k).map fun (j : Nat) => colorAt ss l 40 (j : Int)
def colorsOf (p : DPage) : List Int := colorsTo (sheetsOf p) p.builder.nodes p.builder.nodes.length
theorem colorsTo_succ (ss : List DSheet) (l : List DNode) (k : Nat) : colorsTo ss l (k + 1) = colorsTo ss l k ++ [colorAt ss l 40 (k : Int)] := by
  unfold colorsTo; rw [List.range_succ, List.map_append]; rfl
theorem colorsTo_len (ss : List DSheet) (l : List DNode) (k : Nat) : (colorsTo ss l k).length = k := by simp [colorsTo]
theorem sheets_r (p : DPage) : ∀ x ∈ sheetsOf p, x.rules.length ≤ 1099511627776 := by
  intro x hx
  unfold sheetsOf sheetsTo at hx
  obtain ⟨y, _, rfl⟩ := List.mem_map.1 hx
  have : (parseSheet y.body).rules.length ≤ 8 := rules_le _
  omega
theorem specColorsOf_ok [Tabs Tryz.prog] [HasMax Tryz.prog] [HasPow Tryz.prog] (p : DPage) (hs : szL szSlot p.slots ≤ 1073741824) (hb : p.builder.nodes.length ≤ 1099511627776) : Ok Tryz.prog 31 [.agg (ePage .view p)] (.sl .own 1 ((colorsOf p).map eInt)) := by
  have cS := specSheetsOf_ok p hs
  have hr := sheets_r p
  have hl : (sheetsOf p).length ≤ 1099511627776 := by have := sheetsTo_len p.slots; simp only [szL] at hs; unfold sheetsOf; omega
  have cA := fun a => specColorAt_ok (sheetsOf p) p.builder a hl hr hb
  unfold colorsOf
  simp only [ePage] at cS ⊢
  simp only [eBuilder] at cA
  generalize sheetsOf p = ss at *
  generalize p.builder.nodes = l at *
  refine ent Tryz.mix Tryz.func31 Tryz.ntmps31 ?_
  have W := trivial
  repeat' first|refine st ?_|(refine nx ?_;refine so ?_)|(refine cx ?_;refine sc (fun hc=>?_) (fun hc=>?_)<;>try exact hc.elim)|(refine lx ?_;refine sp (fun hc=>?_) (fun hc=>?_)<;>try exact hc.elim)|refine sx ?_ ?_|refine sy ?_ ?_|fail
  refine awp_loop' (ι := { q : Nat × Nat // q.1 ≤ l.length ∧ 1 ≤ q.2 }) (fun t o i => ⟨upds t [(5, .int .i64 i.1.1), (4, .obj 2 i.1.2)], o.take 2 ++ [⟨true, false, 1, i.1.2, (colorsTo ss l i.1.1).map eInt⟩]⟩)
    (fun i => l.length - i.1.1) ⟨(0, 1), by simp, by simp⟩ (weak_o (by simp [colorsTo]) (by simp [colorsTo])) ?_
  rintro ⟨⟨k, v⟩, hk, hv⟩ K1 hK1
  simp only at hk hv
  simp only [upds, List.set_cons_succ, List.set_cons_zero, List.take_succ_cons, List.take_zero, List.cons_append, List.nil_append] at hK1 ⊢
  have hk1 : IntKind.i64.wrap ((k : Int) + 1) = ((k + 1 : Nat) : Int) := by rw [wrap64] <;> omega
  by_cases hlt : k < l.length
  · have hps : (colorsTo ss l (k + 1)).map eInt = (colorsTo ss l k).map eInt ++ [eInt (colorAt ss l 40 (k : Int))] := by rw [colorsTo_succ]; simp
    have hgl : ((colorsTo ss l k).map eInt).length = k := by rw [List.length_map, colorsTo_len]
    have c1 := cA (k : Int)
    generalize colorAt ss l 40 (k : Int) = c at *
    generalize (colorsTo ss l k).map eInt = g at *
    have W := And.intro hk1 (And.intro hlt hgl)
    repeat' first|refine st ?_|(refine nx ?_;refine so ?_)|(refine cx ?_;refine sc (fun hc=>?_) (fun hc=>?_)<;>try exact hc.elim)|(refine lx ?_;refine sp (fun hc=>?_) (fun hc=>?_)<;>try exact hc.elim)|refine sx ?_ ?_|refine sy ?_ ?_|fail
    all_goals exact hK1 _ ⟨(k + 1, v + 1), by simp only; omega, by simp only; omega⟩ (weak_take 3 (by simp [hps]) (by simp) (by simp) (by simp)) (by simp only; omega)
  · have hke : k = l.length := by omega
    subst hke
    have W := hk1
    repeat' first|refine st ?_|(refine nx ?_;refine so ?_)|(refine cx ?_;refine sc (fun hc=>?_) (fun hc=>?_)<;>try exact hc.elim)|(refine lx ?_;refine sp (fun hc=>?_) (fun hc=>?_)<;>try exact hc.elim)|refine sx ?_ ?_|refine sy ?_ ?_|fail
    all_goals (try (refine ⟨.inr rfl, ?_⟩; simp [Hands, Tryz.results31]))
theorem implColorsOf_ok [Tabs Tryz.prog] [HasMax Tryz.prog] [HasPow Tryz.prog] [HasErr Tryz.prog] (p : DPage) (hs : szL szSlot p.slots ≤ 1073741824) (hb : p.builder.nodes.length ≤ 1099511627776) : Ok Tryz.prog 32 [.agg (ePage .view p)] (.sl .own 1 ((colorsOf p).map eInt)) := by
  have cS := implSheetsOf_ok p hs
  have hr := sheets_r p
  have hl : (sheetsOf p).length ≤ 1099511627776 := by have := sheetsTo_len p.slots; simp only [szL] at hs; unfold sheetsOf; omega
  have cA := fun a => implColorAt_ok (sheetsOf p) p.builder a hl hr hb
  unfold colorsOf
  simp only [ePage] at cS ⊢
  simp only [eBuilder] at cA
  generalize sheetsOf p = ss at *
  generalize p.builder.nodes = l at *
  refine entK Tryz.mix [5] Tryz.func32 Tryz.ntmps32 ?_
  have W := trivial
  repeat' first|refine st ?_|(refine nx ?_;refine so ?_)|(refine cx ?_;refine sc (fun hc=>?_) (fun hc=>?_)<;>try exact hc.elim)|(refine lx ?_;refine sp (fun hc=>?_) (fun hc=>?_)<;>try exact hc.elim)|refine sx ?_ ?_|refine sy ?_ ?_|fail
  refine awp_loop' (ι := { q : Nat × Nat // q.1 ≤ l.length ∧ 1 ≤ q.2 }) (fun t o i => ⟨upds t [(10, .int .i64 i.1.1), (3, .obj 1 i.1.2)], o.take 1 ++ [⟨true, false, 1, i.1.2, (colorsTo ss l i.1.1).map eInt⟩]⟩)
    (fun i => l.length - i.1.1) ⟨(0, 1), by simp, by simp⟩ (weak_o (by simp [colorsTo]) (by simp [colorsTo])) ?_
  rintro ⟨⟨k, v⟩, hk, hv⟩ K1 hK1
  simp only at hk hv
  simp only [upds, List.set_cons_succ, List.set_cons_zero, List.take_succ_cons, List.take_zero, List.cons_append, List.nil_append] at hK1 ⊢
  have hk1 : IntKind.i64.wrap ((k : Int) + 1) = ((k + 1 : Nat) : Int) := by rw [wrap64] <;> omega
  by_cases hlt : k < l.length
  · have hps : (colorsTo ss l (k + 1)).map eInt = (colorsTo ss l k).map eInt ++ [eInt (colorAt ss l 40 (k : Int))] := by rw [colorsTo_succ]; simp
    have hgl : ((colorsTo ss l k).map eInt).length = k := by rw [List.length_map, colorsTo_len]
    have c1 := cA (k : Int)
    generalize colorAt ss l 40 (k : Int) = c at *
    generalize (colorsTo ss l k).map eInt = g at *
    have W := And.intro hk1 (And.intro hlt hgl)
    repeat' first|refine st ?_|(refine nx ?_;refine so ?_)|(refine cx ?_;refine sc (fun hc=>?_) (fun hc=>?_)<;>try exact hc.elim)|(refine lx ?_;refine sp (fun hc=>?_) (fun hc=>?_)<;>try exact hc.elim)|refine sx ?_ ?_|refine sy ?_ ?_|fail
    all_goals exact hK1 _ ⟨(k + 1, v + 1), by simp only; omega, by simp only; omega⟩ (weak_take 2 (by simp [hps]) (by simp) (by simp) (by simp)) (by simp only; omega)
  · have hke : k = l.length := by omega
    subst hke
    have W := hk1
    repeat' first|refine st ?_|(refine nx ?_;refine so ?_)|(refine cx ?_;refine sc (fun hc=>?_) (fun hc=>?_)<;>try exact hc.elim)|(refine lx ?_;refine sp (fun hc=>?_) (fun hc=>?_)<;>try exact hc.elim)|refine sx ?_ ?_|refine sy ?_ ?_|fail
    all_goals (try (refine ⟨.inr rfl, ?_⟩; simp [Hands, Tryz.results32]))
end Go.Proofs.YtkjhhcgnfppdiaaGreatDoor
