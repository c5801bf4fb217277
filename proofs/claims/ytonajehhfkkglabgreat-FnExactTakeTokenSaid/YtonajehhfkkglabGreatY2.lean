/-
  Proved here: contracts of the copies of a builder.
  No condition beyond what each statement spells out.
-/
import Derived.Test.YtonajehhfkkglabGreatY1
import Derived.Test.YtonajehhfkkglabGreatF3
set_option linter.all false
set_option maxRecDepth 4000
set_option maxHeartbeats 4000000
namespace Go.Proofs.YtonajehhfkkglabGreat
open Go.Aw
theorem rtr_nodes (u : List Nat) (b : Bool) (l : List DNode) : rtr (dropf u) b (l.map (eNode .view)) = l.map (eNode .view) := by
  induction l with
  | nil => rfl
  | cons x l ih => rw [List.map_cons, rtr, ih]; simp [rtc, rt, eNode, dropf]
theorem copyBuilder_ok [Tabs Tryz.prog] (b : DBuilder) (hs : szBuilder b ≤ 274877906944) : Ok Tryz.prog 83 [.agg (eBuilder .view b)] (.agg (eBuilder .own b)) := by
  simp only [szBuilder, szL] at hs
  obtain ⟨l, opens⟩ := b
  simp only at hs
  refine ent Tryz.mix Tryz.func83 Tryz.ntmps83 ?_
  have W := trivial
  repeat' first|refine st ?_|(refine nx ?_;first|refine se ?_|refine so ?_)|(refine cx ?_;refine sc (fun hc=>?_) (fun hc=>?_)<;>try exact hc.elim)|(refine lx ?_;refine sp (fun hc=>?_) (fun hc=>?_)<;>try exact hc.elim)|refine sx ?_ ?_|refine sy ?_ ?_|fail
  refine awp_loop' (ι := { q : Nat × Nat // q.1 ≤ l.length ∧ 1 ≤ q.2 }) (fun t o i => ⟨upds t [(14, .int .i64 i.1.1), (5, .undef), (10, .undef)], o.take 3 ++ [⟨true, true, 2, 0, [[.obj 4 i.1.2, .obj 2 2]]⟩, ⟨true, false, 4, i.1.2, (l.take i.1.1).map (eNode .own)⟩]⟩)
    (fun i => l.length - i.1.1) ⟨(0, 1), by simp, by simp⟩ (weak_openB 3 0 0 (ob := ⟨true, true, 2, 0, [[.sl .own 4 [], .obj 2 2]]⟩) (by rfl) (by rfl) (by rfl) (by simp) (by rfl) (by rfl) (by simp) (by simp [rtc, rt, dropf, rtr_nodes])) ?_
  rintro ⟨⟨k, v⟩, hk, hv⟩ K1 hK1
  simp only at hk hv
  simp only [upds, List.set_cons_succ, List.set_cons_zero, List.take_succ_cons, List.take_zero, List.cons_append, List.nil_append] at hK1 ⊢
  have hk1 : IntKind.i64.wrap ((k : Int) + 1) = ((k + 1 : Nat) : Int) := by rw [wrap64] <;> omega
  by_cases hlt : k < l.length
  · have hg := List.getElem?_eq_getElem hlt
    have hps := map_succ (eNode .own) l k hlt
    have hz := sumN_get_le szNode l k hlt
    simp only [szNode, szL] at hz
    have hgl : ((l.take k).map (eNode .own)).length = k := by simp; omega
    generalize (l.take k).map (eNode .own) = g at *
    have W := And.intro hk1 (And.intro hg (And.intro hlt hgl))
    repeat' first|refine st ?_|(refine nx ?_;first|refine se ?_|refine so ?_)|(refine cx ?_;refine sc (fun hc=>?_) (fun hc=>?_)<;>try exact hc.elim)|(refine lx ?_;refine sp (fun hc=>?_) (fun hc=>?_)<;>try exact hc.elim)|refine sx ?_ ?_|refine sy ?_ ?_|fail
    all_goals refine hK1 _ ⟨(k + 1, v + 1), by simp only; omega, by simp only; omega⟩ (weak_take 5 (by simp [hps]) (by simp) (by simp) (by simp)) (by simp only; omega)
  · have htk : l.take k = l := List.take_of_length_le (by omega)
    rw [htk]
    have W := hk1
    repeat' first|refine st ?_|(refine nx ?_;first|refine se ?_|refine so ?_)|(refine cx ?_;refine sc (fun hc=>?_) (fun hc=>?_)<;>try exact hc.elim)|(refine lx ?_;refine sp (fun hc=>?_) (fun hc=>?_)<;>try exact hc.elim)|refine sx ?_ ?_|refine sy ?_ ?_|fail
    all_goals (try (refine ⟨.inr rfl, ?_⟩; simp [Hands, Tryz.results83]))
theorem specBuilder_ok [Tabs Tryz.prog] (b : DBuilder) (hs : szBuilder b ≤ 274877906944) : Ok Tryz.prog 68 [.agg (eBuilder .view b)] (.agg (eBuilder .own b)) := by
  simp only [szBuilder, szL] at hs
  obtain ⟨l, opens⟩ := b
  simp only at hs
  refine ent Tryz.mix Tryz.func68 Tryz.ntmps68 ?_
  have W := trivial
  repeat' first|refine st ?_|(refine nx ?_;first|refine se ?_|refine so ?_)|(refine cx ?_;refine sc (fun hc=>?_) (fun hc=>?_)<;>try exact hc.elim)|(refine lx ?_;refine sp (fun hc=>?_) (fun hc=>?_)<;>try exact hc.elim)|refine sx ?_ ?_|refine sy ?_ ?_|fail
  refine awp_loop' (ι := { q : Nat × Nat // q.1 ≤ l.length ∧ 1 ≤ q.2 }) (fun t o i => ⟨upds t [(4, .int .i64 i.1.1), (5, .undef), (10, .undef)], o.take 3 ++ [⟨true, true, 2, 0, [[.obj 4 i.1.2, .obj 2 2]]⟩, ⟨true, false, 4, i.1.2, (l.take i.1.1).map (eNode .own)⟩]⟩)
    (fun i => l.length - i.1.1) ⟨(0, 1), by simp, by simp⟩ (weak_openB 3 0 0 (ob := ⟨true, true, 2, 0, [[.sl .own 4 [], .obj 2 2]]⟩) (by rfl) (by rfl) (by rfl) (by simp) (by rfl) (by rfl) (by simp) (by simp [rtc, rt, dropf, rtr_nodes])) ?_
  rintro ⟨⟨k, v⟩, hk, hv⟩ K1 hK1
  simp only at hk hv
  simp only [upds, List.set_cons_succ, List.set_cons_zero, List.take_succ_cons, List.take_zero, List.cons_append, List.nil_append] at hK1 ⊢
  have hk1 : IntKind.i64.wrap ((k : Int) + 1) = ((k + 1 : Nat) : Int) := by rw [wrap64] <;> omega
  by_cases hlt : k < l.length
  · have hg := List.getElem?_eq_getElem hlt
    have hps := map_succ (eNode .own) l k hlt
    have hz := sumN_get_le szNode l k hlt
    simp only [szNode, szL] at hz
    have c1 := l6Attrs_ok l[k].attrs (by omega)
    have hgl : ((l.take k).map (eNode .own)).length = k := by simp; omega
    generalize (l.take k).map (eNode .own) = g at *
    have W := And.intro hk1 (And.intro hg (And.intro hlt hgl))
    repeat' first|refine st ?_|(refine nx ?_;first|refine se ?_|refine so ?_)|(refine cx ?_;refine sc (fun hc=>?_) (fun hc=>?_)<;>try exact hc.elim)|(refine lx ?_;refine sp (fun hc=>?_) (fun hc=>?_)<;>try exact hc.elim)|refine sx ?_ ?_|refine sy ?_ ?_|fail
    all_goals refine hK1 _ ⟨(k + 1, v + 1), by simp only; omega, by simp only; omega⟩ (weak_take 5 (by simp [hps]) (by simp) (by simp) (by simp)) (by simp only; omega)
  · have htk : l.take k = l := List.take_of_length_le (by omega)
    rw [htk]
    have W := hk1
    repeat' first|refine st ?_|(refine nx ?_;first|refine se ?_|refine so ?_)|(refine cx ?_;refine sc (fun hc=>?_) (fun hc=>?_)<;>try exact hc.elim)|(refine lx ?_;refine sp (fun hc=>?_) (fun hc=>?_)<;>try exact hc.elim)|refine sx ?_ ?_|refine sy ?_ ?_|fail
    all_goals (try (refine ⟨.inr rfl, ?_⟩; simp [Hands, Tryz.results68]))
end Go.Proofs.YtonajehhfkkglabGreat
