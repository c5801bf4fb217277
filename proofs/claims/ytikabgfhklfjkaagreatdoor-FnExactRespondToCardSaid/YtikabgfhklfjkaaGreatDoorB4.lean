/-
  Proved here: steps towards the statement of this claim, text B4.
  No condition beyond what each statement spells out.
-/
import Derived.Test.YtikabgfhklfjkaaGreatDoorU8
import Derived.Test.YtikabgfhklfjkaaGreatDoorF6
import Derived.Test.YtikabgfhklfjkaaGreatDoorY1
set_option linter.all false
set_option linter.unusedSimpArgs false
set_option linter.unusedVariables false
set_option maxRecDepth 4000
set_option maxHeartbeats 4000000
namespace Go.Proofs.YtikabgfhklfjkaaGreatDoor
open Go.Aw
theorem copyServers_ok [Tabs Tryz.prog] (l : List DServer) (hs : szL szServer l ≤ 274877906944) : Ok Tryz.prog 275 [.sl .view 2 (l.map (eServer .view))] (.sl .own 2 (l.map (eServer .own))) := by
  simp only [szL] at hs
  refine ent Tryz.mix Tryz.func275 Tryz.ntmps275 ?_
  have W := trivial
  repeat' first|refine st ?_|(refine nx ?_;first|refine se ?_|refine so ?_)|(refine cx ?_;refine sc (fun hc=>?_) (fun hc=>?_)<;>try exact hc.elim)|(refine lx ?_;refine sp (fun hc=>?_) (fun hc=>?_)<;>try exact hc.elim)|refine sx ?_ ?_|refine sy ?_ ?_|fail
  refine awp_loop' (ι := { q : Nat × Nat // q.1 ≤ l.length ∧ 1 ≤ q.2 }) (fun t o i => ⟨upds t [(3, .obj 0 i.1.2), (9, .int .i64 i.1.1), (5, .undef)], o.take 0 ++ [⟨true, false, 2, i.1.2, (l.take i.1.1).map (eServer .own)⟩]⟩)
    (fun i => l.length - i.1.1) ⟨(0, 1), by simp, by first | (simp; done) | (simp only; omega)⟩ (weak_o (by simp) (by simp)) ?_
  rintro ⟨⟨k, v⟩, hk, hv⟩ K1 hK1
  simp only at hk hv
  simp only [upds, List.set_cons_succ, List.set_cons_zero, List.take_succ_cons, List.take_zero, List.cons_append, List.nil_append] at hK1 ⊢
  have hk1 : IntKind.i64.wrap ((k : Int) + 1) = ((k + 1 : Nat) : Int) := by rw [wrap64] <;> omega
  by_cases hlt : k < l.length
  · have hg := List.getElem?_eq_getElem hlt
    have hps := map_succ (eServer .own) l k hlt
    have hz := sumN_get_le szServer l k hlt
    simp only [szServer, szL] at hz
    have hgl : ((l.take k).map (eServer .own)).length = k := by simp; omega
    generalize (l.take k).map (eServer .own) = g at *
    have W := And.intro hk1 (And.intro hg (And.intro hlt hgl))
    repeat' first|refine st ?_|(refine nx ?_;first|refine se ?_|refine so ?_)|(refine cx ?_;refine sc (fun hc=>?_) (fun hc=>?_)<;>try exact hc.elim)|(refine lx ?_;refine sp (fun hc=>?_) (fun hc=>?_)<;>try exact hc.elim)|refine sx ?_ ?_|refine sy ?_ ?_|fail
    all_goals refine hK1 _ ⟨(k + 1, v + 1), by simp only; omega, by simp only; omega⟩ (weak_take 1 (by simp [hps]) (by simp) (by simp) (by simp)) (by simp only; omega)
  · have htk : l.take k = l := List.take_of_length_le (by omega)
    rw [htk]
    have W := hk1
    repeat' first|refine st ?_|(refine nx ?_;first|refine se ?_|refine so ?_)|(refine cx ?_;refine sc (fun hc=>?_) (fun hc=>?_)<;>try exact hc.elim)|(refine lx ?_;refine sp (fun hc=>?_) (fun hc=>?_)<;>try exact hc.elim)|refine sx ?_ ?_|refine sy ?_ ?_|fail
    all_goals (try (refine ⟨.inr rfl, ?_⟩; simp [Hands, Tryz.results275]))
theorem l12Copy_ok [Tabs Tryz.prog] (l : List DServer) (hs : szL szServer l ≤ 274877906944) : Ok Tryz.prog 268 [.sl .view 2 (l.map (eServer .view))] (.sl .own 2 (l.map (eServer .own))) := by
  simp only [szL] at hs
  refine ent Tryz.mix Tryz.func268 Tryz.ntmps268 ?_
  have W := trivial
  repeat' first|refine st ?_|(refine nx ?_;first|refine se ?_|refine so ?_)|(refine cx ?_;refine sc (fun hc=>?_) (fun hc=>?_)<;>try exact hc.elim)|(refine lx ?_;refine sp (fun hc=>?_) (fun hc=>?_)<;>try exact hc.elim)|refine sx ?_ ?_|refine sy ?_ ?_|fail
  refine awp_loop' (ι := { q : Nat × Nat // q.1 ≤ l.length ∧ 1 ≤ q.2 }) (fun t o i => ⟨upds t [(3, .obj 0 i.1.2), (4, .int .i64 i.1.1)], o.take 0 ++ [⟨true, false, 2, i.1.2, (l.take i.1.1).map (eServer .own)⟩]⟩)
    (fun i => l.length - i.1.1) ⟨(0, 1), by simp, by first | (simp; done) | (simp only; omega)⟩ (weak_o (by simp) (by simp)) ?_
  rintro ⟨⟨k, v⟩, hk, hv⟩ K1 hK1
  simp only at hk hv
  simp only [upds, List.set_cons_succ, List.set_cons_zero, List.take_succ_cons, List.take_zero, List.cons_append, List.nil_append] at hK1 ⊢
  have hk1 : IntKind.i64.wrap ((k : Int) + 1) = ((k + 1 : Nat) : Int) := by rw [wrap64] <;> omega
  by_cases hlt : k < l.length
  · have hg := List.getElem?_eq_getElem hlt
    have hps := map_succ (eServer .own) l k hlt
    have hz := sumN_get_le szServer l k hlt
    simp only [szServer, szL] at hz
    have hgl : ((l.take k).map (eServer .own)).length = k := by simp; omega
    generalize (l.take k).map (eServer .own) = g at *
    have W := And.intro hk1 (And.intro hg (And.intro hlt hgl))
    repeat' first|refine st ?_|(refine nx ?_;first|refine se ?_|refine so ?_)|(refine cx ?_;refine sc (fun hc=>?_) (fun hc=>?_)<;>try exact hc.elim)|(refine lx ?_;refine sp (fun hc=>?_) (fun hc=>?_)<;>try exact hc.elim)|refine sx ?_ ?_|refine sy ?_ ?_|fail
    all_goals refine hK1 _ ⟨(k + 1, v + 1), by simp only; omega, by simp only; omega⟩ (weak_take 1 (by simp [hps]) (by simp) (by simp) (by simp)) (by simp only; omega)
  · have htk : l.take k = l := List.take_of_length_le (by omega)
    rw [htk]
    have W := hk1
    repeat' first|refine st ?_|(refine nx ?_;first|refine se ?_|refine so ?_)|(refine cx ?_;refine sc (fun hc=>?_) (fun hc=>?_)<;>try exact hc.elim)|(refine lx ?_;refine sp (fun hc=>?_) (fun hc=>?_)<;>try exact hc.elim)|refine sx ?_ ?_|refine sy ?_ ?_|fail
    all_goals (try (refine ⟨.inr rfl, ?_⟩; simp [Hands, Tryz.results268]))
theorem copyCache_ok [Tabs Tryz.prog] (c : DCache) (hs : szCache c ≤ 274877906944) : Ok Tryz.prog 276 [.agg (eCache .view c)] (.agg (eCache .own c)) := by
  simp only [szCache, szL] at hs
  refine ent Tryz.mix Tryz.func276 Tryz.ntmps276 ?_
  have W := trivial
  repeat' first|refine st ?_|(refine nx ?_;first|refine se ?_|refine so ?_)|(refine cx ?_;refine sc (fun hc=>?_) (fun hc=>?_)<;>try exact hc.elim)|(refine lx ?_;refine sp (fun hc=>?_) (fun hc=>?_)<;>try exact hc.elim)|refine sx ?_ ?_|refine sy ?_ ?_|fail
  all_goals (try (refine ⟨.inr rfl, ?_⟩; simp [Hands, Tryz.results276]))
theorem l13Copy_ok [Tabs Tryz.prog] (c : DCache) (hs : szCache c ≤ 274877906944) : Ok Tryz.prog 269 [.agg (eCache .view c)] (.agg (eCache .own c)) := by
  simp only [szCache, szL] at hs
  refine ent Tryz.mix Tryz.func269 Tryz.ntmps269 ?_
  have W := trivial
  repeat' first|refine st ?_|(refine nx ?_;first|refine se ?_|refine so ?_)|(refine cx ?_;refine sc (fun hc=>?_) (fun hc=>?_)<;>try exact hc.elim)|(refine lx ?_;refine sp (fun hc=>?_) (fun hc=>?_)<;>try exact hc.elim)|refine sx ?_ ?_|refine sy ?_ ?_|fail
  all_goals (try (refine ⟨.inr rfl, ?_⟩; simp [Hands, Tryz.results269]))
theorem copyNet_ok [Tabs Tryz.prog] (n : DNet) (hs : szNet n ≤ 274877906944) : Ok Tryz.prog 208 [.agg (eNet .view n)] (.agg (eNet .own n)) := by
  simp only [szNet] at hs
  have c1 := copyServers_ok n.servers (by omega)
  have c2 := copyCache_ok n.cache (by omega)
  simp only [eCache] at c2
  simp only [szL] at hs
  refine ent Tryz.mix Tryz.func208 Tryz.ntmps208 ?_
  have W := trivial
  repeat' first|refine st ?_|(refine nx ?_;first|refine se ?_|refine so ?_)|(refine cx ?_;refine sc (fun hc=>?_) (fun hc=>?_)<;>try exact hc.elim)|(refine lx ?_;refine sp (fun hc=>?_) (fun hc=>?_)<;>try exact hc.elim)|refine sx ?_ ?_|refine sy ?_ ?_|fail
  all_goals (try (refine ⟨.inr rfl, ?_⟩; simp [Hands, Tryz.results208]))
theorem l14Copy_ok [Tabs Tryz.prog] (n : DNet) (hs : szNet n ≤ 274877906944) : Ok Tryz.prog 200 [.agg (eNet .view n)] (.agg (eNet .own n)) := by
  simp only [szNet] at hs
  have c1 := l12Copy_ok n.servers (by omega)
  have c2 := l13Copy_ok n.cache (by omega)
  simp only [eCache] at c2
  simp only [szL] at hs
  refine ent Tryz.mix Tryz.func200 Tryz.ntmps200 ?_
  have W := trivial
  repeat' first|refine st ?_|(refine nx ?_;first|refine se ?_|refine so ?_)|(refine cx ?_;refine sc (fun hc=>?_) (fun hc=>?_)<;>try exact hc.elim)|(refine lx ?_;refine sp (fun hc=>?_) (fun hc=>?_)<;>try exact hc.elim)|refine sx ?_ ?_|refine sy ?_ ?_|fail
  all_goals (try (refine ⟨.inr rfl, ?_⟩; simp [Hands, Tryz.results200]))
end Go.Proofs.YtikabgfhklfjkaaGreatDoor
