/-
  Proved here: the contract of the program's FormatTree.
  No condition beyond what each statement spells out.
-/
import Derived.Test.YtedhenfipalhaaaDoorD2
set_option linter.all false
set_option linter.unusedSimpArgs false
set_option linter.unusedVariables false
set_option maxRecDepth 4000
set_option maxHeartbeats 400000
namespace Go.Proofs.YtedhenfipalhaaaDoor
open Go.Aw

theorem implFormatTree_ok [Tabs Tryd.prog] [HasPow Tryd.prog] (b : DBuilder) (hl : szL szNode b.nodes ≤ 1048576) (hr : ∀ y ∈ b.nodes, rgNode y) : Ok Tryd.prog 10 [.agg (eBuilder .view b)] (.str (formatTree b)) := by
  have hj := join_ok (mapL fmtNode b.nodes) [32] (by rw [mapL_length]; simp only [szL] at hl; omega) (by have := formatTree_len b hr; unfold formatTree at this; simp only [szL] at hl; omega)
  simp only [szL] at hl
  refine ent Tryd.mix Tryd.func10 Tryd.ntmps10 ?_
  have W := trivial
  repeat' first|refine st ?_|(refine nx ?_;refine so ?_)|(refine cx ?_;refine sc (fun hc=>?_) (fun hc=>?_)<;>try exact hc.elim)|(refine lx ?_;refine sp (fun hc=>?_) (fun hc=>?_)<;>try exact hc.elim)|refine sx ?_ ?_|refine sy ?_ ?_|fail
  refine awp_loop' (ι := { q : Nat × Nat // q.1 ≤ b.nodes.length ∧ 1 ≤ q.2 }) (fun t o i => ⟨upds t [(3, .obj 1 i.1.2), (10, .int .i64 i.1.1), (5, .undef)], o.take 1 ++ [⟨true, false, 1, i.1.2, (mapL fmtNode (b.nodes.take i.1.1)).map eStr⟩]⟩)
    (fun i => b.nodes.length - i.1.1) ⟨(0, 1), by simp, by first | (simp; done) | (simp only; omega)⟩ (weak_o (by simp) (by simp)) ?_
  rintro ⟨⟨k, v⟩, hk, hv⟩ K1 hK1
  simp only at hk hv
  simp only [upds, List.set_cons_succ, List.set_cons_zero, List.take_succ_cons, List.take_zero, List.cons_append, List.nil_append] at hK1 ⊢
  have hk1 : IntKind.i64.wrap ((k : Int) + 1) = ((k + 1 : Nat) : Int) := by rw [wrap64] <;> omega
  by_cases hlt : k < b.nodes.length
  · have hg := List.getElem?_eq_getElem hlt
    have hps := mapL_succ fmtNode b.nodes k hlt
    have hpl := mapL_length fmtNode (b.nodes.take k)
    have htl : (b.nodes.take k).length = k := by simp; omega
    have hrk := hr b.nodes[k] (List.getElem_mem hlt)
    have hz := sumN_get_le szNode b.nodes k hlt
    simp only [szNode] at hz
    have c1 := implFormatInt_ok b.nodes[k].parent hrk
    have hil := itoa_len b.nodes[k].parent hrk.1 hrk.2
    have hfn : fmtNode b.nodes[k] = Lib.itoa b.nodes[k].parent ++ (58 :: (if b.nodes[k].name = [] then 39 :: b.nodes[k].text else b.nodes[k].name)) := rfl
    rw [hfn] at hps
    clear hfn
    generalize Lib.itoa b.nodes[k].parent = q at *
    generalize mapL fmtNode (b.nodes.take k) = g at *
    by_cases hn : b.nodes[k].name = []
    · rw [if_pos hn] at hps
      have W := And.intro hk1 (And.intro hg (And.intro hlt hn))
      repeat' first|refine st ?_|(refine nx ?_;refine so ?_)|(refine cx ?_;refine sc (fun hc=>?_) (fun hc=>?_)<;>try exact hc.elim)|(refine lx ?_;refine sp (fun hc=>?_) (fun hc=>?_)<;>try exact hc.elim)|refine sx ?_ ?_|refine sy ?_ ?_|fail
      all_goals first | exact absurd hc hn | refine hK1 _ ⟨(k + 1, v + 1), by simp only; omega, by simp only; omega⟩ (weak_take 2 (by simp [hps]) (by simp) (by simp) (by simp)) (by simp only; omega)
    · rw [if_neg hn] at hps
      have W := And.intro hk1 (And.intro hg (And.intro hlt hn))
      repeat' first|refine st ?_|(refine nx ?_;refine so ?_)|(refine cx ?_;refine sc (fun hc=>?_) (fun hc=>?_)<;>try exact hc.elim)|(refine lx ?_;refine sp (fun hc=>?_) (fun hc=>?_)<;>try exact hc.elim)|refine sx ?_ ?_|refine sy ?_ ?_|fail
      all_goals first | exact absurd hc hn | refine hK1 _ ⟨(k + 1, v + 1), by simp only; omega, by simp only; omega⟩ (weak_take 2 (by simp [hps]) (by simp) (by simp) (by simp)) (by simp only; omega)
  · have htk : b.nodes.take k = b.nodes := List.take_of_length_le (by omega)
    rw [htk]
    have W := hk1
    have c0 := hj
    repeat' first|refine st ?_|(refine nx ?_;refine so ?_)|(refine cx ?_;refine sc (fun hc=>?_) (fun hc=>?_)<;>try exact hc.elim)|(refine lx ?_;refine sp (fun hc=>?_) (fun hc=>?_)<;>try exact hc.elim)|refine sx ?_ ?_|refine sy ?_ ?_|fail
    all_goals (try (refine ⟨.inr rfl, ?_⟩; simp [Hands, Tryd.results10, formatTree]))
end Go.Proofs.YtedhenfipalhaaaDoor
