/-
  Proved here: the contract of the reference's FormatTree.
  No condition beyond what each statement spells out.
-/
import Derived.Test.YtedhenfipalhaaaDoorD1
import Derived.Test.YtedhenfipalhaaaDoorU5
import Derived.Test.YtedhenfipalhaaaDoorF4
set_option linter.all false
set_option linter.unusedSimpArgs false
set_option linter.unusedVariables false
set_option maxRecDepth 4000
set_option maxHeartbeats 400000
namespace Go.Proofs.YtedhenfipalhaaaDoor
open Go.Aw

def fmtNode (x : DNode) : Str := Lib.itoa x.parent ++ (58 :: (if x.name = [] then 39 :: x.text else x.name))
def formatTree (b : DBuilder) : Str := Lib.join (mapL fmtNode b.nodes) [32]
theorem fmtNode_len (x : DNode) (h : rgNode x) : (fmtNode x).length ≤ 22 + szNode x := by
  have := itoa_len x.parent h.1 h.2
  unfold fmtNode szNode
  split
  · simp only [List.length_append, List.length_cons]; omega
  · simp only [List.length_append, List.length_cons]; omega
theorem fmtNodes_len : ∀ (l : List DNode), (∀ y ∈ l, rgNode y) → ((mapL fmtNode l).map (fun x => x.length)).sum ≤ 22 * l.length + sumN szNode l
  | [], _ => by simp [mapL, sumN]
  | x :: l, h => by
    have h1 := fmtNode_len x (h x (by simp))
    have ih := fmtNodes_len l (fun y hy => h y (by simp [hy]))
    simp only [mapL, List.map_cons, List.sum_cons, sumN, List.length_cons] at ih ⊢
    omega
theorem formatTree_len (b : DBuilder) (h : ∀ y ∈ b.nodes, rgNode y) : (formatTree b).length ≤ 23 * b.nodes.length + sumN szNode b.nodes := by
  have h1 := join_len (mapL fmtNode b.nodes) [32]
  have h2 := fmtNodes_len b.nodes h
  have h3 := mapL_length fmtNode b.nodes
  simp only [List.length_singleton, h3] at h1
  unfold formatTree
  omega
theorem join_take (l : List DNode) (k : Nat) (h : k < l.length) : Lib.join (mapL fmtNode (l.take (k + 1))) [32] = if k = 0 then fmtNode l[k] else Lib.join (mapL fmtNode (l.take k)) [32] ++ [32] ++ fmtNode l[k] := by
  rw [mapL_succ fmtNode l k h, join_snoc]
  have hl := mapL_length fmtNode (l.take k)
  by_cases h0 : k = 0
  · subst h0; simp
  · have hne : ¬ mapL fmtNode (l.take k) = [] := fun e => by
      rw [e] at hl
      simp at hl
      omega
    rw [if_neg hne, if_neg h0]
theorem take_len (b : DBuilder) (k : Nat) (h : ∀ y ∈ b.nodes, rgNode y) : (Lib.join (mapL fmtNode (b.nodes.take k)) [32]).length ≤ 23 * b.nodes.length + sumN szNode b.nodes := by
  have := formatTree_len ⟨b.nodes.take k, []⟩ (fun y hy => h y (List.mem_of_mem_take hy))
  have h2 : sumN szNode (b.nodes.take k) ≤ sumN szNode b.nodes := sumN_take_le szNode b.nodes k
  have h3 : (b.nodes.take k).length ≤ b.nodes.length := by simp; omega
  unfold formatTree at this
  simp only at this
  omega
theorem specFormatTree_ok [Tabs Tryd.prog] [HasPow Tryd.prog] (b : DBuilder) (hl : szL szNode b.nodes ≤ 1048576) (hr : ∀ y ∈ b.nodes, rgNode y) : Ok Tryd.prog 8 [.agg (eBuilder .view b)] (.str (formatTree b)) := by
  simp only [szL] at hl
  refine ent Tryd.mix Tryd.func8 Tryd.ntmps8 ?_
  have W := trivial
  repeat' first|refine st ?_|(refine nx ?_;refine so ?_)|(refine cx ?_;refine sc (fun hc=>?_) (fun hc=>?_)<;>try exact hc.elim)|(refine lx ?_;refine sp (fun hc=>?_) (fun hc=>?_)<;>try exact hc.elim)|refine sx ?_ ?_|refine sy ?_ ?_|fail
  refine awp_loop' (ι := { k : Nat // k ≤ b.nodes.length }) (fun t o i => ⟨upds t [(4, .int .i64 i.1), (3, .str (Lib.join (mapL fmtNode (b.nodes.take i.1)) [32]))], o⟩)
    (fun i => b.nodes.length - i.1) ⟨0, by simp⟩ (weak_o (by simp) (by simp [Lib.join_nil])) ?_
  rintro ⟨k, hk⟩ K1 hK1
  simp only [upds, List.set_cons_succ, List.set_cons_zero] at hK1 ⊢
  have hk1 : IntKind.i64.wrap ((k : Int) + 1) = ((k + 1 : Nat) : Int) := by rw [wrap64] <;> omega
  by_cases hlt : k < b.nodes.length
  · have hg := List.getElem?_eq_getElem hlt
    have hps := join_take b.nodes k hlt
    have hpl := take_len b k hr
    have hz := sumN_get_le szNode b.nodes k hlt
    simp only [szNode] at hz
    have hrk := hr b.nodes[k] (List.getElem_mem hlt)
    have c1 := specFormatInt_ok b.nodes[k].parent hrk
    have hil := itoa_len b.nodes[k].parent hrk.1 hrk.2
    have hfn : fmtNode b.nodes[k] = Lib.itoa b.nodes[k].parent ++ (58 :: (if b.nodes[k].name = [] then 39 :: b.nodes[k].text else b.nodes[k].name)) := rfl
    rw [hfn] at hps
    clear hfn
    generalize Lib.itoa b.nodes[k].parent = q at *
    have hg0 : k = 0 → Lib.join (mapL fmtNode (b.nodes.take k)) [32] = [] := fun e => by subst e; rfl
    generalize Lib.join (mapL fmtNode (b.nodes.take k)) [32] = g at *
    by_cases h0 : k = 0
    · have e0 := hg0 h0
      rw [if_pos h0] at hps
      subst e0
      subst h0
      by_cases hn : b.nodes[0].name = []
      · rw [if_pos hn] at hps
        have W := And.intro hk1 (And.intro hg (And.intro hlt hn))
        repeat' first|refine st ?_|(refine nx ?_;refine so ?_)|(refine cx ?_;refine sc (fun hc=>?_) (fun hc=>?_)<;>try exact hc.elim)|(refine lx ?_;refine sp (fun hc=>?_) (fun hc=>?_)<;>try exact hc.elim)|refine sx ?_ ?_|refine sy ?_ ?_|fail
        all_goals first | exact absurd hc hn | refine hK1 _ ⟨0 + 1, by omega⟩ (weak_o (by simp) (by simp [hps, hn])) (by simp only; omega)
      · rw [if_neg hn] at hps
        have W := And.intro hk1 (And.intro hg (And.intro hlt hn))
        repeat' first|refine st ?_|(refine nx ?_;refine so ?_)|(refine cx ?_;refine sc (fun hc=>?_) (fun hc=>?_)<;>try exact hc.elim)|(refine lx ?_;refine sp (fun hc=>?_) (fun hc=>?_)<;>try exact hc.elim)|refine sx ?_ ?_|refine sy ?_ ?_|fail
        all_goals first | exact absurd hc hn | refine hK1 _ ⟨0 + 1, by omega⟩ (weak_o (by simp) (by simp [hps, hn])) (by simp only; omega)
    · rw [if_neg h0] at hps
      have h0' : 0 < k := by omega
      by_cases hn : b.nodes[k].name = []
      · rw [if_pos hn] at hps
        have W := And.intro hk1 (And.intro hg (And.intro hlt (And.intro hn h0')))
        repeat' first|refine st ?_|(refine nx ?_;refine so ?_)|(refine cx ?_;refine sc (fun hc=>?_) (fun hc=>?_)<;>try exact hc.elim)|(refine lx ?_;refine sp (fun hc=>?_) (fun hc=>?_)<;>try exact hc.elim)|refine sx ?_ ?_|refine sy ?_ ?_|fail
        all_goals first | exact absurd hc hn | refine hK1 _ ⟨k + 1, by omega⟩ (weak_o (by simp) (by simp [hps, hn])) (by simp only; omega)
      · rw [if_neg hn] at hps
        have W := And.intro hk1 (And.intro hg (And.intro hlt (And.intro hn h0')))
        repeat' first|refine st ?_|(refine nx ?_;refine so ?_)|(refine cx ?_;refine sc (fun hc=>?_) (fun hc=>?_)<;>try exact hc.elim)|(refine lx ?_;refine sp (fun hc=>?_) (fun hc=>?_)<;>try exact hc.elim)|refine sx ?_ ?_|refine sy ?_ ?_|fail
        all_goals first | exact absurd hc hn | refine hK1 _ ⟨k + 1, by omega⟩ (weak_o (by simp) (by simp [hps, hn])) (by simp only; omega)
  · have htk : b.nodes.take k = b.nodes := List.take_of_length_le (by omega)
    rw [htk]
    have W := hk1
    repeat' first|refine st ?_|(refine nx ?_;refine so ?_)|(refine cx ?_;refine sc (fun hc=>?_) (fun hc=>?_)<;>try exact hc.elim)|(refine lx ?_;refine sp (fun hc=>?_) (fun hc=>?_)<;>try exact hc.elim)|refine sx ?_ ?_|refine sy ?_ ?_|fail
    all_goals (try (refine ⟨.inr rfl, ?_⟩; simp [Hands, Tryd.results8, formatTree]))
end Go.Proofs.YtedhenfipalhaaaDoor
