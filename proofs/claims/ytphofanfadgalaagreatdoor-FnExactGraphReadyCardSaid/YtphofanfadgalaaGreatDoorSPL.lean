/-
  Proved here: steps towards the statement of this claim, text SPL.
  No condition beyond what each statement spells out.
-/
import Derived.Test.YtphofanfadgalaaGreatDoorF4
import Derived.Test.YtphofanfadgalaaGreatDoorZ5
set_option linter.all false
set_option maxRecDepth 4000
set_option maxHeartbeats 4000000
namespace Go.Proofs.YtphofanfadgalaaGreatDoor
open Go.Aw
theorem sumN_join {α : Type} (f : α → Nat) : ∀ a b : List α, sumN f (a ++ b) = sumN f a + sumN f b
  | [], b => by simp [sumN]
  | x :: xs, b => by simp only [List.cons_append, sumN, sumN_join f xs b]; omega
theorem cPage_lin (p : DPage) : cPage p ≤ 20 * szPage p + 20 := by
  have h1 := sumN_le_c 3 cToken_le p.queue
  have h2 := sumN_le_c 3 cNode_le p.builder.nodes
  simp only [szPage, szPolicy, szBuilder, szL, cPage, cPolicy, cBuilder, sumN_const]
  omega
/-- What the marks and the comparison ask of a page that is not too large. -/
theorem page_facts (g : DPage) (hg : szPage g ≤ 1099511627776) : (cPage g ≤ 21990232555540 ∧ g.queue.length ≤ 4611686018427387904) ∧ (∀ x ∈ g.queue, x.attrs.length ≤ 4611686018427387904) ∧ g.builder.nodes.length ≤ 4611686018427387904 ∧ (∀ x ∈ g.builder.nodes, x.attrs.length ≤ 4611686018427387904) := by
  have h := cPage_lin g
  refine ⟨⟨by omega, ?_⟩, ?_, ?_, ?_⟩
  · simp only [szPage, szL] at hg; omega
  · exact attrs_Token (by simp only [szPage, szL] at hg; omega)
  · simp only [szPage, szBuilder, szL] at hg; omega
  · exact attrs_Node (by simp only [szPage, szBuilder, szL] at hg; omega)
end Go.Proofs.YtphofanfadgalaaGreatDoor

set_option linter.unusedSimpArgs false
set_option linter.unusedVariables false
set_option maxRecDepth 4000
set_option maxHeartbeats 4000000
namespace Go.Proofs.YtphofanfadgalaaGreatDoor
open Go.Aw
theorem segs_sum (c : UInt8) : ∀ s : Str, sumN szStr (segs c s) ≤ s.length
  | [] => by simp [segs, sumN, szStr]
  | x :: s => by
    have ih := segs_sum c s
    simp only [segs]
    split
    · simp only [sumN, szStr, List.length_nil, List.length_cons] at ih ⊢; omega
    · split
      · rename_i h0; exact absurd h0 (segs_ne c s)
      · rename_i p q h0
        rw [h0] at ih
        simp only [sumN, szStr, List.length_cons] at ih ⊢; omega
theorem addr_sz (s b : Str) : szAddr (parseAddr s b).1 ≤ s.length + b.length := by
  have h := ixB_le 47 s
  unfold parseAddr addrOf
  split <;> split <;> simp [szAddr, noAddr] <;> omega
theorem imps_sz (base : Str) : ∀ (l : List Str) (acc : List DAddr) (q : List Str), impsOf base l = some (acc, q) → 7 * acc.length ≤ sumN szStr l ∧ sumN szAddr acc ≤ sumN szStr l + acc.length * base.length ∧ ∀ x ∈ acc, szAddr x ≤ sumN szStr l + base.length
  | [], acc, q, h => by
    simp only [impsOf, Option.some.injEq, Prod.mk.injEq] at h
    obtain ⟨rfl, rfl⟩ := h
    simp [sumN]
  | p :: ps, acc, q, h => by
    simp only [impsOf] at h
    split at h
    · rename_i hp
      split at h
      · obtain ⟨⟨a1, q1⟩, h1, h2⟩ := Option.map_eq_some_iff.1 h
        simp only [Prod.mk.injEq] at h2
        obtain ⟨rfl, rfl⟩ := h2
        obtain ⟨i1, i2, i3⟩ := imps_sz base ps a1 q1 h1
        have h7 := pfx_le hp
        have ha := addr_sz (p.drop 7) base
        simp only [show impW.length = 7 from rfl] at h7
        simp only [List.length_drop] at ha
        simp only [sumN, szStr, List.length_cons, Nat.succ_mul] at i1 i2 i3 ⊢
        refine ⟨by omega, by omega, ?_⟩
        intro x hx
        rcases List.mem_cons.1 hx with rfl | hx
        · omega
        · have := i3 x hx; omega
      · cases h
    · simp only [Option.some.injEq, Prod.mk.injEq] at h
      obtain ⟨rfl, rfl⟩ := h
      simp [sumN]
theorem parseImps_sz (s b : Str) : 7 * (parseModule s b).1.length ≤ s.length ∧ sumN szAddr (parseModule s b).1 ≤ s.length + (parseModule s b).1.length * b.length ∧ ∀ x ∈ (parseModule s b).1, szAddr x ≤ s.length + b.length := by
  have hs := segs_sum 59 s
  unfold parseModule
  split
  · simp [sumN]
  · rename_i l q h
    obtain ⟨i1, i2, i3⟩ := imps_sz b _ _ _ h
    split
    · exact ⟨by simp only; omega, by simp only; omega, fun x hx => by have := i3 x hx; omega⟩
    · simp [sumN]
theorem flat_sz (N : Nat) : ∀ l : List DModule, (∀ m ∈ l, szModule m ≤ N) → 7 * (l.flatMap fun m => (parseModule m.body m.to.host).1).length ≤ sumN szModule l ∧ sumN szAddr (l.flatMap fun m => (parseModule m.body m.to.host).1) ≤ sumN szModule l + (l.flatMap fun m => (parseModule m.body m.to.host).1).length * N
  | [], _ => by simp [sumN]
  | m :: l, h => by
    obtain ⟨i1, i2⟩ := flat_sz N l (fun x hx => h x (by simp [hx]))
    obtain ⟨j1, j2, _⟩ := parseImps_sz m.body m.to.host
    have hm := h m (by simp)
    simp only [szModule, szAddr] at hm
    have h3 := Nat.mul_le_mul_left (parseModule m.body m.to.host).1.length (show m.to.host.length ≤ N by omega)
    simp only [List.flatMap_cons, List.length_append, sumN, sumN_join, Nat.add_mul, szModule, szAddr] at i1 i2 ⊢
    exact ⟨by omega, by omega⟩
/-- What the statements' sizes give. -/
theorem bnd_of (p : DPage) (a : DAddr) (h : szPage p + szAddr a ≤ 1048576) : Bnd p (a :: allImps p) ∧ (a :: allImps p).length ≤ 149798 ∧ sumN szAddr (a :: allImps p) ≤ 200000000000 := by
  have hm : ∀ m ∈ p.mods, szModule m ≤ 1048576 := fun m hm => by
    have := sumN_mem_le szModule hm
    simp only [szPage, szL] at h
    omega
  obtain ⟨f1, f2⟩ := flat_sz 1048576 p.mods hm
  have hs : sumN szModule p.mods ≤ 1048576 := by simp only [szPage, szL] at h; omega
  have hl : (allImps p).length ≤ 149797 := by unfold allImps; omega
  have h4 := Nat.mul_le_mul_right 1048576 hl
  have h5 : sumN szAddr (allImps p) ≤ 1048576 + (allImps p).length * 1048576 := by unfold allImps; omega
  refine ⟨⟨by omega, fun x hx => List.mem_cons_of_mem _ hx, by simp only [List.length_cons]; omega, ?_, ?_⟩, by simp only [List.length_cons]; omega, by simp only [sumN]; omega⟩
  · intro x hx
    rcases List.mem_cons.1 hx with rfl | hx
    · simp only [szAddr] at h; omega
    · obtain ⟨m, h1, h2⟩ := List.mem_flatMap.1 hx
      have h6 := (parseImps_sz m.body m.to.host).2.2 x h2
      have h7 := hm m h1
      simp only [szModule, szAddr] at h6 h7
      omega
  · intro m h1
    have h6 := (parseImps_sz m.body m.to.host).1
    have h7 := hm m h1
    simp only [szModule] at h7
    omega
/-- The modules that are reached: their number and sizes. -/
theorem reach_sz (p : DPage) (a : DAddr) (h : szPage p + szAddr a ≤ 1048576) : (reachOf p a).length ≤ 149798 ∧ sumN szAddr (reachOf p a) ≤ 200000000000 ∧ ∀ x ∈ reachOf p a, x ∈ a :: allImps p := by
  obtain ⟨hb, h1, h2⟩ := bnd_of p a h
  have hs := (visit_seen hb.im (unseen p [] + 1) a ([], []) (by simp) ⟨by simp, by simp, by simp, by simp⟩).1
  obtain ⟨h3, h4⟩ := nodup_sum szAddr _ (a :: allImps p) hs.ond (fun x hx => hs.sub x (hs.osub x hx))
  exact ⟨Nat.le_trans h4 h1, Nat.le_trans h3 h2, fun x hx => hs.sub x (hs.osub x hx)⟩
end Go.Proofs.YtphofanfadgalaaGreatDoor
