/-
  Proved here: steps towards the statement of this claim, text TK4.
  No condition beyond what each statement spells out.
-/
import Derived.Test.YtonajehhfkkglabGreatTK2
set_option linter.all false
set_option maxRecDepth 4000
set_option maxHeartbeats 4000000
namespace Go.Proofs.YtonajehhfkkglabGreat
open Go.Aw
theorem specClose_ok [Tabs Tryz.prog] (b : DBuilder) (m : Str) (hs : szBuilder b ≤ 274877906944) : OkG Tryz.prog 69 [.give (.agg (eBuilder .own b)), .view (.str m)] (.agg (eBuilder .own { b with opens := closeTo b m (b.opens.length - 1) })) := by
  have hn : b.nodes.length ≤ 274877906944 ∧ b.opens.length ≤ 274877906944 := by simp only [szBuilder, szL] at hs; omega
  have hw0 : IntKind.i64.wrap ((b.opens.length : Int) - 1) = (b.opens.length : Int) - 1 := by rw [wrap64] <;> omega
  have hw1 : IntKind.i64.wrap ((b.nodes.length : Int) - 1) = (b.nodes.length : Int) - 1 := by rw [wrap64] <;> omega
  have cI := fun n lo hi => specIn_ok n lo hi
  refine entG Tryz.mix Tryz.func69 Tryz.ntmps69 ?_
  have W := hw0
  repeat' first|refine st ?_|(refine nx ?_;first|refine se ?_|refine so ?_)|(refine cx ?_;refine sc (fun hc=>?_) (fun hc=>?_)<;>try exact hc.elim)|(refine lx ?_;refine sp (fun hc=>?_) (fun hc=>?_)<;>try exact hc.elim)|refine sx ?_ ?_|refine sy ?_ ?_|fail
  refine awp_loop' (ι := { q : Int // -1 ≤ q ∧ q < (b.opens.length : Int) ∧ closeTo b m q.toNat = closeTo b m (b.opens.length - 1) }) (fun t o i => ⟨upds t [(5, .int .i64 i.1), (6, .undef)], o⟩) (fun i => i.1.toNat) ⟨(b.opens.length : Int) - 1, by omega, by omega, by congr 1; omega⟩ (weak_o (by simp) (by simp)) ?_
  rintro ⟨q, hq1, hq2, hq3⟩ K1 hK1
  simp only [upds, List.set_cons_succ, List.set_cons_zero] at hK1 ⊢
  by_cases h1 : (0 : Int) < q
  · obtain ⟨k, rfl⟩ : ∃ k : Nat, q = ((k + 1 : Nat) : Int) := ⟨(q - 1).toNat, by omega⟩
    have hlt : k + 1 < b.opens.length := by omega
    have hg := List.getElem?_eq_getElem hlt
    have hm1 : IntKind.i64.wrap (((k + 1 : Nat) : Int) - 1) = ((k : Nat) : Int) := by rw [wrap64] <;> omega
    rw [show (((k + 1 : Nat) : Int)).toNat = k + 1 from by omega] at hq3
    generalize hnn : b.opens[k + 1] = n at *
    cases hh : hitsOpen b m n
    · rw [closeTo_miss hg hh] at hq3
      by_cases h01 : 0 ≤ n ∧ n < (b.nodes.length : Int)
      · obtain ⟨z, rfl⟩ := Int.eq_ofNat_of_zero_le h01.1
        have hm : z < b.nodes.length := by omega
        rw [hits_in hm] at hh
        have hgm := List.getElem?_eq_getElem hm
        have hne : (b.nodes[z].name == m) = false := by simpa using hh
        have c1 := cI ((z : Nat) : Int) 0 ((b.nodes.length : Int) - 1)
        rw [show (decide ((0 : Int) ≤ ((z : Nat) : Int)) && decide (((z : Nat) : Int) ≤ (b.nodes.length : Int) - 1)) = true from by simp; omega] at c1
        have W := And.intro hg (And.intro hm1 (And.intro hw1 (And.intro hgm (And.intro hm (And.intro hne (And.intro h1 hn))))))
        have V := hlt
        repeat' first|refine st ?_|(refine nx ?_;first|refine se ?_|refine so ?_)|(refine cx ?_;refine sc (fun hc=>?_) (fun hc=>?_)<;>try exact hc.elim)|(refine lx ?_;refine sp (fun hc=>?_) (fun hc=>?_)<;>try exact hc.elim)|refine sx ?_ ?_|refine sy ?_ ?_|fail
        all_goals exact hK1 _ ⟨((k : Nat) : Int), by omega, by omega, by simpa using hq3⟩ (weak_o (by simp) (by simp)) (by first | omega | (simp only; omega) | (simp; omega))
      · have c1 := cI n 0 ((b.nodes.length : Int) - 1)
        rw [show (decide ((0 : Int) ≤ n) && decide (n ≤ (b.nodes.length : Int) - 1)) = false from by simp; omega] at c1
        have W := And.intro hg (And.intro hm1 (And.intro hw1 (And.intro h1 hn)))
        have V := hlt
        repeat' first|refine st ?_|(refine nx ?_;first|refine se ?_|refine so ?_)|(refine cx ?_;refine sc (fun hc=>?_) (fun hc=>?_)<;>try exact hc.elim)|(refine lx ?_;refine sp (fun hc=>?_) (fun hc=>?_)<;>try exact hc.elim)|refine sx ?_ ?_|refine sy ?_ ?_|fail
        all_goals exact hK1 _ ⟨((k : Nat) : Int), by omega, by omega, by simpa using hq3⟩ (weak_o (by simp) (by simp)) (by first | omega | (simp only; omega) | (simp; omega))
    · rw [closeTo_hit hg hh] at hq3
      have h01 : 0 ≤ n ∧ n < (b.nodes.length : Int) := Classical.byContradiction fun h => by rw [hits_out h] at hh; cases hh
      obtain ⟨z, rfl⟩ := Int.eq_ofNat_of_zero_le h01.1
      have hm : z < b.nodes.length := by omega
      rw [hits_in hm] at hh
      have hgm := List.getElem?_eq_getElem hm
      have hne : (b.nodes[z].name == m) = true := by simpa using hh
      have c1 := cI ((z : Nat) : Int) 0 ((b.nodes.length : Int) - 1)
      rw [show (decide ((0 : Int) ≤ ((z : Nat) : Int)) && decide (((z : Nat) : Int) ≤ (b.nodes.length : Int) - 1)) = true from by simp; omega] at c1
      rw [← hq3]
      have W := And.intro hg (And.intro hm1 (And.intro hw1 (And.intro hgm (And.intro hm (And.intro hne (And.intro h1 hn))))))
      have V := hlt
      repeat' first|refine st ?_|(refine nx ?_;first|refine se ?_|refine so ?_)|(refine cx ?_;refine sc (fun hc=>?_) (fun hc=>?_)<;>try exact hc.elim)|(refine lx ?_;refine sp (fun hc=>?_) (fun hc=>?_)<;>try exact hc.elim)|refine sx ?_ ?_|refine sy ?_ ?_|fail
      all_goals (try (refine ⟨by first | exact .inr rfl | exact .inl rfl, ?_⟩; simp [HandsG, lendOut, lendUse, rowOf, Tryz.results69, List.map_take]))
      all_goals (rw [← List.map_take]; exact clean_eInt _)
  · have hq4 : closeTo b m (b.opens.length - 1) = b.opens := by
      rw [← hq3, show q.toNat = 0 by omega]; rfl
    rw [hq4]
    have W := h1
    repeat' first|refine st ?_|(refine nx ?_;first|refine se ?_|refine so ?_)|(refine cx ?_;refine sc (fun hc=>?_) (fun hc=>?_)<;>try exact hc.elim)|(refine lx ?_;refine sp (fun hc=>?_) (fun hc=>?_)<;>try exact hc.elim)|refine sx ?_ ?_|refine sy ?_ ?_|fail
    all_goals (try (refine ⟨by first | exact .inr rfl | exact .inl rfl, ?_⟩; simp [HandsG, lendOut, lendUse, rowOf, Tryz.results69]))
end Go.Proofs.YtonajehhfkkglabGreat
