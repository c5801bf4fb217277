/-
  Proved here: steps towards the statement of this claim, text TK2.
  No condition beyond what each statement spells out.
-/
import Derived.Test.YtonajehhfkkglabGreatTK1
import Derived.Test.YtonajehhfkkglabGreatF6
set_option linter.all false
set_option maxRecDepth 4000
set_option maxHeartbeats 4000000
namespace Go.Proofs.YtonajehhfkkglabGreat
open Go.Aw
theorem addToken_close {b : DBuilder} {t : DToken} (h : t.kind = 2) : addToken b t = ({ b with opens := closeTo b t.name (b.opens.length - 1) }, -1) := by unfold addToken; rw [if_pos h]
theorem addToken_other {b : DBuilder} {t : DToken} (h : ¬ t.kind = 2) (h1 : ¬ t.kind = 1) (h3 : t.kind = 3 → t.text = []) : addToken b t = (b, -1) := by
  unfold addToken
  rw [if_neg h, if_pos]
  rintro (h | ⟨h, h'⟩)
  · exact h1 h
  · exact h' (h3 h)
theorem addToken_full {b : DBuilder} {t : DToken} (h : ¬ t.kind = 2) (hf : 40 ≤ b.nodes.length ∨ b.opens = [] ∨ (opensTag t = true ∧ 8 ≤ b.opens.length)) : addToken b t = (b, -1) := by
  unfold addToken
  rw [if_neg h]
  split <;> first | rfl | (rw [if_pos hf])
theorem addToken_new {b : DBuilder} {t : DToken} (h : ¬ t.kind = 2) (hk : t.kind = 1 ∨ (t.kind = 3 ∧ t.text ≠ [])) (hf : ¬ (40 ≤ b.nodes.length ∨ b.opens = [] ∨ (opensTag t = true ∧ 8 ≤ b.opens.length))) :
    addToken b t = ({ nodes := b.nodes ++ [newNode b t], opens := if opensTag t = true then b.opens ++ [((b.nodes.length : Nat) : Int)] else b.opens }, ((b.nodes.length : Nat) : Int)) := by
  unfold addToken
  rw [if_neg h, if_neg (fun hn => hn hk), if_neg hf]
theorem closeTo_hit {b : DBuilder} {m : Str} {k : Nat} {n : Int} (hg : b.opens[k + 1]? = some n) (h : hitsOpen b m n = true) : closeTo b m (k + 1) = b.opens.take (k + 1) := by
  unfold closeTo; rw [hg]; simp [h]
theorem closeTo_miss {b : DBuilder} {m : Str} {k : Nat} {n : Int} (hg : b.opens[k + 1]? = some n) (h : hitsOpen b m n = false) : closeTo b m (k + 1) = closeTo b m k := by
  conv => lhs; unfold closeTo
  rw [hg]; simp [h]
theorem implAddToken_close [Tabs Tryz.prog] (b : DBuilder) (t : DToken) (hs : szBuilder b ≤ 274877906944) (hk : t.kind = 2) : Ok Tryz.prog 35 [.agg (eBuilder .view b), .agg (eToken .view t)] (.tup [.agg (eBuilder .own (addToken b t).1), .int .i64 (addToken b t).2]) := by
  have c1 := copyBuilder_ok b hs
  have hn : b.nodes.length ≤ 274877906944 ∧ b.opens.length ≤ 274877906944 := by simp only [szBuilder, szL] at hs; omega
  have hw0 : IntKind.i64.wrap ((b.opens.length : Int) - 1) = (b.opens.length : Int) - 1 := by rw [wrap64] <;> omega
  rw [addToken_close hk]
  obtain ⟨tk, tn, ta, tx⟩ := t
  simp only at hk
  subst hk
  simp only [eBuilder] at c1
  refine ent Tryz.mix Tryz.func35 Tryz.ntmps35 ?_
  have W := hw0
  repeat' first|refine st ?_|(refine nx ?_;first|refine se ?_|refine so ?_)|(refine cx ?_;refine sc (fun hc=>?_) (fun hc=>?_)<;>try exact hc.elim)|(refine lx ?_;refine sp (fun hc=>?_) (fun hc=>?_)<;>try exact hc.elim)|refine sx ?_ ?_|refine sy ?_ ?_|fail
  refine awp_loop' (ι := { q : Int // -1 ≤ q ∧ q < (b.opens.length : Int) ∧ closeTo b tn q.toNat = closeTo b tn (b.opens.length - 1) }) (fun t o i => ⟨upds t [(7, .int .i64 i.1), (8, .undef)], o⟩) (fun i => i.1.toNat) ⟨(b.opens.length : Int) - 1, by omega, by omega, by congr 1; omega⟩ (weak_o (by simp) (by simp)) ?_
  rintro ⟨q, hq1, hq2, hq3⟩ K1 hK1
  simp only [upds, List.set_cons_succ, List.set_cons_zero] at hK1 ⊢
  by_cases h1 : (1 : Int) ≤ q
  · obtain ⟨k, rfl⟩ : ∃ k : Nat, q = ((k + 1 : Nat) : Int) := ⟨(q - 1).toNat, by omega⟩
    have hlt : k + 1 < b.opens.length := by omega
    have hg := List.getElem?_eq_getElem hlt
    have hm1 : IntKind.i64.wrap (((k + 1 : Nat) : Int) - 1) = ((k : Nat) : Int) := by rw [wrap64] <;> omega
    rw [show (((k + 1 : Nat) : Int)).toNat = k + 1 from by omega] at hq3
    generalize hnn : b.opens[k + 1] = n at *
    cases hh : hitsOpen b tn n
    · rw [closeTo_miss hg hh] at hq3
      by_cases h0 : 0 ≤ n
      · obtain ⟨m, rfl⟩ := Int.eq_ofNat_of_zero_le h0
        by_cases hm : m < b.nodes.length
        · rw [hits_in hm] at hh
          have hgm := List.getElem?_eq_getElem hm
          have hne : (b.nodes[m].name == tn) = false := by simpa using hh
          have W := And.intro hg (And.intro hm1 (And.intro hgm (And.intro hm (And.intro hne (And.intro h1 hn)))))
          have V := hlt
          repeat' first|refine st ?_|(refine nx ?_;first|refine se ?_|refine so ?_)|(refine cx ?_;refine sc (fun hc=>?_) (fun hc=>?_)<;>try exact hc.elim)|(refine lx ?_;refine sp (fun hc=>?_) (fun hc=>?_)<;>try exact hc.elim)|refine sx ?_ ?_|refine sy ?_ ?_|fail
          all_goals exact hK1 _ ⟨((k : Nat) : Int), by omega, by omega, by simpa using hq3⟩ (weak_o (by simp) (by simp)) (by first | omega | (simp only; omega) | (simp; omega))
        · have hmi : ¬ ((m : Nat) : Int) < ((b.nodes.length : Nat) : Int) := by omega
          have W := And.intro hg (And.intro hm1 (And.intro hmi (And.intro h1 hn)))
          have V := hlt
          repeat' first|refine st ?_|(refine nx ?_;first|refine se ?_|refine so ?_)|(refine cx ?_;refine sc (fun hc=>?_) (fun hc=>?_)<;>try exact hc.elim)|(refine lx ?_;refine sp (fun hc=>?_) (fun hc=>?_)<;>try exact hc.elim)|refine sx ?_ ?_|refine sy ?_ ?_|fail
          all_goals exact hK1 _ ⟨((k : Nat) : Int), by omega, by omega, by simpa using hq3⟩ (weak_o (by simp) (by simp)) (by first | omega | (simp only; omega) | (simp; omega))
      · have W := And.intro hg (And.intro hm1 (And.intro h0 (And.intro h1 hn)))
        have V := hlt
        repeat' first|refine st ?_|(refine nx ?_;first|refine se ?_|refine so ?_)|(refine cx ?_;refine sc (fun hc=>?_) (fun hc=>?_)<;>try exact hc.elim)|(refine lx ?_;refine sp (fun hc=>?_) (fun hc=>?_)<;>try exact hc.elim)|refine sx ?_ ?_|refine sy ?_ ?_|fail
        all_goals exact hK1 _ ⟨((k : Nat) : Int), by omega, by omega, by simpa using hq3⟩ (weak_o (by simp) (by simp)) (by first | omega | (simp only; omega) | (simp; omega))
    · rw [closeTo_hit hg hh] at hq3
      have h01 : 0 ≤ n ∧ n < (b.nodes.length : Int) := Classical.byContradiction fun h => by rw [hits_out h] at hh; cases hh
      obtain ⟨m, rfl⟩ := Int.eq_ofNat_of_zero_le h01.1
      have hm : m < b.nodes.length := by omega
      rw [hits_in hm] at hh
      have hgm := List.getElem?_eq_getElem hm
      have hne : (b.nodes[m].name == tn) = true := by simpa using hh
      rw [← hq3]
      have W := And.intro hg (And.intro hm1 (And.intro hgm (And.intro hm (And.intro hne (And.intro h1 hn)))))
      have V := hlt
      repeat' first|refine st ?_|(refine nx ?_;first|refine se ?_|refine so ?_)|(refine cx ?_;refine sc (fun hc=>?_) (fun hc=>?_)<;>try exact hc.elim)|(refine lx ?_;refine sp (fun hc=>?_) (fun hc=>?_)<;>try exact hc.elim)|refine sx ?_ ?_|refine sy ?_ ?_|fail
      all_goals (try (refine ⟨.inr rfl, ?_⟩; simp [Hands, Tryz.results35, List.map_take]))
      all_goals (rw [← List.map_take]; exact clean_eInt _)
  · have hq4 : closeTo b tn (b.opens.length - 1) = b.opens := by
      rw [← hq3, show q.toNat = 0 by omega]; rfl
    rw [hq4]
    have W := h1
    repeat' first|refine st ?_|(refine nx ?_;first|refine se ?_|refine so ?_)|(refine cx ?_;refine sc (fun hc=>?_) (fun hc=>?_)<;>try exact hc.elim)|(refine lx ?_;refine sp (fun hc=>?_) (fun hc=>?_)<;>try exact hc.elim)|refine sx ?_ ?_|refine sy ?_ ?_|fail
    all_goals (try (refine ⟨.inr rfl, ?_⟩; simp [Hands, Tryz.results35, List.map_take]))
end Go.Proofs.YtonajehhfkkglabGreat
