/-
  Proved here: steps towards the statement of this claim, text S4.
  No condition beyond what each statement spells out.
-/
import Derived.Test.YtkjhhcgnfppdiaaDoorS3
import Derived.Test.YtkjhhcgnfppdiaaDoorR10
set_option linter.all false
set_option linter.unusedSimpArgs false
set_option linter.unusedVariables false
set_option maxRecDepth 4000
set_option maxHeartbeats 4000000
namespace Go.Proofs.YtkjhhcgnfppdiaaDoor
open Go.Aw

def tokensOf (s : Str) : List DToken := (feed s).1 ++ endText ⟨(feed s).2⟩
theorem endText_szS (t : DTokenizer) : sumN szToken (endText t) ≤ t.rest.length ∧ (endText t).length ≤ 1 := by
  unfold endText
  split
  · simp [sumN]
  · simp [sumN, szToken, szL]
theorem tokensOf_sz (s : Str) : (tokensOf s).length ≤ s.length + 1 ∧ sumN szToken (tokensOf s) ≤ s.length := by
  obtain ⟨h1, h2⟩ := feed_sz s.length s (Nat.le_refl _)
  obtain ⟨h3, h4⟩ := endText_szS ⟨(feed s).2⟩
  have hj : ∀ a b : List DToken, sumN szToken (a ++ b) = sumN szToken a + sumN szToken b := by
    intro a b
    induction a with
    | nil => simp [sumN]
    | cons x xs ih => simp only [List.cons_append, sumN, ih]; omega
  simp only [tokensOf, List.length_append, hj] at *
  omega
theorem specTokensOf_ok [Tabs Tryd.prog] [HasMax Tryd.prog] (s : Str) (hl : s.length ≤ 1048576) : Ok Tryd.prog 31 [.str s] (.sl .own 4 ((tokensOf s).map (eToken .own))) := by
  have c1 := specFeedText_ok ⟨[]⟩ s (by simp; omega)
  obtain ⟨h1, h2⟩ := feed_sz s.length s (Nat.le_refl _)
  simp only [List.nil_append, eTokenizer] at c1
  unfold tokensOf
  generalize feed s = f at *
  obtain ⟨l, x⟩ := f
  simp only at c1 h1 h2 ⊢
  have c2 := specEndText_ok ⟨x⟩ (by simp only; omega)
  have h4 := (endText_szS ⟨x⟩).2
  simp only [eTokenizer] at c2
  generalize endText ⟨x⟩ = g at *
  have hb1 : (l.length + g.length) * 64 ≤ 140737488355328 := by omega
  refine ent Tryd.mix Tryd.func31 Tryd.ntmps31 ?_
  have W := hb1
  repeat' first|refine st ?_|(refine nx ?_;first|refine se ?_|refine so ?_)|(refine cx ?_;refine sc (fun hc=>?_) (fun hc=>?_)<;>try exact hc.elim)|(refine lx ?_;refine sp (fun hc=>?_) (fun hc=>?_)<;>try exact hc.elim)|refine sx ?_ ?_|refine sy ?_ ?_|fail
  all_goals (try (refine ⟨.inr rfl, ?_⟩; simp [Hands, Tryd.results31]))
  all_goals (first | (rw [← List.map_append]; exact clean_eToken _) | simp)
theorem implTokensOf_ok [Tabs Tryd.prog] [HasMax Tryd.prog] (s : Str) (hl : s.length ≤ 1048576) : Ok Tryd.prog 33 [.str s] (.sl .own 4 ((tokensOf s).map (eToken .own))) := by
  have c1 := implFeedText_ok ⟨[]⟩ s (by simp; omega)
  obtain ⟨h1, h2⟩ := feed_sz s.length s (Nat.le_refl _)
  simp only [List.nil_append, eTokenizer] at c1
  unfold tokensOf
  generalize feed s = f at *
  obtain ⟨l, x⟩ := f
  simp only at c1 h1 h2 ⊢
  have c2 := implEndText_ok ⟨x⟩ (by simp only; omega)
  have h4 := (endText_szS ⟨x⟩).2
  simp only [eTokenizer] at c2
  generalize endText ⟨x⟩ = g at *
  have hb1 : (l.length + g.length) * 64 ≤ 140737488355328 := by omega
  refine ent Tryd.mix Tryd.func33 Tryd.ntmps33 ?_
  have W := hb1
  repeat' first|refine st ?_|(refine nx ?_;first|refine se ?_|refine so ?_)|(refine cx ?_;refine sc (fun hc=>?_) (fun hc=>?_)<;>try exact hc.elim)|(refine lx ?_;refine sp (fun hc=>?_) (fun hc=>?_)<;>try exact hc.elim)|refine sx ?_ ?_|refine sy ?_ ?_|fail
  all_goals (try (refine ⟨.inr rfl, ?_⟩; simp [Hands, Tryd.results33]))
  all_goals (first | (rw [← List.map_append]; exact clean_eToken _) | simp)
theorem specScanText_ok [Tabs Tryd.prog] [HasMax Tryd.prog] (s b : Str) (hl : s.length ≤ 1048576) (hb : b.length ≤ 1048576) : Ok Tryd.prog 13 [.str s, .str b] (.sl .own 5 ((scanTokens (tokensOf s) b).map eRequest)) := by
  have c1 := specTokensOf_ok s hl
  obtain ⟨h1, h2⟩ := tokensOf_sz s
  generalize tokensOf s = l at *
  have c2 := specScanTokens_ok l b (by simp only [szL]; omega)
  refine ent Tryd.mix Tryd.func13 Tryd.ntmps13 ?_
  have W := trivial
  repeat' first|refine st ?_|(refine nx ?_;first|refine se ?_|refine so ?_)|(refine cx ?_;refine sc (fun hc=>?_) (fun hc=>?_)<;>try exact hc.elim)|(refine lx ?_;refine sp (fun hc=>?_) (fun hc=>?_)<;>try exact hc.elim)|refine sx ?_ ?_|refine sy ?_ ?_|fail
  all_goals (try (refine ⟨.inr rfl, ?_⟩; simp [Hands, Tryd.results13]))
theorem implScanText_ok [Tabs Tryd.prog] [HasMax Tryd.prog] (s b : Str) (hl : s.length ≤ 1048576) (hb : b.length ≤ 1048576) : Ok Tryd.prog 14 [.str s, .str b] (.sl .own 5 ((scanTokens (tokensOf s) b).map eRequest)) := by
  have c1 := implTokensOf_ok s hl
  obtain ⟨h1, h2⟩ := tokensOf_sz s
  generalize tokensOf s = l at *
  have c2 := implScanTokens_ok l b (by simp only [szL]; omega)
  refine ent Tryd.mix Tryd.func14 Tryd.ntmps14 ?_
  have W := trivial
  repeat' first|refine st ?_|(refine nx ?_;first|refine se ?_|refine so ?_)|(refine cx ?_;refine sc (fun hc=>?_) (fun hc=>?_)<;>try exact hc.elim)|(refine lx ?_;refine sp (fun hc=>?_) (fun hc=>?_)<;>try exact hc.elim)|refine sx ?_ ?_|refine sy ?_ ?_|fail
  all_goals (try (refine ⟨.inr rfl, ?_⟩; simp [Hands, Tryd.results14]))
end Go.Proofs.YtkjhhcgnfppdiaaDoor
