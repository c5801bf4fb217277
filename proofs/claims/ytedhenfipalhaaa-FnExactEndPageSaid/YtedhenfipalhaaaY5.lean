/-
  Proved here: contracts of EndPage, in the reference and in the program.
  No condition beyond what each statement spells out.
-/
import Derived.Test.YtedhenfipalhaaaY3
import Derived.Test.YtedhenfipalhaaaY4
set_option linter.all false
set_option linter.unusedSimpArgs false
set_option linter.unusedVariables false
set_option maxRecDepth 4000
set_option maxHeartbeats 4000000
namespace Go.Proofs.Ytedhenfipalhaaa
open Go.Aw
def endPage (p : DPage) : DPage := if p.ended = true then p else { p with queue := p.queue ++ endText p.tok, tok := ⟨[]⟩, ended := true }
theorem endText_len (t : DTokenizer) : (endText t).length ≤ 1 := by unfold endText; split <;> simp
theorem implEndPage_ok [Tabs Try.prog] (a : DPage) (hs : szPage a ≤ 1048576) : Ok Try.prog 27 [.agg (ePage .view a)] (.agg (ePage .own (endPage a))) := by
  have c1 := copyPage_ok a hs
  simp only [szPage, szL, szTokenizer] at hs
  have c2 := implEndText_ok a.tok (by omega)
  simp only [eTokenizer] at c2
  have hE := endText_len a.tok
  simp only [ePage] at c1
  unfold endPage
  generalize endText a.tok = g at *
  by_cases he : a.ended = true
  · rw [if_pos he]
    simp only [he] at c1
    refine ent Try.mix Try.func27 Try.ntmps27 ?_
    have W := he
    repeat' first|refine st ?_|(refine nx ?_;first|refine se ?_|refine so ?_)|(refine cx ?_;refine sc (fun hc=>?_) (fun hc=>?_)<;>try exact hc.elim)|(refine lx ?_;refine sp (fun hc=>?_) (fun hc=>?_)<;>try exact hc.elim)|refine sx ?_ ?_|refine sy ?_ ?_|fail
    all_goals (try (refine ⟨.inr rfl, ?_⟩; simp [Hands, Try.results27]))
    all_goals exact he
  · rw [if_neg he]
    replace he : a.ended = false := by simpa using he
    simp only [he] at c1
    refine ent Try.mix Try.func27 Try.ntmps27 ?_
    have W := he
    repeat' first|refine st ?_|(refine nx ?_;first|refine se ?_|refine so ?_)|(refine cx ?_;refine sc (fun hc=>?_) (fun hc=>?_)<;>try exact hc.elim)|(refine lx ?_;refine sp (fun hc=>?_) (fun hc=>?_)<;>try exact hc.elim)|refine sx ?_ ?_|refine sy ?_ ?_|fail
    all_goals (try (refine ⟨.inr rfl, ?_⟩; simp [Hands, Try.results27]))
    all_goals (rw [← List.map_append]; exact clean_eToken _)
theorem specEndPage_ok [Tabs Try.prog] (a : DPage) (hs : szPage a ≤ 1048576) : Ok Try.prog 26 [.agg (ePage .view a)] (.agg (ePage .own (endPage a))) := by
  have c1 := specPage_ok a hs
  simp only [szPage, szL, szTokenizer] at hs
  have c2 := specEndText_ok a.tok (by omega)
  simp only [eTokenizer] at c2
  have hE := endText_len a.tok
  simp only [ePage] at c1
  unfold endPage
  generalize endText a.tok = g at *
  by_cases he : a.ended = true
  · rw [if_pos he]
    simp only [he] at c1
    refine ent Try.mix Try.func26 Try.ntmps26 ?_
    have W := he
    repeat' first|refine st ?_|(refine nx ?_;first|refine se ?_|refine so ?_)|(refine cx ?_;refine sc (fun hc=>?_) (fun hc=>?_)<;>try exact hc.elim)|(refine lx ?_;refine sp (fun hc=>?_) (fun hc=>?_)<;>try exact hc.elim)|refine sx ?_ ?_|refine sy ?_ ?_|fail
    all_goals (try (refine ⟨.inr rfl, ?_⟩; simp [Hands, Try.results26]))
    all_goals exact he
  · rw [if_neg he]
    replace he : a.ended = false := by simpa using he
    simp only [he] at c1
    refine ent Try.mix Try.func26 Try.ntmps26 ?_
    have W := he
    repeat' first|refine st ?_|(refine nx ?_;first|refine se ?_|refine so ?_)|(refine cx ?_;refine sc (fun hc=>?_) (fun hc=>?_)<;>try exact hc.elim)|(refine lx ?_;refine sp (fun hc=>?_) (fun hc=>?_)<;>try exact hc.elim)|refine sx ?_ ?_|refine sy ?_ ?_|fail
    all_goals (try (refine ⟨.inr rfl, ?_⟩; simp [Hands, Try.results26]))
    all_goals (rw [← List.map_append]; exact clean_eToken _)
end Go.Proofs.Ytedhenfipalhaaa
