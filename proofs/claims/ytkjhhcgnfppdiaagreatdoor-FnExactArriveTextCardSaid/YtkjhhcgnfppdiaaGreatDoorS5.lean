/-
  Proved here: steps towards the statement of this claim, text S5.
  No condition beyond what each statement spells out.
-/
import Derived.Test.YtkjhhcgnfppdiaaGreatDoorS3
import Derived.Test.YtkjhhcgnfppdiaaGreatDoorY3
set_option linter.all false
set_option linter.unusedSimpArgs false
set_option linter.unusedVariables false
set_option maxRecDepth 4000
set_option maxHeartbeats 4000000
namespace Go.Proofs.YtkjhhcgnfppdiaaGreatDoor
open Go.Aw

def arriveText (p : DPage) (s : Str) : DPage := if p.ended = true then p else { p with queue := p.queue ++ (feed (p.tok.rest ++ s)).1, tok := ⟨(feed (p.tok.rest ++ s)).2⟩ }
theorem implArriveText_ok [Tabs Tryz.prog] [HasMax Tryz.prog] (a : DPage) (s : Str) (hs : szPage a ≤ 274877906) (hl : s.length ≤ 274877906) : Ok Tryz.prog 21 [.agg (ePage .view a), .str s] (.agg (ePage .own (arriveText a s))) := by
  have c1 := copyPage_ok a (by omega)
  simp only [szPage, szL, szTokenizer] at hs
  have c2 := implFeedText_ok a.tok s (by omega)
  obtain ⟨h1, h2⟩ := feed_sz (a.tok.rest ++ s).length (a.tok.rest ++ s) (Nat.le_refl _)
  simp only [eTokenizer] at c2
  simp only [ePage] at c1
  unfold arriveText
  simp only [List.length_append] at h1 h2
  generalize feed (a.tok.rest ++ s) = g at *
  obtain ⟨l, x⟩ := g
  simp only at c2 h1 h2 ⊢
  have hb1 : (a.queue.length + l.length) * 64 ≤ 140737488355328 := by omega
  by_cases he : a.ended = true
  · rw [if_pos he]
    simp only [he] at c1
    refine ent Tryz.mix Tryz.func21 Tryz.ntmps21 ?_
    have W := he
    repeat' first|refine st ?_|(refine nx ?_;first|refine se ?_|refine so ?_)|(refine cx ?_;refine sc (fun hc=>?_) (fun hc=>?_)<;>try exact hc.elim)|(refine lx ?_;refine sp (fun hc=>?_) (fun hc=>?_)<;>try exact hc.elim)|refine sx ?_ ?_|refine sy ?_ ?_|fail
    all_goals (try (refine ⟨.inr rfl, ?_⟩; simp [Hands, Tryz.results21]))
    all_goals exact he
  · rw [if_neg he]
    replace he : a.ended = false := by simpa using he
    simp only [he] at c1
    refine ent Tryz.mix Tryz.func21 Tryz.ntmps21 ?_
    have W := And.intro he hb1
    repeat' first|refine st ?_|(refine nx ?_;first|refine se ?_|refine so ?_)|(refine cx ?_;refine sc (fun hc=>?_) (fun hc=>?_)<;>try exact hc.elim)|(refine lx ?_;refine sp (fun hc=>?_) (fun hc=>?_)<;>try exact hc.elim)|refine sx ?_ ?_|refine sy ?_ ?_|fail
    all_goals (try (refine ⟨.inr rfl, ?_⟩; simp [Hands, Tryz.results21]))
    all_goals (rw [← List.map_append]; first | exact clean_eToken _ | exact ⟨he, clean_eToken _⟩)
theorem specArriveText_ok [Tabs Tryz.prog] [HasMax Tryz.prog] (a : DPage) (s : Str) (hs : szPage a ≤ 274877906) (hl : s.length ≤ 274877906) : Ok Tryz.prog 19 [.agg (ePage .view a), .str s] (.agg (ePage .own (arriveText a s))) := by
  have c1 := specPage_ok a (by omega)
  simp only [szPage, szL, szTokenizer] at hs
  have c2 := specFeedText_ok a.tok s (by omega)
  obtain ⟨h1, h2⟩ := feed_sz (a.tok.rest ++ s).length (a.tok.rest ++ s) (Nat.le_refl _)
  simp only [eTokenizer] at c2
  simp only [ePage] at c1
  unfold arriveText
  simp only [List.length_append] at h1 h2
  generalize feed (a.tok.rest ++ s) = g at *
  obtain ⟨l, x⟩ := g
  simp only at c2 h1 h2 ⊢
  have hb1 : (a.queue.length + l.length) * 64 ≤ 140737488355328 := by omega
  by_cases he : a.ended = true
  · rw [if_pos he]
    simp only [he] at c1
    refine ent Tryz.mix Tryz.func19 Tryz.ntmps19 ?_
    have W := he
    repeat' first|refine st ?_|(refine nx ?_;first|refine se ?_|refine so ?_)|(refine cx ?_;refine sc (fun hc=>?_) (fun hc=>?_)<;>try exact hc.elim)|(refine lx ?_;refine sp (fun hc=>?_) (fun hc=>?_)<;>try exact hc.elim)|refine sx ?_ ?_|refine sy ?_ ?_|fail
    all_goals (try (refine ⟨.inr rfl, ?_⟩; simp [Hands, Tryz.results19]))
    all_goals exact he
  · rw [if_neg he]
    replace he : a.ended = false := by simpa using he
    simp only [he] at c1
    refine ent Tryz.mix Tryz.func19 Tryz.ntmps19 ?_
    have W := And.intro he hb1
    repeat' first|refine st ?_|(refine nx ?_;first|refine se ?_|refine so ?_)|(refine cx ?_;refine sc (fun hc=>?_) (fun hc=>?_)<;>try exact hc.elim)|(refine lx ?_;refine sp (fun hc=>?_) (fun hc=>?_)<;>try exact hc.elim)|refine sx ?_ ?_|refine sy ?_ ?_|fail
    all_goals (try (refine ⟨.inr rfl, ?_⟩; simp [Hands, Tryz.results19]))
    all_goals (rw [← List.map_append]; first | exact clean_eToken _ | exact ⟨he, clean_eToken _⟩)
end Go.Proofs.YtkjhhcgnfppdiaaGreatDoor
