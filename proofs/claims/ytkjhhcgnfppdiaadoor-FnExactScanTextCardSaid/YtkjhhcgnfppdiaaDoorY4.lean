/-
  Proved here: contracts of EndText, in the reference and in the program.
  No condition beyond what each statement spells out.
-/
import Derived.Test.YtkjhhcgnfppdiaaDoorY1
set_option linter.all false
set_option linter.unusedSimpArgs false
set_option linter.unusedVariables false
set_option maxRecDepth 4000
set_option maxHeartbeats 4000000
namespace Go.Proofs.YtkjhhcgnfppdiaaDoor
open Go.Aw
theorem implEndText_ok [Tabs Tryd.prog] (t : DTokenizer) (hs : t.rest.length ≤ 1048576) : Ok Tryd.prog 51 [.agg (eTokenizer t)] (.sl .own 4 ((endText t).map (eToken .own))) := by
  obtain ⟨s⟩ := t
  simp only at hs
  cases s with
  | nil =>
    simp only [endText, true_or, if_true, List.map_nil]
    refine ent Tryd.mix Tryd.func51 Tryd.ntmps51 ?_
    have W := trivial
    repeat' first|refine st ?_|(refine nx ?_;first|refine se ?_|refine so ?_)|(refine cx ?_;refine sc (fun hc=>?_) (fun hc=>?_)<;>try exact hc.elim)|(refine lx ?_;refine sp (fun hc=>?_) (fun hc=>?_)<;>try exact hc.elim)|refine sx ?_ ?_|refine sy ?_ ?_|fail
    all_goals (try (refine ⟨.inr rfl, ?_⟩; simp [Hands, Tryd.results51]))
  | cons c r =>
    by_cases hc : c = 60
    · subst hc
      have he : endText ⟨60 :: r⟩ = [] := by simp [endText]
      rw [he]
      refine ent Tryd.mix Tryd.func51 Tryd.ntmps51 ?_
      have W := trivial
      repeat' first|refine st ?_|(refine nx ?_;first|refine se ?_|refine so ?_)|(refine cx ?_;refine sc (fun hc=>?_) (fun hc=>?_)<;>try exact hc.elim)|(refine lx ?_;refine sp (fun hc=>?_) (fun hc=>?_)<;>try exact hc.elim)|refine sx ?_ ?_|refine sy ?_ ?_|fail
      all_goals (try (refine ⟨.inr rfl, ?_⟩; simp [Hands, Tryd.results51]))
    · have he : endText ⟨c :: r⟩ = [⟨3, [], [], c :: r⟩] := by simp [endText, hc]
      rw [he]
      have hn : ¬ ((c.toNat : Int) = 60) := fun h => hc (UInt8.toNat_inj.1 (by simp; omega))
      refine ent Tryd.mix Tryd.func51 Tryd.ntmps51 ?_
      have W := hn
      repeat' first|refine st ?_|(refine nx ?_;first|refine se ?_|refine so ?_)|(refine cx ?_;refine sc (fun hc=>?_) (fun hc=>?_)<;>try exact hc.elim)|(refine lx ?_;refine sp (fun hc=>?_) (fun hc=>?_)<;>try exact hc.elim)|refine sx ?_ ?_|refine sy ?_ ?_|fail
      all_goals (try (refine ⟨.inr rfl, ?_⟩; simp [Hands, Tryd.results51]))
theorem specEndText_ok [Tabs Tryd.prog] (t : DTokenizer) (hs : t.rest.length ≤ 1048576) : Ok Tryd.prog 48 [.agg (eTokenizer t)] (.sl .own 4 ((endText t).map (eToken .own))) := by
  obtain ⟨s⟩ := t
  simp only at hs
  cases s with
  | nil =>
    simp only [endText, true_or, if_true, List.map_nil]
    refine ent Tryd.mix Tryd.func48 Tryd.ntmps48 ?_
    have W := trivial
    repeat' first|refine st ?_|(refine nx ?_;first|refine se ?_|refine so ?_)|(refine cx ?_;refine sc (fun hc=>?_) (fun hc=>?_)<;>try exact hc.elim)|(refine lx ?_;refine sp (fun hc=>?_) (fun hc=>?_)<;>try exact hc.elim)|refine sx ?_ ?_|refine sy ?_ ?_|fail
    all_goals (try (refine ⟨.inr rfl, ?_⟩; simp [Hands, Tryd.results48]))
  | cons c r =>
    by_cases hc : c = 60
    · subst hc
      have he : endText ⟨60 :: r⟩ = [] := by simp [endText]
      rw [he]
      refine ent Tryd.mix Tryd.func48 Tryd.ntmps48 ?_
      have W := trivial
      repeat' first|refine st ?_|(refine nx ?_;first|refine se ?_|refine so ?_)|(refine cx ?_;refine sc (fun hc=>?_) (fun hc=>?_)<;>try exact hc.elim)|(refine lx ?_;refine sp (fun hc=>?_) (fun hc=>?_)<;>try exact hc.elim)|refine sx ?_ ?_|refine sy ?_ ?_|fail
      all_goals (try (refine ⟨.inr rfl, ?_⟩; simp [Hands, Tryd.results48]))
    · have he : endText ⟨c :: r⟩ = [⟨3, [], [], c :: r⟩] := by simp [endText, hc]
      rw [he]
      have hn : ¬ ((c.toNat : Int) = 60) := fun h => hc (UInt8.toNat_inj.1 (by simp; omega))
      refine ent Tryd.mix Tryd.func48 Tryd.ntmps48 ?_
      have W := hn
      repeat' first|refine st ?_|(refine nx ?_;first|refine se ?_|refine so ?_)|(refine cx ?_;refine sc (fun hc=>?_) (fun hc=>?_)<;>try exact hc.elim)|(refine lx ?_;refine sp (fun hc=>?_) (fun hc=>?_)<;>try exact hc.elim)|refine sx ?_ ?_|refine sy ?_ ?_|fail
      all_goals (try (refine ⟨.inr rfl, ?_⟩; simp [Hands, Tryd.results48]))
end Go.Proofs.YtkjhhcgnfppdiaaDoor
