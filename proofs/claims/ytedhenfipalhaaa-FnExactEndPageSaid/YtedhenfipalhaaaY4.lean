/-
  Proved here: contracts of EndText, in the reference and in the program.
  No condition beyond what each statement spells out.
-/
import Derived.Test.YtedhenfipalhaaaY1
set_option linter.all false
set_option linter.unusedSimpArgs false
set_option linter.unusedVariables false
set_option maxRecDepth 4000
set_option maxHeartbeats 4000000
namespace Go.Proofs.Ytedhenfipalhaaa
open Go.Aw
theorem implEndText_ok [Tabs Try.prog] (t : DTokenizer) (hs : t.rest.length ≤ 1048576) : Ok Try.prog 87 [.agg (eTokenizer t)] (.sl .own 4 ((endText t).map (eToken .own))) := by
  obtain ⟨s⟩ := t
  simp only at hs
  cases s with
  | nil =>
    simp only [endText, true_or, if_true, List.map_nil]
    refine ent Try.mix Try.func87 Try.ntmps87 ?_
    have W := trivial
    repeat' first|refine st ?_|(refine nx ?_;first|refine se ?_|refine so ?_)|(refine cx ?_;refine sc (fun hc=>?_) (fun hc=>?_)<;>try exact hc.elim)|(refine lx ?_;refine sp (fun hc=>?_) (fun hc=>?_)<;>try exact hc.elim)|refine sx ?_ ?_|refine sy ?_ ?_|fail
    all_goals (try (refine ⟨.inr rfl, ?_⟩; simp [Hands, Try.results87]))
  | cons c r =>
    by_cases hc : c = 60
    · subst hc
      have he : endText ⟨60 :: r⟩ = [] := by simp [endText]
      rw [he]
      refine ent Try.mix Try.func87 Try.ntmps87 ?_
      have W := trivial
      repeat' first|refine st ?_|(refine nx ?_;first|refine se ?_|refine so ?_)|(refine cx ?_;refine sc (fun hc=>?_) (fun hc=>?_)<;>try exact hc.elim)|(refine lx ?_;refine sp (fun hc=>?_) (fun hc=>?_)<;>try exact hc.elim)|refine sx ?_ ?_|refine sy ?_ ?_|fail
      all_goals (try (refine ⟨.inr rfl, ?_⟩; simp [Hands, Try.results87]))
    · have he : endText ⟨c :: r⟩ = [⟨3, [], [], c :: r⟩] := by simp [endText, hc]
      rw [he]
      have hn : ¬ ((c.toNat : Int) = 60) := fun h => hc (UInt8.toNat_inj.1 (by simp; omega))
      refine ent Try.mix Try.func87 Try.ntmps87 ?_
      have W := hn
      repeat' first|refine st ?_|(refine nx ?_;first|refine se ?_|refine so ?_)|(refine cx ?_;refine sc (fun hc=>?_) (fun hc=>?_)<;>try exact hc.elim)|(refine lx ?_;refine sp (fun hc=>?_) (fun hc=>?_)<;>try exact hc.elim)|refine sx ?_ ?_|refine sy ?_ ?_|fail
      all_goals (try (refine ⟨.inr rfl, ?_⟩; simp [Hands, Try.results87]))
theorem specEndText_ok [Tabs Try.prog] (t : DTokenizer) (hs : t.rest.length ≤ 1048576) : Ok Try.prog 85 [.agg (eTokenizer t)] (.sl .own 4 ((endText t).map (eToken .own))) := by
  obtain ⟨s⟩ := t
  simp only at hs
  cases s with
  | nil =>
    simp only [endText, true_or, if_true, List.map_nil]
    refine ent Try.mix Try.func85 Try.ntmps85 ?_
    have W := trivial
    repeat' first|refine st ?_|(refine nx ?_;first|refine se ?_|refine so ?_)|(refine cx ?_;refine sc (fun hc=>?_) (fun hc=>?_)<;>try exact hc.elim)|(refine lx ?_;refine sp (fun hc=>?_) (fun hc=>?_)<;>try exact hc.elim)|refine sx ?_ ?_|refine sy ?_ ?_|fail
    all_goals (try (refine ⟨.inr rfl, ?_⟩; simp [Hands, Try.results85]))
  | cons c r =>
    by_cases hc : c = 60
    · subst hc
      have he : endText ⟨60 :: r⟩ = [] := by simp [endText]
      rw [he]
      refine ent Try.mix Try.func85 Try.ntmps85 ?_
      have W := trivial
      repeat' first|refine st ?_|(refine nx ?_;first|refine se ?_|refine so ?_)|(refine cx ?_;refine sc (fun hc=>?_) (fun hc=>?_)<;>try exact hc.elim)|(refine lx ?_;refine sp (fun hc=>?_) (fun hc=>?_)<;>try exact hc.elim)|refine sx ?_ ?_|refine sy ?_ ?_|fail
      all_goals (try (refine ⟨.inr rfl, ?_⟩; simp [Hands, Try.results85]))
    · have he : endText ⟨c :: r⟩ = [⟨3, [], [], c :: r⟩] := by simp [endText, hc]
      rw [he]
      have hn : ¬ ((c.toNat : Int) = 60) := fun h => hc (UInt8.toNat_inj.1 (by simp; omega))
      refine ent Try.mix Try.func85 Try.ntmps85 ?_
      have W := hn
      repeat' first|refine st ?_|(refine nx ?_;first|refine se ?_|refine so ?_)|(refine cx ?_;refine sc (fun hc=>?_) (fun hc=>?_)<;>try exact hc.elim)|(refine lx ?_;refine sp (fun hc=>?_) (fun hc=>?_)<;>try exact hc.elim)|refine sx ?_ ?_|refine sy ?_ ?_|fail
      all_goals (try (refine ⟨.inr rfl, ?_⟩; simp [Hands, Try.results85]))
end Go.Proofs.Ytedhenfipalhaaa
