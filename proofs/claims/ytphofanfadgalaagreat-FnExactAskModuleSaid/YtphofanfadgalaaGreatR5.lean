/-
  Proved here: steps towards the statement of this claim, text R5.
  No condition beyond what each statement spells out.
-/
import Derived.Test.YtphofanfadgalaaGreatR4
import Derived.Test.YtphofanfadgalaaGreatF4
set_option linter.all false
set_option linter.unusedSimpArgs false
set_option linter.unusedVariables false
set_option maxRecDepth 4000
set_option maxHeartbeats 400000
namespace Go.Proofs.YtphofanfadgalaaGreat
open Go.Aw
theorem stringsIndexByte_ok [Tabs Tryz.prog] (s : Str) (c : UInt8) : Ok Tryz.prog 129 [.str s, .int .u8 c.toNat] (.int .i64 (ixI c s)) := by
  have h1 := indexByteString_ok s c
  refine ent Tryz.mix Tryz.func129 Tryz.ntmps129 ?_
  have W := trivial
  repeat' first|refine st ?_|(refine nx ?_;refine so ?_)|(refine cx ?_;refine sc (fun hc=>?_) (fun hc=>?_)<;>try exact hc.elim)|(refine lx ?_;refine sp (fun hc=>?_) (fun hc=>?_)<;>try exact hc.elim)|refine sx ?_ ?_|refine sy ?_ ?_|fail
  all_goals (try (refine ⟨.inr rfl, ?_⟩; simp [Hands, Tryz.results129]))
theorem stringsIndex_ok [Tabs Tryz.prog] (s : Str) (c : UInt8) : Ok Tryz.prog 128 [.str s, .str [c]] (.int .i64 (ixI c s)) := by
  have h1 := stringsIndexByte_ok s c
  refine ent Tryz.mix Tryz.func128 Tryz.ntmps128 ?_
  have W := trivial
  repeat' first|refine st ?_|(refine nx ?_;refine so ?_)|(refine cx ?_;refine sc (fun hc=>?_) (fun hc=>?_)<;>try exact hc.elim)|(refine lx ?_;refine sp (fun hc=>?_) (fun hc=>?_)<;>try exact hc.elim)|refine sx ?_ ?_|refine sy ?_ ?_|fail
  all_goals (try (refine ⟨.inr rfl, ?_⟩; simp [Hands, Tryz.results128]))
  all_goals (subst hc; simp [ixI, ixB_cons])
theorem liteCut_ok [Tabs Tryz.prog] (s : Str) (c : UInt8) (hl : s.length ≤ 1099511627776) : Ok Tryz.prog 121 [.str s, .str [c]] (.tup [.str (s.take (ixB c s)), .str (s.drop (ixB c s + 1)), .bool (decide (ixB c s < s.length))]) := by
  have h1 := stringsIndex_ok s c
  have hle := ixB_le c s
  by_cases h : ixB c s < s.length
  · have e : ixI c s = ixB c s := if_pos h
    rw [e] at h1
    generalize ixB c s = k at *
    refine ent Tryz.mix Tryz.func121 Tryz.ntmps121 ?_
    have W := h
    repeat' first|refine st ?_|(refine nx ?_;refine so ?_)|(refine cx ?_;refine sc (fun hc=>?_) (fun hc=>?_)<;>try exact hc.elim)|(refine lx ?_;refine sp (fun hc=>?_) (fun hc=>?_)<;>try exact hc.elim)|refine sx ?_ ?_|refine sy ?_ ?_|fail
    all_goals (try (refine ⟨.inr rfl, ?_⟩; simp [Hands, Tryz.results121]))
    all_goals simp_all
  · have e : ixI c s = -1 := if_neg h
    rw [e] at h1
    have e2 : ixB c s = s.length := by omega
    rw [e2]
    refine ent Tryz.mix Tryz.func121 Tryz.ntmps121 ?_
    have W := trivial
    repeat' first|refine st ?_|(refine nx ?_;refine so ?_)|(refine cx ?_;refine sc (fun hc=>?_) (fun hc=>?_)<;>try exact hc.elim)|(refine lx ?_;refine sp (fun hc=>?_) (fun hc=>?_)<;>try exact hc.elim)|refine sx ?_ ?_|refine sy ?_ ?_|fail
    all_goals (try (refine ⟨.inr rfl, ?_⟩; simp [Hands, Tryz.results121]))
    all_goals simp
theorem stringsCut_ok [Tabs Tryz.prog] (s : Str) (c : UInt8) (hl : s.length ≤ 1099511627776) : Ok Tryz.prog 101 [.str s, .str [c]] (.tup [.str (s.take (ixB c s)), .str (s.drop (ixB c s + 1)), .bool (decide (ixB c s < s.length))]) := by
  have h1 := liteCut_ok s c hl
  refine ent Tryz.mix Tryz.func101 Tryz.ntmps101 ?_
  have W := trivial
  repeat' first|refine st ?_|(refine nx ?_;refine so ?_)|(refine cx ?_;refine sc (fun hc=>?_) (fun hc=>?_)<;>try exact hc.elim)|(refine lx ?_;refine sp (fun hc=>?_) (fun hc=>?_)<;>try exact hc.elim)|refine sx ?_ ?_|refine sy ?_ ?_|fail
  all_goals (try (refine ⟨.inr rfl, ?_⟩; simp [Hands, Tryz.results101]))
end Go.Proofs.YtphofanfadgalaaGreat
