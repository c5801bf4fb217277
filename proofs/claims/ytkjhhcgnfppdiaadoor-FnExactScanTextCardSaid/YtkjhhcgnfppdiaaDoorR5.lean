/-
  Proved here: steps towards the statement of this claim, text R5.
  No condition beyond what each statement spells out.
-/
import Derived.Test.YtkjhhcgnfppdiaaDoorR4
import Derived.Test.YtkjhhcgnfppdiaaDoorF4
set_option linter.all false
set_option linter.unusedSimpArgs false
set_option linter.unusedVariables false
set_option maxRecDepth 4000
set_option maxHeartbeats 400000
namespace Go.Proofs.YtkjhhcgnfppdiaaDoor
open Go.Aw
theorem stringsIndexByte_ok [Tabs Tryd.prog] (s : Str) (c : UInt8) : Ok Tryd.prog 79 [.str s, .int .u8 c.toNat] (.int .i64 (ixI c s)) := by
  have h1 := indexByteString_ok s c
  refine ent Tryd.mix Tryd.func79 Tryd.ntmps79 ?_
  have W := trivial
  repeat' first|refine st ?_|(refine nx ?_;refine so ?_)|(refine cx ?_;refine sc (fun hc=>?_) (fun hc=>?_)<;>try exact hc.elim)|(refine lx ?_;refine sp (fun hc=>?_) (fun hc=>?_)<;>try exact hc.elim)|refine sx ?_ ?_|refine sy ?_ ?_|fail
  all_goals (try (refine ⟨.inr rfl, ?_⟩; simp [Hands, Tryd.results79]))
theorem stringsIndex_ok [Tabs Tryd.prog] (s : Str) (c : UInt8) : Ok Tryd.prog 72 [.str s, .str [c]] (.int .i64 (ixI c s)) := by
  have h1 := stringsIndexByte_ok s c
  refine ent Tryd.mix Tryd.func72 Tryd.ntmps72 ?_
  have W := trivial
  repeat' first|refine st ?_|(refine nx ?_;refine so ?_)|(refine cx ?_;refine sc (fun hc=>?_) (fun hc=>?_)<;>try exact hc.elim)|(refine lx ?_;refine sp (fun hc=>?_) (fun hc=>?_)<;>try exact hc.elim)|refine sx ?_ ?_|refine sy ?_ ?_|fail
  all_goals (try (refine ⟨.inr rfl, ?_⟩; simp [Hands, Tryd.results72]))
  all_goals (subst hc; simp [ixI, ixB_cons])
theorem liteCut_ok [Tabs Tryd.prog] (s : Str) (c : UInt8) (hl : s.length ≤ 1099511627776) : Ok Tryd.prog 58 [.str s, .str [c]] (.tup [.str (s.take (ixB c s)), .str (s.drop (ixB c s + 1)), .bool (decide (ixB c s < s.length))]) := by
  have h1 := stringsIndex_ok s c
  have hle := ixB_le c s
  by_cases h : ixB c s < s.length
  · have e : ixI c s = ixB c s := if_pos h
    rw [e] at h1
    generalize ixB c s = k at *
    refine ent Tryd.mix Tryd.func58 Tryd.ntmps58 ?_
    have W := h
    repeat' first|refine st ?_|(refine nx ?_;refine so ?_)|(refine cx ?_;refine sc (fun hc=>?_) (fun hc=>?_)<;>try exact hc.elim)|(refine lx ?_;refine sp (fun hc=>?_) (fun hc=>?_)<;>try exact hc.elim)|refine sx ?_ ?_|refine sy ?_ ?_|fail
    all_goals (try (refine ⟨.inr rfl, ?_⟩; simp [Hands, Tryd.results58]))
    all_goals simp_all
  · have e : ixI c s = -1 := if_neg h
    rw [e] at h1
    have e2 : ixB c s = s.length := by omega
    rw [e2]
    refine ent Tryd.mix Tryd.func58 Tryd.ntmps58 ?_
    have W := trivial
    repeat' first|refine st ?_|(refine nx ?_;refine so ?_)|(refine cx ?_;refine sc (fun hc=>?_) (fun hc=>?_)<;>try exact hc.elim)|(refine lx ?_;refine sp (fun hc=>?_) (fun hc=>?_)<;>try exact hc.elim)|refine sx ?_ ?_|refine sy ?_ ?_|fail
    all_goals (try (refine ⟨.inr rfl, ?_⟩; simp [Hands, Tryd.results58]))
    all_goals simp
theorem stringsCut_ok [Tabs Tryd.prog] (s : Str) (c : UInt8) (hl : s.length ≤ 1099511627776) : Ok Tryd.prog 40 [.str s, .str [c]] (.tup [.str (s.take (ixB c s)), .str (s.drop (ixB c s + 1)), .bool (decide (ixB c s < s.length))]) := by
  have h1 := liteCut_ok s c hl
  refine ent Tryd.mix Tryd.func40 Tryd.ntmps40 ?_
  have W := trivial
  repeat' first|refine st ?_|(refine nx ?_;refine so ?_)|(refine cx ?_;refine sc (fun hc=>?_) (fun hc=>?_)<;>try exact hc.elim)|(refine lx ?_;refine sp (fun hc=>?_) (fun hc=>?_)<;>try exact hc.elim)|refine sx ?_ ?_|refine sy ?_ ?_|fail
  all_goals (try (refine ⟨.inr rfl, ?_⟩; simp [Hands, Tryd.results40]))
end Go.Proofs.YtkjhhcgnfppdiaaDoor
