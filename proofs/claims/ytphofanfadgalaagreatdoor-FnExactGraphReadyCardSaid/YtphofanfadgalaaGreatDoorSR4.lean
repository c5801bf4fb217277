/-
  Proved here: steps towards the statement of this claim, text SR4.
  No condition beyond what each statement spells out.
-/
import Derived.Test.YtphofanfadgalaaGreatDoorR3
import Derived.Test.YtphofanfadgalaaGreatDoorF4
set_option linter.all false
set_option linter.unusedSimpArgs false
set_option linter.unusedVariables false
set_option maxRecDepth 4000
set_option maxHeartbeats 400000
namespace Go.Proofs.YtphofanfadgalaaGreatDoor
open Go.Aw
theorem idxI_lt {α : Type} (f : α → Bool) (l : List α) (h : l.findIdx f < l.length) : idxI f l = (l.findIdx f : Nat) := by
  unfold idxI
  rw [if_pos]
  exact List.any_eq_true.2 ⟨_, List.getElem_mem h, List.findIdx_getElem (w := h)⟩
theorem idxI_ge {α : Type} (f : α → Bool) (l : List α) (h : ¬ l.findIdx f < l.length) : idxI f l = -1 := by
  refine idxI_none fun x hx => ?_
  have he : l.findIdx f = l.length := by have := List.findIdx_le_length (p := f) (xs := l); omega
  have := List.findIdx_eq_length.1 he x hx
  simpa using this
theorem findAttr_ix (l : List DAttr) (n : Str) (h : l.findIdx (attrIs n) < l.length) : findAttr l n = (l[l.findIdx (attrIs n)].value, true) := by
  refine findAttr_at h (List.findIdx_getElem (w := h)) ?_
  intro x hx
  obtain ⟨i, hi, rfl⟩ := List.getElem_of_mem hx
  have hi' : i < l.findIdx (attrIs n) := by have := hi; simp at this; omega
  rw [List.getElem_take]
  have := List.not_of_lt_findIdx (p := (attrIs n)) (xs := l) hi'
  simpa using this
theorem findAttr_no (l : List DAttr) (n : Str) (h : ¬ l.findIdx (attrIs n) < l.length) : findAttr l n = ([], false) := by
  refine findAttr_none fun x hx => ?_
  have he : l.findIdx (attrIs n) = l.length := by have := List.findIdx_le_length (p := attrIs n) (xs := l); omega
  have := List.findIdx_eq_length.1 he x hx
  simpa using this
theorem indexByteString_ok [Tabs Tryz.prog] (s : Str) (c : UInt8) : OkN Tryz.prog 219 [.str s, .int .u8 c.toNat] (.int .i64 (ixI c s)) :=
  okN_indexByte (fn := Tryz.f219) (by kernel_rfl) (by decide +kernel) rfl (by decide +kernel) (by rfl) s c
end Go.Proofs.YtphofanfadgalaaGreatDoor

set_option linter.unusedSimpArgs false
set_option linter.unusedVariables false
set_option maxRecDepth 4000
set_option maxHeartbeats 400000
namespace Go.Proofs.YtphofanfadgalaaGreatDoor
open Go.Aw
theorem stringsIndexByte_ok [Tabs Tryz.prog] (s : Str) (c : UInt8) : Ok Tryz.prog 212 [.str s, .int .u8 c.toNat] (.int .i64 (ixI c s)) := by
  have h1 := indexByteString_ok s c
  refine ent Tryz.mix Tryz.func212 Tryz.ntmps212 ?_
  have W := trivial
  repeat' first|refine st ?_|(refine nx ?_;refine so ?_)|(refine cx ?_;refine sc (fun hc=>?_) (fun hc=>?_)<;>try exact hc.elim)|(refine lx ?_;refine sp (fun hc=>?_) (fun hc=>?_)<;>try exact hc.elim)|refine sx ?_ ?_|refine sy ?_ ?_|fail
  all_goals (try (refine ⟨.inr rfl, ?_⟩; simp [Hands, Tryz.results212]))
theorem stringsIndex_ok [Tabs Tryz.prog] (s : Str) (c : UInt8) : Ok Tryz.prog 198 [.str s, .str [c]] (.int .i64 (ixI c s)) := by
  have h1 := stringsIndexByte_ok s c
  refine ent Tryz.mix Tryz.func198 Tryz.ntmps198 ?_
  have W := trivial
  repeat' first|refine st ?_|(refine nx ?_;refine so ?_)|(refine cx ?_;refine sc (fun hc=>?_) (fun hc=>?_)<;>try exact hc.elim)|(refine lx ?_;refine sp (fun hc=>?_) (fun hc=>?_)<;>try exact hc.elim)|refine sx ?_ ?_|refine sy ?_ ?_|fail
  all_goals (try (refine ⟨.inr rfl, ?_⟩; simp [Hands, Tryz.results198]))
  all_goals (subst hc; simp [ixI, ixB_cons])
theorem liteCut_ok [Tabs Tryz.prog] (s : Str) (c : UInt8) (hl : s.length ≤ 1099511627776) : Ok Tryz.prog 174 [.str s, .str [c]] (.tup [.str (s.take (ixB c s)), .str (s.drop (ixB c s + 1)), .bool (decide (ixB c s < s.length))]) := by
  have h1 := stringsIndex_ok s c
  have hle := ixB_le c s
  by_cases h : ixB c s < s.length
  · have e : ixI c s = ixB c s := if_pos h
    rw [e] at h1
    generalize ixB c s = k at *
    refine ent Tryz.mix Tryz.func174 Tryz.ntmps174 ?_
    have W := h
    repeat' first|refine st ?_|(refine nx ?_;refine so ?_)|(refine cx ?_;refine sc (fun hc=>?_) (fun hc=>?_)<;>try exact hc.elim)|(refine lx ?_;refine sp (fun hc=>?_) (fun hc=>?_)<;>try exact hc.elim)|refine sx ?_ ?_|refine sy ?_ ?_|fail
    all_goals (try (refine ⟨.inr rfl, ?_⟩; simp [Hands, Tryz.results174]))
    all_goals simp_all
  · have e : ixI c s = -1 := if_neg h
    rw [e] at h1
    have e2 : ixB c s = s.length := by omega
    rw [e2]
    refine ent Tryz.mix Tryz.func174 Tryz.ntmps174 ?_
    have W := trivial
    repeat' first|refine st ?_|(refine nx ?_;refine so ?_)|(refine cx ?_;refine sc (fun hc=>?_) (fun hc=>?_)<;>try exact hc.elim)|(refine lx ?_;refine sp (fun hc=>?_) (fun hc=>?_)<;>try exact hc.elim)|refine sx ?_ ?_|refine sy ?_ ?_|fail
    all_goals (try (refine ⟨.inr rfl, ?_⟩; simp [Hands, Tryz.results174]))
    all_goals simp
theorem stringsCut_ok [Tabs Tryz.prog] (s : Str) (c : UInt8) (hl : s.length ≤ 1099511627776) : Ok Tryz.prog 141 [.str s, .str [c]] (.tup [.str (s.take (ixB c s)), .str (s.drop (ixB c s + 1)), .bool (decide (ixB c s < s.length))]) := by
  have h1 := liteCut_ok s c hl
  refine ent Tryz.mix Tryz.func141 Tryz.ntmps141 ?_
  have W := trivial
  repeat' first|refine st ?_|(refine nx ?_;refine so ?_)|(refine cx ?_;refine sc (fun hc=>?_) (fun hc=>?_)<;>try exact hc.elim)|(refine lx ?_;refine sp (fun hc=>?_) (fun hc=>?_)<;>try exact hc.elim)|refine sx ?_ ?_|refine sy ?_ ?_|fail
  all_goals (try (refine ⟨.inr rfl, ?_⟩; simp [Hands, Tryz.results141]))
end Go.Proofs.YtphofanfadgalaaGreatDoor
