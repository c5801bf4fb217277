/-
  Proved here: steps towards the statement of this claim, text R4.
  No condition beyond what each statement spells out.
-/
import Derived.Test.YtphofanfadgalaaGreatR3
import Derived.Test.YtphofanfadgalaaGreatF4
set_option linter.all false
set_option linter.unusedSimpArgs false
set_option linter.unusedVariables false
set_option maxRecDepth 4000
set_option maxHeartbeats 400000
namespace Go.Proofs.YtphofanfadgalaaGreat
open Go.Aw
theorem idxI_lt {α : Type} (f : α → Bool) (l : List α) (h : l.findIdx f < l.length) : idxI f l = (l.findIdx f : Nat) := by
  unfold idxI
  rw [if_pos]
  exact List.any_eq_true.2 ⟨_, List.getElem_mem h, List.findIdx_getElem (w := h)⟩
theorem idxI_ge {α : Type} (f : α → Bool) (l : List α) (h : ¬ l.findIdx f < l.length) : idxI f l = -1 := by
  refine idxI_none fun x hx => ?_
  have he : l.findIdx f = l.length := by have := List.findIdx_le_length (p := f) (xs := l); omega
  have := List.findIdx_eq_length.1 he x hx
  simpa using this
theorem findAttr_ix (l : List DAttr) (n : Str) (h : l.findIdx (attrIs n) < l.length) : findAttr l n = (l[l.findIdx (attrIs n)].value, true) := by
  refine findAttr_at h (List.findIdx_getElem (w := h)) ?_
  intro x hx
  obtain ⟨i, hi, rfl⟩ := List.getElem_of_mem hx
  have hi' : i < l.findIdx (attrIs n) := by have := hi; simp at this; omega
  rw [List.getElem_take]
  have := List.not_of_lt_findIdx (p := (attrIs n)) (xs := l) hi'
  simpa using this
theorem findAttr_no (l : List DAttr) (n : Str) (h : ¬ l.findIdx (attrIs n) < l.length) : findAttr l n = ([], false) := by
  refine findAttr_none fun x hx => ?_
  have he : l.findIdx (attrIs n) = l.length := by have := List.findIdx_le_length (p := attrIs n) (xs := l); omega
  have := List.findIdx_eq_length.1 he x hx
  simpa using this
theorem indexByteString_ok [Tabs Tryz.prog] (s : Str) (c : UInt8) : OkN Tryz.prog 133 [.str s, .int .u8 c.toNat] (.int .i64 (ixI c s)) :=
  okN_indexByte (fn := Tryz.f133) (by kernel_rfl) (by decide +kernel) rfl (by decide +kernel) (by rfl) s c
end Go.Proofs.YtphofanfadgalaaGreat
