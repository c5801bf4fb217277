/-
  Proved here: steps towards the statement of this claim, text R4.
  No condition beyond what each statement spells out.
-/
import Derived.Test.YtonajehhfkkglabGreatR3
import Derived.Test.YtonajehhfkkglabGreatF4
set_option linter.all false
set_option maxRecDepth 4000
set_option maxHeartbeats 400000
namespace Go.Proofs.YtonajehhfkkglabGreat
open Go.Aw
theorem specFindAttr_ok [Tabs Tryz.prog] (l : List DAttr) (n : Str) (hl : l.length ≤ 1099511627776) : Ok Tryz.prog 72 [.sl .view 2 (l.map eAttr), .str n] (.tup [.str (findAttr l n).1, .bool (findAttr l n).2]) := by
  refine ent Tryz.mix Tryz.func72 Tryz.ntmps72 ?_
  have W := trivial
  repeat' first|refine st ?_|(refine nx ?_;refine so ?_)|(refine cx ?_;refine sc (fun hc=>?_) (fun hc=>?_)<;>try exact hc.elim)|(refine lx ?_;refine sp (fun hc=>?_) (fun hc=>?_)<;>try exact hc.elim)|refine sx ?_ ?_|refine sy ?_ ?_|fail
  refine awp_loop' (ι := { k : Nat // k ≤ l.length ∧ ∀ x ∈ l.take k, attrIs n x = false }) (fun t o i => ⟨upds t [(6, .int .i64 i.1)], o⟩)
    (fun i => l.length - i.1) ⟨0, by simp, by simp⟩ (weak_o (by simp) (by simp)) ?_
  rintro ⟨k, hk, hi⟩ K1 hK1
  simp only [upds, List.set_cons_succ, List.set_cons_zero] at hK1 ⊢
  have hk1 : IntKind.i64.wrap ((k : Int) + 1) = ((k + 1 : Nat) : Int) := by rw [wrap64] <;> omega
  by_cases hlt : k < l.length
  · have hg := List.getElem?_eq_getElem hlt
    have W := And.intro hk1 (And.intro hg hlt)
    repeat' first|refine st ?_|(refine nx ?_;refine so ?_)|(refine cx ?_;refine sc (fun hc=>?_) (fun hc=>?_)<;>try exact hc.elim)|(refine lx ?_;refine sp (fun hc=>?_) (fun hc=>?_)<;>try exact hc.elim)|refine sx ?_ ?_|refine sy ?_ ?_|fail
    · all_goals (try (refine ⟨.inr rfl, ?_⟩; simp [Hands, Tryz.results72]))
      rw [findAttr_at hlt (by simpa [attrIs] using hc) hi]
      simp
    · exact hK1 _ ⟨k + 1, by omega, take_succ_all hlt hi (by simpa [attrIs] using hc)⟩ (weak_o (by simp) (by simp)) (by simp only; omega)
  · have W := hk1
    repeat' first|refine st ?_|(refine nx ?_;refine so ?_)|(refine cx ?_;refine sc (fun hc=>?_) (fun hc=>?_)<;>try exact hc.elim)|(refine lx ?_;refine sp (fun hc=>?_) (fun hc=>?_)<;>try exact hc.elim)|refine sx ?_ ?_|refine sy ?_ ?_|fail
    all_goals (try (refine ⟨.inr rfl, ?_⟩; simp [Hands, Tryz.results72]))
    rw [findAttr_none (take_all (by omega) hi)]
    simp
theorem attr1_ok [Tabs Tryz.prog] (g : DAttr) (n : Str) : Ok Tryz.prog 112 [.agg (eAttr g), .vptr .view [.str n] 0] (.bool (attrIs n g)) := by
  refine ent Tryz.mix Tryz.func112 Tryz.ntmps112 ?_
  have W := trivial
  repeat' first|refine st ?_|(refine nx ?_;refine so ?_)|(refine cx ?_;refine sc (fun hc=>?_) (fun hc=>?_)<;>try exact hc.elim)|(refine lx ?_;refine sp (fun hc=>?_) (fun hc=>?_)<;>try exact hc.elim)|refine sx ?_ ?_|refine sy ?_ ?_|fail
  all_goals (try (refine ⟨.inr rfl, ?_⟩; simp [Hands, Tryz.results112]))
  rw [Bool.eq_iff_iff]
  simp [attrIs]
theorem indexAttr_ok [Tabs Tryz.prog] (l : List DAttr) (n : Str) (hl : l.length ≤ 1099511627776) : Ok Tryz.prog 111 [.sl .view 2 (l.map eAttr), .fn 112 [.vptr .view [.str n] 0]] (.int .i64 (idxI (attrIs n) l)) := by
  refine ent Tryz.mix Tryz.func111 Tryz.ntmps111 ?_
  have W := trivial
  repeat' first|refine st ?_|(refine nx ?_;refine so ?_)|(refine cx ?_;refine sc (fun hc=>?_) (fun hc=>?_)<;>try exact hc.elim)|(refine lx ?_;refine sp (fun hc=>?_) (fun hc=>?_)<;>try exact hc.elim)|refine sx ?_ ?_|refine sy ?_ ?_|fail
  refine awp_loop' (ι := { k : Nat // k ≤ l.length ∧ ∀ x ∈ l.take k, attrIs n x = false }) (fun t o i => ⟨upds t [(8, .int .i64 i.1), (5, .undef)], o⟩)
    (fun i => l.length - i.1) ⟨0, by simp, by simp⟩ (weak_o (by simp) (by simp)) ?_
  rintro ⟨k, hk, hi⟩ K1 hK1
  simp only [upds, List.set_cons_succ, List.set_cons_zero] at hK1 ⊢
  have hk1 : IntKind.i64.wrap ((k : Int) + 1) = ((k + 1 : Nat) : Int) := by rw [wrap64] <;> omega
  by_cases hlt : k < l.length
  · have hg := List.getElem?_eq_getElem hlt
    have W := And.intro hk1 (And.intro hg hlt)
    have c0 := attr1_ok l[k] n
    repeat' first|refine st ?_|(refine nx ?_;refine so ?_)|(refine cx ?_;refine sc (fun hc=>?_) (fun hc=>?_)<;>try exact hc.elim)|(refine lx ?_;refine sp (fun hc=>?_) (fun hc=>?_)<;>try exact hc.elim)|refine sx ?_ ?_|refine sy ?_ ?_|fail
    · all_goals (try (refine ⟨.inr rfl, ?_⟩; simp [Hands, Tryz.results111]))
      rw [idxI_at hlt (by simpa using hc) hi]
    · exact hK1 _ ⟨k + 1, by omega, take_succ_all hlt hi (by simpa using hc)⟩ (weak_o (by simp) (by simp)) (by simp only; omega)
  · have W := hk1
    repeat' first|refine st ?_|(refine nx ?_;refine so ?_)|(refine cx ?_;refine sc (fun hc=>?_) (fun hc=>?_)<;>try exact hc.elim)|(refine lx ?_;refine sp (fun hc=>?_) (fun hc=>?_)<;>try exact hc.elim)|refine sx ?_ ?_|refine sy ?_ ?_|fail
    all_goals (try (refine ⟨.inr rfl, ?_⟩; simp [Hands, Tryz.results111]))
    rw [idxI_none (take_all (by omega) hi)]
theorem idxI_lt {α : Type} (f : α → Bool) (l : List α) (h : l.findIdx f < l.length) : idxI f l = (l.findIdx f : Nat) := by
  unfold idxI
  rw [if_pos]
  exact List.any_eq_true.2 ⟨_, List.getElem_mem h, List.findIdx_getElem (w := h)⟩
theorem idxI_ge {α : Type} (f : α → Bool) (l : List α) (h : ¬ l.findIdx f < l.length) : idxI f l = -1 := by
  refine idxI_none fun x hx => ?_
  have he : l.findIdx f = l.length := by have := List.findIdx_le_length (p := f) (xs := l); omega
  have := List.findIdx_eq_length.1 he x hx
  simpa using this
theorem findAttr_ix (l : List DAttr) (n : Str) (h : l.findIdx (attrIs n) < l.length) : findAttr l n = (l[l.findIdx (attrIs n)].value, true) := by
  refine findAttr_at h (List.findIdx_getElem (w := h)) ?_
  intro x hx
  obtain ⟨i, hi, rfl⟩ := List.getElem_of_mem hx
  have hi' : i < l.findIdx (attrIs n) := by have := hi; simp at this; omega
  rw [List.getElem_take]
  have := List.not_of_lt_findIdx (p := (attrIs n)) (xs := l) hi'
  simpa using this
theorem findAttr_no (l : List DAttr) (n : Str) (h : ¬ l.findIdx (attrIs n) < l.length) : findAttr l n = ([], false) := by
  refine findAttr_none fun x hx => ?_
  have he : l.findIdx (attrIs n) = l.length := by have := List.findIdx_le_length (p := attrIs n) (xs := l); omega
  have := List.findIdx_eq_length.1 he x hx
  simpa using this
theorem implFindAttr_ok [Tabs Tryz.prog] (l : List DAttr) (n : Str) (hl : l.length ≤ 1099511627776) : Ok Tryz.prog 85 [.sl .view 2 (l.map eAttr), .str n] (.tup [.str (findAttr l n).1, .bool (findAttr l n).2]) := by
  have hF := indexAttr_ok l n hl
  by_cases h : l.findIdx (attrIs n) < l.length
  · rw [idxI_lt _ _ h] at hF
    rw [findAttr_ix _ _ h]
    generalize hk : l.findIdx (attrIs n) = k at *
    have hg := List.getElem?_eq_getElem h
    refine ent Tryz.mix Tryz.func85 Tryz.ntmps85 ?_
    have W := hg
    have V := h
    have c0 := hF
    repeat' first|refine st ?_|(refine nx ?_;refine so ?_)|(refine cx ?_;refine sc (fun hc=>?_) (fun hc=>?_)<;>try exact hc.elim)|(refine lx ?_;refine sp (fun hc=>?_) (fun hc=>?_)<;>try exact hc.elim)|refine sx ?_ ?_|refine sy ?_ ?_|fail
    all_goals (try (refine ⟨.inr rfl, ?_⟩; simp [Hands, Tryz.results85]))
    all_goals simp
  · rw [idxI_ge _ _ h] at hF
    rw [findAttr_no _ _ h]
    refine ent Tryz.mix Tryz.func85 Tryz.ntmps85 ?_
    have W := trivial
    have c0 := hF
    repeat' first|refine st ?_|(refine nx ?_;refine so ?_)|(refine cx ?_;refine sc (fun hc=>?_) (fun hc=>?_)<;>try exact hc.elim)|(refine lx ?_;refine sp (fun hc=>?_) (fun hc=>?_)<;>try exact hc.elim)|refine sx ?_ ?_|refine sy ?_ ?_|fail
    all_goals (try (refine ⟨.inr rfl, ?_⟩; simp [Hands, Tryz.results85]))
    all_goals simp
theorem indexByteString_ok [Tabs Tryz.prog] (s : Str) (c : UInt8) : OkN Tryz.prog 155 [.str s, .int .u8 c.toNat] (.int .i64 (ixI c s)) :=
  okN_indexByte (fn := Tryz.f155) (by kernel_rfl) (by decide +kernel) rfl (by decide +kernel) (by rfl) s c
end Go.Proofs.YtonajehhfkkglabGreat
