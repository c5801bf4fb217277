/-
  Proved here: steps towards the statement of this claim, text SR5.
  No condition beyond what each statement spells out.
-/
import Derived.Test.YtonajehhfkkglabGreatR4
import Derived.Test.YtonajehhfkkglabGreatF4
set_option linter.all false
set_option maxRecDepth 4000
set_option maxHeartbeats 400000
namespace Go.Proofs.YtonajehhfkkglabGreat
open Go.Aw
theorem stringsIndexByte_ok [Tabs Tryz.prog] (s : Str) (c : UInt8) : Ok Tryz.prog 149 [.str s, .int .u8 c.toNat] (.int .i64 (ixI c s)) := by
  have h1 := indexByteString_ok s c
  refine ent Tryz.mix Tryz.func149 Tryz.ntmps149 ?_
  have W := trivial
  repeat' first|refine st ?_|(refine nx ?_;refine so ?_)|(refine cx ?_;refine sc (fun hc=>?_) (fun hc=>?_)<;>try exact hc.elim)|(refine lx ?_;refine sp (fun hc=>?_) (fun hc=>?_)<;>try exact hc.elim)|refine sx ?_ ?_|refine sy ?_ ?_|fail
  all_goals (try (refine ⟨.inr rfl, ?_⟩; simp [Hands, Tryz.results149]))
theorem stringsIndex_ok [Tabs Tryz.prog] (s : Str) (c : UInt8) : Ok Tryz.prog 145 [.str s, .str [c]] (.int .i64 (ixI c s)) := by
  have h1 := stringsIndexByte_ok s c
  refine ent Tryz.mix Tryz.func145 Tryz.ntmps145 ?_
  have W := trivial
  repeat' first|refine st ?_|(refine nx ?_;refine so ?_)|(refine cx ?_;refine sc (fun hc=>?_) (fun hc=>?_)<;>try exact hc.elim)|(refine lx ?_;refine sp (fun hc=>?_) (fun hc=>?_)<;>try exact hc.elim)|refine sx ?_ ?_|refine sy ?_ ?_|fail
  all_goals (try (refine ⟨.inr rfl, ?_⟩; simp [Hands, Tryz.results145]))
  all_goals (subst hc; simp [ixI, ixB_cons])
theorem liteCut_ok [Tabs Tryz.prog] (s : Str) (c : UInt8) (hl : s.length ≤ 1099511627776) : Ok Tryz.prog 137 [.str s, .str [c]] (.tup [.str (s.take (ixB c s)), .str (s.drop (ixB c s + 1)), .bool (decide (ixB c s < s.length))]) := by
  have h1 := stringsIndex_ok s c
  have hle := ixB_le c s
  by_cases h : ixB c s < s.length
  · have e : ixI c s = ixB c s := if_pos h
    rw [e] at h1
    generalize ixB c s = k at *
    refine ent Tryz.mix Tryz.func137 Tryz.ntmps137 ?_
    have W := h
    repeat' first|refine st ?_|(refine nx ?_;refine so ?_)|(refine cx ?_;refine sc (fun hc=>?_) (fun hc=>?_)<;>try exact hc.elim)|(refine lx ?_;refine sp (fun hc=>?_) (fun hc=>?_)<;>try exact hc.elim)|refine sx ?_ ?_|refine sy ?_ ?_|fail
    all_goals (try (refine ⟨.inr rfl, ?_⟩; simp [Hands, Tryz.results137]))
    all_goals simp_all
  · have e : ixI c s = -1 := if_neg h
    rw [e] at h1
    have e2 : ixB c s = s.length := by omega
    rw [e2]
    refine ent Tryz.mix Tryz.func137 Tryz.ntmps137 ?_
    have W := trivial
    repeat' first|refine st ?_|(refine nx ?_;refine so ?_)|(refine cx ?_;refine sc (fun hc=>?_) (fun hc=>?_)<;>try exact hc.elim)|(refine lx ?_;refine sp (fun hc=>?_) (fun hc=>?_)<;>try exact hc.elim)|refine sx ?_ ?_|refine sy ?_ ?_|fail
    all_goals (try (refine ⟨.inr rfl, ?_⟩; simp [Hands, Tryz.results137]))
    all_goals simp
theorem stringsCut_ok [Tabs Tryz.prog] (s : Str) (c : UInt8) (hl : s.length ≤ 1099511627776) : Ok Tryz.prog 126 [.str s, .str [c]] (.tup [.str (s.take (ixB c s)), .str (s.drop (ixB c s + 1)), .bool (decide (ixB c s < s.length))]) := by
  have h1 := liteCut_ok s c hl
  refine ent Tryz.mix Tryz.func126 Tryz.ntmps126 ?_
  have W := trivial
  repeat' first|refine st ?_|(refine nx ?_;refine so ?_)|(refine cx ?_;refine sc (fun hc=>?_) (fun hc=>?_)<;>try exact hc.elim)|(refine lx ?_;refine sp (fun hc=>?_) (fun hc=>?_)<;>try exact hc.elim)|refine sx ?_ ?_|refine sy ?_ ?_|fail
  all_goals (try (refine ⟨.inr rfl, ?_⟩; simp [Hands, Tryz.results126]))
end Go.Proofs.YtonajehhfkkglabGreat

set_option maxRecDepth 4000
set_option maxHeartbeats 400000
namespace Go.Proofs.YtonajehhfkkglabGreat
open Go.Aw
theorem byte_eq {c : UInt8} {n : Nat} (hn : n < 256) (h : (c.toNat : Int) = n) : c = UInt8.ofNat n := by
  have : c.toNat = n := by omega
  rw [← this]; simp
theorem byte_ne {c : UInt8} {n : Nat} (hn : n < 256) (h : ¬ (c.toNat : Int) = n) : c ≠ UInt8.ofNat n := by
  rintro rfl
  apply h
  simp
  omega
theorem addrOf_cut {s b : Str} {k : Nat} (h : ixB 47 s = k) (hk : k < s.length) : addrOf s b = ⟨s.take k, s.drop (k + 1)⟩ := by
  subst h; exact if_pos hk
theorem addrOf_none {s b : Str} (h : ixB 47 s = s.length) : addrOf s b = ⟨b, s⟩ := if_neg (by omega)
theorem specParseAddr_ok [Tabs Tryz.prog] (s b : Str) (hl : s.length + b.length ≤ 1099511627776) : Ok Tryz.prog 104 [.str s, .str b] (.tup [.agg (eAddr (parseAddr s b).1), .bool (parseAddr s b).2]) := by
  simp only [parseAddr]
  refine ent Tryz.mix Tryz.func104 Tryz.ntmps104 ?_
  have W := trivial
  repeat' first|refine st ?_|(refine nx ?_;refine so ?_)|(refine cx ?_;refine sc (fun hc=>?_) (fun hc=>?_)<;>try exact hc.elim)|(refine lx ?_;refine sp (fun hc=>?_) (fun hc=>?_)<;>try exact hc.elim)|refine sx ?_ ?_|refine sy ?_ ?_|fail
  refine awp_loop' (ι := { k : Nat // k ≤ s.length ∧ ∀ x ∈ s.take k, x ≠ 47 }) (fun t o i => ⟨upds t [(7, .int .i64 i.1)], o⟩)
    (fun i => s.length - i.1) ⟨0, by simp, by simp⟩ (weak_o (by simp) (by simp)) ?_
  rintro ⟨k, hk, hi⟩ K1 hK1
  simp only [upds, List.set_cons_succ, List.set_cons_zero] at hK1 ⊢
  have hk1 : IntKind.i64.wrap ((k : Int) + 1) = ((k + 1 : Nat) : Int) := by rw [wrap64] <;> omega
  by_cases hlt : k < s.length
  · have hg := List.getElem?_eq_getElem hlt
    have W := And.intro hk1 (And.intro hg hlt)
    repeat' first|refine st ?_|(refine nx ?_;refine so ?_)|(refine cx ?_;refine sc (fun hc=>?_) (fun hc=>?_)<;>try exact hc.elim)|(refine lx ?_;refine sp (fun hc=>?_) (fun hc=>?_)<;>try exact hc.elim)|refine sx ?_ ?_|refine sy ?_ ?_|fail
    · have e := addrOf_cut (b := b) (ixB_at hlt (byte_eq (by decide) hc) hi) hlt
      have h1 := specIsAddr_ok ⟨s.take k, s.drop (k + 1)⟩ (by simp [szAddr]; omega)
      rw [e]
      simp only [eAddr] at h1
      have W := trivial
      repeat' first|refine st ?_|(refine nx ?_;refine so ?_)|(refine cx ?_;refine sc (fun hc=>?_) (fun hc=>?_)<;>try exact hc.elim)|(refine lx ?_;refine sp (fun hc=>?_) (fun hc=>?_)<;>try exact hc.elim)|refine sx ?_ ?_|refine sy ?_ ?_|fail
      all_goals (try (refine ⟨.inr rfl, ?_⟩; simp [Hands, Tryz.results104, noAddr]))
      all_goals simp_all [noAddr]
    · exact hK1 _ ⟨k + 1, by omega, take_succ_all hlt hi (byte_ne (by decide) hc)⟩ (weak_o (by simp) (by simp)) (by simp only; omega)
  · have e := addrOf_none (b := b) (ixB_none (take_all (by omega) hi))
    have h1 := specIsAddr_ok ⟨b, s⟩ (by simp [szAddr]; omega)
    rw [e]
    simp only [eAddr] at h1
    have W := hk1
    repeat' first|refine st ?_|(refine nx ?_;refine so ?_)|(refine cx ?_;refine sc (fun hc=>?_) (fun hc=>?_)<;>try exact hc.elim)|(refine lx ?_;refine sp (fun hc=>?_) (fun hc=>?_)<;>try exact hc.elim)|refine sx ?_ ?_|refine sy ?_ ?_|fail
    all_goals (try (refine ⟨.inr rfl, ?_⟩; simp [Hands, Tryz.results104, noAddr]))
    all_goals simp_all [noAddr]
theorem implParseAddr_ok [Tabs Tryz.prog] (s b : Str) (hl : s.length + b.length ≤ 1099511627776) : Ok Tryz.prog 114 [.str s, .str b] (.tup [.agg (eAddr (parseAddr s b).1), .bool (parseAddr s b).2]) := by
  have hC := stringsCut_ok s 47 (by omega)
  have hle := ixB_le 47 s
  simp only [parseAddr]
  by_cases h : ixB 47 s < s.length
  · rw [addrOf_cut rfl h]
    rw [decide_eq_true h] at hC
    generalize ixB 47 s = k at *
    have h1 := implIsAddr_ok ⟨s.take k, s.drop (k + 1)⟩ (by simp [szAddr]; omega)
    simp only [eAddr] at h1
    refine ent Tryz.mix Tryz.func114 Tryz.ntmps114 ?_
    have W := trivial
    repeat' first|refine st ?_|(refine nx ?_;refine so ?_)|(refine cx ?_;refine sc (fun hc=>?_) (fun hc=>?_)<;>try exact hc.elim)|(refine lx ?_;refine sp (fun hc=>?_) (fun hc=>?_)<;>try exact hc.elim)|refine sx ?_ ?_|refine sy ?_ ?_|fail
    all_goals (try (refine ⟨.inr rfl, ?_⟩; simp [Hands, Tryz.results114, noAddr]))
    all_goals simp_all [noAddr]
  · have e2 : ixB 47 s = s.length := by omega
    rw [addrOf_none e2]
    rw [decide_eq_false h] at hC
    have h1 := implIsAddr_ok ⟨b, s⟩ (by simp [szAddr]; omega)
    simp only [eAddr] at h1
    refine ent Tryz.mix Tryz.func114 Tryz.ntmps114 ?_
    have W := trivial
    repeat' first|refine st ?_|(refine nx ?_;refine so ?_)|(refine cx ?_;refine sc (fun hc=>?_) (fun hc=>?_)<;>try exact hc.elim)|(refine lx ?_;refine sp (fun hc=>?_) (fun hc=>?_)<;>try exact hc.elim)|refine sx ?_ ?_|refine sy ?_ ?_|fail
    all_goals (try (refine ⟨.inr rfl, ?_⟩; simp [Hands, Tryz.results114, noAddr]))
    all_goals simp_all [noAddr]
end Go.Proofs.YtonajehhfkkglabGreat
