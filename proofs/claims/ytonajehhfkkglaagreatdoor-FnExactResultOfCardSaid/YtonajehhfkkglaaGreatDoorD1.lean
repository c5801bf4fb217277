/-
  Proved here: contracts of the library's Itoa and Join, and of FormatInt in the reference and in the program.
  No condition beyond what each statement spells out.
-/
import Derived.Test.YtonajehhfkkglaaGreatDoorSA0
import Derived.Test.YtonajehhfkkglaaGreatDoorYShelf
import Derived.Test.YtonajehhfkkglaaGreatDoorF5
set_option linter.all false
set_option maxRecDepth 4000
set_option maxHeartbeats 400000
namespace Go.Proofs.YtonajehhfkkglaaGreatDoor
open Go.Aw
theorem itoa_ok [Tabs Tryz.prog] [HasPow Tryz.prog] (n : Int) (h : -9223372036854775808 ≤ n ∧ n ≤ 9223372036854775807) : Ok Tryz.prog 153 [.int .i64 n] (.str (Lib.itoa n)) := ok_itoa Tryz.laysM171 n h.1 h.2
theorem implFormatInt_ok [Tabs Tryz.prog] [HasPow Tryz.prog] (n : Int) (h : -9223372036854775808 ≤ n ∧ n ≤ 9223372036854775807) : Ok Tryz.prog 139 [.int .i64 n] (.str (Lib.itoa n)) := by
  have h1 := itoa_ok n h
  refine ent Tryz.mix Tryz.func139 Tryz.ntmps139 ?_
  have W := trivial
  repeat' first|refine st ?_|(refine nx ?_;refine so ?_)|(refine cx ?_;refine sc (fun hc=>?_) (fun hc=>?_)<;>try exact hc.elim)|(refine lx ?_;refine sp (fun hc=>?_) (fun hc=>?_)<;>try exact hc.elim)|refine sx ?_ ?_|refine sy ?_ ?_|fail
  all_goals (try (refine ⟨.inr rfl, ?_⟩; simp [Hands, Tryz.results139]))
theorem specFormatInt_ok [Tabs Tryz.prog] [HasPow Tryz.prog] (n : Int) (h : -9223372036854775808 ≤ n ∧ n ≤ 9223372036854775807) : Ok Tryz.prog 122 [.int .i64 n] (.str (Lib.itoa n)) := by
  by_cases h0 : n = 0
  · subst h0
    refine ent Tryz.mix Tryz.func122 Tryz.ntmps122 ?_
    have W := trivial
    repeat' first|refine st ?_|(refine nx ?_;refine so ?_)|(refine cx ?_;refine sc (fun hc=>?_) (fun hc=>?_)<;>try exact hc.elim)|(refine lx ?_;refine sp (fun hc=>?_) (fun hc=>?_)<;>try exact hc.elim)|refine sx ?_ ?_|refine sy ?_ ?_|fail
    all_goals (try (refine ⟨.inr rfl, ?_⟩; simp [Hands, Tryz.results122]))
    all_goals exact itoa_zero.symm
  · refine ent Tryz.mix Tryz.func122 Tryz.ntmps122 ?_
    have W := h0
    repeat' first|refine st ?_|(refine nx ?_;refine so ?_)|(refine cx ?_;refine sc (fun hc=>?_) (fun hc=>?_)<;>try exact hc.elim)|(refine lx ?_;refine sp (fun hc=>?_) (fun hc=>?_)<;>try exact hc.elim)|refine sx ?_ ?_|refine sy ?_ ?_|fail
    refine awp_loop' (ι := { p : Int × Str // (-9223372036854775808 ≤ p.1 ∧ p.1 ≤ 9223372036854775807) ∧ preD p.1.natAbs ++ p.2 = preD n.natAbs }) (fun t o i => ⟨upds t [(4, .int .i64 i.1.1), (3, .str i.1.2), (5, .undef)], o⟩)
      (fun i => i.1.1.natAbs) ⟨(n, []), h, by simp⟩ (weak_o (by simp) (by simp)) ?_
    rintro ⟨⟨x, s⟩, ⟨hx1, hx2⟩, hi⟩ K1 hK1
    simp only [upds, List.set_cons_succ, List.set_cons_zero] at hK1 hx1 hx2 hi ⊢
    have hsl := congrArg List.length hi
    have hnl := preD_len n h.1 h.2
    rw [List.length_append] at hsl
    have hs1 : 1 + s.length ≤ 9223372036854775807 := by omega
    have hs2 : s.length ≤ 9223372036854775806 := by omega
    clear hsl hnl
    by_cases hx : x = 0
    · subst hx
      have hs : s = preD n.natAbs := by simpa [preD] using hi
      have W := And.intro hs1 hs2
      repeat' first|refine st ?_|(refine nx ?_;refine so ?_)|(refine cx ?_;refine sc (fun hc=>?_) (fun hc=>?_)<;>try exact hc.elim)|(refine lx ?_;refine sp (fun hc=>?_) (fun hc=>?_)<;>try exact hc.elim)|refine sx ?_ ?_|refine sy ?_ ?_|fail
      · all_goals (try (refine ⟨.inr rfl, ?_⟩; simp [Hands, Tryz.results122]))
        exact (itoa_neg (by omega) hs).symm
      · all_goals (try (refine ⟨.inr rfl, ?_⟩; simp [Hands, Tryz.results122]))
        exact (itoa_pos h0 (by omega) hs).symm
    · obtain ⟨r, q, hr0, hr9, hq, hq1, hq2, hqa, hr, ht⟩ := tmod_cases x hx1 hx2
      have hp := preD_step x.natAbs (by omega)
      have hu8 := wrapU8 (48 + r) (by omega) (by omega)
      have hb : UInt8.ofNat (48 + r).toNat = UInt8.ofNat (48 + x.natAbs % 10) := by congr 1; omega
      have hi2 : preD q.natAbs ++ UInt8.ofNat (48 + r).toNat :: s = preD n.natAbs := by rw [← hi, hp, hqa, hb]; simp
      have hm : q.natAbs < x.natAbs := by omega
      clear hr hb hp
      rcases ht with ht | ⟨ht, hrp⟩
      · have W := And.intro hx (And.intro ht (And.intro hq (And.intro hu8 (And.intro hs1 hs2))))
        repeat' first|refine st ?_|(refine nx ?_;refine so ?_)|(refine cx ?_;refine sc (fun hc=>?_) (fun hc=>?_)<;>try exact hc.elim)|(refine lx ?_;refine sp (fun hc=>?_) (fun hc=>?_)<;>try exact hc.elim)|refine sx ?_ ?_|refine sy ?_ ?_|fail
        refine hK1 _ ⟨(q, UInt8.ofNat (48 + r).toNat :: s), ⟨hq1, hq2⟩, hi2⟩ (weak_take 0 (by simp) (by simp) (by simp) (by simp)) (by simp only; omega)
      · have W := And.intro hx (And.intro ht (And.intro hq (And.intro hu8 (And.intro hs1 hs2))))
        repeat' first|refine st ?_|(refine nx ?_;refine so ?_)|(refine cx ?_;refine sc (fun hc=>?_) (fun hc=>?_)<;>try exact hc.elim)|(refine lx ?_;refine sp (fun hc=>?_) (fun hc=>?_)<;>try exact hc.elim)|refine sx ?_ ?_|refine sy ?_ ?_|fail
        refine hK1 _ ⟨(q, UInt8.ofNat (48 + r).toNat :: s), ⟨hq1, hq2⟩, hi2⟩ (weak_take 0 (by simp) (by simp) (by simp) (by simp)) (by simp only; omega)
end Go.Proofs.YtonajehhfkkglaaGreatDoor
