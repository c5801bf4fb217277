/-
  Proved here: steps towards the statement of this claim, text CParseModule.
  No condition beyond what each statement spells out.
-/
import Derived.Test.YtkjhhcgnfppdiaaDoorP9
import Derived.Test.YtkjhhcgnfppdiaaDoorU2
import Derived.Test.YtkjhhcgnfppdiaaDoorU6
import Derived.Test.YtkjhhcgnfppdiaaDoorW1
import Derived.Test.YtkjhhcgnfppdiaaDoorW4
import Derived.Test.YtkjhhcgnfppdiaaDoorF4
import Derived.Test.YtkjhhcgnfppdiaaDoorAwDoor2
import Derived.Lay
import Derived.SevenTiedAt
import Derived.Test.YtkjhhcgnfppdiaaDoorRows
import Derived.Test.YtkjhhcgnfppdiaaDoorCards
import Derived.Test.YtkjhhcgnfppdiaaDoorTie
set_option linter.all false
set_option linter.unusedSimpArgs false
set_option linter.unusedVariables false
set_option maxRecDepth 8000
set_option maxHeartbeats 8000000
namespace Go.Proofs.YtkjhhcgnfppdiaaDoor
open Go.Aw

theorem segs_sum (c : UInt8) : ∀ s : Str, sumN szStr (segs c s) ≤ s.length
  | [] => by simp [segs, sumN, szStr]
  | x :: s => by
    have ih := segs_sum c s
    simp only [segs]
    split
    · simp only [sumN, szStr, List.length_nil, List.length_cons] at ih ⊢; omega
    · split
      · rename_i h0; exact absurd h0 (segs_ne c s)
      · rename_i p q h0
        rw [h0] at ih
        simp only [sumN, szStr, List.length_cons] at ih ⊢; omega
theorem addr_sz (s b : Str) : szAddr (parseAddr s b).1 ≤ s.length + b.length := by
  have h := ixB_le 47 s
  unfold parseAddr addrOf
  split <;> split <;> simp [szAddr, noAddr] <;> omega
theorem imps_sz (base : Str) : ∀ (l : List Str) (acc : List DAddr) (q : List Str), impsOf base l = some (acc, q) → 7 * acc.length ≤ sumN szStr l ∧ sumN szAddr acc ≤ sumN szStr l + acc.length * base.length ∧ sumN szStr q ≤ sumN szStr l ∧ q.length ≤ l.length
  | [], acc, q, h => by
    simp only [impsOf, Option.some.injEq, Prod.mk.injEq] at h
    obtain ⟨rfl, rfl⟩ := h
    simp [sumN]
  | p :: ps, acc, q, h => by
    simp only [impsOf] at h
    split at h
    · rename_i hp
      split at h
      · obtain ⟨⟨a1, q1⟩, h1, h2⟩ := Option.map_eq_some_iff.1 h
        simp only [Prod.mk.injEq] at h2
        obtain ⟨rfl, rfl⟩ := h2
        obtain ⟨i1, i2, i3, i4⟩ := imps_sz base ps a1 q1 h1
        have h7 := pfx_le hp
        have ha := addr_sz (p.drop 7) base
        simp only [show impW.length = 7 from rfl] at h7
        simp only [List.length_drop] at ha
        simp only [sumN, szStr, List.length_cons, Nat.succ_mul] at i1 i2 i3 ⊢
        refine ⟨by omega, by omega, by omega, by omega⟩
      · cases h
    · simp only [Option.some.injEq, Prod.mk.injEq] at h
      obtain ⟨rfl, rfl⟩ := h
      simp [sumN]
theorem join_sum (c : UInt8) : ∀ l : List Str, (Lib.join l [c]).length ≤ sumN szStr l + l.length
  | [] => by simp [Lib.join_nil]
  | [x] => by simp [Lib.join_one, sumN, szStr]
  | x :: y :: l => by
    have ih := join_sum c (y :: l)
    simp only [Lib.join, List.intercalate, List.intersperse, List.flatten_cons, List.length_append, List.length_cons, List.length_nil, sumN, szStr] at ih ⊢
    omega
theorem lnTry_sz {s : Str} {op : Nat} {d : DLine} {b : Bool} (h : lnTry s op = some (d, b)) : szLine d ≤ s.length := by
  unfold lnTry at h
  split at h
  · simp only [Option.some.injEq, Prod.mk.injEq] at h
    obtain ⟨rfl, _⟩ := h
    simp [szLine]
  · cases h
theorem specLine_sz (s : Str) : szLine (specLine s).1 ≤ s.length := by
  unfold specLine
  have hor : ∀ a b : Option (DLine × Bool), (∀ d k, a = some (d, k) → szLine d ≤ s.length) → (∀ d k, b = some (d, k) → szLine d ≤ s.length) → ∀ d k, a.or b = some (d, k) → szLine d ≤ s.length := by
    intro a b ha hb d k h
    cases a with
    | none => exact hb d k (by simpa using h)
    | some x => exact ha d k (by simpa using h)
  have h1 : ∀ op d k, lnTry s op = some (d, k) → szLine d ≤ s.length := fun op d k h => lnTry_sz h
  have h2 := hor _ _ (hor _ _ (hor _ _ (hor _ _ (h1 1) (h1 2)) (h1 3)) (h1 4)) (h1 5)
  cases hx : ((((lnTry s 1).or (lnTry s 2)).or (lnTry s 3)).or (lnTry s 4)).or (lnTry s 5) with
  | none => simp [szLine]
  | some x => exact h2 x.1 x.2 hx
theorem lines_sz : ∀ l : List Str, sumN szLine (l.map fun p => (specLine p).1) ≤ sumN szStr l
  | [] => by simp [sumN]
  | x :: l => by
    have ih := lines_sz l
    have h := specLine_sz x
    simp only [List.map_cons, sumN, szStr] at ih ⊢
    omega
theorem script_sz (s : Str) : (scriptOf s).1.length ≤ 6 ∧ sumN szLine (scriptOf s).1 ≤ s.length := by
  have h := segs_sum 59 s
  have h2 := lines_sz (segs 59 s)
  unfold scriptOf
  split
  · simp [sumN]
  · split
    · rename_i hc
      exact ⟨by simpa using hc.2, by simp only; omega⟩
    · simp [sumN]
theorem parseModule_sz (s b : Str) : 7 * (parseModule s b).1.length ≤ s.length ∧ sumN szAddr (parseModule s b).1 ≤ s.length + (parseModule s b).1.length * b.length ∧ (parseModule s b).2.1.length ≤ 6 ∧ sumN szLine (parseModule s b).2.1 ≤ 3 * s.length + 3 := by
  have hs := segs_sum 59 s
  have hn := segs_length 59 s
  have hcn : s.count 59 ≤ s.length := List.count_le_length
  unfold parseModule
  split
  · simp [sumN]
  · rename_i l q h
    obtain ⟨i1, i2, i3, i4⟩ := imps_sz b _ _ _ h
    obtain ⟨j1, j2⟩ := script_sz (Lib.join q [59])
    have hj := join_sum 59 q
    split
    · exact ⟨by simp only; omega, by simp only; omega, j1, by simp only; omega⟩
    · simp [sumN]
theorem FnExactParseModule_law [Tabs Tryd.prog] [HasMax Tryd.prog] (s : Str) (hws : s.length ≤ 9223372036854775807) (b : Str) (hwb : b.length ≤ 9223372036854775807) : Ok Tryd.prog 3 [.str s, .str b] (.bool true) := by
  by_cases qss : s.length ≤ 1048576
  · skip
    by_cases qsb : b.length ≤ 1048576
    · skip
      have t2 := specParseModule_ok s b (by omega) (by omega)
      have t3 := implParseModule_ok s b (by omega) (by omega)
      obtain ⟨z1, z2, z3, z4⟩ := parseModule_sz s b
      generalize parseModule s b = u at *
      obtain ⟨g, d, c⟩ := u
      simp only at z1 z2 z3 z4 t2 t3
      have hlb : g.length * b.length ≤ 149797 * 1048576 := Nat.mul_le_mul (by omega) (by omega)
      generalize g.length * b.length = lb at *
      have hc1 : (sumN (fun _ => 2) g : Nat) = 2 * g.length := sumN_const 2 g
      have hc2 : (sumN (fun _ => 2) d : Nat) = 2 * d.length := sumN_const 2 d
      have e1 := eqAddrS_ok g g (by simp only [szL]; omega)
      have e2 := eqLineS_ok d d (by simp only [szL]; omega)
      have m1 := markAddrS_ok g 1 (by omega) (by omega) (by omega)
      have m2 := markLineS_ok d (1 + (sumN (fun _ => 2) g : Nat)) (by omega) (by omega) (by omega)
      have m3 := heldAddrS_ok g 1 (by omega) (by omega) (by omega)
      have m4 := heldLineS_ok d (1 + (sumN (fun _ => 2) g : Nat)) (by omega) (by omega) (by omega)
      refine ent Tryd.mix Tryd.func3 Tryd.ntmps3 ?_
      have W := trivial
      repeat' first|refine st ?_|(refine nx ?_;first|refine so ?_|refine sm (hc:=m1) (h:=?_)|refine sm (hc:=m2) (h:=?_))|(refine cx ?_;refine sc (fun hc=>?_) (fun hc=>?_)<;>try exact hc.elim)|(refine lx ?_;refine sp (fun hc=>?_) (fun hc=>?_)<;>try exact hc.elim)|refine sx ?_ ?_|refine sy ?_ ?_|fail
      all_goals (try (refine ⟨.inr rfl, ?_⟩; simp [Hands, Tryd.results3]))
      all_goals (try simp only [decide_eq_true_eq] at *); all_goals (first | omega | simp_all)
    · refine ent Tryd.mix Tryd.func3 Tryd.ntmps3 ?_
      have W := trivial
      repeat' first|refine st ?_|(refine nx ?_;refine so ?_)|(refine cx ?_;refine sc (fun hc=>?_) (fun hc=>?_)<;>try exact hc.elim)|(refine lx ?_;refine sp (fun hc=>?_) (fun hc=>?_)<;>try exact hc.elim)|refine sx ?_ ?_|refine sy ?_ ?_|fail
      all_goals (try (refine ⟨.inr rfl, ?_⟩; simp [Hands, Tryd.results3]))
  · refine ent Tryd.mix Tryd.func3 Tryd.ntmps3 ?_
    have W := trivial
    repeat' first|refine st ?_|(refine nx ?_;refine so ?_)|(refine cx ?_;refine sc (fun hc=>?_) (fun hc=>?_)<;>try exact hc.elim)|(refine lx ?_;refine sp (fun hc=>?_) (fun hc=>?_)<;>try exact hc.elim)|refine sx ?_ ?_|refine sy ?_ ?_|fail
    all_goals (try (refine ⟨.inr rfl, ?_⟩; simp [Hands, Tryd.results3]))

set_option maxRecDepth 100000 in
theorem law3_lifted (os : Os) (started : os.Started) (H : Type) (enc : TypeId × Value → H) :
    ReturnsInHanded {} Tryd.checked os 3 .any (fun w args => (Rows.fnExactParseModuleSpec.pre enc Tryd.prog Tryd.f3 Rows.fnExactParseModuleRow.domain false w args ∧ laidMetH Tryd.prog Rows.fnExactParseModuleRow.laid w) ∧ sizedMet enc Tryd.prog Tryd.f3 (OpenSpec.ofChange Rows.fnExactParseModuleSpec) false w args) (Rows.fnExactParseModuleSpec.post enc Tryd.prog Tryd.f3 false true false false) := by
  refine returnsIn_door (C := Tryd.checked) (X := fun w _ => laidMetH Tryd.prog Rows.fnExactParseModuleRow.laid w) (fun _ _ _ hh h => h.of_heap hh) (by kernel_rfl) started (by kernel_rfl) Tryd.func3
    (ChangeSpec.witness_shaped (enc := enc) (C := Tryd.checked) (os := os) (X := fun w _ => laidMetH Tryd.prog Rows.fnExactParseModuleRow.laid w) false (World.laidAll Tryd.prog os Rows.fnExactParseModuleRow.laid) #[.string ⟨#[]⟩, .string ⟨#[]⟩] 8 (World.laidAll_os _ _ _) (World.shaped_of_ZipB (by kernel_rfl) (by kernel_rfl)) (by kernel_rfl) (by kernel_rfl) (by kernel_rfl) (by rw [MakeChecks.laidMetH_plain _ _ _ (by kernel_rfl)]; exact laidMet_laidAll _ (by kernel_rfl) (by kernel_rfl))) ?_
  intro W base args ds gs before hval hW hL hsh
  rw [MakeChecks.laidMetH_plain _ _ _ (by kernel_rfl)] at hL
  obtain ⟨_, hL, _⟩ := hL
  have hmax : ∀ g, Tryd.prog.globalNamed "internal/bytealg.MaxLen" = some g → ∃ m, W.cell? ⟨g, 0, none⟩ = some (.int .i64 m) := fun g hg => by
    obtain rfl := Option.some.inj ((show Tryd.prog.globalNamed "internal/bytealg.MaxLen" = some 0 by kernel_rfl).symm.trans hg)
    exact Tryd.laysM146.s1_3 W hsh
  letI T : Tabs Tryd.prog := { holds := doorHolds Tryd.prog 1 [] ["internal/bytealg.MaxLen"], low := 1, low_le := fun _ h => h.1, stable := doorStable (by kernel_rfl) }
  haveI : HasMax Tryd.prog := ⟨fun w h g hg => h.2.2 "internal/bytealg.MaxLen" (by simp) g hg⟩
  have hT : doorHolds Tryd.prog 1 [] ["internal/bytealg.MaxLen"] W := ⟨(hmax 0 (by kernel_rfl)).elim fun _ hm => size_of_cell hm (by decide), by simp, fun n hn => by (simp only [List.mem_singleton] at hn; subst hn; exact hmax)⟩
  exact row_true (C := Tryd.checked) (T := T) (ss := [.one .str, .one .str]) (fuel := 8) (tb := 4) (by kernel_rfl) (by decide +kernel) (by kernel_rfl) (by kernel_rfl) (by kernel_rfl) rfl
    (fun ds h => by
      match ds, h with
      | [d0, d1], _ => rfl)
    (fun avs hf => by
      obtain ⟨x, r0, rfl, hx, hf1⟩ := fitsV_one hf
      obtain ⟨s, rfl, hws⟩ := fits_one_str hx
      obtain ⟨x, r1, rfl, hx, hf2⟩ := fitsV_one hf1
      obtain ⟨b, rfl, hwb⟩ := fits_one_str hx
      obtain rfl := fitsV_nil hf2
      exact FnExactParseModule_law s hws b hwb) hT hval hW
/-- The row: for every input the law returns true and its arguments read as they did. -/
theorem law3_row : Rows.FnExactParseModuleSaid :=
  OpenClaim.holds_of_wide 3 Tryd.f3 rfl rfl rfl rfl rfl rfl rfl ⟨rfl, rfl, rfl, rfl, rfl⟩ rfl rfl rfl rfl rfl (by kernel_rfl) Tryd.func3 (by kernel_rfl)
    (of_decide_eq_true (by kernel_rfl)) (by unfold Func.isWrapper; first | (rw [if_pos (by decide +kernel)]; kernel_rfl) | (rw [if_neg (by decide +kernel)]; exact ⟨rfl, rfl⟩))
    (fun os started H enc _ => law3_lifted os started H enc)
/-- The tied card. -/
theorem law3_holds : Rows.FnExactParseModuleCardSaid :=
  Claim7.holds_tied_plain_at .later [] Rows.fnExactParseModuleCard.laidKinds true Rows.fnExactParseModuleCard.stood.harness Rows.fnExactParseModuleCard.stood.looks
    law3_row (fun _ h => by cases h) (by kernel_rfl) (fun _ h => by cases h) fnExactParseModule_row_tie rfl ⟨rfl, rfl⟩ (by kernel_rfl) (by kernel_rfl)
    (fun f fn hf hfn => by
      obtain rfl : f = 3 := Option.some.inj ((show Tryd.prog.funcNamed Rows.fnExactParseModuleRow.func = some 3 by kernel_rfl).symm.trans hf) |>.symm
      obtain rfl : fn = Tryd.f3 := (Option.some.inj (Tryd.func3.symm.trans hfn)).symm
      exact ⟨by kernel_rfl, fun j t ht => by
        have h1 : (Tryd.f3.params.toList.all fun t => !Tryd.prog.wantsStandIn t) = true := by kernel_rfl
        have h2 := List.all_eq_true.1 h1 t (List.mem_of_getElem? (i := j) (by simpa using ht))
        have h3 : Tryd.prog.wantsStandIn t = false := by simpa using h2
        exact h3⟩)
    (by kernel_rfl)

end Go.Proofs.YtkjhhcgnfppdiaaDoor
