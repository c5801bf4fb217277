/-
  Proved here: steps towards the statement of this claim, text CSheetsOf.
  No condition beyond what each statement spells out.
-/
import Derived.Test.YtkjhhcgnfppdiaaGreatDoorT5
import Derived.Test.YtkjhhcgnfppdiaaGreatDoorZ3
import Derived.Test.YtkjhhcgnfppdiaaGreatDoorPL
import Derived.Test.YtkjhhcgnfppdiaaGreatDoorV1
import Derived.Test.YtkjhhcgnfppdiaaGreatDoorV2
import Derived.Test.YtkjhhcgnfppdiaaGreatDoorV3
import Derived.Test.YtkjhhcgnfppdiaaGreatDoorM8
import Derived.Test.YtkjhhcgnfppdiaaGreatDoorX2
import Derived.Test.YtkjhhcgnfppdiaaGreatDoorF4
import Derived.Test.YtkjhhcgnfppdiaaGreatDoorF7
import Derived.Test.YtkjhhcgnfppdiaaGreatDoorKSheetsOf
import Derived.Lay
import Derived.SevenTiedAt
import Derived.Test.YtkjhhcgnfppdiaaGreatDoorRows
import Derived.Test.YtkjhhcgnfppdiaaGreatDoorCards
import Derived.Test.YtkjhhcgnfppdiaaGreatDoorTie
set_option linter.all false
set_option linter.unusedSimpArgs false
set_option linter.unusedVariables false
set_option maxRecDepth 8000
set_option maxHeartbeats 8000000
namespace Go.Proofs.YtkjhhcgnfppdiaaGreatDoor
open Go.Aw


theorem sumN_top {α : Type} (f : α → Nat) (c : Nat) : ∀ l : List α, (∀ x ∈ l, f x ≤ c) → sumN f l ≤ c * l.length
  | [], _ => by simp [sumN]
  | x :: xs, h => by
    have h1 := h x (by simp)
    have h2 := sumN_top f c xs (fun y hy => h y (by simp [hy]))
    simp only [sumN, List.length_cons, Nat.mul_add, Nat.mul_one]
    omega
theorem rule_sz {p : Str} {r : DRule} (h : ruleOf p = some r) : szRule r ≤ 8 := by
  unfold ruleOf at h
  split at h
  · split at h
    · rename_i hc
      have hn := hc.1
      simp only [Option.some.injEq] at h
      subst h
      simp only [isName, Bool.and_eq_true, decide_eq_true_eq] at hn
      simp only [szRule]
      omega
    · cases h
  · cases h
theorem rules_sz (l : List Str) : ∀ r ∈ rulesOf l, szRule r ≤ 8 := by
  intro r hr
  have h1 := List.mem_of_mem_take hr
  obtain ⟨p, _, hp⟩ := List.mem_filterMap.1 h1
  exact rule_sz hp
theorem sheet_facts (s : Str) : szSheet (parseSheet s) ≤ 72 ∧ cSheet (parseSheet s) ≤ 16 ∧ (parseSheet s).rules.length ≤ 8 := by
  have h1 := rules_le (segs 59 s)
  have h2 := sumN_top szRule 8 _ (rules_sz (segs 59 s))
  have h3 := sumN_const 2 (rulesOf (segs 59 s))
  refine ⟨?_, ?_, h1⟩
  · simp only [szSheet, parseSheet, szL]; omega
  · simp only [cSheet, parseSheet]; omega
theorem sheets_facts (p : DPage) : sumN szSheet (sheetsOf p) ≤ 72 * (sheetsOf p).length ∧ sumN cSheet (sheetsOf p) ≤ 16 * (sheetsOf p).length ∧ (∀ x ∈ sheetsOf p, x.rules.length ≤ 4611686018427387904) ∧ (sheetsOf p).length ≤ p.slots.length := by
  have hm : ∀ x ∈ sheetsOf p, ∃ s, x = parseSheet s := by
    intro x hx
    unfold sheetsOf sheetsTo at hx
    obtain ⟨y, _, rfl⟩ := List.mem_map.1 hx
    exact ⟨_, rfl⟩
  refine ⟨sumN_top _ _ _ ?_, sumN_top _ _ _ ?_, ?_, sheetsTo_len _⟩
  · intro x hx; obtain ⟨s, rfl⟩ := hm x hx; exact (sheet_facts s).1
  · intro x hx; obtain ⟨s, rfl⟩ := hm x hx; exact (sheet_facts s).2.1
  · intro x hx; obtain ⟨s, rfl⟩ := hm x hx; have := (sheet_facts s).2.2; omega

theorem FnExactSheetsOf_law [Tabs Tryz.prog] [HasMax Tryz.prog] [HasPow Tryz.prog] [HasErr Tryz.prog] (p : DPage) (hwp : wfPage p) (hrp : rgPage p) : Ok Tryz.prog 5 [.agg (ePage .view p)] (.bool true) := by
  have hz0 := szPage_ok p 1048576 (by omega) (by omega) hwp
  by_cases qz0 : (szPage p) ≤ 1048576
  · rw [sub_pos (by omega)] at hz0
    have hs : szPage p ≤ 1048576 := by omega
    obtain ⟨⟨hc, hq⟩, hqa, hb, hba⟩ := page_facts p (by omega)
    have hsl : szL szSlot p.slots ≤ 1048576 := by simp only [szPage] at hs; omega
    have hsn : p.slots.length ≤ 1048576 := by simp only [szL] at hsl; omega
    have t1 := toPage_ok p hs
    have t2 := specSheetsOf_ok p (by omega)
    have t3 := implSheetsOf_ok p (by omega)
    obtain ⟨z1, z2, z3, z4⟩ := sheets_facts p
    generalize sheetsOf p = g at *
    have e1 := eqSheetS_ok g g (by simp only [szL]; omega)
    have e2 := eqPage_ok p p (by omega)
    have m1 := markPage_ok p 1 (by omega) (by omega) hq hqa hb hba
    have m2 := markSheetS_ok g 1 (by omega) (by omega) (by omega) z3
    have m3 := heldSheetS_ok g 1 (by omega) (by omega) (by omega) z3
    refine ent Tryz.mix Tryz.func5 Tryz.ntmps5 ?_
    have W := trivial
    have c0 := hz0
    repeat' first|refine st ?_|(refine nx ?_;first|refine so ?_|refine sm (hc:=m1) (h:=?_)|refine sm (hc:=m2) (h:=?_))|(refine cx ?_;refine sc (fun hc=>?_) (fun hc=>?_)<;>try exact hc.elim)|(refine lx ?_;refine sp (fun hc=>?_) (fun hc=>?_)<;>try exact hc.elim)|refine sx ?_ ?_|refine sy ?_ ?_|fail
    all_goals (try (refine ⟨.inr rfl, ?_⟩; simp [Hands, Tryz.results5]))
    all_goals (try simp only [decide_eq_true_eq] at *); all_goals (first | omega | simp_all)
  · rw [sub_neg (by omega)] at hz0
    refine ent Tryz.mix Tryz.func5 Tryz.ntmps5 ?_
    have W := trivial
    have c0 := hz0
    repeat' first|refine st ?_|(refine nx ?_;refine so ?_)|(refine cx ?_;refine sc (fun hc=>?_) (fun hc=>?_)<;>try exact hc.elim)|(refine lx ?_;refine sp (fun hc=>?_) (fun hc=>?_)<;>try exact hc.elim)|refine sx ?_ ?_|refine sy ?_ ?_|fail
    all_goals (try (refine ⟨.inr rfl, ?_⟩; simp [Hands, Tryz.results5]))

set_option maxRecDepth 100000 in
theorem law5_lifted (os : Os) (started : os.Started) (H : Type) (enc : TypeId × Value → H) :
    ReturnsInHanded {} Tryz.checked os 5 .any (fun w args => (Rows.fnExactSheetsOfSpec.pre enc Tryz.prog Tryz.f5 Rows.fnExactSheetsOfRow.domain false w args ∧ laidMetH Tryz.prog Rows.fnExactSheetsOfRow.laid w) ∧ sizedMet enc Tryz.prog Tryz.f5 (OpenSpec.ofChange Rows.fnExactSheetsOfSpec) false w args) (Rows.fnExactSheetsOfSpec.post enc Tryz.prog Tryz.f5 false true false false) := by
  refine returnsIn_door (C := Tryz.checked) (X := fun w _ => laidMetH Tryz.prog Rows.fnExactSheetsOfRow.laid w) (fun _ _ _ hh h => h.of_heap hh) (by kernel_rfl) started (by kernel_rfl) Tryz.func5
    (ChangeSpec.witness_shaped (enc := enc) (C := Tryz.checked) (os := os) (X := fun w _ => laidMetH Tryz.prog Rows.fnExactSheetsOfRow.laid w) false (World.laidAll Tryz.prog os Rows.fnExactSheetsOfRow.laid) #[.agg #[.string ⟨#[]⟩, .string ⟨#[]⟩, .bool false, .slice none 0 0, .slice none 0 0, .slice none 0 0, .string ⟨#[]⟩, .string ⟨#[]⟩, .slice none 0 0, .bool false, .slice none 0 0, .slice none 0 0, .slice none 0 0, .slice none 0 0, .slice none 0 0, .int .i64 0, .int .i64 0, .int .i64 0, .int .i64 0, .slice none 0 0, .slice none 0 0, .bool false]] 8 (World.laidAll_os _ _ _) (World.shaped_of_ZipB (by kernel_rfl) (by kernel_rfl)) (by kernel_rfl) (by kernel_rfl) (by kernel_rfl) (by rw [MakeChecks.laidMetH_plain _ _ _ (by kernel_rfl)]; exact laidMet_laidAll _ (by kernel_rfl) (by kernel_rfl))) ?_
  intro W base args ds gs before hval hW hL hsh
  rw [MakeChecks.laidMetH_plain _ _ _ (by kernel_rfl)] at hL
  obtain ⟨_, hL, _⟩ := hL
  have hpow : Lib.TabIs Tryz.prog W "internal/strconv.uint64pow10" .u64 Lib.pow10Tab := tabIs_of_vars (by kernel_rfl) hL (List.mem_of_getElem? (i := 2) (by kernel_rfl))
  have hmax : ∀ g, Tryz.prog.globalNamed "internal/bytealg.MaxLen" = some g → ∃ m, W.cell? ⟨g, 0, none⟩ = some (.int .i64 m) := fun g hg => by
    obtain rfl := Option.some.inj ((show Tryz.prog.globalNamed "internal/bytealg.MaxLen" = some 0 by kernel_rfl).symm.trans hg)
    exact Tryz.laysM146.s1_3 W hsh
  have herr : errHolds Tryz.prog W := ⟨iface_of_vars (nm := "*errors.errorString") (d := .ptr (.agg [.lit (.string [105, 110, 118, 97, 108, 105, 100, 32, 115, 121, 110, 116, 97, 120])])) (by kernel_rfl) hL (List.mem_of_getElem? (i := 5) (by kernel_rfl)), iface_of_vars (nm := "*errors.errorString") (d := .ptr (.agg [.lit (.string [118, 97, 108, 117, 101, 32, 111, 117, 116, 32, 111, 102, 32, 114, 97, 110, 103, 101])])) (by kernel_rfl) hL (List.mem_of_getElem? (i := 4) (by kernel_rfl))⟩
  letI T : Tabs Tryz.prog := { holds := fun w => doorHolds Tryz.prog 6 [("internal/strconv.uint64pow10", .u64, Lib.pow10Tab)] ["internal/bytealg.MaxLen"] w ∧ errHolds Tryz.prog w, low := 6, low_le := fun _ h => h.1.1, stable := doorStableE (by kernel_rfl) }
  haveI : HasPow Tryz.prog := ⟨fun w h => h.1.2.1 ("internal/strconv.uint64pow10", .u64, Lib.pow10Tab) (by simp)⟩
  haveI : HasMax Tryz.prog := ⟨fun w h g hg => h.1.2.2 "internal/bytealg.MaxLen" (by simp) g hg⟩
  haveI : HasErr Tryz.prog := ⟨fun w h => h.2⟩
  have hT : doorHolds Tryz.prog 6 [("internal/strconv.uint64pow10", .u64, Lib.pow10Tab)] ["internal/bytealg.MaxLen"] W ∧ errHolds Tryz.prog W := ⟨⟨size_of_tab hpow (g := 5) (by kernel_rfl) (by decide), by simp [hpow], fun n hn => by (simp only [List.mem_singleton] at hn; subst hn; exact hmax)⟩, herr⟩
  exact row_true (C := Tryz.checked) (T := T) (ss := [.agg shPage]) (fuel := 8) (tb := 4) (by kernel_rfl) (by decide +kernel) (by kernel_rfl) (by kernel_rfl) (by kernel_rfl) rfl
    (fun ds h => by
      match ds, h with
      | [d0], _ => rfl)
    (fun avs hf => by
      obtain ⟨c, r0, rfl, hx, hf1⟩ := fitsV_agg hf
      obtain ⟨p, rfl, hwp, hrp⟩ := fits_Page c hx
      obtain rfl := fitsV_nil hf1
      exact FnExactSheetsOf_law p hwp hrp) hT hval hW
/-- The row: for every input the law returns true and its arguments read as they did. -/
theorem law5_row : Rows.FnExactSheetsOfSaid :=
  OpenClaim.holds_of_wide 5 Tryz.f5 rfl rfl rfl rfl rfl rfl rfl ⟨rfl, rfl, rfl, rfl, rfl⟩ rfl rfl rfl rfl rfl (by kernel_rfl) Tryz.func5 (sheetsOf_closed)
    (of_decide_eq_true (by kernel_rfl)) (by unfold Func.isWrapper; first | (rw [if_pos (by decide +kernel)]; kernel_rfl) | (rw [if_neg (by decide +kernel)]; exact ⟨rfl, rfl⟩))
    (fun os started H enc _ => law5_lifted os started H enc)
/-- The tied card. -/
theorem law5_holds : Rows.FnExactSheetsOfCardSaid :=
  Claim7.holds_tied_plain_at .later [] Rows.fnExactSheetsOfCard.laidKinds true Rows.fnExactSheetsOfCard.stood.harness Rows.fnExactSheetsOfCard.stood.looks
    law5_row (fun _ h => by cases h) (by kernel_rfl) (fun _ h => by cases h) fnExactSheetsOf_row_tie rfl ⟨rfl, rfl⟩ (by kernel_rfl) (by kernel_rfl)
    (fun f fn hf hfn => by
      obtain rfl : f = 5 := Option.some.inj ((show Tryz.prog.funcNamed Rows.fnExactSheetsOfRow.func = some 5 by kernel_rfl).symm.trans hf) |>.symm
      obtain rfl : fn = Tryz.f5 := (Option.some.inj (Tryz.func5.symm.trans hfn)).symm
      exact ⟨by kernel_rfl, fun j t ht => by
        have h1 : (Tryz.f5.params.toList.all fun t => !Tryz.prog.wantsStandIn t) = true := by kernel_rfl
        have h2 := List.all_eq_true.1 h1 t (List.mem_of_getElem? (i := j) (by simpa using ht))
        have h3 : Tryz.prog.wantsStandIn t = false := by simpa using h2
        exact h3⟩)
    (by kernel_rfl)

end Go.Proofs.YtkjhhcgnfppdiaaGreatDoor
