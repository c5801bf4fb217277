/-
  Proved here: steps towards the statement of this claim, text CResultDigest.
  No condition beyond what each statement spells out.
-/
import Derived.Test.YtedhenfipalhaaaDoorD6
import Derived.Test.YtedhenfipalhaaaDoorF4
import Derived.Test.YtedhenfipalhaaaDoorF5
import Derived.SevenTiedAt
import Derived.Test.YtedhenfipalhaaaDoorRows
import Derived.Test.YtedhenfipalhaaaDoorCards
import Derived.Test.YtedhenfipalhaaaDoorTie
set_option linter.all false
set_option linter.unusedSimpArgs false
set_option linter.unusedVariables false
set_option maxRecDepth 8000
set_option maxHeartbeats 8000000
namespace Go.Proofs.YtedhenfipalhaaaDoor
open Go.Aw

theorem FnExactResultDigest_law [Tabs Tryd.prog] [HasPow Tryd.prog] (a : DResult) (hwa : wfResult a) (hra : rgResult a) : Ok Tryd.prog 6 [.agg (eResult .view a)] (.bool true) := by
  have hz0 := szResult_ok a 1048576 (by omega) (by omega) hwa
  by_cases qz0 : (szResult a) ≤ 1048576
  · rw [sub_pos (by omega)] at hz0
    have hs : szResult a ≤ 1048576 := by omega
    have t1 := toResult_ok a hs
    have t2 := specResultDigest_ok a hs hra
    have t3 := implResultDigest_ok a hs hra
    have e1 := eqResult_ok a a (by omega)
    generalize resultDigest a = g at *
    refine ent Tryd.mix Tryd.func6 Tryd.ntmps6 ?_
    have W := trivial
    have c0 := hz0
    repeat' first|refine st ?_|(refine nx ?_;refine so ?_)|(refine cx ?_;refine sc (fun hc=>?_) (fun hc=>?_)<;>try exact hc.elim)|(refine lx ?_;refine sp (fun hc=>?_) (fun hc=>?_)<;>try exact hc.elim)|refine sx ?_ ?_|refine sy ?_ ?_|fail
    all_goals (try (refine ⟨.inr rfl, ?_⟩; simp [Hands, Tryd.results6]))
    all_goals (try simp only [decide_eq_true_eq] at *); all_goals (first | omega | simp_all)
  · rw [sub_neg (by omega)] at hz0
    refine ent Tryd.mix Tryd.func6 Tryd.ntmps6 ?_
    have W := trivial
    have c0 := hz0
    repeat' first|refine st ?_|(refine nx ?_;refine so ?_)|(refine cx ?_;refine sc (fun hc=>?_) (fun hc=>?_)<;>try exact hc.elim)|(refine lx ?_;refine sp (fun hc=>?_) (fun hc=>?_)<;>try exact hc.elim)|refine sx ?_ ?_|refine sy ?_ ?_|fail
    all_goals (try (refine ⟨.inr rfl, ?_⟩; simp [Hands, Tryd.results6]))

set_option maxRecDepth 100000 in
theorem law6_lifted (os : Os) (started : os.Started) (H : Type) (enc : TypeId × Value → H) :
    ReturnsInHanded {} Tryd.checked os 6 .any (fun w args => (Rows.fnExactResultDigestSpec.pre enc Tryd.prog Tryd.f6 Rows.fnExactResultDigestRow.domain false w args ∧ laidMetH Tryd.prog Rows.fnExactResultDigestRow.laid w) ∧ sizedMet enc Tryd.prog Tryd.f6 (OpenSpec.ofChange Rows.fnExactResultDigestSpec) false w args) (Rows.fnExactResultDigestSpec.post enc Tryd.prog Tryd.f6 false true false false) := by
  refine returnsIn_door (C := Tryd.checked) (X := fun w _ => laidMetH Tryd.prog Rows.fnExactResultDigestRow.laid w) (fun _ _ _ hh h => h.of_heap hh) (by kernel_rfl) started (by kernel_rfl) Tryd.func6
    (ChangeSpec.witness_shaped (enc := enc) (C := Tryd.checked) (os := os) (X := fun w _ => laidMetH Tryd.prog Rows.fnExactResultDigestRow.laid w) false (World.doorLaid Tryd.prog 400 os) #[.agg #[.slice none 0 0, .slice none 0 0, .slice none 0 0, .slice none 0 0, .slice none 0 0, .bool false]] 8 rfl (World.shaped_of_RefB (by kernel_rfl) (by kernel_rfl)) (by kernel_rfl) (by kernel_rfl) (by kernel_rfl) (laidMetH_of_parts3 (fuel := 8) (laidMet_of_run' 8 (by kernel_rfl) (by kernel_rfl)) (by kernel_rfl) (by kernel_rfl))) ?_
  intro W base args ds gs before hval hW hL hsh
  rw [MakeChecks.laidMetH_plain _ _ _ (by kernel_rfl)] at hL
  obtain ⟨_, hL, _⟩ := hL
  have hpow : Lib.TabIs Tryd.prog W "internal/strconv.uint64pow10" .u64 Lib.pow10Tab := tabIs_of_vars (by kernel_rfl) hL (List.mem_of_getElem? (i := 2) (by kernel_rfl))
  letI T : Tabs Tryd.prog := { holds := doorHolds Tryd.prog 2 [("internal/strconv.uint64pow10", .u64, Lib.pow10Tab)] [], low := 2, low_le := fun _ h => h.1, stable := doorStable (by kernel_rfl) }
  haveI : HasPow Tryd.prog := ⟨fun w h => h.2.1 ("internal/strconv.uint64pow10", .u64, Lib.pow10Tab) (by simp)⟩
  have hT : doorHolds Tryd.prog 2 [("internal/strconv.uint64pow10", .u64, Lib.pow10Tab)] [] W := ⟨size_of_tab hpow (g := 1) (by kernel_rfl) (by decide), by simp [hpow], by simp⟩
  exact row_true (C := Tryd.checked) (T := T) (ss := [.agg shResult]) (fuel := 8) (tb := 4) (by kernel_rfl) (by decide +kernel) (by kernel_rfl) (by kernel_rfl) (by kernel_rfl) rfl
    (fun ds h => by
      match ds, h with
      | [d0], _ => rfl)
    (fun avs hf => by
      obtain ⟨c, r0, rfl, hx, hf1⟩ := fitsV_agg hf
      obtain ⟨a, rfl, hwa, hra⟩ := fits_Result c hx
      obtain rfl := fitsV_nil hf1
      exact FnExactResultDigest_law a hwa hra) hT hval hW
/-- The row: for every input the law returns true and its arguments read as they did. -/
theorem law6_row : Rows.FnExactResultDigestSaid :=
  OpenClaim.holds_of_wide 6 Tryd.f6 rfl rfl rfl rfl rfl rfl rfl ⟨rfl, rfl, rfl, rfl, rfl⟩ rfl rfl rfl rfl rfl (by kernel_rfl) Tryd.func6 (by kernel_rfl)
    (of_decide_eq_true (by kernel_rfl)) (by unfold Func.isWrapper; first | (rw [if_pos (by decide +kernel)]; kernel_rfl) | (rw [if_neg (by decide +kernel)]; exact ⟨rfl, rfl⟩))
    (fun os started H enc _ => law6_lifted os started H enc)
/-- The tied card. -/
theorem law6_holds : Rows.FnExactResultDigestCardSaid :=
  Claim7.holds_tied_plain_at .later [] Rows.fnExactResultDigestCard.laidKinds true Rows.fnExactResultDigestCard.stood.harness Rows.fnExactResultDigestCard.stood.looks
    law6_row (fun _ h => by cases h) (by kernel_rfl) (fun _ h => by cases h) fnExactResultDigest_row_tie rfl ⟨rfl, rfl⟩ (by kernel_rfl) (by kernel_rfl)
    (fun f fn hf hfn => by
      obtain rfl : f = 6 := Option.some.inj ((show Tryd.prog.funcNamed Rows.fnExactResultDigestRow.func = some 6 by kernel_rfl).symm.trans hf) |>.symm
      obtain rfl : fn = Tryd.f6 := (Option.some.inj (Tryd.func6.symm.trans hfn)).symm
      exact ⟨by kernel_rfl, fun j t ht => by
        have h1 : (Tryd.f6.params.toList.all fun t => !Tryd.prog.wantsStandIn t) = true := by kernel_rfl
        have h2 := List.all_eq_true.1 h1 t (List.mem_of_getElem? (i := j) (by simpa using ht))
        have h3 : Tryd.prog.wantsStandIn t = false := by simpa using h2
        exact h3⟩)
    (by kernel_rfl)

end Go.Proofs.YtedhenfipalhaaaDoor
