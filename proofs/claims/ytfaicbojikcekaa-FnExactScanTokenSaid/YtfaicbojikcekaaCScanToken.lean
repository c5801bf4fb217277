/-
  Proved here: steps towards the statement of this claim, text CScanToken.
  No condition beyond what each statement spells out.
-/
import Derived.Test.YtfaicbojikcekaaR8
import Derived.Test.YtfaicbojikcekaaV3
import Derived.Test.YtfaicbojikcekaaF4
import Derived.Test.YtfaicbojikcekaaRows
set_option linter.all false
set_option linter.unusedSimpArgs false
set_option linter.unusedVariables false
set_option maxRecDepth 8000
set_option maxHeartbeats 8000000
namespace Go.Proofs.Ytfaicbojikcekaa
open Go.Aw
theorem FnExactScanToken_law (t : DToken) (hwt : wfToken t) (hrt : rgToken t) (b : Str) (hwb : b.length ≤ 9223372036854775807) : Ok Try.prog 5 [.agg (eToken .view t), .str b] (.bool true) := by
  by_cases qsb : b.length ≤ 1048576
  · skip
    have hz0 := szToken_ok t 1048576 (by omega) (by omega) hwt
    by_cases qz0 : (szToken t) ≤ 1048576
    · rw [sub_pos (by omega)] at hz0
      have t1 := toToken_ok t (by omega)
      have t2 := specScanToken_ok t b (by omega)
      have t3 := implScanToken_ok t b (by omega)
      have hu := scanToken_sz t b
      generalize scanToken t b = u at *
      obtain ⟨x, c⟩ := u
      simp only at hu t2 t3
      have e1 := eqRequest_ok x x (by omega)
      have e2 := eqToken_ok t t (by omega)
      refine ent Try.mix Try.func5 Try.ntmps5 ?_
      have W := trivial
      have c0 := hz0
      repeat' first|refine st ?_|(refine nx ?_;refine so ?_)|(refine cx ?_;refine sc (fun hc=>?_) (fun hc=>?_)<;>try exact hc.elim)|(refine lx ?_;refine sp (fun hc=>?_) (fun hc=>?_)<;>try exact hc.elim)|refine sx ?_ ?_|refine sy ?_ ?_|fail
      all_goals (try (refine ⟨.inr rfl, ?_⟩; simp [Hands, Try.results5]))
      all_goals (try simp only [decide_eq_true_eq] at *); all_goals (first | omega | simp_all)
    · rw [sub_neg (by omega)] at hz0
      refine ent Try.mix Try.func5 Try.ntmps5 ?_
      have W := trivial
      have c0 := hz0
      repeat' first|refine st ?_|(refine nx ?_;refine so ?_)|(refine cx ?_;refine sc (fun hc=>?_) (fun hc=>?_)<;>try exact hc.elim)|(refine lx ?_;refine sp (fun hc=>?_) (fun hc=>?_)<;>try exact hc.elim)|refine sx ?_ ?_|refine sy ?_ ?_|fail
      all_goals (try (refine ⟨.inr rfl, ?_⟩; simp [Hands, Try.results5]))
  · refine ent Try.mix Try.func5 Try.ntmps5 ?_
    have W := trivial
    repeat' first|refine st ?_|(refine nx ?_;refine so ?_)|(refine cx ?_;refine sc (fun hc=>?_) (fun hc=>?_)<;>try exact hc.elim)|(refine lx ?_;refine sp (fun hc=>?_) (fun hc=>?_)<;>try exact hc.elim)|refine sx ?_ ?_|refine sy ?_ ?_|fail
    all_goals (try (refine ⟨.inr rfl, ?_⟩; simp [Hands, Try.results5]))

set_option maxRecDepth 100000 in
theorem law5_lifted (os : Os) (started : os.Started) (H : Type) (enc : TypeId × Value → H) :
    ReturnsInHanded {} Try.checked os 5 .any (Rows.fnExactScanTokenSpec.pre6 enc Try.prog Try.f5 Rows.fnExactScanTokenRow.domain false) (Rows.fnExactScanTokenSpec.post enc Try.prog Try.f5 false true false false) := by
  refine returnsInHanded_of_change (C := Try.checked) (by kernel_rfl) started (by kernel_rfl) Try.func5
    (ChangeSpec.witness6 (enc := enc) (C := Try.checked) false ⟨#[], #[.agg #[.int .i64 0, .string ⟨#[]⟩, .slice none 0 0, .string ⟨#[]⟩], .string ⟨#[]⟩], []⟩ 8 (by kernel_rfl) (by kernel_rfl) (by kernel_rfl) (by kernel_rfl)) ?_
  intro W base args ds gs before hval hW _ _
  exact row_true (C := Try.checked) (ss := [.agg shToken, .one .str]) (fuel := 8) (tb := 4) (by kernel_rfl) (by decide +kernel) (by kernel_rfl) (by kernel_rfl) (by kernel_rfl) rfl
    (fun ds h => by
      match ds, h with
      | [d0, d1], _ => rfl)
    (fun avs hf => by
      obtain ⟨c, r0, rfl, hx, hf1⟩ := fitsV_agg hf
      obtain ⟨t, rfl, hwt, hrt⟩ := fits_Token c hx
      obtain ⟨x, r1, rfl, hx, hf2⟩ := fitsV_one hf1
      obtain ⟨b, rfl, hwb⟩ := fits_one_str hx
      obtain rfl := fitsV_nil hf2
      exact FnExactScanToken_law t hwt hrt b hwb) hval hW
/-- For every input the law returns true and its arguments read as they did. -/
theorem law5_holds : Rows.FnExactScanTokenSaid :=
  OpenClaim.holds_of_wide 5 Try.f5 rfl rfl rfl rfl rfl rfl rfl ⟨rfl, rfl, rfl, rfl, rfl⟩ rfl rfl rfl rfl rfl (by kernel_rfl) Try.func5 (by kernel_rfl)
    (of_decide_eq_true (by kernel_rfl)) (by unfold Func.isWrapper; first | (rw [if_pos (by decide +kernel)]; kernel_rfl) | (rw [if_neg (by decide +kernel)]; exact ⟨rfl, rfl⟩))
    (fun os started H enc _ => law5_lifted os started H enc)

end Go.Proofs.Ytfaicbojikcekaa
