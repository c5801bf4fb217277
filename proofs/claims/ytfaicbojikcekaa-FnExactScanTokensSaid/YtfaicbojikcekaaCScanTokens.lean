/-
  Proved here: steps towards the statement of this claim, text CScanTokens.
  No condition beyond what each statement spells out.
-/
import Derived.Test.YtfaicbojikcekaaR10
import Derived.Test.YtfaicbojikcekaaV3
import Derived.Test.YtfaicbojikcekaaW2
import Derived.Test.YtfaicbojikcekaaW5
import Derived.Test.YtfaicbojikcekaaM5
import Derived.Test.YtfaicbojikcekaaF4
import Derived.Test.YtfaicbojikcekaaRows
set_option linter.all false
set_option linter.unusedSimpArgs false
set_option linter.unusedVariables false
set_option maxRecDepth 8000
set_option maxHeartbeats 8000000
namespace Go.Proofs.Ytfaicbojikcekaa
open Go.Aw
theorem cToken_le (x : DToken) : cToken x ≤ 3 * (szToken x + 1) := by
  have h := sumN_const 2 x.attrs
  show 3 + sumN (fun _ => 2) x.attrs ≤ _
  rw [h]
  simp only [szToken, szL]
  omega
theorem FnExactScanTokens_law (l : List DToken) (hwl : l.length ≤ 9223372036854775807 ∧ ∀ y ∈ l, wfToken y) (hrl : ∀ y ∈ l, rgToken y) (b : Str) (hwb : b.length ≤ 9223372036854775807) : Ok Try.prog 6 [.sl .view 4 (l.map (eToken .view)), .str b] (.bool true) := by
  by_cases qsb : b.length ≤ 1048576
  · skip
    have hz0 := szTokenS_ok l 1048576 (by omega) (by omega) hwl
    by_cases qz0 : (szL szToken l) ≤ 1048576
    · rw [sub_pos (by omega)] at hz0
      have hl : l.length ≤ 1048576 ∧ sumN szToken l ≤ 1048576 := by simp only [szL] at qz0; omega
      have hb : b.length ≤ 1048576 := by omega
      have t1 := toTokenS_ok l (by omega)
      have t2 := specScanTokens_ok l b (by omega)
      have t3 := implScanTokens_ok l b (by omega)
      obtain ⟨hn, hs⟩ := scanTokens_big b l
      generalize scanTokens l b = g at *
      have hlb : g.length * b.length ≤ 349525 * 1048576 := Nat.mul_le_mul (by omega) hb
      generalize g.length * b.length = lb at *
      have hg : szL szRequest g ≤ 1099511627776 := by simp only [szL]; omega
      have hc : (sumN (fun _ => 5) g : Nat) = 5 * g.length := sumN_const 5 g
      have e1 := eqRequestS_ok g g (by omega)
      have e2 := eqTokenS_ok l l (by omega)
      have hct := sumN_le_c 3 cToken_le l
      have hla : ∀ x ∈ l, x.attrs.length ≤ 4611686018427387904 := by
        intro x hx
        have := sumN_mem_le szToken hx
        simp only [szToken, szL] at this
        omega
      have m1 := markTokenS_ok l 1 (by omega) (by omega) (by omega) hla
      have m2 := markRequestS_ok g 1 (by omega) (by omega) (by omega)
      have m3 := heldRequestS_ok g 1 (by omega) (by omega) (by omega)
      refine ent Try.mix Try.func6 Try.ntmps6 ?_
      have W := trivial
      have c0 := hz0
      repeat' first|refine st ?_|(refine nx ?_;first|refine so ?_|refine sm (hc:=m1) (h:=?_)|refine sm (hc:=m2) (h:=?_))|(refine cx ?_;refine sc (fun hc=>?_) (fun hc=>?_)<;>try exact hc.elim)|(refine lx ?_;refine sp (fun hc=>?_) (fun hc=>?_)<;>try exact hc.elim)|refine sx ?_ ?_|refine sy ?_ ?_|fail
      all_goals (try (refine ⟨.inr rfl, ?_⟩; simp [Hands, Try.results6]))
      all_goals (try simp only [decide_eq_true_eq] at *); all_goals (first | omega | simp_all)
    · rw [sub_neg (by omega)] at hz0
      refine ent Try.mix Try.func6 Try.ntmps6 ?_
      have W := trivial
      have c0 := hz0
      repeat' first|refine st ?_|(refine nx ?_;refine so ?_)|(refine cx ?_;refine sc (fun hc=>?_) (fun hc=>?_)<;>try exact hc.elim)|(refine lx ?_;refine sp (fun hc=>?_) (fun hc=>?_)<;>try exact hc.elim)|refine sx ?_ ?_|refine sy ?_ ?_|fail
      all_goals (try (refine ⟨.inr rfl, ?_⟩; simp [Hands, Try.results6]))
  · refine ent Try.mix Try.func6 Try.ntmps6 ?_
    have W := trivial
    repeat' first|refine st ?_|(refine nx ?_;refine so ?_)|(refine cx ?_;refine sc (fun hc=>?_) (fun hc=>?_)<;>try exact hc.elim)|(refine lx ?_;refine sp (fun hc=>?_) (fun hc=>?_)<;>try exact hc.elim)|refine sx ?_ ?_|refine sy ?_ ?_|fail
    all_goals (try (refine ⟨.inr rfl, ?_⟩; simp [Hands, Try.results6]))

set_option maxRecDepth 100000 in
theorem law6_lifted (os : Os) (started : os.Started) (H : Type) (enc : TypeId × Value → H) :
    ReturnsInHanded {} Try.checked os 6 .any (Rows.fnExactScanTokensSpec.pre6 enc Try.prog Try.f6 Rows.fnExactScanTokensRow.domain false) (Rows.fnExactScanTokensSpec.post enc Try.prog Try.f6 false true false false) := by
  refine returnsInHanded_of_change (C := Try.checked) (by kernel_rfl) started (by kernel_rfl) Try.func6
    (ChangeSpec.witness6 (enc := enc) (C := Try.checked) false ⟨#[], #[.slice none 0 0, .string ⟨#[]⟩], []⟩ 8 (by kernel_rfl) (by kernel_rfl) (by kernel_rfl) (by kernel_rfl)) ?_
  intro W base args ds gs before hval hW _ _
  exact row_true (C := Try.checked) (ss := [.one (.sl 4 shToken), .one .str]) (fuel := 8) (tb := 4) (by kernel_rfl) (by decide +kernel) (by kernel_rfl) (by kernel_rfl) (by kernel_rfl) rfl
    (fun ds h => by
      match ds, h with
      | [d0, d1], _ => rfl)
    (fun avs hf => by
      obtain ⟨x, r0, rfl, hx, hf1⟩ := fitsV_one hf
      obtain ⟨l, rfl, hwl, hrl⟩ := fits_slice fits_Token hx
      obtain ⟨x, r1, rfl, hx, hf2⟩ := fitsV_one hf1
      obtain ⟨b, rfl, hwb⟩ := fits_one_str hx
      obtain rfl := fitsV_nil hf2
      exact FnExactScanTokens_law l hwl hrl b hwb) hval hW
/-- For every input the law returns true and its arguments read as they did. -/
theorem law6_holds : Rows.FnExactScanTokensSaid :=
  OpenClaim.holds_of_wide 6 Try.f6 rfl rfl rfl rfl rfl rfl rfl ⟨rfl, rfl, rfl, rfl, rfl⟩ rfl rfl rfl rfl rfl (by kernel_rfl) Try.func6 (by kernel_rfl)
    (of_decide_eq_true (by kernel_rfl)) (by unfold Func.isWrapper; first | (rw [if_pos (by decide +kernel)]; kernel_rfl) | (rw [if_neg (by decide +kernel)]; exact ⟨rfl, rfl⟩))
    (fun os started H enc _ => law6_lifted os started H enc)

end Go.Proofs.Ytfaicbojikcekaa
