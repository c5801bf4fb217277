/-
  Proved here: steps towards the statement of this claim, text CUseGuess.
  No condition beyond what each statement spells out.
-/
import Derived.Test.YtfaicbojikcekaaR2
import Derived.Test.YtfaicbojikcekaaW2
import Derived.Test.YtfaicbojikcekaaW5
import Derived.Test.YtfaicbojikcekaaF4
import Derived.Test.YtfaicbojikcekaaRows
set_option linter.all false
set_option linter.unusedSimpArgs false
set_option linter.unusedVariables false
set_option maxRecDepth 8000
set_option maxHeartbeats 8000000
namespace Go.Proofs.Ytfaicbojikcekaa
open Go.Aw
theorem FnExactUseGuess_law (l : List DGuess) (hwl : l.length ≤ 9223372036854775807 ∧ ∀ y ∈ l, wfGuess y) (hrl : ∀ y ∈ l, rgGuess y) (a : DAddr) (hwa : wfAddr a) (hra : rgAddr a) : Ok Try.prog 3 [.sl .view 9 (l.map eGuess), .agg (eAddr a)] (.bool true) := by
  have hz0 := szGuessS_ok l 1048576 (by omega) (by omega) hwl
  by_cases qz0 : (szL szGuess l) ≤ 1048576
  · rw [sub_pos (by omega)] at hz0
    have hz1 := szAddr_ok a (1048576 - (((szL szGuess l) : Nat) : Int)) (by omega) (by omega) hwa
    by_cases qz1 : (szL szGuess l) + (szAddr a) ≤ 1048576
    · rw [sub_pos (by omega)] at hz1
      rw [show (1048576 - (((szL szGuess l) : Nat) : Int)) - ((szAddr a : Nat) : Int) = 1048576 - (((szL szGuess l) + (szAddr a) : Nat) : Int) by omega] at hz1
      have hl : l.length ≤ 1048576 ∧ sumN szGuess l ≤ 1048576 := by simp only [szL] at qz0; omega
      have t1 := toGuessS_ok l (by omega)
      have t2 := toAddr_ok a (by omega)
      have t3 := specUseGuess_ok l a (by omega)
      have t4 := implUseGuess_ok l a (by omega)
      have hu := useGuess_sz l a
      generalize useGuess l a = u at *
      obtain ⟨g, x, b⟩ := u
      simp only at hu t3 t4
      have hg : szL szGuess g ≤ 1099511627776 := by simp only [szL]; omega
      have hc : (sumN (fun _ => 9) g : Nat) = 9 * g.length := sumN_const 9 g
      have e1 := eqGuessS_ok g g hg
      have e2 := eqResponse_ok x x (by omega)
      have e3 := eqGuessS_ok l l (by omega)
      have hcl : (sumN (fun _ => 9) l : Nat) = 9 * l.length := sumN_const 9 l
      have m1 := markGuessS_ok l 1 (by omega) (by omega) (by omega)
      have m2 := markGuessS_ok g 1 (by omega) (by omega) (by omega)
      have m3 := heldGuessS_ok g 1 (by omega) (by omega) (by omega)
      refine ent Try.mix Try.func3 Try.ntmps3 ?_
      have W := trivial
      have c0 := hz0
      have c1 := hz1
      repeat' first|refine st ?_|(refine nx ?_;first|refine so ?_|refine sm (hc:=m1) (h:=?_)|refine sm (hc:=m2) (h:=?_))|(refine cx ?_;refine sc (fun hc=>?_) (fun hc=>?_)<;>try exact hc.elim)|(refine lx ?_;refine sp (fun hc=>?_) (fun hc=>?_)<;>try exact hc.elim)|refine sx ?_ ?_|refine sy ?_ ?_|fail
      all_goals (try (refine ⟨.inr rfl, ?_⟩; simp [Hands, Try.results3]))
      all_goals (try simp only [decide_eq_true_eq] at *); all_goals (first | omega | simp_all)
    · rw [sub_neg (by omega)] at hz1
      refine ent Try.mix Try.func3 Try.ntmps3 ?_
      have W := trivial
      have c0 := hz0
      have c1 := hz1
      repeat' first|refine st ?_|(refine nx ?_;refine so ?_)|(refine cx ?_;refine sc (fun hc=>?_) (fun hc=>?_)<;>try exact hc.elim)|(refine lx ?_;refine sp (fun hc=>?_) (fun hc=>?_)<;>try exact hc.elim)|refine sx ?_ ?_|refine sy ?_ ?_|fail
      all_goals (try (refine ⟨.inr rfl, ?_⟩; simp [Hands, Try.results3]))
  · rw [sub_neg (by omega)] at hz0
    refine ent Try.mix Try.func3 Try.ntmps3 ?_
    have W := trivial
    have c0 := hz0
    repeat' first|refine st ?_|(refine nx ?_;refine so ?_)|(refine cx ?_;refine sc (fun hc=>?_) (fun hc=>?_)<;>try exact hc.elim)|(refine lx ?_;refine sp (fun hc=>?_) (fun hc=>?_)<;>try exact hc.elim)|refine sx ?_ ?_|refine sy ?_ ?_|fail
    all_goals (try (refine ⟨.inr rfl, ?_⟩; simp [Hands, Try.results3]))

set_option maxRecDepth 100000 in
theorem law3_lifted (os : Os) (started : os.Started) (H : Type) (enc : TypeId × Value → H) :
    ReturnsInHanded {} Try.checked os 3 .any (Rows.fnExactUseGuessSpec.pre6 enc Try.prog Try.f3 Rows.fnExactUseGuessRow.domain false) (Rows.fnExactUseGuessSpec.post enc Try.prog Try.f3 false true false false) := by
  refine returnsInHanded_of_change (C := Try.checked) (by kernel_rfl) started (by kernel_rfl) Try.func3
    (ChangeSpec.witness6 (enc := enc) (C := Try.checked) false ⟨#[], #[.slice none 0 0, .agg #[.string ⟨#[]⟩, .string ⟨#[]⟩]], []⟩ 8 (by kernel_rfl) (by kernel_rfl) (by kernel_rfl) (by kernel_rfl)) ?_
  intro W base args ds gs before hval hW _ _
  exact row_true (C := Try.checked) (ss := [.one (.sl 9 shGuess), .agg shAddr]) (fuel := 8) (tb := 4) (by kernel_rfl) (by decide +kernel) (by kernel_rfl) (by kernel_rfl) (by kernel_rfl) rfl
    (fun ds h => by
      match ds, h with
      | [d0, d1], _ => rfl)
    (fun avs hf => by
      obtain ⟨x, r0, rfl, hx, hf1⟩ := fitsV_one hf
      obtain ⟨l, rfl, hwl, hrl⟩ := fits_slice fits_Guess hx
      obtain ⟨c, r1, rfl, hx, hf2⟩ := fitsV_agg hf1
      obtain ⟨a, rfl, hwa, hra⟩ := fits_Addr c hx
      obtain rfl := fitsV_nil hf2
      exact FnExactUseGuess_law l hwl hrl a hwa hra) hval hW
/-- For every input the law returns true and its arguments read as they did. -/
theorem law3_holds : Rows.FnExactUseGuessSaid :=
  OpenClaim.holds_of_wide 3 Try.f3 rfl rfl rfl rfl rfl rfl rfl ⟨rfl, rfl, rfl, rfl, rfl⟩ rfl rfl rfl rfl rfl (by kernel_rfl) Try.func3 (by kernel_rfl)
    (of_decide_eq_true (by kernel_rfl)) (by unfold Func.isWrapper; first | (rw [if_pos (by decide +kernel)]; kernel_rfl) | (rw [if_neg (by decide +kernel)]; exact ⟨rfl, rfl⟩))
    (fun os started H enc _ => law3_lifted os started H enc)

end Go.Proofs.Ytfaicbojikcekaa
