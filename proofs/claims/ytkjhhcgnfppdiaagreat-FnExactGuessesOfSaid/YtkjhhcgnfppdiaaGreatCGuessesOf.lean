/-
  Proved here: steps towards the statement of this claim, text CGuessesOf.
  No condition beyond what each statement spells out.
-/
import Derived.Test.YtkjhhcgnfppdiaaGreatQ3
import Derived.Test.YtkjhhcgnfppdiaaGreatR10
import Derived.Test.YtkjhhcgnfppdiaaGreatV1
import Derived.Test.YtkjhhcgnfppdiaaGreatV2
import Derived.Test.YtkjhhcgnfppdiaaGreatV3
import Derived.Test.YtkjhhcgnfppdiaaGreatM8
import Derived.Test.YtkjhhcgnfppdiaaGreatW4
import Derived.Test.YtkjhhcgnfppdiaaGreatW1
import Derived.Test.YtkjhhcgnfppdiaaGreatF4
import Derived.Test.YtkjhhcgnfppdiaaGreatRows
set_option linter.all false
set_option linter.unusedSimpArgs false
set_option linter.unusedVariables false
set_option maxRecDepth 8000
set_option maxHeartbeats 8000000
namespace Go.Proofs.YtkjhhcgnfppdiaaGreat
open Go.Aw
theorem addr_small {a : DAddr} (h : isAddr a = true) : szAddr a ≤ 16 := by
  simp only [isAddr, isName, Bool.and_eq_true, decide_eq_true_eq] at h
  simp only [szAddr]
  omega
theorem gStep_sz (p : DPage) (out : List DAddr) (r : DRequest) (h : sumN szAddr out ≤ 16 * out.length) : sumN szAddr (gStep p out r) ≤ 16 * (gStep p out r).length := by
  unfold gStep
  split
  · rename_i hg
    have h2 : isRequest r = true := by
      simp only [guessOk, canGuess, Bool.and_eq_true] at hg
      exact hg.1.1.1.1.1
    have h3 : isAddr r.to = true := by
      simp only [isRequest, Bool.and_eq_true] at h2
      exact h2.1.1.2
    have h4 := addr_small h3
    have h5 : ∀ l : List DAddr, sumN szAddr (l ++ [r.to]) = sumN szAddr l + szAddr r.to := by
      intro l
      induction l with
      | nil => simp [sumN]
      | cons x xs ih => simp only [List.cons_append, sumN, ih]; omega
    rw [h5, List.length_append]
    simp only [List.length_cons, List.length_nil]
    omega
  · exact h
theorem fold_sz (p : DPage) : ∀ (l : List DRequest) (out : List DAddr), sumN szAddr out ≤ 16 * out.length → sumN szAddr (l.foldl (gStep p) out) ≤ 16 * (l.foldl (gStep p) out).length
  | [], _, h => h
  | r :: l, out, h => fold_sz p l _ (gStep_sz p out r h)
theorem guesses_sz (p : DPage) : sumN szAddr (guessesOf p) ≤ 16 * (guessesOf p).length ∧ (guessesOf p).length ≤ p.queue.length := by
  refine ⟨fold_sz p _ [] (by simp [sumN]), ?_⟩
  have h1 := scanTokens_length p.queue p.addr.host
  have h2 := gTo_len p (scanTokens p.queue p.addr.host) (scanTokens p.queue p.addr.host).length
  unfold gTo at h2
  rw [List.take_length] at h2
  unfold guessesOf
  omega
theorem FnExactGuessesOf_law [Tabs Tryz.prog] (p : DPage) (hwp : wfPage p) (hrp : rgPage p) : Ok Tryz.prog 3 [.agg (ePage .view p)] (.bool true) := by
  have hz0 := szPage_ok p 1048576 (by omega) (by omega) hwp
  by_cases qz0 : (szPage p) ≤ 1048576
  · rw [sub_pos (by omega)] at hz0
    have hs : szPage p ≤ 1048576 := by omega
    have hq : p.queue.length ≤ 4611686018427387904 := by simp only [szPage, szL] at hs; omega
    have hb : p.builder.nodes.length ≤ 4611686018427387904 := by simp only [szPage, szBuilder, szL] at hs; omega
    have hqa : ∀ x ∈ p.queue, x.attrs.length ≤ 4611686018427387904 := attrs_Token (by simp only [szPage, szL] at hs; omega)
    have hba : ∀ x ∈ p.builder.nodes, x.attrs.length ≤ 4611686018427387904 := attrs_Node (by simp only [szPage, szBuilder, szL] at hs; omega)
    have hql : p.queue.length ≤ 1048576 := by simp only [szPage, szL] at hs; omega
    have hc := cPage_le p hs
    have t1 := toPage_ok p hs
    have t2 := specGuessesOf_ok p hs
    have t3 := implGuessesOf_ok p hs
    obtain ⟨z1, z2⟩ := guesses_sz p
    generalize guessesOf p = g at *
    have e1 := eqAddrS_ok g g (by simp only [szL]; omega)
    have e2 := eqPage_ok p p (by omega)
    have hcg := sumN_const 2 g
    have m1 := markPage_ok p 1 (by omega) (by omega) hq hqa hb hba
    have m2 := markAddrS_ok g 1 (by omega) (by omega) (by omega)
    have m3 := heldAddrS_ok g 1 (by omega) (by omega) (by omega)
    refine ent Tryz.mix Tryz.func3 Tryz.ntmps3 ?_
    have W := trivial
    have c0 := hz0
    repeat' first|refine st ?_|(refine nx ?_;first|refine so ?_|refine sm (hc:=m1) (h:=?_)|refine sm (hc:=m2) (h:=?_))|(refine cx ?_;refine sc (fun hc=>?_) (fun hc=>?_)<;>try exact hc.elim)|(refine lx ?_;refine sp (fun hc=>?_) (fun hc=>?_)<;>try exact hc.elim)|refine sx ?_ ?_|refine sy ?_ ?_|fail
    all_goals (try (refine ⟨.inr rfl, ?_⟩; simp [Hands, Tryz.results3]))
    all_goals (try simp only [decide_eq_true_eq] at *); all_goals (first | omega | simp_all)
  · rw [sub_neg (by omega)] at hz0
    refine ent Tryz.mix Tryz.func3 Tryz.ntmps3 ?_
    have W := trivial
    have c0 := hz0
    repeat' first|refine st ?_|(refine nx ?_;refine so ?_)|(refine cx ?_;refine sc (fun hc=>?_) (fun hc=>?_)<;>try exact hc.elim)|(refine lx ?_;refine sp (fun hc=>?_) (fun hc=>?_)<;>try exact hc.elim)|refine sx ?_ ?_|refine sy ?_ ?_|fail
    all_goals (try (refine ⟨.inr rfl, ?_⟩; simp [Hands, Tryz.results3]))

set_option maxRecDepth 100000 in
theorem law3_lifted (os : Os) (started : os.Started) (H : Type) (enc : TypeId × Value → H) :
    ReturnsInHanded {} Tryz.checked os 3 .any (Rows.fnExactGuessesOfSpec.pre6 enc Tryz.prog Tryz.f3 Rows.fnExactGuessesOfRow.domain false) (Rows.fnExactGuessesOfSpec.post enc Tryz.prog Tryz.f3 false true false false) := by
  refine returnsInHanded_of_change (C := Tryz.checked) (by kernel_rfl) started (by kernel_rfl) Tryz.func3
    (ChangeSpec.witness6 (enc := enc) (C := Tryz.checked) false ⟨#[], #[.agg #[.string ⟨#[]⟩, .string ⟨#[]⟩, .bool false, .slice none 0 0, .slice none 0 0, .slice none 0 0, .string ⟨#[]⟩, .string ⟨#[]⟩, .slice none 0 0, .bool false, .slice none 0 0, .slice none 0 0, .slice none 0 0, .slice none 0 0, .slice none 0 0, .int .i64 0, .int .i64 0, .int .i64 0, .int .i64 0, .slice none 0 0, .slice none 0 0, .bool false]], []⟩ 8 (by kernel_rfl) (by kernel_rfl) (by kernel_rfl) (by kernel_rfl)) ?_
  intro W base args ds gs before hval hW _ _
  letI T : Tabs Tryz.prog := { holds := fun _ => True, low := 0, low_le := fun _ _ => Nat.zero_le _, stable := fun _ _ _ _ => trivial }
  exact row_true (C := Tryz.checked) (T := T) (ss := [.agg shPage]) (fuel := 8) (tb := 4) (by kernel_rfl) (by decide +kernel) (by kernel_rfl) (by kernel_rfl) (by kernel_rfl) rfl
    (fun ds h => by
      match ds, h with
      | [d0], _ => rfl)
    (fun avs hf => by
      obtain ⟨c, r0, rfl, hx, hf1⟩ := fitsV_agg hf
      obtain ⟨p, rfl, hwp, hrp⟩ := fits_Page c hx
      obtain rfl := fitsV_nil hf1
      exact FnExactGuessesOf_law p hwp hrp) trivial hval hW
/-- For every input the law returns true and its arguments read as they did. -/
theorem law3_holds : Rows.FnExactGuessesOfSaid :=
  OpenClaim.holds_of_wide 3 Tryz.f3 rfl rfl rfl rfl rfl rfl rfl ⟨rfl, rfl, rfl, rfl, rfl⟩ rfl rfl rfl rfl rfl (by kernel_rfl) Tryz.func3 (by kernel_rfl)
    (of_decide_eq_true (by kernel_rfl)) (by unfold Func.isWrapper; first | (rw [if_pos (by decide +kernel)]; kernel_rfl) | (rw [if_neg (by decide +kernel)]; exact ⟨rfl, rfl⟩))
    (fun os started H enc _ => law3_lifted os started H enc)

end Go.Proofs.YtkjhhcgnfppdiaaGreat
