/-
  Proved here: steps towards the statement of this claim, text CAskModule.
  No condition beyond what each statement spells out.
-/
import Derived.Test.YtphofanfadgalaaGreatI6
import Derived.Test.YtphofanfadgalaaGreatI7
import Derived.Test.YtphofanfadgalaaGreatPL
import Derived.Test.YtphofanfadgalaaGreatV1
import Derived.Test.YtphofanfadgalaaGreatV2
import Derived.Test.YtphofanfadgalaaGreatV3
import Derived.Test.YtphofanfadgalaaGreatM8
import Derived.Test.YtphofanfadgalaaGreatX2
import Derived.Test.YtphofanfadgalaaGreatF4
import Derived.Test.YtphofanfadgalaaGreatRows
set_option linter.all false
set_option linter.unusedSimpArgs false
set_option linter.unusedVariables false
set_option maxRecDepth 8000
set_option maxHeartbeats 8000000
namespace Go.Proofs.YtphofanfadgalaaGreat
open Go.Aw
theorem FnExactAskModule_law [Tabs Tryz.prog] (p : DPage) (hwp : wfPage p) (hrp : rgPage p) (a : DAddr) (hwa : wfAddr a) (hra : rgAddr a) : Ok Tryz.prog 3 [.agg (ePage .view p), .agg (eAddr a)] (.bool true) := by
  have hz0 := szPage_ok p 1048576 (by omega) (by omega) hwp
  by_cases qz0 : (szPage p) ≤ 1048576
  · rw [sub_pos (by omega)] at hz0
    have hz1 := szAddr_ok a (1048576 - (((szPage p) : Nat) : Int)) (by omega) (by omega) hwa
    by_cases qz1 : (szPage p) + (szAddr a) ≤ 1048576
    · rw [sub_pos (by omega)] at hz1
      rw [show (1048576 - (((szPage p) : Nat) : Int)) - ((szAddr a : Nat) : Int) = 1048576 - (((szPage p) + (szAddr a) : Nat) : Int) by omega] at hz1
      have hs : szPage p ≤ 1048576 := by omega
      obtain ⟨⟨hc, hq⟩, hqa, hb, hba⟩ := page_facts p (by omega)
      have t1 := toPage_ok p hs
      have t5 := toAddr_ok a (by omega)
      have t2 := specAskModule_ok p a (by omega) (by omega)
      have t3 := implAskModule_ok p a (by omega) (by omega)
      have hgs := ask_sz p a
      generalize askModule p a = g at *
      obtain ⟨⟨gc, gq⟩, gqa, gb, gba⟩ := page_facts g (by omega)
      have e1 := eqPage_ok g g (by omega)
      have e2 := eqPage_ok p p (by omega)
      have m1 := markPage_ok p 1 (by omega) (by omega) hq hqa hb hba
      have m2 := markPage_ok g 1 (by omega) (by omega) gq gqa gb gba
      have m3 := heldPage_ok g 1 (by omega) (by omega) gq gqa gb gba
      refine ent Tryz.mix Tryz.func3 Tryz.ntmps3 ?_
      have W := trivial
      have c0 := hz0
      have c1 := hz1
      repeat' first|refine st ?_|(refine nx ?_;first|refine so ?_|refine sm (hc:=m1) (h:=?_)|refine sm (hc:=m2) (h:=?_))|(refine cx ?_;refine sc (fun hc=>?_) (fun hc=>?_)<;>try exact hc.elim)|(refine lx ?_;refine sp (fun hc=>?_) (fun hc=>?_)<;>try exact hc.elim)|refine sx ?_ ?_|refine sy ?_ ?_|fail
      all_goals (try (refine ⟨.inr rfl, ?_⟩; simp [Hands, Tryz.results3]))
      all_goals (try simp only [decide_eq_true_eq] at *); all_goals (first | omega | simp_all)
    · rw [sub_neg (by omega)] at hz1
      refine ent Tryz.mix Tryz.func3 Tryz.ntmps3 ?_
      have W := trivial
      have c0 := hz0
      have c1 := hz1
      repeat' first|refine st ?_|(refine nx ?_;refine so ?_)|(refine cx ?_;refine sc (fun hc=>?_) (fun hc=>?_)<;>try exact hc.elim)|(refine lx ?_;refine sp (fun hc=>?_) (fun hc=>?_)<;>try exact hc.elim)|refine sx ?_ ?_|refine sy ?_ ?_|fail
      all_goals (try (refine ⟨.inr rfl, ?_⟩; simp [Hands, Tryz.results3]))
  · rw [sub_neg (by omega)] at hz0
    refine ent Tryz.mix Tryz.func3 Tryz.ntmps3 ?_
    have W := trivial
    have c0 := hz0
    repeat' first|refine st ?_|(refine nx ?_;refine so ?_)|(refine cx ?_;refine sc (fun hc=>?_) (fun hc=>?_)<;>try exact hc.elim)|(refine lx ?_;refine sp (fun hc=>?_) (fun hc=>?_)<;>try exact hc.elim)|refine sx ?_ ?_|refine sy ?_ ?_|fail
    all_goals (try (refine ⟨.inr rfl, ?_⟩; simp [Hands, Tryz.results3]))

set_option maxRecDepth 100000 in
theorem law3_lifted (os : Os) (started : os.Started) (H : Type) (enc : TypeId × Value → H) :
    ReturnsInHanded {} Tryz.checked os 3 .any (Rows.fnExactAskModuleSpec.pre6 enc Tryz.prog Tryz.f3 Rows.fnExactAskModuleRow.domain false) (Rows.fnExactAskModuleSpec.post enc Tryz.prog Tryz.f3 false true false false) := by
  refine returnsInHanded_of_change (C := Tryz.checked) (by kernel_rfl) started (by kernel_rfl) Tryz.func3
    (ChangeSpec.witness6 (enc := enc) (C := Tryz.checked) false ⟨#[], #[.agg #[.string ⟨#[]⟩, .string ⟨#[]⟩, .bool false, .slice none 0 0, .slice none 0 0, .slice none 0 0, .string ⟨#[]⟩, .string ⟨#[]⟩, .slice none 0 0, .bool false, .slice none 0 0, .slice none 0 0, .slice none 0 0, .slice none 0 0, .slice none 0 0, .int .i64 0, .int .i64 0, .int .i64 0, .int .i64 0, .slice none 0 0, .slice none 0 0, .bool false], .agg #[.string ⟨#[]⟩, .string ⟨#[]⟩]], []⟩ 8 (by kernel_rfl) (by kernel_rfl) (by kernel_rfl) (by kernel_rfl)) ?_
  intro W base args ds gs before hval hW _ _
  letI T : Tabs Tryz.prog := { holds := fun _ => True, low := 0, low_le := fun _ _ => Nat.zero_le _, stable := fun _ _ _ _ => trivial }
  exact row_true (C := Tryz.checked) (T := T) (ss := [.agg shPage, .agg shAddr]) (fuel := 8) (tb := 4) (by kernel_rfl) (by decide +kernel) (by kernel_rfl) (by kernel_rfl) (by kernel_rfl) rfl
    (fun ds h => by
      match ds, h with
      | [d0, d1], _ => rfl)
    (fun avs hf => by
      obtain ⟨c, r0, rfl, hx, hf1⟩ := fitsV_agg hf
      obtain ⟨p, rfl, hwp, hrp⟩ := fits_Page c hx
      obtain ⟨c, r1, rfl, hx, hf2⟩ := fitsV_agg hf1
      obtain ⟨a, rfl, hwa, hra⟩ := fits_Addr c hx
      obtain rfl := fitsV_nil hf2
      exact FnExactAskModule_law p hwp hrp a hwa hra) trivial hval hW
/-- For every input the law returns true and its arguments read as they did. -/
theorem law3_holds : Rows.FnExactAskModuleSaid :=
  OpenClaim.holds_of_wide 3 Tryz.f3 rfl rfl rfl rfl rfl rfl rfl ⟨rfl, rfl, rfl, rfl, rfl⟩ rfl rfl rfl rfl rfl (by kernel_rfl) Tryz.func3 (by kernel_rfl)
    (of_decide_eq_true (by kernel_rfl)) (by unfold Func.isWrapper; first | (rw [if_pos (by decide +kernel)]; kernel_rfl) | (rw [if_neg (by decide +kernel)]; exact ⟨rfl, rfl⟩))
    (fun os started H enc _ => law3_lifted os started H enc)

end Go.Proofs.YtphofanfadgalaaGreat
