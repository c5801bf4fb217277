/-
  Proved here: steps towards the statement of this claim, text CAddEntry.
  No condition beyond what each statement spells out.
-/
import Derived.Test.YtphofanfadgalaaGreatI6
import Derived.Test.YtphofanfadgalaaGreatI7
import Derived.Test.YtphofanfadgalaaGreatPL
import Derived.Test.YtphofanfadgalaaGreatV1
import Derived.Test.YtphofanfadgalaaGreatV2
import Derived.Test.YtphofanfadgalaaGreatV3
import Derived.Test.YtphofanfadgalaaGreatM8
import Derived.Test.YtphofanfadgalaaGreatX2
import Derived.Test.YtphofanfadgalaaGreatF4
import Derived.Test.YtphofanfadgalaaGreatRows
set_option linter.all false
set_option linter.unusedSimpArgs false
set_option linter.unusedVariables false
set_option maxRecDepth 8000
set_option maxHeartbeats 8000000
namespace Go.Proofs.YtphofanfadgalaaGreat
open Go.Aw
theorem add_sz (p : DPage) (tx : Str) : szPage (addEntry p tx) ≤ szPage p + 2 * (tx.length + p.addr.host.length) + 2 := by
  have h1 := addr_szI tx p.addr.host
  have h2 := ask_sz p (parseAddr tx p.addr.host).1
  have h3 := ask_keeps p (parseAddr tx p.addr.host).1
  unfold addEntry
  split
  · omega
  · generalize askModule p (parseAddr tx p.addr.host).1 = g at *
    simp only [szPage, szL, List.length_append, sumN_join, sumN, List.length_cons, List.length_nil, ← h3] at h2 ⊢
    omega
theorem FnExactAddEntry_law [Tabs Tryz.prog] (p : DPage) (hwp : wfPage p) (hrp : rgPage p) (tx : Str) (hwtx : tx.length ≤ 9223372036854775807) : Ok Tryz.prog 4 [.agg (ePage .view p), .str tx] (.bool true) := by
  by_cases qstx : tx.length ≤ 1048576
  · skip
    have hz0 := szPage_ok p 1048576 (by omega) (by omega) hwp
    by_cases qz0 : (szPage p) ≤ 1048576
    · rw [sub_pos (by omega)] at hz0
      have hs : szPage p ≤ 1048576 := by omega
      obtain ⟨⟨hc, hq⟩, hqa, hb, hba⟩ := page_facts p (by omega)
      have t1 := toPage_ok p hs
      have t2 := specAddEntry_ok p tx (by omega) (by omega)
      have t3 := implAddEntry_ok p tx (by omega) (by omega)
      have hgs := add_sz p tx
      have hph : p.addr.host.length ≤ szPage p := by simp only [szPage, szAddr]; omega
      generalize addEntry p tx = g at *
      obtain ⟨⟨gc, gq⟩, gqa, gb, gba⟩ := page_facts g (by omega)
      have e1 := eqPage_ok g g (by omega)
      have e2 := eqPage_ok p p (by omega)
      have m1 := markPage_ok p 1 (by omega) (by omega) hq hqa hb hba
      have m2 := markPage_ok g 1 (by omega) (by omega) gq gqa gb gba
      have m3 := heldPage_ok g 1 (by omega) (by omega) gq gqa gb gba
      refine ent Tryz.mix Tryz.func4 Tryz.ntmps4 ?_
      have W := trivial
      have c0 := hz0
      repeat' first|refine st ?_|(refine nx ?_;first|refine so ?_|refine sm (hc:=m1) (h:=?_)|refine sm (hc:=m2) (h:=?_))|(refine cx ?_;refine sc (fun hc=>?_) (fun hc=>?_)<;>try exact hc.elim)|(refine lx ?_;refine sp (fun hc=>?_) (fun hc=>?_)<;>try exact hc.elim)|refine sx ?_ ?_|refine sy ?_ ?_|fail
      all_goals (try (refine ⟨.inr rfl, ?_⟩; simp [Hands, Tryz.results4]))
      all_goals (try simp only [decide_eq_true_eq] at *); all_goals (first | omega | simp_all)
    · rw [sub_neg (by omega)] at hz0
      refine ent Tryz.mix Tryz.func4 Tryz.ntmps4 ?_
      have W := trivial
      have c0 := hz0
      repeat' first|refine st ?_|(refine nx ?_;refine so ?_)|(refine cx ?_;refine sc (fun hc=>?_) (fun hc=>?_)<;>try exact hc.elim)|(refine lx ?_;refine sp (fun hc=>?_) (fun hc=>?_)<;>try exact hc.elim)|refine sx ?_ ?_|refine sy ?_ ?_|fail
      all_goals (try (refine ⟨.inr rfl, ?_⟩; simp [Hands, Tryz.results4]))
  · refine ent Tryz.mix Tryz.func4 Tryz.ntmps4 ?_
    have W := trivial
    repeat' first|refine st ?_|(refine nx ?_;refine so ?_)|(refine cx ?_;refine sc (fun hc=>?_) (fun hc=>?_)<;>try exact hc.elim)|(refine lx ?_;refine sp (fun hc=>?_) (fun hc=>?_)<;>try exact hc.elim)|refine sx ?_ ?_|refine sy ?_ ?_|fail
    all_goals (try (refine ⟨.inr rfl, ?_⟩; simp [Hands, Tryz.results4]))

set_option maxRecDepth 100000 in
theorem law4_lifted (os : Os) (started : os.Started) (H : Type) (enc : TypeId × Value → H) :
    ReturnsInHanded {} Tryz.checked os 4 .any (Rows.fnExactAddEntrySpec.pre6 enc Tryz.prog Tryz.f4 Rows.fnExactAddEntryRow.domain false) (Rows.fnExactAddEntrySpec.post enc Tryz.prog Tryz.f4 false true false false) := by
  refine returnsInHanded_of_change (C := Tryz.checked) (by kernel_rfl) started (by kernel_rfl) Tryz.func4
    (ChangeSpec.witness6 (enc := enc) (C := Tryz.checked) false ⟨#[], #[.agg #[.string ⟨#[]⟩, .string ⟨#[]⟩, .bool false, .slice none 0 0, .slice none 0 0, .slice none 0 0, .string ⟨#[]⟩, .string ⟨#[]⟩, .slice none 0 0, .bool false, .slice none 0 0, .slice none 0 0, .slice none 0 0, .slice none 0 0, .slice none 0 0, .int .i64 0, .int .i64 0, .int .i64 0, .int .i64 0, .slice none 0 0, .slice none 0 0, .bool false], .string ⟨#[]⟩], []⟩ 8 (by kernel_rfl) (by kernel_rfl) (by kernel_rfl) (by kernel_rfl)) ?_
  intro W base args ds gs before hval hW _ _
  letI T : Tabs Tryz.prog := { holds := fun _ => True, low := 0, low_le := fun _ _ => Nat.zero_le _, stable := fun _ _ _ _ => trivial }
  exact row_true (C := Tryz.checked) (T := T) (ss := [.agg shPage, .one .str]) (fuel := 8) (tb := 4) (by kernel_rfl) (by decide +kernel) (by kernel_rfl) (by kernel_rfl) (by kernel_rfl) rfl
    (fun ds h => by
      match ds, h with
      | [d0, d1], _ => rfl)
    (fun avs hf => by
      obtain ⟨c, r0, rfl, hx, hf1⟩ := fitsV_agg hf
      obtain ⟨p, rfl, hwp, hrp⟩ := fits_Page c hx
      obtain ⟨x, r1, rfl, hx, hf2⟩ := fitsV_one hf1
      obtain ⟨tx, rfl, hwtx⟩ := fits_one_str hx
      obtain rfl := fitsV_nil hf2
      exact FnExactAddEntry_law p hwp hrp tx hwtx) trivial hval hW
/-- For every input the law returns true and its arguments read as they did. -/
theorem law4_holds : Rows.FnExactAddEntrySaid :=
  OpenClaim.holds_of_wide 4 Tryz.f4 rfl rfl rfl rfl rfl rfl rfl ⟨rfl, rfl, rfl, rfl, rfl⟩ rfl rfl rfl rfl rfl (by kernel_rfl) Tryz.func4 (by kernel_rfl)
    (of_decide_eq_true (by kernel_rfl)) (by unfold Func.isWrapper; first | (rw [if_pos (by decide +kernel)]; kernel_rfl) | (rw [if_neg (by decide +kernel)]; exact ⟨rfl, rfl⟩))
    (fun os started H enc _ => law4_lifted os started H enc)

end Go.Proofs.YtphofanfadgalaaGreat
