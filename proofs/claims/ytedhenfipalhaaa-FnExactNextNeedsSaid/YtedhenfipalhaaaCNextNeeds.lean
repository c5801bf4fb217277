/-
  Proved here: steps towards the statement of this claim, text CNextNeeds.
  No condition beyond what each statement spells out.
-/
import Derived.Test.YtedhenfipalhaaaN5
import Derived.Test.YtedhenfipalhaaaV1
import Derived.Test.YtedhenfipalhaaaV2
import Derived.Test.YtedhenfipalhaaaV3
import Derived.Test.YtedhenfipalhaaaM8
import Derived.Test.YtedhenfipalhaaaW4
import Derived.Test.YtedhenfipalhaaaW5
import Derived.Test.YtedhenfipalhaaaW2
import Derived.Test.YtedhenfipalhaaaF4
import Derived.Test.YtedhenfipalhaaaRows
set_option linter.all false
set_option linter.unusedSimpArgs false
set_option linter.unusedVariables false
set_option maxRecDepth 8000
set_option maxHeartbeats 8000000
namespace Go.Proofs.Ytedhenfipalhaaa
open Go.Aw
theorem slotReq_sz (p : DPage) (i : Int) (h0 : 0 ≤ i) (h1 : i < p.slots.length) : szRequest (slotReq p i) ≤ szAddr p.addr + sumN szSlot p.slots := by
  obtain ⟨s, hg⟩ := at_some h0 h1
  have hm := sumN_mem_le szSlot (List.mem_of_getElem? hg)
  simp only [slotReq, hg, slotReqOf, szRequest, szSlot, szAddr] at hm ⊢
  omega
theorem modReq_sz (p : DPage) (i : Int) (h0 : 0 ≤ i) (h1 : i < p.mods.length) : szRequest (modReq p i) ≤ szAddr p.addr + sumN szModule p.mods := by
  obtain ⟨s, hg⟩ := at_some h0 h1
  have hm := sumN_mem_le szModule (List.mem_of_getElem? hg)
  simp only [modReq, hg, modReqOf, szRequest, szModule, szAddr, List.length_nil] at hm ⊢
  omega
theorem sumC {α : Type} {f : α → DRequest} {c : Nat} : ∀ (l : List α), (∀ x ∈ l, szRequest (f x) ≤ c) → sumN szRequest (mapL f l) ≤ c * l.length
  | [], _ => by simp [mapL, sumN]
  | x :: l, h => by
    have h1 := h x (by simp)
    have ih := sumC l (fun y hy => h y (by simp [hy]))
    simp only [mapL, List.map_cons, sumN, List.length_cons, Nat.mul_succ] at ih ⊢
    omega
theorem needs_sz (p : DPage) : sumN szRequest (nextNeeds p) ≤ (szAddr p.addr + sumN szSlot p.slots) * p.slots.length + (szAddr p.addr + sumN szModule p.mods) * p.mods.length ∧ (nextNeeds p).length ≤ p.slots.length + p.mods.length := by
  have h1 := sumC (f := slotReq p) (places openS 0 p.slots) (c := szAddr p.addr + sumN szSlot p.slots) (fun x hx => by have := places_mem openS p.slots 0 x hx; exact slotReq_sz p x (by omega) (by omega))
  have h2 := sumC (f := modReq p) (places openM 0 p.mods) (c := szAddr p.addr + sumN szModule p.mods) (fun x hx => by have := places_mem openM p.mods 0 x hx; exact modReq_sz p x (by omega) (by omega))
  have n1 := places_length openS p.slots 0
  have n2 := places_length openM p.mods 0
  have h3 : ∀ a b : List DRequest, sumN szRequest (a ++ b) = sumN szRequest a + sumN szRequest b := by
    intro a b
    induction a with
    | nil => simp [sumN]
    | cons x xs ih => simp only [List.cons_append, sumN, ih]; omega
  have h4 := Nat.mul_le_mul_left (szAddr p.addr + sumN szSlot p.slots) n1
  have h5 := Nat.mul_le_mul_left (szAddr p.addr + sumN szModule p.mods) n2
  simp only [nextNeeds, h3, List.length_append, mapL_length]
  omega
theorem mul_bd {a b s c : Nat} (h : a + b ≤ 1048576) (ha : c ≤ a) (hb : s ≤ b) : c * s ≤ 274877906944 := by
  have h1 : c * s ≤ a * b := Nat.mul_le_mul ha hb
  have h2 : a * b ≤ 274877906944 := by
    have h3 : b ≤ 1048576 - a := by omega
    have h4 : a * b ≤ a * (1048576 - a) := Nat.mul_le_mul_left a h3
    have h5 : a * (1048576 - a) ≤ 524288 * 524288 := by
      rcases Nat.le_total a 524288 with h | h
      · obtain ⟨d, rfl⟩ : ∃ d, a = 524288 - d := ⟨524288 - a, by omega⟩
        have hd : d ≤ 524288 ∨ 524288 < d := by omega
        rcases hd with hd | hd
        · rw [show 1048576 - (524288 - d) = 524288 + d by omega]
          obtain ⟨e, he⟩ : ∃ e, e = 524288 - d := ⟨_, rfl⟩
          rw [← he, show (524288 : Nat) = e + d by omega]
          have : (e + d) * (e + d) = e * (e + d + d) + d * d := by
            simp only [Nat.mul_add, Nat.add_mul, Nat.mul_comm d e]; omega
          omega
        · rw [show 524288 - d = 0 by omega]; simp
      · obtain ⟨d, rfl⟩ : ∃ d, a = 524288 + d := ⟨a - 524288, by omega⟩
        obtain ⟨e, he⟩ : ∃ e, e = 524288 - d := ⟨_, rfl⟩
        rw [show 1048576 - (524288 + d) = e by omega, show (524288 : Nat) = e + d by omega]
        have : (e + d) * (e + d) = (e + d + d) * e + d * d := by
          simp only [Nat.mul_add, Nat.add_mul, Nat.mul_comm d e]; omega
        omega
    omega
  omega
theorem FnExactNextNeeds_law [Tabs Try.prog] (p : DPage) (hwp : wfPage p) (hrp : rgPage p) : Ok Try.prog 5 [.agg (ePage .view p)] (.bool true) := by
  have hz0 := szPage_ok p 1048576 (by omega) (by omega) hwp
  by_cases qz0 : (szPage p) ≤ 1048576
  · rw [sub_pos (by omega)] at hz0
    have hs : szPage p ≤ 1048576 := by omega
    have hS : p.slots.length ≤ 1048576 ∧ sumN szSlot p.slots ≤ 1048576 := by simp only [szPage, szL] at hs; omega
    have hM : p.mods.length ≤ 1048576 ∧ sumN szModule p.mods ≤ 1048576 := by simp only [szPage, szL] at hs; omega
    have hA : szAddr p.addr ≤ 1048576 := by simp only [szPage] at hs; omega
    have hSM : p.slots.length + p.mods.length + sumN szSlot p.slots + sumN szModule p.mods ≤ 1048576 := by simp only [szPage, szL] at hs; omega
    have hq : p.queue.length ≤ 4611686018427387904 := by simp only [szPage, szL] at hs; omega
    have hb : p.builder.nodes.length ≤ 4611686018427387904 := by simp only [szPage, szBuilder, szL] at hs; omega
    have hqa : ∀ x ∈ p.queue, x.attrs.length ≤ 4611686018427387904 := attrs_Token (by simp only [szPage, szL] at hs; omega)
    have hba : ∀ x ∈ p.builder.nodes, x.attrs.length ≤ 4611686018427387904 := attrs_Node (by simp only [szPage, szBuilder, szL] at hs; omega)
    have hc := cPage_le p hs
    have t1 := toPage_ok p hs
    have t2 := specNextNeeds_ok p hS.1 hM.1
    have t3 := implNextNeeds_ok p hS.1 hM.1
    obtain ⟨z1, z2⟩ := needs_sz p
    have y1 : (szAddr p.addr + sumN szSlot p.slots) * p.slots.length ≤ 274877906944 := mul_bd (a := szAddr p.addr + sumN szSlot p.slots) (b := p.slots.length) (by simp only [szPage, szL] at hs; omega) (Nat.le_refl _) (Nat.le_refl _)
    have y2 : (szAddr p.addr + sumN szModule p.mods) * p.mods.length ≤ 274877906944 := mul_bd (a := szAddr p.addr + sumN szModule p.mods) (b := p.mods.length) (by simp only [szPage, szL] at hs; omega) (Nat.le_refl _) (Nat.le_refl _)
    generalize (szAddr p.addr + sumN szSlot p.slots) * p.slots.length = w1 at *
    generalize (szAddr p.addr + sumN szModule p.mods) * p.mods.length = w2 at *
    generalize nextNeeds p = g at *
    have e1 := eqRequestS_ok g g (by simp only [szL]; omega)
    have e2 := eqPage_ok p p (by omega)
    have hcg := sumN_const 5 g
    have m1 := markPage_ok p 1 (by omega) (by omega) hq hqa hb hba
    have m2 := markRequestS_ok g 1 (by omega) (by omega) (by omega)
    have m3 := heldRequestS_ok g 1 (by omega) (by omega) (by omega)
    refine ent Try.mix Try.func5 Try.ntmps5 ?_
    have W := trivial
    have c0 := hz0
    repeat' first|refine st ?_|(refine nx ?_;first|refine so ?_|refine sm (hc:=m1) (h:=?_)|refine sm (hc:=m2) (h:=?_))|(refine cx ?_;refine sc (fun hc=>?_) (fun hc=>?_)<;>try exact hc.elim)|(refine lx ?_;refine sp (fun hc=>?_) (fun hc=>?_)<;>try exact hc.elim)|refine sx ?_ ?_|refine sy ?_ ?_|fail
    all_goals (try (refine ⟨.inr rfl, ?_⟩; simp [Hands, Try.results5]))
    all_goals (try simp only [decide_eq_true_eq] at *); all_goals (first | omega | simp_all)
  · rw [sub_neg (by omega)] at hz0
    refine ent Try.mix Try.func5 Try.ntmps5 ?_
    have W := trivial
    have c0 := hz0
    repeat' first|refine st ?_|(refine nx ?_;refine so ?_)|(refine cx ?_;refine sc (fun hc=>?_) (fun hc=>?_)<;>try exact hc.elim)|(refine lx ?_;refine sp (fun hc=>?_) (fun hc=>?_)<;>try exact hc.elim)|refine sx ?_ ?_|refine sy ?_ ?_|fail
    all_goals (try (refine ⟨.inr rfl, ?_⟩; simp [Hands, Try.results5]))

set_option maxRecDepth 100000 in
theorem law5_lifted (os : Os) (started : os.Started) (H : Type) (enc : TypeId × Value → H) :
    ReturnsInHanded {} Try.checked os 5 .any (Rows.fnExactNextNeedsSpec.pre6 enc Try.prog Try.f5 Rows.fnExactNextNeedsRow.domain false) (Rows.fnExactNextNeedsSpec.post enc Try.prog Try.f5 false true false false) := by
  refine returnsInHanded_of_change (C := Try.checked) (by kernel_rfl) started (by kernel_rfl) Try.func5
    (ChangeSpec.witness6 (enc := enc) (C := Try.checked) false ⟨#[], #[.agg #[.string ⟨#[]⟩, .string ⟨#[]⟩, .bool false, .slice none 0 0, .slice none 0 0, .slice none 0 0, .string ⟨#[]⟩, .string ⟨#[]⟩, .slice none 0 0, .bool false, .slice none 0 0, .slice none 0 0, .slice none 0 0, .slice none 0 0, .slice none 0 0, .int .i64 0, .int .i64 0, .int .i64 0, .int .i64 0, .slice none 0 0, .slice none 0 0, .bool false]], []⟩ 8 (by kernel_rfl) (by kernel_rfl) (by kernel_rfl) (by kernel_rfl)) ?_
  intro W base args ds gs before hval hW _ _
  letI T : Tabs Try.prog := { holds := fun _ => True, low := 0, low_le := fun _ _ => Nat.zero_le _, stable := fun _ _ _ _ => trivial }
  exact row_true (C := Try.checked) (T := T) (ss := [.agg shPage]) (fuel := 8) (tb := 4) (by kernel_rfl) (by decide +kernel) (by kernel_rfl) (by kernel_rfl) (by kernel_rfl) rfl
    (fun ds h => by
      match ds, h with
      | [d0], _ => rfl)
    (fun avs hf => by
      obtain ⟨c, r0, rfl, hx, hf1⟩ := fitsV_agg hf
      obtain ⟨p, rfl, hwp, hrp⟩ := fits_Page c hx
      obtain rfl := fitsV_nil hf1
      exact FnExactNextNeeds_law p hwp hrp) trivial hval hW
/-- For every input the law returns true and its arguments read as they did. -/
theorem law5_holds : Rows.FnExactNextNeedsSaid :=
  OpenClaim.holds_of_wide 5 Try.f5 rfl rfl rfl rfl rfl rfl rfl ⟨rfl, rfl, rfl, rfl, rfl⟩ rfl rfl rfl rfl rfl (by kernel_rfl) Try.func5 (by kernel_rfl)
    (of_decide_eq_true (by kernel_rfl)) (by unfold Func.isWrapper; first | (rw [if_pos (by decide +kernel)]; kernel_rfl) | (rw [if_neg (by decide +kernel)]; exact ⟨rfl, rfl⟩))
    (fun os started H enc _ => law5_lifted os started H enc)

end Go.Proofs.Ytedhenfipalhaaa
