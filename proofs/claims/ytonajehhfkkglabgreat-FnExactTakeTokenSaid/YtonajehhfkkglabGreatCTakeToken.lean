/-
  Proved here: steps towards the statement of this claim, text CTakeToken.
  No condition beyond what each statement spells out.
-/
import Derived.Test.YtonajehhfkkglabGreatTK9
import Derived.Test.YtonajehhfkkglabGreatTKA
import Derived.Test.YtonajehhfkkglabGreatSI7
import Derived.Test.YtonajehhfkkglabGreatSPL
import Derived.Test.YtonajehhfkkglabGreatSV3
import Derived.Test.YtonajehhfkkglabGreatSW3
import Derived.Test.YtonajehhfkkglabGreatX2
import Derived.Test.YtonajehhfkkglabGreatF4
import Derived.Test.YtonajehhfkkglabGreatRows
set_option linter.all false
set_option maxRecDepth 8000
set_option maxHeartbeats 8000000
namespace Go.Proofs.YtonajehhfkkglabGreat
open Go.Aw
theorem addSlot_sz (p : DPage) (md : Int) (tx dg : Str) (nd : Int) : szPage (addSlot p md tx dg nd).1 ≤ 2 * szPage p + tx.length + dg.length + 1 := by
  have h := parseAddr_sz tx p.addr.host
  have h2 : p.addr.host.length ≤ szPage p := by simp only [szPage, szAddr]; omega
  unfold addSlot
  split
  · simp only; omega
  · split
    · simp only [szPage, szL, List.length_append, sumN_join, sumN, szSlot, List.length_cons, List.length_nil] at h2 ⊢
      omega
    · simp only [szPage, szL, List.length_append, sumN_join, sumN, szSlot, List.length_cons, List.length_nil] at h2 ⊢
      omega
theorem add_sz (p : DPage) (tx : Str) : szPage (addEntry p tx) ≤ szPage p + 2 * (tx.length + p.addr.host.length) + 2 := by
  have h1 := addr_szI tx p.addr.host
  have h2 := ask_sz p (parseAddr tx p.addr.host).1
  have h3 := ask_keeps p (parseAddr tx p.addr.host).1
  unfold addEntry
  split
  · omega
  · generalize askModule p (parseAddr tx p.addr.host).1 = g at *
    simp only [szPage, szL, List.length_append, sumN_join, sumN, List.length_cons, List.length_nil, ← h3] at h2 ⊢
    omega
theorem askTok_sz (p : DPage) (t : DToken) (n : Int) : szPage (askTok p t n) ≤ 2 * szPage p + 2 * szToken t + 1 := by
  have z1 := findAttr_sz t.attrs sDigest
  have z2 := findAttr_sz t.attrs sHref
  have z3 := findAttr_sz t.attrs sSrc
  have zt : sumN szAttr t.attrs ≤ szToken t := by simp only [szToken, szL]; omega
  have a2 := addSlot_sz p 2 (findAttr t.attrs sHref).1 (findAttr t.attrs sDigest).1 n
  have a1 := addSlot_sz p 1 (findAttr t.attrs sSrc).1 (findAttr t.attrs sDigest).1 n
  unfold askTok
  split
  · omega
  · split <;> omega
theorem endScript_sz (p : DPage) (k : Nat) (l : List DAttr) : szPage (endScript p k l) ≤ 3 * szPage p + 2 * sumN szAttr l + 2 := by
  have z1 := findAttr_sz l sDigest
  have z3 := findAttr_sz l sSrc
  have a4 := addSlot_sz p 4 (findAttr l sSrc).1 (findAttr l sDigest).1 ((k : Nat) : Int)
  have a3 := addSlot_sz p 3 (findAttr l sSrc).1 (findAttr l sDigest).1 ((k : Nat) : Int)
  have a5 := add_sz p (findAttr l sSrc).1
  have h2 : p.addr.host.length ≤ szPage p := by simp only [szPage, szAddr]; omega
  unfold endScript
  split
  · split
    · show szPage p ≤ _; omega
    · omega
  · split
    · omega
    · split
      · omega
      · show szPage (addSlot p 3 (findAttr l sSrc).1 (findAttr l sDigest).1 ((k : Nat) : Int)).1 ≤ _
        omega
theorem takeToken_sz (p : DPage) : szPage (takeToken p).1 ≤ 6 * szPage p + 20 := by
  unfold takeToken
  split
  · simp only; omega
  · rename_i t q hq
    split
    · have h1 := taken_sz hq
      have ht : szToken t ≤ szPage p := by
        have h1 := sumN_mem_le szToken (show t ∈ p.queue by rw [hq]; simp)
        simp only [szPage, szL]; omega
      simp only
      unfold takeTok
      split
      · rename_i k hk
        have h2 := endScript_sz { p with queue := q, builder := (addToken p.builder t).1 } k ((p.builder.nodes[k]?).elim [] (·.attrs))
        have h3 : sumN szAttr ((p.builder.nodes[k]?).elim [] (·.attrs)) ≤ szPage p := by
          cases hg : p.builder.nodes[k]? with
          | none => simp [sumN]
          | some nd =>
            have h4 := sumN_mem_le szNode (List.mem_of_getElem? hg)
            simp only [Option.elim]
            simp only [szNode, szL] at h4
            simp only [szPage, szBuilder, szL]
            omega
        omega
      · split
        · have h2 := askTok_sz { p with queue := q, builder := (addToken p.builder t).1 } t (addToken p.builder t).2
          omega
        · omega
    · simp only; omega
theorem FnExactTakeToken_law [Tabs Tryz.prog] (p : DPage) (hwp : wfPage p) (hrp : rgPage p) : Ok Tryz.prog 3 [.agg (ePage .view p)] (.bool true) := by
  have hz0 := szPage_ok p 1048576 (by omega) (by omega) hwp
  by_cases qz0 : (szPage p) ≤ 1048576
  · rw [sub_pos (by omega)] at hz0
    have hs : szPage p ≤ 1048576 := by omega
    obtain ⟨⟨hc, hq⟩, hqa, hb, hba⟩ := page_facts p (by omega)
    have t1 := toPage_ok p hs
    have t2 := specTakeToken_ok p (by omega)
    have t3 := implTakeToken_ok p (by omega)
    have hgs := takeToken_sz p
    generalize takeToken p = u at *
    obtain ⟨g, z⟩ := u
    simp only at hgs t2 t3
    obtain ⟨⟨gc, gq⟩, gqa, gb, gba⟩ := page_facts g (by omega)
    have e1 := eqPage_ok g g (by omega)
    have e2 := eqPage_ok p p (by omega)
    have m1 := markPage_ok p 1 (by omega) (by omega) hq hqa hb hba
    have m2 := markPage_ok g 1 (by omega) (by omega) gq gqa gb gba
    have m3 := heldPage_ok g 1 (by omega) (by omega) gq gqa gb gba
    refine ent Tryz.mix Tryz.func3 Tryz.ntmps3 ?_
    have W := trivial
    have c0 := hz0
    repeat' first|refine st ?_|(refine nx ?_;first|refine so ?_|refine sm (hc:=m1) (h:=?_)|refine sm (hc:=m2) (h:=?_))|(refine cx ?_;refine sc (fun hc=>?_) (fun hc=>?_)<;>try exact hc.elim)|(refine lx ?_;refine sp (fun hc=>?_) (fun hc=>?_)<;>try exact hc.elim)|refine sx ?_ ?_|refine sy ?_ ?_|fail
    all_goals (try (refine ⟨.inr rfl, ?_⟩; simp [Hands, Tryz.results3]))
    all_goals (try simp only [decide_eq_true_eq] at *); all_goals (first | omega | simp_all)
  · rw [sub_neg (by omega)] at hz0
    refine ent Tryz.mix Tryz.func3 Tryz.ntmps3 ?_
    have W := trivial
    have c0 := hz0
    repeat' first|refine st ?_|(refine nx ?_;refine so ?_)|(refine cx ?_;refine sc (fun hc=>?_) (fun hc=>?_)<;>try exact hc.elim)|(refine lx ?_;refine sp (fun hc=>?_) (fun hc=>?_)<;>try exact hc.elim)|refine sx ?_ ?_|refine sy ?_ ?_|fail
    all_goals (try (refine ⟨.inr rfl, ?_⟩; simp [Hands, Tryz.results3]))
set_option maxRecDepth 100000 in
theorem law3_lifted (os : Os) (started : os.Started) (H : Type) (enc : TypeId × Value → H) :
    ReturnsInHanded {} Tryz.checked os 3 .any (Rows.fnExactTakeTokenSpec.pre6 enc Tryz.prog Tryz.f3 Rows.fnExactTakeTokenRow.domain false) (Rows.fnExactTakeTokenSpec.post enc Tryz.prog Tryz.f3 false true false false) := by
  refine returnsInHanded_of_change (C := Tryz.checked) (by kernel_rfl) started (by kernel_rfl) Tryz.func3
    (ChangeSpec.witness6 (enc := enc) (C := Tryz.checked) false ⟨#[], #[.agg #[.string ⟨#[]⟩, .string ⟨#[]⟩, .bool false, .slice none 0 0, .slice none 0 0, .slice none 0 0, .string ⟨#[]⟩, .string ⟨#[]⟩, .slice none 0 0, .bool false, .slice none 0 0, .slice none 0 0, .slice none 0 0, .slice none 0 0, .slice none 0 0, .int .i64 0, .int .i64 0, .int .i64 0, .int .i64 0, .slice none 0 0, .slice none 0 0, .bool false]], []⟩ 8 (by kernel_rfl) (by kernel_rfl) (by kernel_rfl) (by kernel_rfl)) ?_
  intro W base args ds gs before hval hW _ _
  letI T : Tabs Tryz.prog := { holds := fun _ => True, low := 0, low_le := fun _ _ => Nat.zero_le _, stable := fun _ _ _ _ => trivial }
  exact row_true (C := Tryz.checked) (T := T) (ss := [.agg shPage]) (fuel := 8) (tb := 4) (by kernel_rfl) (by decide +kernel) (by kernel_rfl) (by kernel_rfl) (by kernel_rfl) rfl
    (fun ds h => by
      match ds, h with
      | [d0], _ => rfl)
    (fun avs hf => by
      obtain ⟨c, r0, rfl, hx, hf1⟩ := fitsV_agg hf
      obtain ⟨p, rfl, hwp, hrp⟩ := fits_Page c hx
      obtain rfl := fitsV_nil hf1
      exact FnExactTakeToken_law p hwp hrp) trivial hval hW
theorem law3_holds : Rows.FnExactTakeTokenSaid :=
  OpenClaim.holds_of_wide 3 Tryz.f3 rfl rfl rfl rfl rfl rfl rfl ⟨rfl, rfl, rfl, rfl, rfl⟩ rfl rfl rfl rfl rfl (by kernel_rfl) Tryz.func3 (by kernel_rfl)
    (of_decide_eq_true (by kernel_rfl)) (by unfold Func.isWrapper; first | (rw [if_pos (by decide +kernel)]; kernel_rfl) | (rw [if_neg (by decide +kernel)]; exact ⟨rfl, rfl⟩))
    (fun os started H enc _ => law3_lifted os started H enc)
end Go.Proofs.YtonajehhfkkglabGreat
