/-
  Proved here: steps towards the statement of this claim, text I4.
  No condition beyond what each statement spells out.
-/
import Derived.Test.YtonajehhfkkglabGreatSPL
import Derived.Test.YtonajehhfkkglabGreatI3
import Derived.Test.YtonajehhfkkglabGreatF8
set_option linter.all false
set_option maxRecDepth 4000
set_option maxHeartbeats 4000000
namespace Go.Proofs.YtonajehhfkkglabGreat
open Go.Aw
theorem ask_found {p : DPage} {a : DAddr} {m : DModule} (h : p.mods[askAt p.mods a]? = some m) (hm : m.to = a) : askModule p a = p := by
  unfold askModule; rw [h]; simp [hm]
theorem ask_new {p : DPage} {a : DAddr} (h : ∀ m, p.mods[askAt p.mods a]? = some m → m.to ≠ a) : askModule p a = { p with mods := askMods p a (askAt p.mods a) } := by
  unfold askModule
  split
  · rename_i m hm
    rw [if_neg (h m hm)]
  · rfl
theorem implAskModule_ok [Tabs Tryz.prog] (p : DPage) (a : DAddr) (hs : szPage p ≤ 137438953472) (ha : szAddr a ≤ 1073741824) : Ok Tryz.prog 117 [.agg (ePage .view p), .agg (eAddr a)] (.agg (ePage .own (askModule p a))) := by
  have c1 := copyPage_ok p (by omega)
  have hsn : p.mods.length ≤ 274877906944 := by simp only [szPage, szL] at hs; omega
  have hpol : szPolicy p.policy ≤ 274877906944 := by simp only [szPage] at hs; omega
  have cc := fun b => implCompareAddrs_ok b a
  simp only [ePage] at c1
  simp only [eAddr] at cc
  have cK := implCheckRequest_ok p.policy ⟨5, a, p.addr.host, []⟩ (by omega) (by simp only [szRequest, List.length_nil]; simp only [szPage, szAddr] at hs; omega)
  simp only [ePolicy, eRequest] at cK
  refine ent Tryz.mix Tryz.func117 Tryz.ntmps117 ?_
  have W := trivial
  repeat' first|refine st ?_|(refine nx ?_;first|refine se ?_|refine so ?_)|(refine cx ?_;refine sc (fun hc=>?_) (fun hc=>?_)<;>try exact hc.elim)|(refine lx ?_;refine sp (fun hc=>?_) (fun hc=>?_)<;>try exact hc.elim)|refine sx ?_ ?_|refine sy ?_ ?_|fail
  refine awp_loop' (ι := { k : Nat // k ≤ p.mods.length ∧ ∀ x ∈ p.mods.take k, cmpAddr x.to a < 0 }) (fun t o i => ⟨upds t [(6, .int .i64 i.1)], o⟩)
    (fun i => p.mods.length - i.1) ⟨0, by simp, by simp⟩ (weak_o (by simp) (by simp)) ?_
  rintro ⟨k, hk, hpre⟩ K1 hK1
  simp only [upds, List.set_cons_succ, List.set_cons_zero] at hK1 ⊢
  have hk1 : IntKind.i64.wrap ((k : Int) + 1) = ((k + 1 : Nat) : Int) := by rw [wrap64] <;> omega
  by_cases hlt : k < p.mods.length
  · have hg := List.getElem?_eq_getElem hlt
    have c2 := cc p.mods[k].to
    by_cases hcm : cmpAddr p.mods[k].to a < 0
    · have hnx : ∀ x ∈ p.mods.take (k + 1), cmpAddr x.to a < 0 := by
        intro x hx
        rw [List.take_succ_eq_append_getElem hlt, List.mem_append] at hx
        rcases hx with h | h
        · exact hpre x h
        · simp at h; subst h; exact hcm
      have W := And.intro hk1 (And.intro hg (And.intro hlt hcm))
      repeat' first|refine st ?_|(refine nx ?_;first|refine se ?_|refine so ?_)|(refine cx ?_;refine sc (fun hc=>?_) (fun hc=>?_)<;>try exact hc.elim)|(refine lx ?_;refine sp (fun hc=>?_) (fun hc=>?_)<;>try exact hc.elim)|refine sx ?_ ?_|refine sy ?_ ?_|fail
      exact hK1 _ ⟨k + 1, by omega, hnx⟩ (weak_o (by simp) (by simp)) (by simp only; omega)
    · have hat : askAt p.mods a = k := askAt_eq hk hpre (fun m hm => by rw [hg] at hm; obtain rfl := Option.some.inj hm; exact hcm)
      by_cases hto : p.mods[k].to = a
      · rw [ask_found (by rw [hat]; exact hg) hto]
        have ce := eqAddrA p.mods[k].to a
        rw [decide_eq_true hto] at ce
        simp only [eAddr] at ce
        have W := And.intro hk1 (And.intro hg (And.intro hlt hcm))
        have c0 := ce
        repeat' first|refine st ?_|(refine nx ?_;first|refine se ?_|refine so ?_)|(refine cx ?_;refine sc (fun hc=>?_) (fun hc=>?_)<;>try exact hc.elim)|(refine lx ?_;refine sp (fun hc=>?_) (fun hc=>?_)<;>try exact hc.elim)|refine sx ?_ ?_|refine sy ?_ ?_|fail
        all_goals (try (refine ⟨.inr rfl, ?_⟩; simp [Hands, Tryz.results117]))
      · have hno : ∀ m, p.mods[askAt p.mods a]? = some m → m.to ≠ a := fun m hm => by rw [hat, hg] at hm; obtain rfl := Option.some.inj hm; exact hto
        have ce := eqAddrA p.mods[k].to a
        rw [decide_eq_false hto] at ce
        simp only [eAddr] at ce
        rw [ask_new hno, hat]
        unfold askMods newMod
        have hkt : (p.mods.take k).length = k := by simp; omega
        obtain ⟨m0, hm0⟩ : ∃ m : DModule, m = ⟨a, false, 0, []⟩ := ⟨_, rfl⟩
        obtain ⟨L1, hL1⟩ : ∃ l, l = p.mods.take k ++ m0 :: p.mods.drop k := ⟨_, rfl⟩
        obtain ⟨L3, hL3⟩ : ∃ l : List DModule, l = p.mods.take k ++ ⟨a, true, 2, []⟩ :: p.mods.drop k := ⟨_, rfl⟩
        have hln : L1.length = p.mods.length + 1 := by rw [hL1]; simp; omega
        have hg1 : L1[k]? = some m0 := by rw [hL1, List.getElem?_append_right (by omega), hkt]; simp
        have hlt1 : k < L1.length := by omega
        have cI := insMod_ok p.mods m0 k hk (by omega)
        rw [← hL1, hm0] at cI
        have cR := implModRequest_ok { p with mods := L1 } k (by omega) (by simp only; omega) (by simp only; omega)
        rw [show modReq { p with mods := L1 } (k : Int) = ⟨5, a, p.addr.host, []⟩ by simp only [modReq, Int.toNat_natCast, hg1, modReqOf, hm0]] at cR
        have hset : ∀ h, (L1.map eModule).set k [.str (L1[k]'h).to.host, .str (L1[k]'h).to.path, .bool true, .int .i64 2, .str (L1[k]'h).body] = L3.map eModule := by
          intro h
          have e : L1[k]'h = m0 := by rw [List.getElem?_eq_getElem h] at hg1; exact Option.some.inj hg1
          rw [e, hL1, hL3, hm0, List.map_append, List.map_append, List.set_append_right _ _ (by simp; omega), show k - ((p.mods.take k).map eModule).length = 0 by rw [List.length_map, hkt, Nat.sub_self]]
          simp
        simp only [ePage, eRequest, eModule] at cI cR
        by_cases hck : checkRequest p.policy ⟨5, a, p.addr.host, []⟩ = 1
        · simp only [hck, if_true]
          rw [← hm0, ← hL1]
          rw [hck] at cK
          clear hL1 hL3 hm0
          clear hset
          have W := And.intro hk1 (And.intro hg (And.intro hlt hcm))
          have c0 := ce
          repeat' first|refine st ?_|(refine nx ?_;first|refine se ?_|refine so ?_|refine sg (hc:=cI) (h:=?_))|(refine cx ?_;refine sc (fun hc=>?_) (fun hc=>?_)<;>try exact hc.elim)|(refine lx ?_;refine sp (fun hc=>?_) (fun hc=>?_)<;>try exact hc.elim)|refine sx ?_ ?_|refine sy ?_ ?_|fail
          have W := And.intro hlt1 hg1
          repeat' first|refine st ?_|(refine nx ?_;first|refine se ?_|refine so ?_)|(refine cx ?_;refine sc (fun hc=>?_) (fun hc=>?_)<;>try exact hc.elim)|(refine lx ?_;refine sp (fun hc=>?_) (fun hc=>?_)<;>try exact hc.elim)|refine sx ?_ ?_|refine sy ?_ ?_|fail
          all_goals (try (refine ⟨.inr rfl, ?_⟩; simp [Hands, Tryz.results117]))
        · simp only [hck, if_false]
          rw [← hL3]
          clear hL1 hL3 hm0
          have W := And.intro hk1 (And.intro hg (And.intro hlt hcm))
          have c0 := ce
          repeat' first|refine st ?_|(refine nx ?_;first|refine se ?_|refine so ?_|refine sg (hc:=cI) (h:=?_))|(refine cx ?_;refine sc (fun hc=>?_) (fun hc=>?_)<;>try exact hc.elim)|(refine lx ?_;refine sp (fun hc=>?_) (fun hc=>?_)<;>try exact hc.elim)|refine sx ?_ ?_|refine sy ?_ ?_|fail
          have W := And.intro hlt1 (And.intro hg1 hck)
          repeat' first|refine st ?_|(refine nx ?_;first|refine se ?_|refine so ?_)|(refine cx ?_;refine sc (fun hc=>?_) (fun hc=>?_)<;>try exact hc.elim)|(refine lx ?_;refine sp (fun hc=>?_) (fun hc=>?_)<;>try exact hc.elim)|refine sx ?_ ?_|refine sy ?_ ?_|fail
          all_goals (try (refine ⟨.inr rfl, ?_⟩; simp [Hands, Tryz.results117]))
          all_goals exact hset _
  · have hat : askAt p.mods a = k := askAt_eq hk hpre (fun m hm => by rw [List.getElem?_eq_none (by omega)] at hm; cases hm)
    have hno : ∀ m, p.mods[askAt p.mods a]? = some m → m.to ≠ a := fun m hm => by rw [hat, List.getElem?_eq_none (by omega)] at hm; cases hm
    rw [ask_new hno, hat]
    unfold askMods newMod
    have hkt : (p.mods.take k).length = k := by simp; omega
    obtain ⟨m0, hm0⟩ : ∃ m : DModule, m = ⟨a, false, 0, []⟩ := ⟨_, rfl⟩
    obtain ⟨L1, hL1⟩ : ∃ l, l = p.mods.take k ++ m0 :: p.mods.drop k := ⟨_, rfl⟩
    obtain ⟨L3, hL3⟩ : ∃ l : List DModule, l = p.mods.take k ++ ⟨a, true, 2, []⟩ :: p.mods.drop k := ⟨_, rfl⟩
    have hln : L1.length = p.mods.length + 1 := by rw [hL1]; simp; omega
    have hg1 : L1[k]? = some m0 := by rw [hL1, List.getElem?_append_right (by omega), hkt]; simp
    have hlt1 : k < L1.length := by omega
    have cI := insMod_ok p.mods m0 k hk (by omega)
    rw [← hL1, hm0] at cI
    have cR := implModRequest_ok { p with mods := L1 } k (by omega) (by simp only; omega) (by simp only; omega)
    rw [show modReq { p with mods := L1 } (k : Int) = ⟨5, a, p.addr.host, []⟩ by simp only [modReq, Int.toNat_natCast, hg1, modReqOf, hm0]] at cR
    have hset : ∀ h, (L1.map eModule).set k [.str (L1[k]'h).to.host, .str (L1[k]'h).to.path, .bool true, .int .i64 2, .str (L1[k]'h).body] = L3.map eModule := by
      intro h
      have e : L1[k]'h = m0 := by rw [List.getElem?_eq_getElem h] at hg1; exact Option.some.inj hg1
      rw [e, hL1, hL3, hm0, List.map_append, List.map_append, List.set_append_right _ _ (by simp; omega), show k - ((p.mods.take k).map eModule).length = 0 by rw [List.length_map, hkt, Nat.sub_self]]
      simp
    simp only [ePage, eRequest, eModule] at cI cR
    by_cases hck : checkRequest p.policy ⟨5, a, p.addr.host, []⟩ = 1
    · simp only [hck, if_true]
      rw [← hm0, ← hL1]
      rw [hck] at cK
      clear hL1 hL3 hm0
      clear hset
      have W := And.intro hk1 hlt
      repeat' first|refine st ?_|(refine nx ?_;first|refine se ?_|refine so ?_|refine sg (hc:=cI) (h:=?_))|(refine cx ?_;refine sc (fun hc=>?_) (fun hc=>?_)<;>try exact hc.elim)|(refine lx ?_;refine sp (fun hc=>?_) (fun hc=>?_)<;>try exact hc.elim)|refine sx ?_ ?_|refine sy ?_ ?_|fail
      have W := And.intro hlt1 hg1
      repeat' first|refine st ?_|(refine nx ?_;first|refine se ?_|refine so ?_)|(refine cx ?_;refine sc (fun hc=>?_) (fun hc=>?_)<;>try exact hc.elim)|(refine lx ?_;refine sp (fun hc=>?_) (fun hc=>?_)<;>try exact hc.elim)|refine sx ?_ ?_|refine sy ?_ ?_|fail
      all_goals (try (refine ⟨.inr rfl, ?_⟩; simp [Hands, Tryz.results117]))
    · simp only [hck, if_false]
      rw [← hL3]
      clear hL1 hL3 hm0
      have W := And.intro hk1 hlt
      repeat' first|refine st ?_|(refine nx ?_;first|refine se ?_|refine so ?_|refine sg (hc:=cI) (h:=?_))|(refine cx ?_;refine sc (fun hc=>?_) (fun hc=>?_)<;>try exact hc.elim)|(refine lx ?_;refine sp (fun hc=>?_) (fun hc=>?_)<;>try exact hc.elim)|refine sx ?_ ?_|refine sy ?_ ?_|fail
      have W := And.intro hlt1 (And.intro hg1 hck)
      repeat' first|refine st ?_|(refine nx ?_;first|refine se ?_|refine so ?_)|(refine cx ?_;refine sc (fun hc=>?_) (fun hc=>?_)<;>try exact hc.elim)|(refine lx ?_;refine sp (fun hc=>?_) (fun hc=>?_)<;>try exact hc.elim)|refine sx ?_ ?_|refine sy ?_ ?_|fail
      all_goals (try (refine ⟨.inr rfl, ?_⟩; simp [Hands, Tryz.results117]))
      all_goals exact hset _
end Go.Proofs.YtonajehhfkkglabGreat
