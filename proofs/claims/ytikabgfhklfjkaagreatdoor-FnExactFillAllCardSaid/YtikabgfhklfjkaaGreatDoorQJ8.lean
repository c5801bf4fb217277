/-
  Proved here: steps towards the statement of this claim, text J8.
  No condition beyond what each statement spells out.
-/
import Derived.Test.YtikabgfhklfjkaaGreatDoorQJ7
import Derived.Test.YtikabgfhklfjkaaGreatDoorQSY2
import Derived.Test.YtikabgfhklfjkaaGreatDoorQN2
set_option linter.all false
set_option linter.unusedSimpArgs false
set_option linter.unusedVariables false
set_option maxRecDepth 4000
set_option maxHeartbeats 4000000
namespace Go.Proofs.YtikabgfhklfjkaaGreatDoor
open Go.Aw


def filled (p : DPage) (s : DSlot) (x : DResponse) : DSlot := { s with done := true, code := checkResponse p.policy (slotReqOf p s) x, body := usableBody p.policy (slotReqOf p s) x }
def fillSlot (p : DPage) (k : Int) (x : DResponse) : DPage :=
  if 0 ≤ k then match p.slots[k.toNat]? with
    | some s => if s.done = true then p else { p with slots := p.slots.set k.toNat (filled p s x) }
    | none => p
  else p
theorem fill_no {p : DPage} {k : Int} {x : DResponse} (h : ¬ (0 ≤ k ∧ k < p.slots.length)) : fillSlot p k x = p := by
  unfold fillSlot
  split
  · have : p.slots[k.toNat]? = none := by rw [List.getElem?_eq_none_iff]; omega
    rw [this]
  · rfl
theorem fill_done {p : DPage} {k : Int} {x : DResponse} {s : DSlot} (hg : p.slots[k.toNat]? = some s) (hd : s.done = true) : fillSlot p k x = p := by
  unfold fillSlot
  rw [hg]
  simp [hd]
theorem fill_yes {p : DPage} {k : Int} {x : DResponse} {s : DSlot} (h0 : 0 ≤ k) (hg : p.slots[k.toNat]? = some s) (hd : s.done = false) : fillSlot p k x = { p with slots := p.slots.set k.toNat (filled p s x) } := by
  unfold fillSlot
  rw [if_pos h0, hg]
  simp [hd]
theorem slotReq_szJ (p : DPage) {s : DSlot} {k : Nat} (hg : p.slots[k]? = some s) : szRequest (slotReqOf p s) ≤ szPage p := by
  have hm := sumN_mem_le szSlot (List.mem_of_getElem? hg)
  simp only [szSlot] at hm
  simp only [szRequest, slotReqOf, szPage, szAddr, szL] at *
  omega
theorem implFillSlot_ok [Tabs Tryz.prog] [HasMax Tryz.prog] [HasPow Tryz.prog] (p : DPage) (k : Int) (x : DResponse) (hs : szPage p ≤ 137438953472) (hx : szResponse x ≤ 1048576) : Ok Tryz.prog 30 [.agg (ePage .view p), .int .i64 k, .agg (eResponse x)] (.agg (ePage .own (fillSlot p k x))) := by
  have c1 := copyPage_ok p (by omega)
  have hsn : p.slots.length ≤ 274877906944 := by simp only [szPage, szL] at hs; omega
  have hpol : szPolicy p.policy ≤ 274877906944 := by simp only [szPage] at hs; omega
  by_cases hk0 : k < 0
  · rw [fill_no (by omega)]
    simp only [ePage] at c1
    refine ent Tryz.mix Tryz.func30 Tryz.ntmps30 ?_
    have W := hk0
    repeat' first|refine st ?_|(refine nx ?_;first|refine se ?_|refine so ?_)|(refine cx ?_;refine sc (fun hc=>?_) (fun hc=>?_)<;>try exact hc.elim)|(refine lx ?_;refine sp (fun hc=>?_) (fun hc=>?_)<;>try exact hc.elim)|refine sx ?_ ?_|refine sy ?_ ?_|fail
    all_goals (try (refine ⟨.inr rfl, ?_⟩; simp [Hands, Tryz.results30]))
  by_cases hk1 : (p.slots.length : Int) ≤ k
  · rw [fill_no (by omega)]
    simp only [ePage] at c1
    refine ent Tryz.mix Tryz.func30 Tryz.ntmps30 ?_
    have W := And.intro hk0 hk1
    repeat' first|refine st ?_|(refine nx ?_;first|refine se ?_|refine so ?_)|(refine cx ?_;refine sc (fun hc=>?_) (fun hc=>?_)<;>try exact hc.elim)|(refine lx ?_;refine sp (fun hc=>?_) (fun hc=>?_)<;>try exact hc.elim)|refine sx ?_ ?_|refine sy ?_ ?_|fail
    all_goals (try (refine ⟨.inr rfl, ?_⟩; simp [Hands, Tryz.results30]))
  have h0 : 0 ≤ k := by omega
  have hlt : k.toNat < p.slots.length := by omega
  have hg : p.slots[k.toNat]? = some p.slots[k.toNat] := List.getElem?_eq_getElem hlt
  cases hd : p.slots[k.toNat].done
  · rw [fill_yes h0 hg hd]
    have c2 := implSlotRequest_ok p k h0 (by omega) (by omega)
    have hr := slotReq_szJ p hg
    have e : slotReq p k = slotReqOf p p.slots[k.toNat] := by simp [slotReq, hg]
    rw [e] at c2
    have c3 := implCheckResponse_ok p.policy (slotReqOf p p.slots[k.toNat]) x hpol (by omega) hx
    have c4 := implUsableBody_ok p.policy (slotReqOf p p.slots[k.toNat]) x hpol (by omega) hx
    have hset : ∀ (c : Int) (b : Str), (p.slots.map eSlot).set k.toNat [.int .i64 p.slots[k.toNat].mode, .str p.slots[k.toNat].to.host, .str p.slots[k.toNat].to.path, .str p.slots[k.toNat].digest, .int .i64 p.slots[k.toNat].node, .bool true, .int .i64 c, .str b] = (p.slots.set k.toNat { p.slots[k.toNat] with done := true, code := c, body := b }).map eSlot := by
      intro c b; rw [List.map_set]; rfl
    have hset := hset (checkResponse p.policy (slotReqOf p p.slots[k.toNat]) x) (usableBody p.policy (slotReqOf p p.slots[k.toNat]) x)
    unfold filled
    generalize checkResponse p.policy (slotReqOf p p.slots[k.toNat]) x = c at *
    generalize usableBody p.policy (slotReqOf p p.slots[k.toNat]) x = b at *
    generalize slotReqOf p p.slots[k.toNat] = q at *
    generalize p.slots.set k.toNat { p.slots[k.toNat] with done := true, code := c, body := b } = l3 at *
    simp only [ePage, eRequest] at c2
    simp only [ePolicy, eRequest, eResponse] at c3 c4
    simp only [ePage] at c1
    simp only [ePage]
    clear e
    refine ent Tryz.mix Tryz.func30 Tryz.ntmps30 ?_
    have W := And.intro hk0 (And.intro hk1 (And.intro h0 (And.intro hg (And.intro hd hlt))))
    repeat' first|refine st ?_|(refine nx ?_;first|refine se ?_|refine so ?_)|(refine cx ?_;refine sc (fun hc=>?_) (fun hc=>?_)<;>try exact hc.elim)|(refine lx ?_;refine sp (fun hc=>?_) (fun hc=>?_)<;>try exact hc.elim)|refine sx ?_ ?_|refine sy ?_ ?_|fail
    all_goals (try (refine ⟨.inr rfl, ?_⟩; simp [Hands, Tryz.results30]))
    all_goals exact hset
  · rw [fill_done hg hd]
    simp only [ePage] at c1
    refine ent Tryz.mix Tryz.func30 Tryz.ntmps30 ?_
    have W := And.intro hk0 (And.intro hk1 (And.intro h0 (And.intro hg (And.intro hd hlt))))
    repeat' first|refine st ?_|(refine nx ?_;first|refine se ?_|refine so ?_)|(refine cx ?_;refine sc (fun hc=>?_) (fun hc=>?_)<;>try exact hc.elim)|(refine lx ?_;refine sp (fun hc=>?_) (fun hc=>?_)<;>try exact hc.elim)|refine sx ?_ ?_|refine sy ?_ ?_|fail
    all_goals (try (refine ⟨.inr rfl, ?_⟩; simp [Hands, Tryz.results30]))
theorem specFillSlot_ok [Tabs Tryz.prog] [HasMax Tryz.prog] [HasPow Tryz.prog] (p : DPage) (k : Int) (x : DResponse) (hs : szPage p ≤ 137438953472) (hx : szResponse x ≤ 1048576) : Ok Tryz.prog 29 [.agg (ePage .view p), .int .i64 k, .agg (eResponse x)] (.agg (ePage .own (fillSlot p k x))) := by
  have c1 := specPage_ok p (by omega)
  have hsn : p.slots.length ≤ 274877906944 := by simp only [szPage, szL] at hs; omega
  have hpol : szPolicy p.policy ≤ 274877906944 := by simp only [szPage] at hs; omega
  have ci := specIn_ok k 0 ((p.slots.length : Int) - 1)
  by_cases hk0 : k < 0
  · rw [fill_no (by omega)]
    rw [show (decide (0 ≤ k) && decide (k ≤ (p.slots.length : Int) - 1)) = false by simp; omega] at ci
    simp only [ePage] at c1
    refine ent Tryz.mix Tryz.func29 Tryz.ntmps29 ?_
    have W := hk0
    repeat' first|refine st ?_|(refine nx ?_;first|refine se ?_|refine so ?_)|(refine cx ?_;refine sc (fun hc=>?_) (fun hc=>?_)<;>try exact hc.elim)|(refine lx ?_;refine sp (fun hc=>?_) (fun hc=>?_)<;>try exact hc.elim)|refine sx ?_ ?_|refine sy ?_ ?_|fail
    all_goals (try (refine ⟨.inr rfl, ?_⟩; simp [Hands, Tryz.results29]))
  by_cases hk1 : (p.slots.length : Int) ≤ k
  · rw [fill_no (by omega)]
    rw [show (decide (0 ≤ k) && decide (k ≤ (p.slots.length : Int) - 1)) = false by simp; omega] at ci
    simp only [ePage] at c1
    refine ent Tryz.mix Tryz.func29 Tryz.ntmps29 ?_
    have W := And.intro hk0 hk1
    repeat' first|refine st ?_|(refine nx ?_;first|refine se ?_|refine so ?_)|(refine cx ?_;refine sc (fun hc=>?_) (fun hc=>?_)<;>try exact hc.elim)|(refine lx ?_;refine sp (fun hc=>?_) (fun hc=>?_)<;>try exact hc.elim)|refine sx ?_ ?_|refine sy ?_ ?_|fail
    all_goals (try (refine ⟨.inr rfl, ?_⟩; simp [Hands, Tryz.results29]))
  have h0 : 0 ≤ k := by omega
  rw [show (decide (0 ≤ k) && decide (k ≤ (p.slots.length : Int) - 1)) = true by simp; omega] at ci
  have hlt : k.toNat < p.slots.length := by omega
  have hg : p.slots[k.toNat]? = some p.slots[k.toNat] := List.getElem?_eq_getElem hlt
  cases hd : p.slots[k.toNat].done
  · rw [fill_yes h0 hg hd]
    have c2 := specSlotRequest_ok p k h0 (by omega) (by omega)
    have hr := slotReq_szJ p hg
    have e : slotReq p k = slotReqOf p p.slots[k.toNat] := by simp [slotReq, hg]
    rw [e] at c2
    have c3 := specCheckResponse_ok p.policy (slotReqOf p p.slots[k.toNat]) x hpol (by omega) hx
    have c4 := specUsableBody_ok p.policy (slotReqOf p p.slots[k.toNat]) x hpol (by omega) hx
    have hset : ∀ (c : Int) (b : Str), (p.slots.map eSlot).set k.toNat [.int .i64 p.slots[k.toNat].mode, .str p.slots[k.toNat].to.host, .str p.slots[k.toNat].to.path, .str p.slots[k.toNat].digest, .int .i64 p.slots[k.toNat].node, .bool true, .int .i64 c, .str b] = (p.slots.set k.toNat { p.slots[k.toNat] with done := true, code := c, body := b }).map eSlot := by
      intro c b; rw [List.map_set]; rfl
    have hset := hset (checkResponse p.policy (slotReqOf p p.slots[k.toNat]) x) (usableBody p.policy (slotReqOf p p.slots[k.toNat]) x)
    unfold filled
    generalize checkResponse p.policy (slotReqOf p p.slots[k.toNat]) x = c at *
    generalize usableBody p.policy (slotReqOf p p.slots[k.toNat]) x = b at *
    generalize slotReqOf p p.slots[k.toNat] = q at *
    generalize p.slots.set k.toNat { p.slots[k.toNat] with done := true, code := c, body := b } = l3 at *
    simp only [ePage, eRequest] at c2
    simp only [ePolicy, eRequest, eResponse] at c3 c4
    simp only [ePage] at c1
    simp only [ePage]
    clear e
    refine ent Tryz.mix Tryz.func29 Tryz.ntmps29 ?_
    have W := And.intro hk0 (And.intro hk1 (And.intro h0 (And.intro hg (And.intro hd hlt))))
    repeat' first|refine st ?_|(refine nx ?_;first|refine se ?_|refine so ?_)|(refine cx ?_;refine sc (fun hc=>?_) (fun hc=>?_)<;>try exact hc.elim)|(refine lx ?_;refine sp (fun hc=>?_) (fun hc=>?_)<;>try exact hc.elim)|refine sx ?_ ?_|refine sy ?_ ?_|fail
    all_goals (try (refine ⟨.inr rfl, ?_⟩; simp [Hands, Tryz.results29]))
    all_goals exact hset
  · rw [fill_done hg hd]
    simp only [ePage] at c1
    refine ent Tryz.mix Tryz.func29 Tryz.ntmps29 ?_
    have W := And.intro hk0 (And.intro hk1 (And.intro h0 (And.intro hg (And.intro hd hlt))))
    repeat' first|refine st ?_|(refine nx ?_;first|refine se ?_|refine so ?_)|(refine cx ?_;refine sc (fun hc=>?_) (fun hc=>?_)<;>try exact hc.elim)|(refine lx ?_;refine sp (fun hc=>?_) (fun hc=>?_)<;>try exact hc.elim)|refine sx ?_ ?_|refine sy ?_ ?_|fail
    all_goals (try (refine ⟨.inr rfl, ?_⟩; simp [Hands, Tryz.results29]))
end Go.Proofs.YtikabgfhklfjkaaGreatDoor
