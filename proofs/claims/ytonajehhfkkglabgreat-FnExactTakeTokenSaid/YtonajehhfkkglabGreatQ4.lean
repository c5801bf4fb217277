/-
  Proved here: steps towards the statement of this claim, text Q4.
  No condition beyond what each statement spells out.
-/
import Derived.Test.YtonajehhfkkglabGreatQ2
import Derived.Test.YtonajehhfkkglabGreatSY3
import Derived.Test.YtonajehhfkkglabGreatSR7
set_option linter.all false
set_option maxRecDepth 4000
set_option maxHeartbeats 4000000
namespace Go.Proofs.YtonajehhfkkglabGreat
open Go.Aw
theorem checkRequest_12 (p : DPolicy) (r : DRequest) : checkRequest p r = 1 ∨ checkRequest p r = 2 := by
  unfold checkRequest; split <;> simp
def addSlot (p : DPage) (mode : Int) (to digest : Str) (node : Int) : DPage × Int :=
  if 20 ≤ p.slots.length ∨ kindOfMode mode = 0 then (p, -1)
  else if (parseAddr to p.addr.host).2 = false ∨ checkRequest p.policy ⟨kindOfMode mode, (parseAddr to p.addr.host).1, p.addr.host, digest⟩ ≠ 1 then
    ({ p with slots := p.slots ++ [(⟨mode, (parseAddr to p.addr.host).1, digest, node, true, 2, []⟩ : DSlot)] }, ((p.slots.length : Nat) : Int))
  else ({ p with slots := p.slots ++ [(⟨mode, (parseAddr to p.addr.host).1, digest, node, false, 0, []⟩ : DSlot)] }, ((p.slots.length : Nat) : Int))
theorem addSlot_full {p : DPage} {mode : Int} {to digest : Str} {node : Int} (h : 20 ≤ p.slots.length ∨ kindOfMode mode = 0) : addSlot p mode to digest node = (p, -1) := by unfold addSlot; rw [if_pos h]
theorem addSlot_bad {p : DPage} {mode : Int} {to digest : Str} {node : Int} (h : ¬ (20 ≤ p.slots.length ∨ kindOfMode mode = 0)) (h2 : (parseAddr to p.addr.host).2 = false ∨ checkRequest p.policy ⟨kindOfMode mode, (parseAddr to p.addr.host).1, p.addr.host, digest⟩ ≠ 1) :
    addSlot p mode to digest node = ({ p with slots := p.slots ++ [(⟨mode, (parseAddr to p.addr.host).1, digest, node, true, 2, []⟩ : DSlot)] }, ((p.slots.length : Nat) : Int)) := by unfold addSlot; rw [if_neg h, if_pos h2]
theorem addSlot_good {p : DPage} {mode : Int} {to digest : Str} {node : Int} (h : ¬ (20 ≤ p.slots.length ∨ kindOfMode mode = 0)) (h1 : (parseAddr to p.addr.host).2 = true) (h2 : checkRequest p.policy ⟨kindOfMode mode, (parseAddr to p.addr.host).1, p.addr.host, digest⟩ = 1) :
    addSlot p mode to digest node = ({ p with slots := p.slots ++ [(⟨mode, (parseAddr to p.addr.host).1, digest, node, false, 0, []⟩ : DSlot)] }, ((p.slots.length : Nat) : Int)) := by
  unfold addSlot; rw [if_neg h, if_neg (by rintro (h3 | h3); rw [h1] at h3; cases h3; exact h3 h2)]
theorem specAddSlot_ok [Tabs Tryz.prog] (p : DPage) (mode : Int) (to digest : Str) (node : Int) (hs : szPage p ≤ 274877906944) (hto : to.length ≤ 274877906944) (hd : digest.length ≤ 274877906944) : Ok Tryz.prog 73 [.agg (ePage .view p), .int .i64 mode, .str to, .str digest, .int .i64 node] (.tup [.agg (ePage .own (addSlot p mode to digest node).1), .int .i64 (addSlot p mode to digest node).2]) := by
  have c1 := specPage_ok p hs
  simp only [ePage] at c1
  have hsl : p.addr.host.length ≤ 274877906944 := by simp only [szPage, szAddr] at hs; omega
  have hpol : szPolicy p.policy ≤ 1099511627776 := by simp only [szPage] at hs; omega
  have hsn : p.slots.length ≤ 274877906944 := by simp only [szPage, szL] at hs; omega
  have c2 := specKindOfMode_ok mode
  have c3 := specParseAddr_ok to p.addr.host (by omega)
  by_cases h20 : (20 : Int) ≤ (p.slots.length : Int)
  · rw [addSlot_full (.inl (by omega))]
    refine ent Tryz.mix Tryz.func73 Tryz.ntmps73 ?_
    have W := h20
    repeat' first|refine st ?_|(refine nx ?_;first|refine se ?_|refine so ?_)|(refine cx ?_;refine sc (fun hc=>?_) (fun hc=>?_)<;>try exact hc.elim)|(refine lx ?_;refine sp (fun hc=>?_) (fun hc=>?_)<;>try exact hc.elim)|refine sx ?_ ?_|refine sy ?_ ?_|fail
    all_goals (try (refine ⟨.inr rfl, ?_⟩; simp [Hands, Tryz.results73]))
  by_cases hk : kindOfMode mode = 0
  · rw [addSlot_full (.inr hk)]
    rw [hk] at c2
    refine ent Tryz.mix Tryz.func73 Tryz.ntmps73 ?_
    have W := h20
    repeat' first|refine st ?_|(refine nx ?_;first|refine se ?_|refine so ?_)|(refine cx ?_;refine sc (fun hc=>?_) (fun hc=>?_)<;>try exact hc.elim)|(refine lx ?_;refine sp (fun hc=>?_) (fun hc=>?_)<;>try exact hc.elim)|refine sx ?_ ?_|refine sy ?_ ?_|fail
    all_goals (try (refine ⟨.inr rfl, ?_⟩; simp [Hands, Tryz.results73]))
  have hno : ¬ (20 ≤ p.slots.length ∨ kindOfMode mode = 0) := by rintro (h | h); omega; exact hk h
  have hsz := parseAddr_sz to p.addr.host
  have hbad := addSlot_bad (to := to) (digest := digest) (node := node) hno
  have hgood := addSlot_good (to := to) (digest := digest) (node := node) hno
  have c5 := specCheckRequest_ok p.policy ⟨kindOfMode mode, (parseAddr to p.addr.host).1, p.addr.host, digest⟩ hpol (by simp only [szRequest]; omega)
  have h12 := checkRequest_12 p.policy ⟨kindOfMode mode, (parseAddr to p.addr.host).1, p.addr.host, digest⟩
  have c4 := fun l' hl' hl2 => specSlotRequest_ok { p with slots := l' } (p.slots.length : Int) (by omega) hl' hl2
  have hr : ∀ s, slotReq { p with slots := p.slots ++ [s] } (p.slots.length : Int) = ⟨kindOfMode s.mode, s.to, p.addr.host, s.digest⟩ := fun s => by simp [slotReq, slotReqOf]
  generalize hkm : kindOfMode mode = km at *
  generalize parseAddr to p.addr.host = pa at *
  obtain ⟨a, ok⟩ := pa
  simp only at c3 c5 h12 hsz hbad hgood
  obtain ⟨s0, hs0⟩ : ∃ s : DSlot, s = ⟨mode, a, digest, node, false, 0, []⟩ := ⟨_, rfl⟩
  obtain ⟨l0, hl0⟩ : ∃ l, l = p.slots ++ [s0] := ⟨_, rfl⟩
  obtain ⟨l3, hl3⟩ : ∃ l : List DSlot, l = p.slots ++ [⟨mode, a, digest, node, true, 2, []⟩] := ⟨_, rfl⟩
  have hap : p.slots.map eSlot ++ [[.int .i64 mode, .str a.host, .str a.path, .str digest, .int .i64 node, .bool false, .int .i64 0, .str []]] = l0.map eSlot := by rw [hl0, hs0]; simp
  have hg : l0[p.slots.length]? = some s0 := by rw [hl0]; simp
  have hln : l0.length = p.slots.length + 1 := by rw [hl0]; simp
  have hset : ∀ h, (l0.map eSlot).set p.slots.length [.int .i64 (l0[p.slots.length]'h).mode, .str (l0[p.slots.length]'h).to.host, .str (l0[p.slots.length]'h).to.path, .str (l0[p.slots.length]'h).digest, .int .i64 (l0[p.slots.length]'h).node, .bool true, .int .i64 2, .str (l0[p.slots.length]'h).body] = l3.map eSlot := by
    intro h
    have e : l0[p.slots.length]'h = s0 := by rw [List.getElem?_eq_getElem h] at hg; exact Option.some.inj hg
    rw [e, hl0, hl3, hs0, List.map_append, List.map_append, List.set_append_right _ _ (by simp)]; simp
  have c4 := c4 l0 (by rw [hln]; omega) (by rw [hln]; omega)
  rw [show slotReq { p with slots := l0 } (p.slots.length : Int) = ⟨km, a, p.addr.host, digest⟩ by rw [hl0, hr, hs0]; simp [hkm]] at c4
  simp only [ePage, eRequest] at c4
  simp only [ePolicy, eRequest] at c5
  rw [← hl3] at hbad
  rw [← hs0, ← hl0] at hgood
  have hlt0 : p.slots.length < l0.length := by omega
  clear hs0 hl0 hl3 hr hkm hno
  cases ok
  · rw [hbad (.inl rfl)]
    clear hbad hgood h12
    refine ent Tryz.mix Tryz.func73 Tryz.ntmps73 ?_
    have W := And.intro h20 (And.intro hk (And.intro hg (And.intro hap hlt0)))
    repeat' first|refine st ?_|(refine nx ?_;first|refine se ?_|refine so ?_)|(refine cx ?_;refine sc (fun hc=>?_) (fun hc=>?_)<;>try exact hc.elim)|(refine lx ?_;refine sp (fun hc=>?_) (fun hc=>?_)<;>try exact hc.elim)|refine sx ?_ ?_|refine sy ?_ ?_|fail
    all_goals (try (refine ⟨.inr rfl, ?_⟩; simp [Hands, Tryz.results73]))
    all_goals exact hset _
  · rcases h12 with h | h
    · rw [hgood rfl h]
      rw [h] at c5
      clear hbad hgood h
      refine ent Tryz.mix Tryz.func73 Tryz.ntmps73 ?_
      have W := And.intro h20 (And.intro hk (And.intro hg (And.intro hap hlt0)))
      repeat' first|refine st ?_|(refine nx ?_;first|refine se ?_|refine so ?_)|(refine cx ?_;refine sc (fun hc=>?_) (fun hc=>?_)<;>try exact hc.elim)|(refine lx ?_;refine sp (fun hc=>?_) (fun hc=>?_)<;>try exact hc.elim)|refine sx ?_ ?_|refine sy ?_ ?_|fail
      all_goals (try (refine ⟨.inr rfl, ?_⟩; simp [Hands, Tryz.results73]))
      all_goals exact hset _
    · rw [hbad (.inr (by rw [h]; decide))]
      rw [h] at c5
      clear hbad hgood h
      refine ent Tryz.mix Tryz.func73 Tryz.ntmps73 ?_
      have W := And.intro h20 (And.intro hk (And.intro hg (And.intro hap hlt0)))
      repeat' first|refine st ?_|(refine nx ?_;first|refine se ?_|refine so ?_)|(refine cx ?_;refine sc (fun hc=>?_) (fun hc=>?_)<;>try exact hc.elim)|(refine lx ?_;refine sp (fun hc=>?_) (fun hc=>?_)<;>try exact hc.elim)|refine sx ?_ ?_|refine sy ?_ ?_|fail
      all_goals (try (refine ⟨.inr rfl, ?_⟩; simp [Hands, Tryz.results73]))
      all_goals exact hset _
theorem implAddSlot_ok [Tabs Tryz.prog] (p : DPage) (mode : Int) (to digest : Str) (node : Int) (hs : szPage p ≤ 274877906944) (hto : to.length ≤ 274877906944) (hd : digest.length ≤ 274877906944) : Ok Tryz.prog 86 [.agg (ePage .view p), .int .i64 mode, .str to, .str digest, .int .i64 node] (.tup [.agg (ePage .own (addSlot p mode to digest node).1), .int .i64 (addSlot p mode to digest node).2]) := by
  have c1 := copyPage_ok p hs
  simp only [ePage] at c1
  have hsl : p.addr.host.length ≤ 274877906944 := by simp only [szPage, szAddr] at hs; omega
  have hpol : szPolicy p.policy ≤ 1099511627776 := by simp only [szPage] at hs; omega
  have hsn : p.slots.length ≤ 274877906944 := by simp only [szPage, szL] at hs; omega
  have c2 := implKindOfMode_ok mode
  have c3 := implParseAddr_ok to p.addr.host (by omega)
  by_cases h20 : (20 : Int) ≤ (p.slots.length : Int)
  · rw [addSlot_full (.inl (by omega))]
    refine ent Tryz.mix Tryz.func86 Tryz.ntmps86 ?_
    have W := h20
    repeat' first|refine st ?_|(refine nx ?_;first|refine se ?_|refine so ?_)|(refine cx ?_;refine sc (fun hc=>?_) (fun hc=>?_)<;>try exact hc.elim)|(refine lx ?_;refine sp (fun hc=>?_) (fun hc=>?_)<;>try exact hc.elim)|refine sx ?_ ?_|refine sy ?_ ?_|fail
    all_goals (try (refine ⟨.inr rfl, ?_⟩; simp [Hands, Tryz.results86]))
  by_cases hk : kindOfMode mode = 0
  · rw [addSlot_full (.inr hk)]
    rw [hk] at c2
    refine ent Tryz.mix Tryz.func86 Tryz.ntmps86 ?_
    have W := h20
    repeat' first|refine st ?_|(refine nx ?_;first|refine se ?_|refine so ?_)|(refine cx ?_;refine sc (fun hc=>?_) (fun hc=>?_)<;>try exact hc.elim)|(refine lx ?_;refine sp (fun hc=>?_) (fun hc=>?_)<;>try exact hc.elim)|refine sx ?_ ?_|refine sy ?_ ?_|fail
    all_goals (try (refine ⟨.inr rfl, ?_⟩; simp [Hands, Tryz.results86]))
  have hno : ¬ (20 ≤ p.slots.length ∨ kindOfMode mode = 0) := by rintro (h | h); omega; exact hk h
  have hsz := parseAddr_sz to p.addr.host
  have hbad := addSlot_bad (to := to) (digest := digest) (node := node) hno
  have hgood := addSlot_good (to := to) (digest := digest) (node := node) hno
  have c5 := implCheckRequest_ok p.policy ⟨kindOfMode mode, (parseAddr to p.addr.host).1, p.addr.host, digest⟩ hpol (by simp only [szRequest]; omega)
  have h12 := checkRequest_12 p.policy ⟨kindOfMode mode, (parseAddr to p.addr.host).1, p.addr.host, digest⟩
  have c4 := fun l' hl' hl2 => implSlotRequest_ok { p with slots := l' } (p.slots.length : Int) (by omega) hl' hl2
  have hr : ∀ s, slotReq { p with slots := p.slots ++ [s] } (p.slots.length : Int) = ⟨kindOfMode s.mode, s.to, p.addr.host, s.digest⟩ := fun s => by simp [slotReq, slotReqOf]
  generalize hkm : kindOfMode mode = km at *
  generalize parseAddr to p.addr.host = pa at *
  obtain ⟨a, ok⟩ := pa
  simp only at c3 c5 h12 hsz hbad hgood
  obtain ⟨s0, hs0⟩ : ∃ s : DSlot, s = ⟨mode, a, digest, node, false, 0, []⟩ := ⟨_, rfl⟩
  obtain ⟨l0, hl0⟩ : ∃ l, l = p.slots ++ [s0] := ⟨_, rfl⟩
  obtain ⟨l3, hl3⟩ : ∃ l : List DSlot, l = p.slots ++ [⟨mode, a, digest, node, true, 2, []⟩] := ⟨_, rfl⟩
  have hap : p.slots.map eSlot ++ [[.int .i64 mode, .str a.host, .str a.path, .str digest, .int .i64 node, .bool false, .int .i64 0, .str []]] = l0.map eSlot := by rw [hl0, hs0]; simp
  have hg : l0[p.slots.length]? = some s0 := by rw [hl0]; simp
  have hln : l0.length = p.slots.length + 1 := by rw [hl0]; simp
  have hset : ∀ h, (l0.map eSlot).set p.slots.length [.int .i64 (l0[p.slots.length]'h).mode, .str (l0[p.slots.length]'h).to.host, .str (l0[p.slots.length]'h).to.path, .str (l0[p.slots.length]'h).digest, .int .i64 (l0[p.slots.length]'h).node, .bool true, .int .i64 2, .str (l0[p.slots.length]'h).body] = l3.map eSlot := by
    intro h
    have e : l0[p.slots.length]'h = s0 := by rw [List.getElem?_eq_getElem h] at hg; exact Option.some.inj hg
    rw [e, hl0, hl3, hs0, List.map_append, List.map_append, List.set_append_right _ _ (by simp)]; simp
  have c4 := c4 l0 (by rw [hln]; omega) (by rw [hln]; omega)
  rw [show slotReq { p with slots := l0 } (p.slots.length : Int) = ⟨km, a, p.addr.host, digest⟩ by rw [hl0, hr, hs0]; simp [hkm]] at c4
  simp only [ePage, eRequest] at c4
  simp only [ePolicy, eRequest] at c5
  rw [← hl3] at hbad
  rw [← hs0, ← hl0] at hgood
  have hlt0 : p.slots.length < l0.length := by omega
  clear hs0 hl0 hl3 hr hkm hno
  cases ok
  · rw [hbad (.inl rfl)]
    clear hbad hgood h12
    refine ent Tryz.mix Tryz.func86 Tryz.ntmps86 ?_
    have W := And.intro h20 (And.intro hk (And.intro hg (And.intro hap hlt0)))
    repeat' first|refine st ?_|(refine nx ?_;first|refine se ?_|refine so ?_)|(refine cx ?_;refine sc (fun hc=>?_) (fun hc=>?_)<;>try exact hc.elim)|(refine lx ?_;refine sp (fun hc=>?_) (fun hc=>?_)<;>try exact hc.elim)|refine sx ?_ ?_|refine sy ?_ ?_|fail
    all_goals (try (refine ⟨.inr rfl, ?_⟩; simp [Hands, Tryz.results86]))
    all_goals exact hset _
  · rcases h12 with h | h
    · rw [hgood rfl h]
      rw [h] at c5
      clear hbad hgood h
      refine ent Tryz.mix Tryz.func86 Tryz.ntmps86 ?_
      have W := And.intro h20 (And.intro hk (And.intro hg (And.intro hap hlt0)))
      repeat' first|refine st ?_|(refine nx ?_;first|refine se ?_|refine so ?_)|(refine cx ?_;refine sc (fun hc=>?_) (fun hc=>?_)<;>try exact hc.elim)|(refine lx ?_;refine sp (fun hc=>?_) (fun hc=>?_)<;>try exact hc.elim)|refine sx ?_ ?_|refine sy ?_ ?_|fail
      all_goals (try (refine ⟨.inr rfl, ?_⟩; simp [Hands, Tryz.results86]))
      all_goals exact hset _
    · rw [hbad (.inr (by rw [h]; decide))]
      rw [h] at c5
      clear hbad hgood h
      refine ent Tryz.mix Tryz.func86 Tryz.ntmps86 ?_
      have W := And.intro h20 (And.intro hk (And.intro hg (And.intro hap hlt0)))
      repeat' first|refine st ?_|(refine nx ?_;first|refine se ?_|refine so ?_)|(refine cx ?_;refine sc (fun hc=>?_) (fun hc=>?_)<;>try exact hc.elim)|(refine lx ?_;refine sp (fun hc=>?_) (fun hc=>?_)<;>try exact hc.elim)|refine sx ?_ ?_|refine sy ?_ ?_|fail
      all_goals (try (refine ⟨.inr rfl, ?_⟩; simp [Hands, Tryz.results86]))
      all_goals exact hset _
end Go.Proofs.YtonajehhfkkglabGreat
