/-
  Proved here: contracts of the copies of a builder.
  No condition beyond what each statement spells out.
-/
import Derived.Test.YtphofanfadgalaaGreatDoorSU5
import Derived.Test.YtphofanfadgalaaGreatDoorF3
import Derived.Test.YtphofanfadgalaaGreatDoorA0
import Derived.Test.YtphofanfadgalaaGreatDoorF6
import Derived.Test.YtphofanfadgalaaGreatDoorR3
import Derived.Test.YtphofanfadgalaaGreatDoorJ7
set_option linter.all false
set_option maxRecDepth 4000
set_option maxHeartbeats 4000000
namespace Go.Proofs.YtphofanfadgalaaGreatDoor
open Go.Aw
theorem rtr_nodes (u : List Nat) (b : Bool) (l : List DNode) : rtr (dropf u) b (l.map (eNode .view)) = l.map (eNode .view) := by
  induction l with
  | nil => rfl
  | cons x l ih => rw [List.map_cons, rtr, ih]; simp [rtc, rt, eNode, dropf]
theorem copyBuilder_ok [Tabs Tryz.prog] (b : DBuilder) (hs : szBuilder b ≤ 274877906944) : Ok Tryz.prog 119 [.agg (eBuilder .view b)] (.agg (eBuilder .own b)) := by
  simp only [szBuilder, szL] at hs
  obtain ⟨l, opens⟩ := b
  simp only at hs
  refine ent Tryz.mix Tryz.func119 Tryz.ntmps119 ?_
  have W := trivial
  repeat' first|refine st ?_|(refine nx ?_;first|refine se ?_|refine so ?_)|(refine cx ?_;refine sc (fun hc=>?_) (fun hc=>?_)<;>try exact hc.elim)|(refine lx ?_;refine sp (fun hc=>?_) (fun hc=>?_)<;>try exact hc.elim)|refine sx ?_ ?_|refine sy ?_ ?_|fail
  refine awp_loop' (ι := { q : Nat × Nat // q.1 ≤ l.length ∧ 1 ≤ q.2 }) (fun t o i => ⟨upds t [(14, .int .i64 i.1.1), (5, .undef), (10, .undef)], o.take 3 ++ [⟨true, true, 2, 0, [[.obj 4 i.1.2, .obj 2 2]]⟩, ⟨true, false, 4, i.1.2, (l.take i.1.1).map (eNode .own)⟩]⟩)
    (fun i => l.length - i.1.1) ⟨(0, 1), by simp, by simp⟩ (weak_openB 3 0 0 (ob := ⟨true, true, 2, 0, [[.sl .own 4 [], .obj 2 2]]⟩) (by rfl) (by rfl) (by rfl) (by simp) (by rfl) (by rfl) (by simp) (by simp [rtc, rt, dropf, rtr_nodes])) ?_
  rintro ⟨⟨k, v⟩, hk, hv⟩ K1 hK1
  simp only at hk hv
  simp only [upds, List.set_cons_succ, List.set_cons_zero, List.take_succ_cons, List.take_zero, List.cons_append, List.nil_append] at hK1 ⊢
  have hk1 : IntKind.i64.wrap ((k : Int) + 1) = ((k + 1 : Nat) : Int) := by rw [wrap64] <;> omega
  by_cases hlt : k < l.length
  · have hg := List.getElem?_eq_getElem hlt
    have hps := map_succ (eNode .own) l k hlt
    have hz := sumN_get_le szNode l k hlt
    simp only [szNode, szL] at hz
    have hgl : ((l.take k).map (eNode .own)).length = k := by simp; omega
    generalize (l.take k).map (eNode .own) = g at *
    have W := And.intro hk1 (And.intro hg (And.intro hlt hgl))
    repeat' first|refine st ?_|(refine nx ?_;first|refine se ?_|refine so ?_)|(refine cx ?_;refine sc (fun hc=>?_) (fun hc=>?_)<;>try exact hc.elim)|(refine lx ?_;refine sp (fun hc=>?_) (fun hc=>?_)<;>try exact hc.elim)|refine sx ?_ ?_|refine sy ?_ ?_|fail
    all_goals refine hK1 _ ⟨(k + 1, v + 1), by simp only; omega, by simp only; omega⟩ (weak_take 5 (by simp [hps]) (by simp) (by simp) (by simp)) (by simp only; omega)
  · have htk : l.take k = l := List.take_of_length_le (by omega)
    rw [htk]
    have W := hk1
    repeat' first|refine st ?_|(refine nx ?_;first|refine se ?_|refine so ?_)|(refine cx ?_;refine sc (fun hc=>?_) (fun hc=>?_)<;>try exact hc.elim)|(refine lx ?_;refine sp (fun hc=>?_) (fun hc=>?_)<;>try exact hc.elim)|refine sx ?_ ?_|refine sy ?_ ?_|fail
    all_goals (try (refine ⟨.inr rfl, ?_⟩; simp [Hands, Tryz.results119]))
theorem specBuilder_ok [Tabs Tryz.prog] (b : DBuilder) (hs : szBuilder b ≤ 274877906944) : Ok Tryz.prog 110 [.agg (eBuilder .view b)] (.agg (eBuilder .own b)) := by
  simp only [szBuilder, szL] at hs
  obtain ⟨l, opens⟩ := b
  simp only at hs
  refine ent Tryz.mix Tryz.func110 Tryz.ntmps110 ?_
  have W := trivial
  repeat' first|refine st ?_|(refine nx ?_;first|refine se ?_|refine so ?_)|(refine cx ?_;refine sc (fun hc=>?_) (fun hc=>?_)<;>try exact hc.elim)|(refine lx ?_;refine sp (fun hc=>?_) (fun hc=>?_)<;>try exact hc.elim)|refine sx ?_ ?_|refine sy ?_ ?_|fail
  refine awp_loop' (ι := { q : Nat × Nat // q.1 ≤ l.length ∧ 1 ≤ q.2 }) (fun t o i => ⟨upds t [(4, .int .i64 i.1.1), (5, .undef), (10, .undef)], o.take 3 ++ [⟨true, true, 2, 0, [[.obj 4 i.1.2, .obj 2 2]]⟩, ⟨true, false, 4, i.1.2, (l.take i.1.1).map (eNode .own)⟩]⟩)
    (fun i => l.length - i.1.1) ⟨(0, 1), by simp, by simp⟩ (weak_openB 3 0 0 (ob := ⟨true, true, 2, 0, [[.sl .own 4 [], .obj 2 2]]⟩) (by rfl) (by rfl) (by rfl) (by simp) (by rfl) (by rfl) (by simp) (by simp [rtc, rt, dropf, rtr_nodes])) ?_
  rintro ⟨⟨k, v⟩, hk, hv⟩ K1 hK1
  simp only at hk hv
  simp only [upds, List.set_cons_succ, List.set_cons_zero, List.take_succ_cons, List.take_zero, List.cons_append, List.nil_append] at hK1 ⊢
  have hk1 : IntKind.i64.wrap ((k : Int) + 1) = ((k + 1 : Nat) : Int) := by rw [wrap64] <;> omega
  by_cases hlt : k < l.length
  · have hg := List.getElem?_eq_getElem hlt
    have hps := map_succ (eNode .own) l k hlt
    have hz := sumN_get_le szNode l k hlt
    simp only [szNode, szL] at hz
    have c1 := l6Attrs_ok l[k].attrs (by omega)
    have hgl : ((l.take k).map (eNode .own)).length = k := by simp; omega
    generalize (l.take k).map (eNode .own) = g at *
    have W := And.intro hk1 (And.intro hg (And.intro hlt hgl))
    repeat' first|refine st ?_|(refine nx ?_;first|refine se ?_|refine so ?_)|(refine cx ?_;refine sc (fun hc=>?_) (fun hc=>?_)<;>try exact hc.elim)|(refine lx ?_;refine sp (fun hc=>?_) (fun hc=>?_)<;>try exact hc.elim)|refine sx ?_ ?_|refine sy ?_ ?_|fail
    all_goals refine hK1 _ ⟨(k + 1, v + 1), by simp only; omega, by simp only; omega⟩ (weak_take 5 (by simp [hps]) (by simp) (by simp) (by simp)) (by simp only; omega)
  · have htk : l.take k = l := List.take_of_length_le (by omega)
    rw [htk]
    have W := hk1
    repeat' first|refine st ?_|(refine nx ?_;first|refine se ?_|refine so ?_)|(refine cx ?_;refine sc (fun hc=>?_) (fun hc=>?_)<;>try exact hc.elim)|(refine lx ?_;refine sp (fun hc=>?_) (fun hc=>?_)<;>try exact hc.elim)|refine sx ?_ ?_|refine sy ?_ ?_|fail
    all_goals (try (refine ⟨.inr rfl, ?_⟩; simp [Hands, Tryz.results110]))
end Go.Proofs.YtphofanfadgalaaGreatDoor

set_option maxRecDepth 4000
set_option maxHeartbeats 4000000
namespace Go.Proofs.YtphofanfadgalaaGreatDoor
open Go.Aw
theorem copyPage_ok [Tabs Tryz.prog] (a : DPage) (hs : szPage a ≤ 274877906944) : Ok Tryz.prog 69 [.agg (ePage .view a)] (.agg (ePage .own a)) := by
  simp only [szPage] at hs
  have c1 := copyPolicy_ok a.policy (by omega)
  have c2 := copyTokens_ok a.queue (by omega)
  have c3 := copyBuilder_ok a.builder (by omega)
  simp only [szL] at hs
  simp only [ePolicy] at c1
  simp only [eBuilder] at c3
  refine ent Tryz.mix Tryz.func69 Tryz.ntmps69 ?_
  have W := trivial
  repeat' first|refine st ?_|(refine nx ?_;first|refine se ?_|refine so ?_)|(refine cx ?_;refine sc (fun hc=>?_) (fun hc=>?_)<;>try exact hc.elim)|(refine lx ?_;refine sp (fun hc=>?_) (fun hc=>?_)<;>try exact hc.elim)|refine sx ?_ ?_|refine sy ?_ ?_|fail
  all_goals (try (refine ⟨.inr rfl, ?_⟩; simp [Hands, Tryz.results69]))
theorem specPage_ok [Tabs Tryz.prog] (a : DPage) (hs : szPage a ≤ 274877906944) : Ok Tryz.prog 64 [.agg (ePage .view a)] (.agg (ePage .own a)) := by
  simp only [szPage] at hs
  have c1 := specPolicy_ok a.policy (by omega)
  have c2 := specTokens_ok a.queue (by omega)
  have c3 := specBuilder_ok a.builder (by omega)
  simp only [szL] at hs
  simp only [ePolicy] at c1
  simp only [eBuilder] at c3
  refine ent Tryz.mix Tryz.func64 Tryz.ntmps64 ?_
  have W := trivial
  repeat' first|refine st ?_|(refine nx ?_;first|refine se ?_|refine so ?_)|(refine cx ?_;refine sc (fun hc=>?_) (fun hc=>?_)<;>try exact hc.elim)|(refine lx ?_;refine sp (fun hc=>?_) (fun hc=>?_)<;>try exact hc.elim)|refine sx ?_ ?_|refine sy ?_ ?_|fail
  all_goals (try (refine ⟨.inr rfl, ?_⟩; simp [Hands, Tryz.results64]))
end Go.Proofs.YtphofanfadgalaaGreatDoor

set_option maxRecDepth 4000
set_option maxHeartbeats 4000000
namespace Go.Proofs.YtphofanfadgalaaGreatDoor
open Go.Aw
def places {α : Type} (f : α → Bool) : Nat → List α → List Int
  | _, [] => []
  | i, x :: xs => if f x then (i : Int) :: places f (i + 1) xs else places f (i + 1) xs
theorem places_snoc {α : Type} (f : α → Bool) (x : α) : ∀ (l : List α) (i : Nat), places f i (l ++ [x]) = places f i l ++ (if f x then [((i + l.length : Nat) : Int)] else [])
  | [], i => by simp only [List.nil_append, places]; cases f x <;> simp
  | y :: ys, i => by
    simp only [List.cons_append, places]
    rw [places_snoc f x ys (i + 1)]
    have : i + 1 + ys.length = i + (y :: ys).length := by simp; omega
    rw [this]
    cases f y <;> simp
theorem places_succ {α : Type} (f : α → Bool) (l : List α) (k : Nat) (h : k < l.length) : places f 0 (l.take (k + 1)) = places f 0 (l.take k) ++ (if f l[k] then [(k : Int)] else []) := by
  rw [List.take_succ_eq_append_getElem h, places_snoc]
  have : (l.take k).length = k := by simp; omega
  rw [this, Nat.zero_add]
theorem places_length {α : Type} (f : α → Bool) : ∀ (l : List α) (i : Nat), (places f i l).length ≤ l.length
  | [], _ => by simp [places]
  | x :: xs, i => by
    simp only [places]
    have := places_length f xs (i + 1)
    cases f x <;> simp <;> omega
def openS (s : DSlot) : Bool := !s.done
def openM (s : DModule) : Bool := !s.done
def deferS (s : DSlot) : Bool := s.mode == 4
end Go.Proofs.YtphofanfadgalaaGreatDoor

set_option maxRecDepth 4000
set_option maxHeartbeats 400000
namespace Go.Proofs.YtphofanfadgalaaGreatDoor
open Go.Aw
theorem places_mem {α : Type} (f : α → Bool) : ∀ (l : List α) (j : Nat) (i : Int), i ∈ places f j l → (j : Int) ≤ i ∧ i < j + l.length
  | [], j, i, h => by simp [places] at h
  | x :: xs, j, i, h => by
    simp only [places] at h
    have ih := places_mem f xs (j + 1) i
    simp only [List.length_cons]
    split at h
    · rcases List.mem_cons.1 h with rfl | h
      · omega
      · have := ih h; omega
    · have := ih h; omega
def kindOfMode (m : Int) : Int := if m = 1 then 4 else if m = 2 then 3 else if m = 3 then 2 else if m = 4 then 2 else 0
def noReq : DRequest := ⟨0, ⟨[], []⟩, [], []⟩
def slotReqOf (p : DPage) (s : DSlot) : DRequest := ⟨kindOfMode s.mode, s.to, p.addr.host, s.digest⟩
def modReqOf (p : DPage) (m : DModule) : DRequest := ⟨5, m.to, p.addr.host, []⟩
def slotReq (p : DPage) (i : Int) : DRequest := match p.slots[i.toNat]? with
  | some s => slotReqOf p s
  | none => noReq
def modReq (p : DPage) (i : Int) : DRequest := match p.mods[i.toNat]? with
  | some s => modReqOf p s
  | none => noReq
theorem at_some {α : Type} {l : List α} {i : Int} (h0 : 0 ≤ i) (h1 : i < l.length) : ∃ s, l[i.toNat]? = some s := ⟨l[i.toNat]'(by omega), List.getElem?_eq_getElem _⟩
theorem at_eq {α : Type} {l : List α} {k : Nat} {s : α} (h : k < l.length) (hg : l[k]? = some s) : l[k] = s := by
  rw [List.getElem?_eq_getElem h] at hg
  exact Option.some.inj hg
theorem specModRequest_ok [Tabs Tryz.prog] (p : DPage) (i : Int) (h0 : 0 ≤ i) (h1 : i < p.mods.length) (hl : p.mods.length ≤ 1099511627776) : Ok Tryz.prog 65 [.agg (ePage .view p), .int .i64 i] (.agg (eRequest (modReq p i))) := by
  obtain ⟨s, hg⟩ := at_some h0 h1
  have e : modReq p i = modReqOf p s := by simp [modReq, hg]
  rw [e]
  obtain rfl : p.mods[i.toNat]'(by omega) = s := at_eq (by omega) hg
  have c1 := specIn_ok i 0 (p.mods.length - 1)
  rw [show (decide (0 ≤ i) && decide (i ≤ (p.mods.length : Int) - 1)) = true by simp; omega] at c1
  refine ent Tryz.mix Tryz.func65 Tryz.ntmps65 ?_
  have W := And.intro hg (And.intro h0 h1)
  repeat' first|refine st ?_|(refine nx ?_;refine so ?_)|(refine cx ?_;refine sc (fun hc=>?_) (fun hc=>?_)<;>try exact hc.elim)|(refine lx ?_;refine sp (fun hc=>?_) (fun hc=>?_)<;>try exact hc.elim)|refine sx ?_ ?_|refine sy ?_ ?_|fail
  all_goals (try (refine ⟨.inr rfl, ?_⟩; simp [Hands, Tryz.results65, modReqOf]))
theorem implModRequest_ok [Tabs Tryz.prog] (p : DPage) (i : Int) (h0 : 0 ≤ i) (h1 : i < p.mods.length) (hl : p.mods.length ≤ 1099511627776) : Ok Tryz.prog 70 [.agg (ePage .view p), .int .i64 i] (.agg (eRequest (modReq p i))) := by
  obtain ⟨s, hg⟩ := at_some h0 h1
  have e : modReq p i = modReqOf p s := by simp [modReq, hg]
  rw [e]
  obtain rfl : p.mods[i.toNat]'(by omega) = s := at_eq (by omega) hg
  have n0 : ¬ i < 0 := by omega
  have n1 : ¬ (p.mods.length : Int) ≤ i := by omega
  refine ent Tryz.mix Tryz.func70 Tryz.ntmps70 ?_
  have W := And.intro hg (And.intro h0 (And.intro h1 (And.intro n0 n1)))
  repeat' first|refine st ?_|(refine nx ?_;refine so ?_)|(refine cx ?_;refine sc (fun hc=>?_) (fun hc=>?_)<;>try exact hc.elim)|(refine lx ?_;refine sp (fun hc=>?_) (fun hc=>?_)<;>try exact hc.elim)|refine sx ?_ ?_|refine sy ?_ ?_|fail
  all_goals (try (refine ⟨.inr rfl, ?_⟩; simp [Hands, Tryz.results70, modReqOf]))
end Go.Proofs.YtphofanfadgalaaGreatDoor

set_option maxRecDepth 4000
set_option maxHeartbeats 4000000
namespace Go.Proofs.YtphofanfadgalaaGreatDoor
open Go.Aw
def filled (p : DPage) (s : DSlot) (x : DResponse) : DSlot := { s with done := true, code := checkResponse p.policy (slotReqOf p s) x, body := usableBody p.policy (slotReqOf p s) x }
def fillSlot (p : DPage) (k : Int) (x : DResponse) : DPage :=
  if 0 ≤ k then match p.slots[k.toNat]? with
    | some s => if s.done = true then p else { p with slots := p.slots.set k.toNat (filled p s x) }
    | none => p
  else p
theorem fill_no {p : DPage} {k : Int} {x : DResponse} (h : ¬ (0 ≤ k ∧ k < p.slots.length)) : fillSlot p k x = p := by
  unfold fillSlot
  split
  · have : p.slots[k.toNat]? = none := by rw [List.getElem?_eq_none_iff]; omega
    rw [this]
  · rfl
theorem fill_done {p : DPage} {k : Int} {x : DResponse} {s : DSlot} (hg : p.slots[k.toNat]? = some s) (hd : s.done = true) : fillSlot p k x = p := by
  unfold fillSlot
  rw [hg]
  simp [hd]
theorem fill_yes {p : DPage} {k : Int} {x : DResponse} {s : DSlot} (h0 : 0 ≤ k) (hg : p.slots[k.toNat]? = some s) (hd : s.done = false) : fillSlot p k x = { p with slots := p.slots.set k.toNat (filled p s x) } := by
  unfold fillSlot
  rw [if_pos h0, hg]
  simp [hd]
theorem slotReq_szJ (p : DPage) {s : DSlot} {k : Nat} (hg : p.slots[k]? = some s) : szRequest (slotReqOf p s) ≤ szPage p := by
  have hm := sumN_mem_le szSlot (List.mem_of_getElem? hg)
  simp only [szSlot] at hm
  simp only [szRequest, slotReqOf, szPage, szAddr, szL] at *
  omega
end Go.Proofs.YtphofanfadgalaaGreatDoor
