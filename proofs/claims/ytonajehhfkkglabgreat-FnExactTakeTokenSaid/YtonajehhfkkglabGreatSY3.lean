/-
  Proved here: contracts of the copies of a page.
  No condition beyond what each statement spells out.
-/
import Derived.Test.YtonajehhfkkglabGreatY2
import Derived.Test.YtonajehhfkkglabGreatA0
import Derived.Test.YtonajehhfkkglabGreatF3
import Derived.Test.YtonajehhfkkglabGreatF6
import Derived.Test.YtonajehhfkkglabGreatR3
set_option linter.all false
set_option maxRecDepth 4000
set_option maxHeartbeats 4000000
namespace Go.Proofs.YtonajehhfkkglabGreat
open Go.Aw
theorem copyPage_ok [Tabs Tryz.prog] (a : DPage) (hs : szPage a ≤ 274877906944) : Ok Tryz.prog 34 [.agg (ePage .view a)] (.agg (ePage .own a)) := by
  simp only [szPage] at hs
  have c1 := copyPolicy_ok a.policy (by omega)
  have c2 := copyTokens_ok a.queue (by omega)
  have c3 := copyBuilder_ok a.builder (by omega)
  simp only [szL] at hs
  simp only [ePolicy] at c1
  simp only [eBuilder] at c3
  refine ent Tryz.mix Tryz.func34 Tryz.ntmps34 ?_
  have W := trivial
  repeat' first|refine st ?_|(refine nx ?_;first|refine se ?_|refine so ?_)|(refine cx ?_;refine sc (fun hc=>?_) (fun hc=>?_)<;>try exact hc.elim)|(refine lx ?_;refine sp (fun hc=>?_) (fun hc=>?_)<;>try exact hc.elim)|refine sx ?_ ?_|refine sy ?_ ?_|fail
  all_goals (try (refine ⟨.inr rfl, ?_⟩; simp [Hands, Tryz.results34]))
theorem specPage_ok [Tabs Tryz.prog] (a : DPage) (hs : szPage a ≤ 274877906944) : Ok Tryz.prog 20 [.agg (ePage .view a)] (.agg (ePage .own a)) := by
  simp only [szPage] at hs
  have c1 := specPolicy_ok a.policy (by omega)
  have c2 := specTokens_ok a.queue (by omega)
  have c3 := specBuilder_ok a.builder (by omega)
  simp only [szL] at hs
  simp only [ePolicy] at c1
  simp only [eBuilder] at c3
  refine ent Tryz.mix Tryz.func20 Tryz.ntmps20 ?_
  have W := trivial
  repeat' first|refine st ?_|(refine nx ?_;first|refine se ?_|refine so ?_)|(refine cx ?_;refine sc (fun hc=>?_) (fun hc=>?_)<;>try exact hc.elim)|(refine lx ?_;refine sp (fun hc=>?_) (fun hc=>?_)<;>try exact hc.elim)|refine sx ?_ ?_|refine sy ?_ ?_|fail
  all_goals (try (refine ⟨.inr rfl, ?_⟩; simp [Hands, Tryz.results20]))
end Go.Proofs.YtonajehhfkkglabGreat

set_option maxRecDepth 4000
set_option maxHeartbeats 4000000
namespace Go.Proofs.YtonajehhfkkglabGreat
open Go.Aw
def places {α : Type} (f : α → Bool) : Nat → List α → List Int
  | _, [] => []
  | i, x :: xs => if f x then (i : Int) :: places f (i + 1) xs else places f (i + 1) xs
theorem places_snoc {α : Type} (f : α → Bool) (x : α) : ∀ (l : List α) (i : Nat), places f i (l ++ [x]) = places f i l ++ (if f x then [((i + l.length : Nat) : Int)] else [])
  | [], i => by simp only [List.nil_append, places]; cases f x <;> simp
  | y :: ys, i => by
    simp only [List.cons_append, places]
    rw [places_snoc f x ys (i + 1)]
    have : i + 1 + ys.length = i + (y :: ys).length := by simp; omega
    rw [this]
    cases f y <;> simp
theorem places_succ {α : Type} (f : α → Bool) (l : List α) (k : Nat) (h : k < l.length) : places f 0 (l.take (k + 1)) = places f 0 (l.take k) ++ (if f l[k] then [(k : Int)] else []) := by
  rw [List.take_succ_eq_append_getElem h, places_snoc]
  have : (l.take k).length = k := by simp; omega
  rw [this, Nat.zero_add]
theorem places_length {α : Type} (f : α → Bool) : ∀ (l : List α) (i : Nat), (places f i l).length ≤ l.length
  | [], _ => by simp [places]
  | x :: xs, i => by
    simp only [places]
    have := places_length f xs (i + 1)
    cases f x <;> simp <;> omega
def openS (s : DSlot) : Bool := !s.done
def openM (s : DModule) : Bool := !s.done
def deferS (s : DSlot) : Bool := s.mode == 4
end Go.Proofs.YtonajehhfkkglabGreat

set_option maxRecDepth 4000
set_option maxHeartbeats 400000
namespace Go.Proofs.YtonajehhfkkglabGreat
open Go.Aw
theorem places_mem {α : Type} (f : α → Bool) : ∀ (l : List α) (j : Nat) (i : Int), i ∈ places f j l → (j : Int) ≤ i ∧ i < j + l.length
  | [], j, i, h => by simp [places] at h
  | x :: xs, j, i, h => by
    simp only [places] at h
    have ih := places_mem f xs (j + 1) i
    simp only [List.length_cons]
    split at h
    · rcases List.mem_cons.1 h with rfl | h
      · omega
      · have := ih h; omega
    · have := ih h; omega
def kindOfMode (m : Int) : Int := if m = 1 then 4 else if m = 2 then 3 else if m = 3 then 2 else if m = 4 then 2 else 0
theorem specKindOfMode_ok [Tabs Tryz.prog] (m : Int) : Ok Tryz.prog 103 [.int .i64 m] (.int .i64 (kindOfMode m)) := by
  refine ent Tryz.mix Tryz.func103 Tryz.ntmps103 ?_
  have W := trivial
  repeat' first|refine st ?_|(refine nx ?_;refine so ?_)|(refine cx ?_;refine sc (fun hc=>?_) (fun hc=>?_)<;>try exact hc.elim)|(refine lx ?_;refine sp (fun hc=>?_) (fun hc=>?_)<;>try exact hc.elim)|refine sx ?_ ?_|refine sy ?_ ?_|fail
  all_goals (try (refine ⟨.inr rfl, ?_⟩; simp [Hands, Tryz.results103, kindOfMode]))
  all_goals simp_all [kindOfMode]
theorem implKindOfMode_ok [Tabs Tryz.prog] (m : Int) : Ok Tryz.prog 113 [.int .i64 m] (.int .i64 (kindOfMode m)) := by
  refine ent Tryz.mix Tryz.func113 Tryz.ntmps113 ?_
  have W := trivial
  repeat' first|refine st ?_|(refine nx ?_;refine so ?_)|(refine cx ?_;refine sc (fun hc=>?_) (fun hc=>?_)<;>try exact hc.elim)|(refine lx ?_;refine sp (fun hc=>?_) (fun hc=>?_)<;>try exact hc.elim)|refine sx ?_ ?_|refine sy ?_ ?_|fail
  all_goals (try (refine ⟨.inr rfl, ?_⟩; simp [Hands, Tryz.results113, kindOfMode]))
  all_goals simp_all [kindOfMode]
def noReq : DRequest := ⟨0, ⟨[], []⟩, [], []⟩
def slotReqOf (p : DPage) (s : DSlot) : DRequest := ⟨kindOfMode s.mode, s.to, p.addr.host, s.digest⟩
def modReqOf (p : DPage) (m : DModule) : DRequest := ⟨5, m.to, p.addr.host, []⟩
def slotReq (p : DPage) (i : Int) : DRequest := match p.slots[i.toNat]? with
  | some s => slotReqOf p s
  | none => noReq
def modReq (p : DPage) (i : Int) : DRequest := match p.mods[i.toNat]? with
  | some s => modReqOf p s
  | none => noReq
theorem at_some {α : Type} {l : List α} {i : Int} (h0 : 0 ≤ i) (h1 : i < l.length) : ∃ s, l[i.toNat]? = some s := ⟨l[i.toNat]'(by omega), List.getElem?_eq_getElem _⟩
theorem at_eq {α : Type} {l : List α} {k : Nat} {s : α} (h : k < l.length) (hg : l[k]? = some s) : l[k] = s := by
  rw [List.getElem?_eq_getElem h] at hg
  exact Option.some.inj hg
theorem specSlotRequest_ok [Tabs Tryz.prog] (p : DPage) (i : Int) (h0 : 0 ≤ i) (h1 : i < p.slots.length) (hl : p.slots.length ≤ 1099511627776) : Ok Tryz.prog 106 [.agg (ePage .view p), .int .i64 i] (.agg (eRequest (slotReq p i))) := by
  obtain ⟨s, hg⟩ := at_some h0 h1
  have e : slotReq p i = slotReqOf p s := by simp [slotReq, hg]
  rw [e]
  obtain rfl : p.slots[i.toNat]'(by omega) = s := at_eq (by omega) hg
  have c1 := specIn_ok i 0 (p.slots.length - 1)
  rw [show (decide (0 ≤ i) && decide (i ≤ (p.slots.length : Int) - 1)) = true by simp; omega] at c1
  have c2 := specKindOfMode_ok (p.slots[i.toNat]'(by omega)).mode
  refine ent Tryz.mix Tryz.func106 Tryz.ntmps106 ?_
  have W := And.intro hg (And.intro h0 h1)
  repeat' first|refine st ?_|(refine nx ?_;refine so ?_)|(refine cx ?_;refine sc (fun hc=>?_) (fun hc=>?_)<;>try exact hc.elim)|(refine lx ?_;refine sp (fun hc=>?_) (fun hc=>?_)<;>try exact hc.elim)|refine sx ?_ ?_|refine sy ?_ ?_|fail
  all_goals (try (refine ⟨.inr rfl, ?_⟩; simp [Hands, Tryz.results106, slotReqOf]))
theorem implSlotRequest_ok [Tabs Tryz.prog] (p : DPage) (i : Int) (h0 : 0 ≤ i) (h1 : i < p.slots.length) (hl : p.slots.length ≤ 1099511627776) : Ok Tryz.prog 116 [.agg (ePage .view p), .int .i64 i] (.agg (eRequest (slotReq p i))) := by
  obtain ⟨s, hg⟩ := at_some h0 h1
  have e : slotReq p i = slotReqOf p s := by simp [slotReq, hg]
  rw [e]
  obtain rfl : p.slots[i.toNat]'(by omega) = s := at_eq (by omega) hg
  have c2 := implKindOfMode_ok (p.slots[i.toNat]'(by omega)).mode
  have n0 : ¬ i < 0 := by omega
  have n1 : ¬ (p.slots.length : Int) ≤ i := by omega
  refine ent Tryz.mix Tryz.func116 Tryz.ntmps116 ?_
  have W := And.intro hg (And.intro h0 (And.intro h1 (And.intro n0 n1)))
  repeat' first|refine st ?_|(refine nx ?_;refine so ?_)|(refine cx ?_;refine sc (fun hc=>?_) (fun hc=>?_)<;>try exact hc.elim)|(refine lx ?_;refine sp (fun hc=>?_) (fun hc=>?_)<;>try exact hc.elim)|refine sx ?_ ?_|refine sy ?_ ?_|fail
  all_goals (try (refine ⟨.inr rfl, ?_⟩; simp [Hands, Tryz.results116, slotReqOf]))
theorem implModRequest_ok [Tabs Tryz.prog] (p : DPage) (i : Int) (h0 : 0 ≤ i) (h1 : i < p.mods.length) (hl : p.mods.length ≤ 1099511627776) : Ok Tryz.prog 132 [.agg (ePage .view p), .int .i64 i] (.agg (eRequest (modReq p i))) := by
  obtain ⟨s, hg⟩ := at_some h0 h1
  have e : modReq p i = modReqOf p s := by simp [modReq, hg]
  rw [e]
  obtain rfl : p.mods[i.toNat]'(by omega) = s := at_eq (by omega) hg
  have n0 : ¬ i < 0 := by omega
  have n1 : ¬ (p.mods.length : Int) ≤ i := by omega
  refine ent Tryz.mix Tryz.func132 Tryz.ntmps132 ?_
  have W := And.intro hg (And.intro h0 (And.intro h1 (And.intro n0 n1)))
  repeat' first|refine st ?_|(refine nx ?_;refine so ?_)|(refine cx ?_;refine sc (fun hc=>?_) (fun hc=>?_)<;>try exact hc.elim)|(refine lx ?_;refine sp (fun hc=>?_) (fun hc=>?_)<;>try exact hc.elim)|refine sx ?_ ?_|refine sy ?_ ?_|fail
  all_goals (try (refine ⟨.inr rfl, ?_⟩; simp [Hands, Tryz.results132, modReqOf]))
end Go.Proofs.YtonajehhfkkglabGreat
