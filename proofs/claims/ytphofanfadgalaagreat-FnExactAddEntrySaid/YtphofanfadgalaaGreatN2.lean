/-
  Proved here: steps towards the statement of this claim, text N2.
  No condition beyond what each statement spells out.
-/
import Derived.Test.YtphofanfadgalaaGreatN1
import Derived.Test.YtphofanfadgalaaGreatR3
set_option linter.all false
set_option linter.unusedSimpArgs false
set_option linter.unusedVariables false
set_option maxRecDepth 4000
set_option maxHeartbeats 400000
namespace Go.Proofs.YtphofanfadgalaaGreat
open Go.Aw
theorem places_mem {α : Type} (f : α → Bool) : ∀ (l : List α) (j : Nat) (i : Int), i ∈ places f j l → (j : Int) ≤ i ∧ i < j + l.length
  | [], j, i, h => by simp [places] at h
  | x :: xs, j, i, h => by
    simp only [places] at h
    have ih := places_mem f xs (j + 1) i
    simp only [List.length_cons]
    split at h
    · rcases List.mem_cons.1 h with rfl | h
      · omega
      · have := ih h; omega
    · have := ih h; omega
def kindOfMode (m : Int) : Int := if m = 1 then 4 else if m = 2 then 3 else if m = 3 then 2 else if m = 4 then 2 else 0
def noReq : DRequest := ⟨0, ⟨[], []⟩, [], []⟩
def slotReqOf (p : DPage) (s : DSlot) : DRequest := ⟨kindOfMode s.mode, s.to, p.addr.host, s.digest⟩
def modReqOf (p : DPage) (m : DModule) : DRequest := ⟨5, m.to, p.addr.host, []⟩
def slotReq (p : DPage) (i : Int) : DRequest := match p.slots[i.toNat]? with
  | some s => slotReqOf p s
  | none => noReq
def modReq (p : DPage) (i : Int) : DRequest := match p.mods[i.toNat]? with
  | some s => modReqOf p s
  | none => noReq
theorem at_some {α : Type} {l : List α} {i : Int} (h0 : 0 ≤ i) (h1 : i < l.length) : ∃ s, l[i.toNat]? = some s := ⟨l[i.toNat]'(by omega), List.getElem?_eq_getElem _⟩
theorem at_eq {α : Type} {l : List α} {k : Nat} {s : α} (h : k < l.length) (hg : l[k]? = some s) : l[k] = s := by
  rw [List.getElem?_eq_getElem h] at hg
  exact Option.some.inj hg
theorem implModRequest_ok [Tabs Tryz.prog] (p : DPage) (i : Int) (h0 : 0 ≤ i) (h1 : i < p.mods.length) (hl : p.mods.length ≤ 1099511627776) : Ok Tryz.prog 39 [.agg (ePage .view p), .int .i64 i] (.agg (eRequest (modReq p i))) := by
  obtain ⟨s, hg⟩ := at_some h0 h1
  have e : modReq p i = modReqOf p s := by simp [modReq, hg]
  rw [e]
  obtain rfl : p.mods[i.toNat]'(by omega) = s := at_eq (by omega) hg
  have n0 : ¬ i < 0 := by omega
  have n1 : ¬ (p.mods.length : Int) ≤ i := by omega
  refine ent Tryz.mix Tryz.func39 Tryz.ntmps39 ?_
  have W := And.intro hg (And.intro h0 (And.intro h1 (And.intro n0 n1)))
  repeat' first|refine st ?_|(refine nx ?_;refine so ?_)|(refine cx ?_;refine sc (fun hc=>?_) (fun hc=>?_)<;>try exact hc.elim)|(refine lx ?_;refine sp (fun hc=>?_) (fun hc=>?_)<;>try exact hc.elim)|refine sx ?_ ?_|refine sy ?_ ?_|fail
  all_goals (try (refine ⟨.inr rfl, ?_⟩; simp [Hands, Tryz.results39, modReqOf]))
end Go.Proofs.YtphofanfadgalaaGreat
