/-
  Proved here: steps towards the statement of this claim, text Q2.
  No condition beyond what each statement spells out.
-/
import Derived.Test.YtonajehhfkkglabGreatQ1
import Derived.Test.YtonajehhfkkglabGreatU3
import Derived.Test.YtonajehhfkkglabGreatF6
set_option linter.all false
set_option maxRecDepth 4000
set_option maxHeartbeats 4000000
namespace Go.Proofs.YtonajehhfkkglabGreat
open Go.Aw
theorem eAddr_inj {a b : DAddr} : eAddr a = eAddr b ↔ a = b := by
  obtain ⟨a1, a2⟩ := a
  obtain ⟨b1, b2⟩ := b
  simp
theorem eqAddrA (a b : DAddr) : EqA Tryz.prog 40 (eAddr a) (eAddr b) (decide (a = b)) :=
  eqA_of (f := 6) (ss := [.str, .str]) (by decide) (by kernel_rfl) (by kernel_rfl) (by kernel_rfl) (by kernel_rfl) (by simp [LikeC, Like]) (by simp [LikeC, Like]) (by rw [eAddr_inj, decide_eq_true_iff])
def modIs (a : DAddr) (m : DModule) : Bool := decide (m.to = a)
def slotIs (a : DAddr) (m : DSlot) : Bool := decide (m.to = a)
def isAsked (p : DPage) (a : DAddr) : Bool := p.mods.any (modIs a) || p.slots.any (slotIs a)
def addrIs (a x : DAddr) : Bool := decide (x = a)
theorem anyA_at {l : List DAddr} {k : Nat} (h : k < l.length) {n : DAddr} (hc : l[k] = n) : l.any (addrIs n) = true :=
  List.any_eq_true.2 ⟨_, List.getElem_mem h, by simp [addrIs, hc]⟩
end Go.Proofs.YtonajehhfkkglabGreat
