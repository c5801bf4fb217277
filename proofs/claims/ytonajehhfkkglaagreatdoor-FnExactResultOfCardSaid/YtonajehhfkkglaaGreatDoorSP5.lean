/-
  Proved here: steps towards the statement of this claim, text SP5.
  No condition beyond what each statement spells out.
-/
import Derived.Test.YtonajehhfkkglaaGreatDoorP1
import Derived.Test.YtonajehhfkkglaaGreatDoorF5
import Derived.Test.YtonajehhfkkglaaGreatDoorR3
import Derived.Test.YtonajehhfkkglaaGreatDoorF3
import Derived.Test.YtonajehhfkkglaaGreatDoorF6
set_option linter.all false
set_option maxRecDepth 4000
set_option maxHeartbeats 4000000
namespace Go.Proofs.YtonajehhfkkglaaGreatDoor
open Go.Aw
def pfx (p s : Str) : Bool := decide (p.length ≤ s.length) && (s.take p.length == p)
theorem pfx_le {p s : Str} (h : pfx p s = true) : p.length ≤ s.length := by
  simp only [pfx, Bool.and_eq_true, decide_eq_true_eq] at h
  exact h.1
end Go.Proofs.YtonajehhfkkglaaGreatDoor

set_option maxRecDepth 4000
set_option maxHeartbeats 4000000
namespace Go.Proofs.YtonajehhfkkglaaGreatDoor
open Go.Aw
def valueB (c : UInt8) : Bool := (decide (97 ≤ c.toNat) && decide (c.toNat ≤ 122)) || (decide (48 ≤ c.toNat) && decide (c.toNat ≤ 57)) || decide (c.toNat = 47)
def isValue (s : Str) : Bool := s.all valueB && (decide (1 ≤ s.length) && decide (s.length ≤ 20))
theorem value_no {s : Str} {k : Nat} (h : k < s.length) (hc : valueB s[k] = false) : isValue s = false := by
  have : s.all valueB = false := by
    rw [List.all_eq_false]
    exact ⟨s[k], List.getElem_mem h, by simp [hc]⟩
  simp [isValue, this]
theorem value_end {s : Str} (h : ∀ x ∈ s, valueB x = true) : isValue s = (decide ((1 : Int) ≤ s.length) && decide ((s.length : Int) ≤ 20)) := by
  have : s.all valueB = true := List.all_eq_true.2 h
  have h1 : decide ((1 : Int) ≤ s.length) = decide (1 ≤ s.length) := by simp only [decide_eq_decide]; omega
  have h2 : decide ((s.length : Int) ≤ 20) = decide (s.length ≤ 20) := by simp only [decide_eq_decide]; omega
  rw [isValue, this, h1, h2, Bool.true_and]
def isRequest (r : DRequest) : Bool := (decide (1 ≤ r.kind) && decide (r.kind ≤ 5)) && isAddr r.to && isName r.frm && (r.digest == [] || isValue r.digest)
def canGuess (r : DRequest) : Bool := isRequest r && decide (r.kind ≠ 1) && (r.to.host == r.frm)
def allows (p : DPolicy) (kind : Int) (host : Str) : Bool :=
  if p.isSet = false then true else if kind = 2 ∨ kind = 5 then p.scripts.any (fun x => x == host) else if kind = 3 then p.styles.any (fun x => x == host) else if kind = 4 then p.images.any (fun x => x == host) else false
theorem any_at {l : List Str} {k : Nat} (h : k < l.length) {n : Str} (hc : l[k] = n) : l.any (fun x => x == n) = true :=
  List.any_eq_true.2 ⟨_, List.getElem_mem h, by simp [hc]⟩
theorem any_none {l : List Str} {n : Str} (h : ∀ x ∈ l, (x == n) = false) : l.any (fun x => x == n) = false := by
  rw [List.any_eq_false]; intro x hx; simp [h x hx]
def checkRequest (p : DPolicy) (r : DRequest) : Int := if isRequest r = false ∨ (r.kind ≠ 1 ∧ allows p r.kind r.to.host = false) then 2 else 1
end Go.Proofs.YtonajehhfkkglaaGreatDoor

set_option maxRecDepth 4000
set_option maxHeartbeats 4000000
namespace Go.Proofs.YtonajehhfkkglaaGreatDoor
open Go.Aw
theorem splitS_ok [Tabs Tryz.prog] [HasMax Tryz.prog] (s : Str) (c : UInt8) (hs : s.length < 4294967281) : Ok Tryz.prog 111 [.str s, .str [c]] (.sl .own 1 ((segs c s).map eStr)) := ok_split Tryz.laysM146 (by kernel_rfl) s c hs
def noTok : DToken := ⟨0, [], [], []⟩
def wKey (w : Str) : Str := w.take (ixB 61 w)
def wVal (w : Str) : Str := w.drop (ixB 61 w + 1)
def addAttrs : List Str → List DAttr → Option (List DAttr)
  | [], acc => some acc
  | w :: ws, acc => if (decide (ixB 61 w < w.length) && isName (wKey w) && isValue (wVal w) && !(findAttr acc (wKey w)).2) = true then addAttrs ws (acc ++ [⟨wKey w, wVal w⟩]) else none
def tagAt (w0 : Str) (ws : List Str) : DToken × Bool :=
  if isName w0 = true ∧ ws.length ≤ 4 then (match addAttrs ws [] with
    | some l => (⟨1, w0, l, []⟩, true)
    | none => (noTok, false)) else (noTok, false)
def tagOf (s : Str) : DToken × Bool :=
  if 60 < s.length then (noTok, false)
  else if pfx [47] s = true then (if isName (s.drop 1) = true then (⟨2, s.drop 1, [], []⟩, true) else (noTok, false))
  else tagAt (s.take (ixB 32 s)) (if ixB 32 s < s.length then segs 32 (s.drop (ixB 32 s + 1)) else [])
theorem segs_first1 (c : UInt8) (s : Str) : segs c s = s.take (ixB c s) :: (if ixB c s < s.length then segs c (s.drop (ixB c s + 1)) else []) := by
  rw [segs_step]
  have h := ixB_le c s
  split
  · rfl
  · rw [List.take_of_length_le (by omega)]
theorem tagAt_no {w0 : Str} {ws : List Str} (h : ¬ (isName w0 = true ∧ ws.length ≤ 4)) : tagAt w0 ws = (noTok, false) := by unfold tagAt; rw [if_neg h]
theorem tagAt_none {w0 : Str} {ws : List Str} (h : addAttrs ws [] = none) : tagAt w0 ws = (noTok, false) := by
  unfold tagAt; rw [h]; split <;> rfl
theorem tagAt_some {w0 : Str} {ws : List Str} {l : List DAttr} (h1 : isName w0 = true) (h2 : ws.length ≤ 4) (h : addAttrs ws [] = some l) : tagAt w0 ws = (⟨1, w0, l, []⟩, true) := by
  unfold tagAt; rw [h, if_pos ⟨h1, h2⟩]
theorem addAttrs_len : ∀ (ws : List Str) (acc l : List DAttr), addAttrs ws acc = some l → l.length = acc.length + ws.length
  | [], acc, l, h => by simp only [addAttrs, Option.some.injEq] at h; subst h; simp
  | w :: ws, acc, l, h => by
    simp only [addAttrs] at h
    split at h
    · have := addAttrs_len ws _ l h
      simp at this ⊢; omega
    · cases h
theorem addAttrs_sz : ∀ (ws : List Str) (acc l : List DAttr), addAttrs ws acc = some l → szL szAttr l ≤ szL szAttr acc + sumN szStr ws
  | [], acc, l, h => by simp only [addAttrs, Option.some.injEq] at h; subst h; simp [sumN]
  | w :: ws, acc, l, h => by
    simp only [addAttrs] at h
    split at h
    · rename_i hc
      simp only [Bool.and_eq_true, decide_eq_true_eq] at hc
      have := addAttrs_sz ws _ l h
      have hj : ∀ a b : List DAttr, sumN szAttr (a ++ b) = sumN szAttr a + sumN szAttr b := by
        intro a b
        induction a with
        | nil => simp [sumN]
        | cons x xs ih => simp only [List.cons_append, sumN, ih]; omega
      simp only [szL, hj, sumN, szAttr, wKey, wVal, List.length_append, List.length_take, List.length_drop, List.length_cons, List.length_nil, szStr] at this ⊢
      omega
    · cases h
theorem segs_sumS (c : UInt8) : ∀ s : Str, sumN szStr (segs c s) ≤ s.length
  | [] => by simp [segs, sumN, szStr]
  | x :: s => by
    have ih := segs_sumS c s
    simp only [segs]
    split
    · simp only [sumN, szStr, List.length_nil, List.length_cons] at ih ⊢; omega
    · split
      · rename_i h0; exact absurd h0 (segs_ne c s)
      · rename_i p q h0
        rw [h0] at ih
        simp only [sumN, szStr, List.length_cons] at ih ⊢; omega
theorem tagOf_sz (s : Str) : szToken (tagOf s).1 ≤ s.length := by
  have hn : szToken noTok = 0 := by simp [noTok, szToken, szL, sumN]
  unfold tagOf
  split
  · simp only [hn]; omega
  · split
    · split
      · simp [szToken, szL, sumN]
      · simp only [hn]; omega
    · have hs := segs_sumS 32 s
      rw [segs_first1] at hs
      simp only [sumN, szStr] at hs
      generalize (if ixB 32 s < s.length then segs 32 (s.drop (ixB 32 s + 1)) else []) = ws at *
      unfold tagAt
      split
      · split
        · rename_i l hl
          have := addAttrs_sz ws [] l hl
          simp only [szToken, szL, sumN, List.length_nil] at this ⊢
          omega
        · simp only [hn]; omega
      · simp only [hn]; omega
end Go.Proofs.YtonajehhfkkglaaGreatDoor
