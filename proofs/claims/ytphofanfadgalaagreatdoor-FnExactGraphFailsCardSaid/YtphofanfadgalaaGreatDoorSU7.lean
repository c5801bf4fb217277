/-
  Proved here: steps towards the statement of this claim, text SU7.
  No condition beyond what each statement spells out.
-/
import Derived.Test.YtphofanfadgalaaGreatDoorU3
import Derived.Test.YtphofanfadgalaaGreatDoorR3
import Derived.Test.YtphofanfadgalaaGreatDoorQ2
import Derived.Test.YtphofanfadgalaaGreatDoorF6
set_option linter.all false
set_option linter.unusedSimpArgs false
set_option linter.unusedVariables false
set_option maxRecDepth 4000
set_option maxHeartbeats 4000000
namespace Go.Proofs.YtphofanfadgalaaGreatDoor
open Go.Aw
end Go.Proofs.YtphofanfadgalaaGreatDoor

set_option linter.unusedSimpArgs false
set_option linter.unusedVariables false
set_option maxRecDepth 4000
set_option maxHeartbeats 4000000
namespace Go.Proofs.YtphofanfadgalaaGreatDoor
open Go.Aw
end Go.Proofs.YtphofanfadgalaaGreatDoor

set_option linter.unusedSimpArgs false
set_option linter.unusedVariables false
set_option maxRecDepth 4000
set_option maxHeartbeats 4000000
namespace Go.Proofs.YtphofanfadgalaaGreatDoor
open Go.Aw
def notFound : DResponse := ⟨404, 1, [], 0, false, []⟩
def entIs (top : Str) (a : DAddr) (now : Int) (e : DEntry) : Bool := (e.top == top && decide (e.to = a)) && decide (now ≤ e.til)
def srvIs (h : Str) (s : DServer) : Bool := s.host == h
def filIs (h : Str) (s : DFile) : Bool := s.path == h
def lookUp (c : DCache) (top : Str) (a : DAddr) (now : Int) : DResponse × Bool :=
  match c.entries.find? (entIs top a now) with
  | some e => (e.response, true)
  | none => (notFound, false)
def answerTo (l : List DServer) (a : DAddr) : DResponse :=
  match l.find? (srvIs a.host) with
  | some s => match s.files.find? (filIs a.path) with
    | some f => f.response
    | none => notFound
  | none => notFound
theorem find_at {α : Type} {f : α → Bool} {l : List α} {k : Nat} (h : k < l.length) (hf : f l[k] = true) (hn : ∀ x ∈ l.take k, f x = false) : l.find? f = some l[k] := by
  have e : l = l.take k ++ l[k] :: l.drop (k + 1) := by simp
  have h5 := congrArg (List.find? f) e
  rw [h5, List.find?_append]
  have : (l.take k).find? f = none := List.find?_eq_none.2 fun x hx => by simp [hn x hx]
  rw [this]
  simp only [Option.none_or, List.find?_cons, hf]
theorem find_no {α : Type} {f : α → Bool} {l : List α} (hn : ∀ x ∈ l, f x = false) : l.find? f = none := List.find?_eq_none.2 fun x hx => by simp [hn x hx]
theorem first_at {α : Type} {f : α → Bool} : ∀ l : List α, ¬ (∀ x ∈ l, f x = false) → ∃ k, ∃ hk : k < l.length, f l[k] = true ∧ ∀ x ∈ l.take k, f x = false
  | [], h => absurd (fun x hx => by cases hx) h
  | x :: l, h => by
    cases hx : f x with
    | true => exact ⟨0, by simp, by simpa using hx, by simp⟩
    | false =>
      obtain ⟨k, hk, h1, h2⟩ := first_at l (fun hl => h (fun y hy => by
        rcases List.mem_cons.1 hy with rfl | hy
        · exact hx
        · exact hl y hy))
      refine ⟨k + 1, by simpa using hk, by simpa using h1, fun y hy => ?_⟩
      simp only [List.take_succ_cons, List.mem_cons] at hy
      rcases hy with rfl | hy
      · exact hx
      · exact h2 y hy
/-- The first place, or -1. -/
theorem idx_find {α : Type} (f : α → Bool) (l : List α) : (idxI f l = -1 ∧ l.find? f = none) ∨ ∃ k, ∃ h : k < l.length, idxI f l = (k : Int) ∧ l.find? f = some l[k] := by
  by_cases h : ∀ x ∈ l, f x = false
  · exact .inl ⟨idxI_none h, find_no h⟩
  · right
    obtain ⟨k, hk, h1, h2⟩ := first_at l h
    exact ⟨k, hk, idxI_at hk h1 h2, find_at hk h1 h2⟩
end Go.Proofs.YtphofanfadgalaaGreatDoor
