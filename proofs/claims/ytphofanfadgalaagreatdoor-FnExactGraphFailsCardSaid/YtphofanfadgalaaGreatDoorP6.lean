/-
  Proved here: steps towards the statement of this claim, text P6.
  No condition beyond what each statement spells out.
-/
import Derived.Test.YtphofanfadgalaaGreatDoorP5
import Derived.Test.YtphofanfadgalaaGreatDoorP4
set_option linter.all false
set_option linter.unusedSimpArgs false
set_option linter.unusedVariables false
set_option maxRecDepth 4000
set_option maxHeartbeats 4000000
namespace Go.Proofs.YtphofanfadgalaaGreatDoor
open Go.Aw

def impW : Str := [105, 109, 112, 111, 114, 116, 32]
def impsOf (base : Str) : List Str → Option (List DAddr × List Str)
  | [] => some ([], [])
  | p :: ps => if pfx impW p = true then (if (parseAddr (p.drop 7) base).2 = true then (impsOf base ps).map (fun q => ((parseAddr (p.drop 7) base).1 :: q.1, q.2)) else none) else some ([], p :: ps)
def parseModule (body base : Str) : List DAddr × List DLine × Bool :=
  match impsOf base (segs 59 body) with
  | none => ([], [], false)
  | some (l, r) => if (scriptOf (Lib.join r [59])).2 = true then (l, (scriptOf (Lib.join r [59])).1, true) else ([], [], false)
/-- What is still to be read, behind the addresses read. -/
def goesOn (base : Str) (l : List Str) (acc : List DAddr) (r : List Str) : Prop := impsOf base l = (impsOf base r).map fun q => (acc ++ q.1, q.2)
theorem goesOn_start (base : Str) (l : List Str) : goesOn base l [] l := by
  unfold goesOn
  cases impsOf base l <;> simp
theorem goesOn_bad {base : Str} {l : List Str} {acc : List DAddr} {p : Str} {ps : List Str} (h : goesOn base l acc (p :: ps)) (h1 : pfx impW p = true) (h2 : (parseAddr (p.drop 7) base).2 = false) : impsOf base l = none := by
  unfold goesOn at h
  rw [h]
  simp [impsOf, h1, h2]
theorem goesOn_next {base : Str} {l : List Str} {acc : List DAddr} {p : Str} {ps : List Str} (h : goesOn base l acc (p :: ps)) (h1 : pfx impW p = true) (h2 : (parseAddr (p.drop 7) base).2 = true) : goesOn base l (acc ++ [(parseAddr (p.drop 7) base).1]) ps := by
  unfold goesOn at h ⊢
  rw [h]
  simp only [impsOf, h1, h2, if_true]
  cases impsOf base ps <;> simp
theorem goesOn_end {base : Str} {l : List Str} {acc : List DAddr} (h : goesOn base l acc []) : impsOf base l = some (acc, []) := by
  unfold goesOn at h
  rw [h]
  simp [impsOf]
theorem goesOn_stop {base : Str} {l : List Str} {acc : List DAddr} {p : Str} {ps : List Str} (h : goesOn base l acc (p :: ps)) (h1 : pfx impW p = false) : impsOf base l = some (acc, p :: ps) := by
  unfold goesOn at h
  rw [h]
  simp [impsOf, h1]
theorem join_segs (c : UInt8) : ∀ s : Str, Lib.join (segs c s) [c] = s
  | [] => by simp [segs, Lib.join_one]
  | x :: s => by
    have ih := join_segs c s
    simp only [segs]
    split
    · rename_i h
      subst h
      cases hs : segs x s with
      | nil => exact absurd hs (segs_ne x s)
      | cons p r =>
        rw [hs] at ih
        simp only [Lib.join, List.intercalate] at ih ⊢
        simp only [List.intersperse, List.flatten_cons, List.nil_append, List.singleton_append] at ih ⊢
        rw [ih]
    · split
      · rename_i h0; exact absurd h0 (segs_ne c s)
      · rename_i p r h0
        rw [h0] at ih
        simp only [Lib.join, List.intercalate] at ih ⊢
        cases r with
        | nil => simp only [List.intersperse, List.flatten_cons, List.flatten_nil, List.append_nil] at ih ⊢; rw [ih]
        | cons q r => simp only [List.intersperse, List.flatten_cons, List.cons_append] at ih ⊢; rw [ih]
end Go.Proofs.YtphofanfadgalaaGreatDoor
