/-
  Proved here: steps towards the statement of this claim, text TK1.
  No condition beyond what each statement spells out.
-/
import Derived.Test.YtonajehhfkkglabGreatY2
import Derived.Test.YtonajehhfkkglabGreatSR5
import Derived.Test.YtonajehhfkkglabGreatF8
set_option linter.all false
set_option maxRecDepth 4000
set_option maxHeartbeats 4000000
namespace Go.Proofs.YtonajehhfkkglabGreat
open Go.Aw
def isVoidN (n : Str) : Bool := decide (n = [105, 109, 103]) || decide (n = [108, 105, 110, 107])
def hitsOpen (b : DBuilder) (m : Str) (n : Int) : Bool := decide (0 ≤ n) && (b.nodes[n.toNat]?).any fun x => decide (x.name = m)
def closeTo (b : DBuilder) (m : Str) : Nat → List Int
  | 0 => b.opens
  | i + 1 => if (b.opens[i + 1]?).any (hitsOpen b m) then b.opens.take (i + 1) else closeTo b m i
def opensTag (t : DToken) : Bool := decide (t.kind = 1) && !isVoidN t.name
def newNode (b : DBuilder) (t : DToken) : DNode := if t.kind = 1 then ⟨t.name, [], b.opens.getLastD 0, t.attrs⟩ else ⟨[], t.text, b.opens.getLastD 0, []⟩
def addToken (b : DBuilder) (t : DToken) : DBuilder × Int :=
  if t.kind = 2 then ({ b with opens := closeTo b t.name (b.opens.length - 1) }, -1)
  else if ¬ (t.kind = 1 ∨ (t.kind = 3 ∧ t.text ≠ [])) then (b, -1)
  else if 40 ≤ b.nodes.length ∨ b.opens = [] ∨ (opensTag t = true ∧ 8 ≤ b.opens.length) then (b, -1)
  else ({ nodes := b.nodes ++ [newNode b t], opens := if opensTag t = true then b.opens ++ [((b.nodes.length : Nat) : Int)] else b.opens }, ((b.nodes.length : Nat) : Int))
theorem closeTo_mem (b : DBuilder) (m : Str) : ∀ k, (closeTo b m k).length ≤ b.opens.length
  | 0 => Nat.le_refl _
  | k + 1 => by
    unfold closeTo
    split
    · simp; omega
    · exact closeTo_mem b m k
theorem implIsVoid_ok [Tabs Tryz.prog] (n : Str) : Ok Tryz.prog 84 [.str n] (.bool (isVoidN n)) := by
  unfold isVoidN
  refine ent Tryz.mix Tryz.func84 Tryz.ntmps84 ?_
  have W := trivial
  repeat' first|refine st ?_|(refine nx ?_;first|refine se ?_|refine so ?_)|(refine cx ?_;refine sc (fun hc=>?_) (fun hc=>?_)<;>try exact hc.elim)|(refine lx ?_;refine sp (fun hc=>?_) (fun hc=>?_)<;>try exact hc.elim)|refine sx ?_ ?_|refine sy ?_ ?_|fail
  all_goals (try (refine ⟨.inr rfl, ?_⟩; simp [Hands, Tryz.results84]))
  all_goals first|(simp [hc]; done)|(rw [Bool.eq_iff_iff]; simp [hc])
theorem specIsVoid_ok [Tabs Tryz.prog] (n : Str) : Ok Tryz.prog 70 [.str n] (.bool (isVoidN n)) := by
  unfold isVoidN
  refine ent Tryz.mix Tryz.func70 Tryz.ntmps70 ?_
  have W := trivial
  repeat' first|refine st ?_|(refine nx ?_;first|refine se ?_|refine so ?_)|(refine cx ?_;refine sc (fun hc=>?_) (fun hc=>?_)<;>try exact hc.elim)|(refine lx ?_;refine sp (fun hc=>?_) (fun hc=>?_)<;>try exact hc.elim)|refine sx ?_ ?_|refine sy ?_ ?_|fail
  all_goals (try (refine ⟨.inr rfl, ?_⟩; simp [Hands, Tryz.results70]))
  all_goals first|(simp [hc]; done)|(rw [Bool.eq_iff_iff]; simp [hc])
theorem hits_out {b : DBuilder} {m : Str} {n : Int} (h : ¬ (0 ≤ n ∧ n < (b.nodes.length : Int))) : hitsOpen b m n = false := by
  unfold hitsOpen
  by_cases h0 : 0 ≤ n
  · rw [List.getElem?_eq_none (by omega)]; simp
  · simp [h0]
theorem hits_in {b : DBuilder} {m : Str} {k : Nat} (h : k < b.nodes.length) : hitsOpen b m ((k : Nat) : Int) = decide (b.nodes[k].name = m) := by
  unfold hitsOpen
  simp [List.getElem?_eq_getElem h]
end Go.Proofs.YtonajehhfkkglabGreat
