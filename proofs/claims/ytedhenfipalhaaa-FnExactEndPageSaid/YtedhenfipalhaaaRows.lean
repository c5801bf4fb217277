/-
  No cell of these rows narrows 'for every input' (looked for: loops, veiled, ifaces, maps, wideKeys, modest, calm, conditions, laid).
  DERIVED. THE GIVEN ROWS OF THIS SEAT. 4 by the template 'for every input the law returns true; each argument reads behind the call as it read before'; 0 by the template 'total and deterministic' (their statements: YtedhenfipalhaaaTotals.lean).
  GIVEN WITH THE SEED: the statements are not yours to turn. If you find one false, say at which input.
  Laid BY PROGRAM, IN A SANDBOX (cutbox-rows.mjs): the forced cells as the released guide's own fill.sh prints them over the translation 2f0d7210776ad778… (all of the seat's roots in one cut). By AI agents, Wed Nov 11 2026. No macro, syntax, notation, axiom, sorry.
-/
import Derived.Test.YtedhenfipalhaaaChecked
import GoSem.Claim
import GoSem.ClaimJoined
import GoSem.ClaimMapViews
import Derived.JoinedTies
import Derived.KernelRfl
namespace Go.Proofs.Ytedhenfipalhaaa
/- THE CELL 'sum', in the pinned program and in every row, IS THE sha256 OF THE DUMP (.gsa) THAT YtedhenfipalhaaaProg.lean LOADS. Nothing in Lean hashes anything: it is a label: what it is worth is what the hold of that sum in a sandbox is worth. -/
noncomputable def Try.pinned : Pinned := { name := "ytedhenfipalhaaa", sum := "2f0d7210776ad77816b5a0f69b2a9dd9ce622dbbbf1ceedae1e75abc6eac208e", checked := Try.checked }
namespace Rows
def none {H : Type} : Left H := { results := [], args := [] }

/-- 'laws.FnExactEqualResults': WHATEVER THE INPUT: true; the input reads as it did. -/
def fnExactEqualResultsSpec : ChangeSpec := { name := "fnExactEqualResults", fn := fun _ => fun
  | [d1, d2] => { results := [.lit (.bool true)], args := [d1, d2] }
  | _ => none }
def fnExactEqualResultsRow : OpenClaim := { program := "ytedhenfipalhaaa", sum := "2f0d7210776ad77816b5a0f69b2a9dd9ce622dbbbf1ceedae1e75abc6eac208e", func := "loop.example/g00586/laws.FnExactEqualResults", spec := "fnExactEqualResults", unfollowed := true, recurses := true, apart := false }
def FnExactEqualResultsSaid : Prop := fnExactEqualResultsRow.holds Try.pinned (OpenSpec.ofChange fnExactEqualResultsSpec)

/-- ITS FALSE NEIGHBOUR: 'it returns false'. Refute it at one input. -/
def fnExactEqualResultsWrong : ChangeSpec := { name := "fnExactEqualResults", fn := fun _ => fun
  | [d1, d2] => { results := [.lit (.bool false)], args := [d1, d2] }
  | _ => none }
def FnExactEqualResultsWrongFalsely : Prop := fnExactEqualResultsRow.holds Try.pinned (OpenSpec.ofChange fnExactEqualResultsWrong)

/-- 'laws.FnExactVerdictsOf': WHATEVER THE INPUT: true; the input reads as it did. -/
def fnExactVerdictsOfSpec : ChangeSpec := { name := "fnExactVerdictsOf", fn := fun _ => fun
  | [d] => { results := [.lit (.bool true)], args := [d] }
  | _ => none }
def fnExactVerdictsOfRow : OpenClaim := { program := "ytedhenfipalhaaa", sum := "2f0d7210776ad77816b5a0f69b2a9dd9ce622dbbbf1ceedae1e75abc6eac208e", func := "loop.example/g00586/laws.FnExactVerdictsOf", spec := "fnExactVerdictsOf", apart := false }
def FnExactVerdictsOfSaid : Prop := fnExactVerdictsOfRow.holds Try.pinned (OpenSpec.ofChange fnExactVerdictsOfSpec)

/-- ITS FALSE NEIGHBOUR: 'it returns false'. Refute it at one input. -/
def fnExactVerdictsOfWrong : ChangeSpec := { name := "fnExactVerdictsOf", fn := fun _ => fun
  | [d] => { results := [.lit (.bool false)], args := [d] }
  | _ => none }
def FnExactVerdictsOfWrongFalsely : Prop := fnExactVerdictsOfRow.holds Try.pinned (OpenSpec.ofChange fnExactVerdictsOfWrong)

/-- 'laws.FnExactNextNeeds': WHATEVER THE INPUT: true; the input reads as it did. -/
def fnExactNextNeedsSpec : ChangeSpec := { name := "fnExactNextNeeds", fn := fun _ => fun
  | [d] => { results := [.lit (.bool true)], args := [d] }
  | _ => none }
def fnExactNextNeedsRow : OpenClaim := { program := "ytedhenfipalhaaa", sum := "2f0d7210776ad77816b5a0f69b2a9dd9ce622dbbbf1ceedae1e75abc6eac208e", func := "loop.example/g00586/laws.FnExactNextNeeds", spec := "fnExactNextNeeds", apart := false }
def FnExactNextNeedsSaid : Prop := fnExactNextNeedsRow.holds Try.pinned (OpenSpec.ofChange fnExactNextNeedsSpec)

/-- ITS FALSE NEIGHBOUR: 'it returns false'. Refute it at one input. -/
def fnExactNextNeedsWrong : ChangeSpec := { name := "fnExactNextNeeds", fn := fun _ => fun
  | [d] => { results := [.lit (.bool false)], args := [d] }
  | _ => none }
def FnExactNextNeedsWrongFalsely : Prop := fnExactNextNeedsRow.holds Try.pinned (OpenSpec.ofChange fnExactNextNeedsWrong)

/-- 'laws.FnExactEndPage': WHATEVER THE INPUT: true; the input reads as it did. -/
def fnExactEndPageSpec : ChangeSpec := { name := "fnExactEndPage", fn := fun _ => fun
  | [d] => { results := [.lit (.bool true)], args := [d] }
  | _ => none }
def fnExactEndPageRow : OpenClaim := { program := "ytedhenfipalhaaa", sum := "2f0d7210776ad77816b5a0f69b2a9dd9ce622dbbbf1ceedae1e75abc6eac208e", func := "loop.example/g00586/laws.FnExactEndPage", spec := "fnExactEndPage", apart := false }
def FnExactEndPageSaid : Prop := fnExactEndPageRow.holds Try.pinned (OpenSpec.ofChange fnExactEndPageSpec)

/-- ITS FALSE NEIGHBOUR: 'it returns false'. Refute it at one input. -/
def fnExactEndPageWrong : ChangeSpec := { name := "fnExactEndPage", fn := fun _ => fun
  | [d] => { results := [.lit (.bool false)], args := [d] }
  | _ => none }
def FnExactEndPageWrongFalsely : Prop := fnExactEndPageRow.holds Try.pinned (OpenSpec.ofChange fnExactEndPageWrong)

/- THE SECOND FORM. 'bulk': how many values and letters a reading holds, each counted each time it is reached (what is shared counts as often as it is met; a slice's spare places count too). A statement '..UptoSaid' is the law's where the arguments, and the package variables that the reading takes, are together of bulk at most 1048576: NARROWER than '..Said'. Prove '..Said' where nothing that the law and all that it calls make is longer than what came in: it says more and counts as full. Else prove '..UptoSaid'. A law counts once. -/
mutual
def uptoBulk {H : Type} : DataW H → Nat
  | .lit (.string bytes) => bytes.length + 1
  | .lit _ => 1
  | .nil => 1
  | .ptr d => uptoBulk d + 1
  | .slice elems spare => uptoBulkAll elems + uptoBulkAll spare + 1
  | .agg parts => uptoBulkAll parts + 1
  | .iface _ d => uptoBulk d + 1
  | .map entries => uptoBulkEntries entries + 1
  | .held _ => 1
def uptoBulkAll {H : Type} : List (DataW H) → Nat
  | [] => 0
  | d :: r => uptoBulk d + uptoBulkAll r
def uptoBulkEntries {H : Type} : List (Lit × DataW H) → Nat
  | [] => 0
  | x :: r => uptoBulkEntry x + uptoBulkEntries r
def uptoBulkEntry {H : Type} : Lit × DataW H → Nat
  | (.string bytes, d) => bytes.length + uptoBulk d + 1
  | (_, d) => uptoBulk d + 1
 end
def uptoSmall : (H : Type) → List (DataW H) → Bool := fun _ ds => decide (uptoBulkAll ds ≤ 1048576)
def OpenSpec.upto (s : _root_.Go.ChangeSpec) : _root_.Go.OpenSpec := { _root_.Go.OpenSpec.ofChange s with cond := some uptoSmall }

/-- 'laws.FnExactEqualResults', WHERE WHAT IT READS IS OF BULK AT MOST 1048576: true; the input reads as it did. -/
def fnExactEqualResultsUptoRow : OpenClaim := { program := "ytedhenfipalhaaa", sum := "2f0d7210776ad77816b5a0f69b2a9dd9ce622dbbbf1ceedae1e75abc6eac208e", func := "loop.example/g00586/laws.FnExactEqualResults", spec := "fnExactEqualResults", unfollowed := true, recurses := true, apart := false, narrowed := true }
def FnExactEqualResultsUptoSaid : Prop := fnExactEqualResultsUptoRow.holds Try.pinned (OpenSpec.upto fnExactEqualResultsSpec)

/-- 'laws.FnExactVerdictsOf', WHERE WHAT IT READS IS OF BULK AT MOST 1048576: true; the input reads as it did. -/
def fnExactVerdictsOfUptoRow : OpenClaim := { program := "ytedhenfipalhaaa", sum := "2f0d7210776ad77816b5a0f69b2a9dd9ce622dbbbf1ceedae1e75abc6eac208e", func := "loop.example/g00586/laws.FnExactVerdictsOf", spec := "fnExactVerdictsOf", apart := false, narrowed := true }
def FnExactVerdictsOfUptoSaid : Prop := fnExactVerdictsOfUptoRow.holds Try.pinned (OpenSpec.upto fnExactVerdictsOfSpec)

/-- 'laws.FnExactNextNeeds', WHERE WHAT IT READS IS OF BULK AT MOST 1048576: true; the input reads as it did. -/
def fnExactNextNeedsUptoRow : OpenClaim := { program := "ytedhenfipalhaaa", sum := "2f0d7210776ad77816b5a0f69b2a9dd9ce622dbbbf1ceedae1e75abc6eac208e", func := "loop.example/g00586/laws.FnExactNextNeeds", spec := "fnExactNextNeeds", apart := false, narrowed := true }
def FnExactNextNeedsUptoSaid : Prop := fnExactNextNeedsUptoRow.holds Try.pinned (OpenSpec.upto fnExactNextNeedsSpec)

/-- 'laws.FnExactEndPage', WHERE WHAT IT READS IS OF BULK AT MOST 1048576: true; the input reads as it did. -/
def fnExactEndPageUptoRow : OpenClaim := { program := "ytedhenfipalhaaa", sum := "2f0d7210776ad77816b5a0f69b2a9dd9ce622dbbbf1ceedae1e75abc6eac208e", func := "loop.example/g00586/laws.FnExactEndPage", spec := "fnExactEndPage", apart := false, narrowed := true }
def FnExactEndPageUptoSaid : Prop := fnExactEndPageUptoRow.holds Try.pinned (OpenSpec.upto fnExactEndPageSpec)

end Rows
end Go.Proofs.Ytedhenfipalhaaa
