/-
  No cell of these rows narrows 'for every input' (looked for: loops, veiled, ifaces, maps, wideKeys, modest, calm, conditions, laid).
  DERIVED. THE GIVEN ROWS OF THIS SEAT. 6 by the template 'for every input the law returns true; each argument reads behind the call as it read before'; 0 by the template 'total and deterministic' (their statements: YteippmgfogebgaaTotals.lean).
  GIVEN WITH THE SEED: the statements are not yours to turn. If you find one false, say at which input.
  Laid BY PROGRAM, IN A SANDBOX (cutbox-rows.mjs): the forced cells as the released guide's own fill.sh prints them over the translation 759af906ad527548… (all of the seat's roots in one cut). By AI agents, Wed Nov 11 2026. No macro, syntax, notation, axiom, sorry.
-/
import Derived.Test.YteippmgfogebgaaChecked
import GoSem.Claim
import GoSem.ClaimJoined
import GoSem.ClaimMapViews
import Derived.JoinedTies
import Derived.KernelRfl
namespace Go.Proofs.Yteippmgfogebgaa
/- THE CELL 'sum', in the pinned program and in every row, IS THE sha256 OF THE DUMP (.gsa) THAT YteippmgfogebgaaProg.lean LOADS. Nothing in Lean hashes anything: it is a label: what it is worth is what the hold of that sum in a sandbox is worth. -/
noncomputable def Try.pinned : Pinned := { name := "yteippmgfogebgaa", sum := "759af906ad5275480f7dcbd1a9aef7b5cd9bc910dfeee9beef81d13026691290", checked := Try.checked }
namespace Rows
def none {H : Type} : Left H := { results := [], args := [] }

/-- 'laws.FnExactUnusedGuesses': WHATEVER THE INPUT: true; the input reads as it did. -/
def fnExactUnusedGuessesSpec : ChangeSpec := { name := "fnExactUnusedGuesses", fn := fun _ => fun
  | [d] => { results := [.lit (.bool true)], args := [d] }
  | _ => none }
def fnExactUnusedGuessesRow : OpenClaim := { program := "yteippmgfogebgaa", sum := "759af906ad5275480f7dcbd1a9aef7b5cd9bc910dfeee9beef81d13026691290", func := "loop.example/g00586/laws.FnExactUnusedGuesses", spec := "fnExactUnusedGuesses", apart := false }
def FnExactUnusedGuessesSaid : Prop := fnExactUnusedGuessesRow.holds Try.pinned (OpenSpec.ofChange fnExactUnusedGuessesSpec)

/-- ITS FALSE NEIGHBOUR: 'it returns false'. Refute it at one input. -/
def fnExactUnusedGuessesWrong : ChangeSpec := { name := "fnExactUnusedGuesses", fn := fun _ => fun
  | [d] => { results := [.lit (.bool false)], args := [d] }
  | _ => none }
def FnExactUnusedGuessesWrongFalsely : Prop := fnExactUnusedGuessesRow.holds Try.pinned (OpenSpec.ofChange fnExactUnusedGuessesWrong)

/-- 'laws.FnExactFindGuess': WHATEVER THE INPUT: true; the input reads as it did. -/
def fnExactFindGuessSpec : ChangeSpec := { name := "fnExactFindGuess", fn := fun _ => fun
  | [d1, d2] => { results := [.lit (.bool true)], args := [d1, d2] }
  | _ => none }
def fnExactFindGuessRow : OpenClaim := { program := "yteippmgfogebgaa", sum := "759af906ad5275480f7dcbd1a9aef7b5cd9bc910dfeee9beef81d13026691290", func := "loop.example/g00586/laws.FnExactFindGuess", spec := "fnExactFindGuess", unfollowed := true, recurses := true, apart := false }
def FnExactFindGuessSaid : Prop := fnExactFindGuessRow.holds Try.pinned (OpenSpec.ofChange fnExactFindGuessSpec)

/-- ITS FALSE NEIGHBOUR: 'it returns false'. Refute it at one input. -/
def fnExactFindGuessWrong : ChangeSpec := { name := "fnExactFindGuess", fn := fun _ => fun
  | [d1, d2] => { results := [.lit (.bool false)], args := [d1, d2] }
  | _ => none }
def FnExactFindGuessWrongFalsely : Prop := fnExactFindGuessRow.holds Try.pinned (OpenSpec.ofChange fnExactFindGuessWrong)

/-- 'laws.FnExactWasteOf': WHATEVER THE INPUT: true; the input reads as it did. -/
def fnExactWasteOfSpec : ChangeSpec := { name := "fnExactWasteOf", fn := fun _ => fun
  | [d] => { results := [.lit (.bool true)], args := [d] }
  | _ => none }
def fnExactWasteOfRow : OpenClaim := { program := "yteippmgfogebgaa", sum := "759af906ad5275480f7dcbd1a9aef7b5cd9bc910dfeee9beef81d13026691290", func := "loop.example/g00586/laws.FnExactWasteOf", spec := "fnExactWasteOf", apart := false }
def FnExactWasteOfSaid : Prop := fnExactWasteOfRow.holds Try.pinned (OpenSpec.ofChange fnExactWasteOfSpec)

/-- ITS FALSE NEIGHBOUR: 'it returns false'. Refute it at one input. -/
def fnExactWasteOfWrong : ChangeSpec := { name := "fnExactWasteOf", fn := fun _ => fun
  | [d] => { results := [.lit (.bool false)], args := [d] }
  | _ => none }
def FnExactWasteOfWrongFalsely : Prop := fnExactWasteOfRow.holds Try.pinned (OpenSpec.ofChange fnExactWasteOfWrong)

/-- 'laws.FnExactEqualGuesses': WHATEVER THE INPUT: true; the input reads as it did. -/
def fnExactEqualGuessesSpec : ChangeSpec := { name := "fnExactEqualGuesses", fn := fun _ => fun
  | [d1, d2] => { results := [.lit (.bool true)], args := [d1, d2] }
  | _ => none }
def fnExactEqualGuessesRow : OpenClaim := { program := "yteippmgfogebgaa", sum := "759af906ad5275480f7dcbd1a9aef7b5cd9bc910dfeee9beef81d13026691290", func := "loop.example/g00586/laws.FnExactEqualGuesses", spec := "fnExactEqualGuesses", apart := false }
def FnExactEqualGuessesSaid : Prop := fnExactEqualGuessesRow.holds Try.pinned (OpenSpec.ofChange fnExactEqualGuessesSpec)

/-- ITS FALSE NEIGHBOUR: 'it returns false'. Refute it at one input. -/
def fnExactEqualGuessesWrong : ChangeSpec := { name := "fnExactEqualGuesses", fn := fun _ => fun
  | [d1, d2] => { results := [.lit (.bool false)], args := [d1, d2] }
  | _ => none }
def FnExactEqualGuessesWrongFalsely : Prop := fnExactEqualGuessesRow.holds Try.pinned (OpenSpec.ofChange fnExactEqualGuessesWrong)

/-- 'laws.FnExactUseGuess': WHATEVER THE INPUT: true; the input reads as it did. -/
def fnExactUseGuessSpec : ChangeSpec := { name := "fnExactUseGuess", fn := fun _ => fun
  | [d1, d2] => { results := [.lit (.bool true)], args := [d1, d2] }
  | _ => none }
def fnExactUseGuessRow : OpenClaim := { program := "yteippmgfogebgaa", sum := "759af906ad5275480f7dcbd1a9aef7b5cd9bc910dfeee9beef81d13026691290", func := "loop.example/g00586/laws.FnExactUseGuess", spec := "fnExactUseGuess", unfollowed := true, recurses := true, apart := false }
def FnExactUseGuessSaid : Prop := fnExactUseGuessRow.holds Try.pinned (OpenSpec.ofChange fnExactUseGuessSpec)

/-- ITS FALSE NEIGHBOUR: 'it returns false'. Refute it at one input. -/
def fnExactUseGuessWrong : ChangeSpec := { name := "fnExactUseGuess", fn := fun _ => fun
  | [d1, d2] => { results := [.lit (.bool false)], args := [d1, d2] }
  | _ => none }
def FnExactUseGuessWrongFalsely : Prop := fnExactUseGuessRow.holds Try.pinned (OpenSpec.ofChange fnExactUseGuessWrong)

/-- 'laws.FnExactAddGuess': WHATEVER THE INPUT: true; the input reads as it did. -/
def fnExactAddGuessSpec : ChangeSpec := { name := "fnExactAddGuess", fn := fun _ => fun
  | [d1, d2, d3] => { results := [.lit (.bool true)], args := [d1, d2, d3] }
  | _ => none }
def fnExactAddGuessRow : OpenClaim := { program := "yteippmgfogebgaa", sum := "759af906ad5275480f7dcbd1a9aef7b5cd9bc910dfeee9beef81d13026691290", func := "loop.example/g00586/laws.FnExactAddGuess", spec := "fnExactAddGuess", unfollowed := true, recurses := true, apart := false }
def FnExactAddGuessSaid : Prop := fnExactAddGuessRow.holds Try.pinned (OpenSpec.ofChange fnExactAddGuessSpec)

/-- ITS FALSE NEIGHBOUR: 'it returns false'. Refute it at one input. -/
def fnExactAddGuessWrong : ChangeSpec := { name := "fnExactAddGuess", fn := fun _ => fun
  | [d1, d2, d3] => { results := [.lit (.bool false)], args := [d1, d2, d3] }
  | _ => none }
def FnExactAddGuessWrongFalsely : Prop := fnExactAddGuessRow.holds Try.pinned (OpenSpec.ofChange fnExactAddGuessWrong)

/- THE SECOND FORM. 'bulk': how many values and letters a reading holds, each counted each time it is reached (what is shared counts as often as it is met; a slice's spare places count too). A statement '..UptoSaid' is the law's where the arguments, and the package variables that the reading takes, are together of bulk at most 1048576: NARROWER than '..Said'. Prove '..Said' where nothing that the law and all that it calls make is longer than what came in: it says more and counts as full. Else prove '..UptoSaid'. A law counts once. -/
mutual
def uptoBulk {H : Type} : DataW H → Nat
  | .lit (.string bytes) => bytes.length + 1
  | .lit _ => 1
  | .nil => 1
  | .ptr d => uptoBulk d + 1
  | .slice elems spare => uptoBulkAll elems + uptoBulkAll spare + 1
  | .agg parts => uptoBulkAll parts + 1
  | .iface _ d => uptoBulk d + 1
  | .map entries => uptoBulkEntries entries + 1
  | .held _ => 1
def uptoBulkAll {H : Type} : List (DataW H) → Nat
  | [] => 0
  | d :: r => uptoBulk d + uptoBulkAll r
def uptoBulkEntries {H : Type} : List (Lit × DataW H) → Nat
  | [] => 0
  | x :: r => uptoBulkEntry x + uptoBulkEntries r
def uptoBulkEntry {H : Type} : Lit × DataW H → Nat
  | (.string bytes, d) => bytes.length + uptoBulk d + 1
  | (_, d) => uptoBulk d + 1
 end
def uptoSmall : (H : Type) → List (DataW H) → Bool := fun _ ds => decide (uptoBulkAll ds ≤ 1048576)
def OpenSpec.upto (s : _root_.Go.ChangeSpec) : _root_.Go.OpenSpec := { _root_.Go.OpenSpec.ofChange s with cond := some uptoSmall }

/-- 'laws.FnExactUnusedGuesses', WHERE WHAT IT READS IS OF BULK AT MOST 1048576: true; the input reads as it did. -/
def fnExactUnusedGuessesUptoRow : OpenClaim := { program := "yteippmgfogebgaa", sum := "759af906ad5275480f7dcbd1a9aef7b5cd9bc910dfeee9beef81d13026691290", func := "loop.example/g00586/laws.FnExactUnusedGuesses", spec := "fnExactUnusedGuesses", apart := false, narrowed := true }
def FnExactUnusedGuessesUptoSaid : Prop := fnExactUnusedGuessesUptoRow.holds Try.pinned (OpenSpec.upto fnExactUnusedGuessesSpec)

/-- 'laws.FnExactFindGuess', WHERE WHAT IT READS IS OF BULK AT MOST 1048576: true; the input reads as it did. -/
def fnExactFindGuessUptoRow : OpenClaim := { program := "yteippmgfogebgaa", sum := "759af906ad5275480f7dcbd1a9aef7b5cd9bc910dfeee9beef81d13026691290", func := "loop.example/g00586/laws.FnExactFindGuess", spec := "fnExactFindGuess", unfollowed := true, recurses := true, apart := false, narrowed := true }
def FnExactFindGuessUptoSaid : Prop := fnExactFindGuessUptoRow.holds Try.pinned (OpenSpec.upto fnExactFindGuessSpec)

/-- 'laws.FnExactWasteOf', WHERE WHAT IT READS IS OF BULK AT MOST 1048576: true; the input reads as it did. -/
def fnExactWasteOfUptoRow : OpenClaim := { program := "yteippmgfogebgaa", sum := "759af906ad5275480f7dcbd1a9aef7b5cd9bc910dfeee9beef81d13026691290", func := "loop.example/g00586/laws.FnExactWasteOf", spec := "fnExactWasteOf", apart := false, narrowed := true }
def FnExactWasteOfUptoSaid : Prop := fnExactWasteOfUptoRow.holds Try.pinned (OpenSpec.upto fnExactWasteOfSpec)

/-- 'laws.FnExactEqualGuesses', WHERE WHAT IT READS IS OF BULK AT MOST 1048576: true; the input reads as it did. -/
def fnExactEqualGuessesUptoRow : OpenClaim := { program := "yteippmgfogebgaa", sum := "759af906ad5275480f7dcbd1a9aef7b5cd9bc910dfeee9beef81d13026691290", func := "loop.example/g00586/laws.FnExactEqualGuesses", spec := "fnExactEqualGuesses", apart := false, narrowed := true }
def FnExactEqualGuessesUptoSaid : Prop := fnExactEqualGuessesUptoRow.holds Try.pinned (OpenSpec.upto fnExactEqualGuessesSpec)

/-- 'laws.FnExactUseGuess', WHERE WHAT IT READS IS OF BULK AT MOST 1048576: true; the input reads as it did. -/
def fnExactUseGuessUptoRow : OpenClaim := { program := "yteippmgfogebgaa", sum := "759af906ad5275480f7dcbd1a9aef7b5cd9bc910dfeee9beef81d13026691290", func := "loop.example/g00586/laws.FnExactUseGuess", spec := "fnExactUseGuess", unfollowed := true, recurses := true, apart := false, narrowed := true }
def FnExactUseGuessUptoSaid : Prop := fnExactUseGuessUptoRow.holds Try.pinned (OpenSpec.upto fnExactUseGuessSpec)

/-- 'laws.FnExactAddGuess', WHERE WHAT IT READS IS OF BULK AT MOST 1048576: true; the input reads as it did. -/
def fnExactAddGuessUptoRow : OpenClaim := { program := "yteippmgfogebgaa", sum := "759af906ad5275480f7dcbd1a9aef7b5cd9bc910dfeee9beef81d13026691290", func := "loop.example/g00586/laws.FnExactAddGuess", spec := "fnExactAddGuess", unfollowed := true, recurses := true, apart := false, narrowed := true }
def FnExactAddGuessUptoSaid : Prop := fnExactAddGuessUptoRow.holds Try.pinned (OpenSpec.upto fnExactAddGuessSpec)

end Rows
end Go.Proofs.Yteippmgfogebgaa
