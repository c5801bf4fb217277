/-
  No cell of these rows narrows 'for every input' (looked for: loops, veiled, ifaces, maps, wideKeys, modest, calm, conditions, laid).
  DERIVED. THE GIVEN ROWS OF THIS SEAT. 8 by the template 'for every input the law returns true; each argument reads behind the call as it read before'; 0 by the template 'total and deterministic' (their statements: YtbbefoefjmgnoaaTotals.lean).
  GIVEN WITH THE SEED: the statements are not yours to turn. If you find one false, say at which input.
  Laid BY PROGRAM, IN A SANDBOX (cutbox-rows.mjs): the forced cells as the released guide's own fill.sh prints them over the translation 319e2920465d28fb… (all of the seat's roots in one cut). By AI agents, Wed Nov 11 2026. No macro, syntax, notation, axiom, sorry.
-/
import Derived.Test.YtbbefoefjmgnoaaChecked
import GoSem.Claim
import GoSem.ClaimJoined
import GoSem.ClaimMapViews
import Derived.JoinedTies
import Derived.KernelRfl
namespace Go.Proofs.Ytbbefoefjmgnoaa
/- THE CELL 'sum', in the pinned program and in every row, IS THE sha256 OF THE DUMP (.gsa) THAT YtbbefoefjmgnoaaProg.lean LOADS. Nothing in Lean hashes anything: it is a label: what it is worth is what the hold of that sum in a sandbox is worth. -/
noncomputable def Try.pinned : Pinned := { name := "ytbbefoefjmgnoaa", sum := "319e2920465d28fb07eed7f8c1cb547f62c59a498e2710ff83ca65a0abfed790", checked := Try.checked }
namespace Rows
def none {H : Type} : Left H := { results := [], args := [] }

/-- 'laws.FnExactIsComplete': WHATEVER THE INPUT: true; the input reads as it did. -/
def fnExactIsCompleteSpec : ChangeSpec := { name := "fnExactIsComplete", fn := fun _ => fun
  | [d] => { results := [.lit (.bool true)], args := [d] }
  | _ => none }
def fnExactIsCompleteRow : OpenClaim := { program := "ytbbefoefjmgnoaa", sum := "319e2920465d28fb07eed7f8c1cb547f62c59a498e2710ff83ca65a0abfed790", func := "loop.example/g00586/laws.FnExactIsComplete", spec := "fnExactIsComplete", apart := false }
def FnExactIsCompleteSaid : Prop := fnExactIsCompleteRow.holds Try.pinned (OpenSpec.ofChange fnExactIsCompleteSpec)

/-- ITS FALSE NEIGHBOUR: 'it returns false'. Refute it at one input. -/
def fnExactIsCompleteWrong : ChangeSpec := { name := "fnExactIsComplete", fn := fun _ => fun
  | [d] => { results := [.lit (.bool false)], args := [d] }
  | _ => none }
def FnExactIsCompleteWrongFalsely : Prop := fnExactIsCompleteRow.holds Try.pinned (OpenSpec.ofChange fnExactIsCompleteWrong)

/-- 'laws.FnExactIsParsed': WHATEVER THE INPUT: true; the input reads as it did. -/
def fnExactIsParsedSpec : ChangeSpec := { name := "fnExactIsParsed", fn := fun _ => fun
  | [d] => { results := [.lit (.bool true)], args := [d] }
  | _ => none }
def fnExactIsParsedRow : OpenClaim := { program := "ytbbefoefjmgnoaa", sum := "319e2920465d28fb07eed7f8c1cb547f62c59a498e2710ff83ca65a0abfed790", func := "loop.example/g00586/laws.FnExactIsParsed", spec := "fnExactIsParsed", apart := false }
def FnExactIsParsedSaid : Prop := fnExactIsParsedRow.holds Try.pinned (OpenSpec.ofChange fnExactIsParsedSpec)

/-- ITS FALSE NEIGHBOUR: 'it returns false'. Refute it at one input. -/
def fnExactIsParsedWrong : ChangeSpec := { name := "fnExactIsParsed", fn := fun _ => fun
  | [d] => { results := [.lit (.bool false)], args := [d] }
  | _ => none }
def FnExactIsParsedWrongFalsely : Prop := fnExactIsParsedRow.holds Try.pinned (OpenSpec.ofChange fnExactIsParsedWrong)

/-- 'laws.FnExactStylesReady': WHATEVER THE INPUT: true; the input reads as it did. -/
def fnExactStylesReadySpec : ChangeSpec := { name := "fnExactStylesReady", fn := fun _ => fun
  | [d] => { results := [.lit (.bool true)], args := [d] }
  | _ => none }
def fnExactStylesReadyRow : OpenClaim := { program := "ytbbefoefjmgnoaa", sum := "319e2920465d28fb07eed7f8c1cb547f62c59a498e2710ff83ca65a0abfed790", func := "loop.example/g00586/laws.FnExactStylesReady", spec := "fnExactStylesReady", apart := false }
def FnExactStylesReadySaid : Prop := fnExactStylesReadyRow.holds Try.pinned (OpenSpec.ofChange fnExactStylesReadySpec)

/-- ITS FALSE NEIGHBOUR: 'it returns false'. Refute it at one input. -/
def fnExactStylesReadyWrong : ChangeSpec := { name := "fnExactStylesReady", fn := fun _ => fun
  | [d] => { results := [.lit (.bool false)], args := [d] }
  | _ => none }
def FnExactStylesReadyWrongFalsely : Prop := fnExactStylesReadyRow.holds Try.pinned (OpenSpec.ofChange fnExactStylesReadyWrong)

/-- 'laws.FnExactIsAsked': WHATEVER THE INPUT: true; the input reads as it did. -/
def fnExactIsAskedSpec : ChangeSpec := { name := "fnExactIsAsked", fn := fun _ => fun
  | [d1, d2] => { results := [.lit (.bool true)], args := [d1, d2] }
  | _ => none }
def fnExactIsAskedRow : OpenClaim := { program := "ytbbefoefjmgnoaa", sum := "319e2920465d28fb07eed7f8c1cb547f62c59a498e2710ff83ca65a0abfed790", func := "loop.example/g00586/laws.FnExactIsAsked", spec := "fnExactIsAsked", unfollowed := true, recurses := true, apart := false }
def FnExactIsAskedSaid : Prop := fnExactIsAskedRow.holds Try.pinned (OpenSpec.ofChange fnExactIsAskedSpec)

/-- ITS FALSE NEIGHBOUR: 'it returns false'. Refute it at one input. -/
def fnExactIsAskedWrong : ChangeSpec := { name := "fnExactIsAsked", fn := fun _ => fun
  | [d1, d2] => { results := [.lit (.bool false)], args := [d1, d2] }
  | _ => none }
def FnExactIsAskedWrongFalsely : Prop := fnExactIsAskedRow.holds Try.pinned (OpenSpec.ofChange fnExactIsAskedWrong)

/-- 'laws.FnExactIsWrongGuess': WHATEVER THE INPUT: true; the input reads as it did. -/
def fnExactIsWrongGuessSpec : ChangeSpec := { name := "fnExactIsWrongGuess", fn := fun _ => fun
  | [d1, d2] => { results := [.lit (.bool true)], args := [d1, d2] }
  | _ => none }
def fnExactIsWrongGuessRow : OpenClaim := { program := "ytbbefoefjmgnoaa", sum := "319e2920465d28fb07eed7f8c1cb547f62c59a498e2710ff83ca65a0abfed790", func := "loop.example/g00586/laws.FnExactIsWrongGuess", spec := "fnExactIsWrongGuess", unfollowed := true, recurses := true, apart := false }
def FnExactIsWrongGuessSaid : Prop := fnExactIsWrongGuessRow.holds Try.pinned (OpenSpec.ofChange fnExactIsWrongGuessSpec)

/-- ITS FALSE NEIGHBOUR: 'it returns false'. Refute it at one input. -/
def fnExactIsWrongGuessWrong : ChangeSpec := { name := "fnExactIsWrongGuess", fn := fun _ => fun
  | [d1, d2] => { results := [.lit (.bool false)], args := [d1, d2] }
  | _ => none }
def FnExactIsWrongGuessWrongFalsely : Prop := fnExactIsWrongGuessRow.holds Try.pinned (OpenSpec.ofChange fnExactIsWrongGuessWrong)

/-- 'laws.FnExactDeferredSlots': WHATEVER THE INPUT: true; the input reads as it did. -/
def fnExactDeferredSlotsSpec : ChangeSpec := { name := "fnExactDeferredSlots", fn := fun _ => fun
  | [d] => { results := [.lit (.bool true)], args := [d] }
  | _ => none }
def fnExactDeferredSlotsRow : OpenClaim := { program := "ytbbefoefjmgnoaa", sum := "319e2920465d28fb07eed7f8c1cb547f62c59a498e2710ff83ca65a0abfed790", func := "loop.example/g00586/laws.FnExactDeferredSlots", spec := "fnExactDeferredSlots", apart := false }
def FnExactDeferredSlotsSaid : Prop := fnExactDeferredSlotsRow.holds Try.pinned (OpenSpec.ofChange fnExactDeferredSlotsSpec)

/-- ITS FALSE NEIGHBOUR: 'it returns false'. Refute it at one input. -/
def fnExactDeferredSlotsWrong : ChangeSpec := { name := "fnExactDeferredSlots", fn := fun _ => fun
  | [d] => { results := [.lit (.bool false)], args := [d] }
  | _ => none }
def FnExactDeferredSlotsWrongFalsely : Prop := fnExactDeferredSlotsRow.holds Try.pinned (OpenSpec.ofChange fnExactDeferredSlotsWrong)

/-- 'laws.FnExactOpenMods': WHATEVER THE INPUT: true; the input reads as it did. -/
def fnExactOpenModsSpec : ChangeSpec := { name := "fnExactOpenMods", fn := fun _ => fun
  | [d] => { results := [.lit (.bool true)], args := [d] }
  | _ => none }
def fnExactOpenModsRow : OpenClaim := { program := "ytbbefoefjmgnoaa", sum := "319e2920465d28fb07eed7f8c1cb547f62c59a498e2710ff83ca65a0abfed790", func := "loop.example/g00586/laws.FnExactOpenMods", spec := "fnExactOpenMods", apart := false }
def FnExactOpenModsSaid : Prop := fnExactOpenModsRow.holds Try.pinned (OpenSpec.ofChange fnExactOpenModsSpec)

/-- ITS FALSE NEIGHBOUR: 'it returns false'. Refute it at one input. -/
def fnExactOpenModsWrong : ChangeSpec := { name := "fnExactOpenMods", fn := fun _ => fun
  | [d] => { results := [.lit (.bool false)], args := [d] }
  | _ => none }
def FnExactOpenModsWrongFalsely : Prop := fnExactOpenModsRow.holds Try.pinned (OpenSpec.ofChange fnExactOpenModsWrong)

/-- 'laws.FnExactOpenSlots': WHATEVER THE INPUT: true; the input reads as it did. -/
def fnExactOpenSlotsSpec : ChangeSpec := { name := "fnExactOpenSlots", fn := fun _ => fun
  | [d] => { results := [.lit (.bool true)], args := [d] }
  | _ => none }
def fnExactOpenSlotsRow : OpenClaim := { program := "ytbbefoefjmgnoaa", sum := "319e2920465d28fb07eed7f8c1cb547f62c59a498e2710ff83ca65a0abfed790", func := "loop.example/g00586/laws.FnExactOpenSlots", spec := "fnExactOpenSlots", apart := false }
def FnExactOpenSlotsSaid : Prop := fnExactOpenSlotsRow.holds Try.pinned (OpenSpec.ofChange fnExactOpenSlotsSpec)

/-- ITS FALSE NEIGHBOUR: 'it returns false'. Refute it at one input. -/
def fnExactOpenSlotsWrong : ChangeSpec := { name := "fnExactOpenSlots", fn := fun _ => fun
  | [d] => { results := [.lit (.bool false)], args := [d] }
  | _ => none }
def FnExactOpenSlotsWrongFalsely : Prop := fnExactOpenSlotsRow.holds Try.pinned (OpenSpec.ofChange fnExactOpenSlotsWrong)

/- THE SECOND FORM. 'bulk': how many values and letters a reading holds, each counted each time it is reached (what is shared counts as often as it is met; a slice's spare places count too). A statement '..UptoSaid' is the law's where the arguments, and the package variables that the reading takes, are together of bulk at most 1048576: NARROWER than '..Said'. Prove '..Said' where nothing that the law and all that it calls make is longer than what came in: it says more and counts as full. Else prove '..UptoSaid'. A law counts once. -/
mutual
def uptoBulk {H : Type} : DataW H → Nat
  | .lit (.string bytes) => bytes.length + 1
  | .lit _ => 1
  | .nil => 1
  | .ptr d => uptoBulk d + 1
  | .slice elems spare => uptoBulkAll elems + uptoBulkAll spare + 1
  | .agg parts => uptoBulkAll parts + 1
  | .iface _ d => uptoBulk d + 1
  | .map entries => uptoBulkEntries entries + 1
  | .held _ => 1
def uptoBulkAll {H : Type} : List (DataW H) → Nat
  | [] => 0
  | d :: r => uptoBulk d + uptoBulkAll r
def uptoBulkEntries {H : Type} : List (Lit × DataW H) → Nat
  | [] => 0
  | x :: r => uptoBulkEntry x + uptoBulkEntries r
def uptoBulkEntry {H : Type} : Lit × DataW H → Nat
  | (.string bytes, d) => bytes.length + uptoBulk d + 1
  | (_, d) => uptoBulk d + 1
 end
def uptoSmall : (H : Type) → List (DataW H) → Bool := fun _ ds => decide (uptoBulkAll ds ≤ 1048576)
def OpenSpec.upto (s : _root_.Go.ChangeSpec) : _root_.Go.OpenSpec := { _root_.Go.OpenSpec.ofChange s with cond := some uptoSmall }

/-- 'laws.FnExactIsComplete', WHERE WHAT IT READS IS OF BULK AT MOST 1048576: true; the input reads as it did. -/
def fnExactIsCompleteUptoRow : OpenClaim := { program := "ytbbefoefjmgnoaa", sum := "319e2920465d28fb07eed7f8c1cb547f62c59a498e2710ff83ca65a0abfed790", func := "loop.example/g00586/laws.FnExactIsComplete", spec := "fnExactIsComplete", apart := false, narrowed := true }
def FnExactIsCompleteUptoSaid : Prop := fnExactIsCompleteUptoRow.holds Try.pinned (OpenSpec.upto fnExactIsCompleteSpec)

/-- 'laws.FnExactIsParsed', WHERE WHAT IT READS IS OF BULK AT MOST 1048576: true; the input reads as it did. -/
def fnExactIsParsedUptoRow : OpenClaim := { program := "ytbbefoefjmgnoaa", sum := "319e2920465d28fb07eed7f8c1cb547f62c59a498e2710ff83ca65a0abfed790", func := "loop.example/g00586/laws.FnExactIsParsed", spec := "fnExactIsParsed", apart := false, narrowed := true }
def FnExactIsParsedUptoSaid : Prop := fnExactIsParsedUptoRow.holds Try.pinned (OpenSpec.upto fnExactIsParsedSpec)

/-- 'laws.FnExactStylesReady', WHERE WHAT IT READS IS OF BULK AT MOST 1048576: true; the input reads as it did. -/
def fnExactStylesReadyUptoRow : OpenClaim := { program := "ytbbefoefjmgnoaa", sum := "319e2920465d28fb07eed7f8c1cb547f62c59a498e2710ff83ca65a0abfed790", func := "loop.example/g00586/laws.FnExactStylesReady", spec := "fnExactStylesReady", apart := false, narrowed := true }
def FnExactStylesReadyUptoSaid : Prop := fnExactStylesReadyUptoRow.holds Try.pinned (OpenSpec.upto fnExactStylesReadySpec)

/-- 'laws.FnExactIsAsked', WHERE WHAT IT READS IS OF BULK AT MOST 1048576: true; the input reads as it did. -/
def fnExactIsAskedUptoRow : OpenClaim := { program := "ytbbefoefjmgnoaa", sum := "319e2920465d28fb07eed7f8c1cb547f62c59a498e2710ff83ca65a0abfed790", func := "loop.example/g00586/laws.FnExactIsAsked", spec := "fnExactIsAsked", unfollowed := true, recurses := true, apart := false, narrowed := true }
def FnExactIsAskedUptoSaid : Prop := fnExactIsAskedUptoRow.holds Try.pinned (OpenSpec.upto fnExactIsAskedSpec)

/-- 'laws.FnExactIsWrongGuess', WHERE WHAT IT READS IS OF BULK AT MOST 1048576: true; the input reads as it did. -/
def fnExactIsWrongGuessUptoRow : OpenClaim := { program := "ytbbefoefjmgnoaa", sum := "319e2920465d28fb07eed7f8c1cb547f62c59a498e2710ff83ca65a0abfed790", func := "loop.example/g00586/laws.FnExactIsWrongGuess", spec := "fnExactIsWrongGuess", unfollowed := true, recurses := true, apart := false, narrowed := true }
def FnExactIsWrongGuessUptoSaid : Prop := fnExactIsWrongGuessUptoRow.holds Try.pinned (OpenSpec.upto fnExactIsWrongGuessSpec)

/-- 'laws.FnExactDeferredSlots', WHERE WHAT IT READS IS OF BULK AT MOST 1048576: true; the input reads as it did. -/
def fnExactDeferredSlotsUptoRow : OpenClaim := { program := "ytbbefoefjmgnoaa", sum := "319e2920465d28fb07eed7f8c1cb547f62c59a498e2710ff83ca65a0abfed790", func := "loop.example/g00586/laws.FnExactDeferredSlots", spec := "fnExactDeferredSlots", apart := false, narrowed := true }
def FnExactDeferredSlotsUptoSaid : Prop := fnExactDeferredSlotsUptoRow.holds Try.pinned (OpenSpec.upto fnExactDeferredSlotsSpec)

/-- 'laws.FnExactOpenMods', WHERE WHAT IT READS IS OF BULK AT MOST 1048576: true; the input reads as it did. -/
def fnExactOpenModsUptoRow : OpenClaim := { program := "ytbbefoefjmgnoaa", sum := "319e2920465d28fb07eed7f8c1cb547f62c59a498e2710ff83ca65a0abfed790", func := "loop.example/g00586/laws.FnExactOpenMods", spec := "fnExactOpenMods", apart := false, narrowed := true }
def FnExactOpenModsUptoSaid : Prop := fnExactOpenModsUptoRow.holds Try.pinned (OpenSpec.upto fnExactOpenModsSpec)

/-- 'laws.FnExactOpenSlots', WHERE WHAT IT READS IS OF BULK AT MOST 1048576: true; the input reads as it did. -/
def fnExactOpenSlotsUptoRow : OpenClaim := { program := "ytbbefoefjmgnoaa", sum := "319e2920465d28fb07eed7f8c1cb547f62c59a498e2710ff83ca65a0abfed790", func := "loop.example/g00586/laws.FnExactOpenSlots", spec := "fnExactOpenSlots", apart := false, narrowed := true }
def FnExactOpenSlotsUptoSaid : Prop := fnExactOpenSlotsUptoRow.holds Try.pinned (OpenSpec.upto fnExactOpenSlotsSpec)

end Rows
end Go.Proofs.Ytbbefoefjmgnoaa
