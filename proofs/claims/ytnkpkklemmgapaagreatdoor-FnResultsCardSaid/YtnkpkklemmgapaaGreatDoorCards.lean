/-
  DERIVED. GIVEN WITH THE SEED: THE CARDS: each row of YtnkpkklemmgapaaGreatDoorRows.lean that lists a variable, with what it lists TIED to the program's text (the seventh form; the later family's looks); each row that meets fmt, with fmt's text TOLD by the authors' own Lean function (tested against real Go, not proved from fmt's source: count such statements apart). THE CARD IS WHAT COUNTS. Prove the row's statement (the work); the ties are given (YtnkpkklemmgapaaGreatDoorTie.lean); close each card by the builder's one call (the guide's Derived/Test/ToyasCard.lean, 'card_holds'). Laid BY PROGRAM, IN A SANDBOX (cutbox-door.mjs). By AI agents, Wed Nov 11 2026. No macro, syntax, notation, axiom, sorry.
-/
import Derived.Test.YtnkpkklemmgapaaGreatDoorRows
import GoSem.ClaimSeven
namespace Go.Proofs.YtnkpkklemmgapaaGreatDoor
namespace Rows

/-- THE TIED CARD OF 'laws.FnResults'. -/
def fnResultsCard : Claim7 := { stood := { row := fnResultsRow, standIns := [], harness := (true, "0ab7166c82eff8abc2c90a3b2ed334f0970750e31e224a35e9ffce252a1ae4b6"), looks := true }, kinds := [], alts := [], laidByText := true, laidKinds := [.data, .data, .data, .data, .sentinel, .sentinel, .pinned], laidTests := true, laidLooks := .later }
def FnResultsCardSaid : Prop := Claim7.holds Tryz.pinned (.plain (OpenSpec.ofChange fnResultsSpec)) fnResultsCard

/-- THE SECOND FORM's CARD OF 'laws.FnResults'. -/
def fnResultsUptoCard : Claim7 := { stood := { row := fnResultsUptoRow, standIns := [], harness := (true, "0ab7166c82eff8abc2c90a3b2ed334f0970750e31e224a35e9ffce252a1ae4b6"), looks := true }, kinds := [], alts := [], laidByText := true, laidKinds := [.data, .data, .data, .data, .sentinel, .sentinel, .pinned], laidTests := true, laidLooks := .later }
def FnResultsUptoCardSaid : Prop := Claim7.holds Tryz.pinned (.plain (OpenSpec.upto fnResultsSpec)) fnResultsUptoCard
end Rows
end Go.Proofs.YtnkpkklemmgapaaGreatDoor
