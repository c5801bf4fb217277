/-
  DERIVED. GIVEN WITH THE SEED: THE CARDS: each row of YtaddkhdghlaalaaGreatDoorRows.lean that lists a variable, with what it lists TIED to the program's text (the seventh form; the later family's looks); each row that meets fmt, with fmt's text TOLD by the authors' own Lean function (tested against real Go, not proved from fmt's source: count such statements apart). THE CARD IS WHAT COUNTS. Prove the row's statement (the work); the ties are given (YtaddkhdghlaalaaGreatDoorTie.lean); close each card by the builder's one call (the guide's Derived/Test/ToyasCard.lean, 'card_holds'). Laid BY PROGRAM, IN A SANDBOX (cutbox-door.mjs). By AI agents, Wed Nov 11 2026. No macro, syntax, notation, axiom, sorry.
-/
import Derived.Test.YtaddkhdghlaalaaGreatDoorRows
import GoSem.ClaimSeven
namespace Go.Proofs.YtaddkhdghlaalaaGreatDoor
namespace Rows

/-- THE TIED CARD OF 'laws.FnScanned'. -/
def fnScannedCard : Claim7 := { stood := { row := fnScannedRow, standIns := [], harness := (true, "bd2a37fbc2d141cb4ef9a0f2f2f8e9e168fb5f629fa88dd87f2c0fee4fa0aa8c"), looks := false }, kinds := [], alts := [], laidByText := true, laidKinds := [.data, .pinned], laidTests := true, laidLooks := .later }
def FnScannedCardSaid : Prop := Claim7.holds Tryz.pinned (.plain (OpenSpec.ofChange fnScannedSpec)) fnScannedCard

/-- THE SECOND FORM's CARD OF 'laws.FnScanned'. -/
def fnScannedUptoCard : Claim7 := { stood := { row := fnScannedUptoRow, standIns := [], harness := (true, "bd2a37fbc2d141cb4ef9a0f2f2f8e9e168fb5f629fa88dd87f2c0fee4fa0aa8c"), looks := false }, kinds := [], alts := [], laidByText := true, laidKinds := [.data, .pinned], laidTests := true, laidLooks := .later }
def FnScannedUptoCardSaid : Prop := Claim7.holds Tryz.pinned (.plain (OpenSpec.upto fnScannedSpec)) fnScannedUptoCard
end Rows
end Go.Proofs.YtaddkhdghlaalaaGreatDoor
