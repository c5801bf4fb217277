/-
  DERIVED. GIVEN WITH THE SEED: THE CARDS: each row of YtdcpobkemdacnaaGreatDoorRows.lean that lists a variable, with what it lists TIED to the program's text (the seventh form; the later family's looks); each row that meets fmt, with fmt's text TOLD by the authors' own Lean function (tested against real Go, not proved from fmt's source: count such statements apart). THE CARD IS WHAT COUNTS. Prove the row's statement (the work); the ties are given (YtdcpobkemdacnaaGreatDoorTie.lean); close each card by the builder's one call (the guide's Derived/Test/ToyasCard.lean, 'card_holds'). Laid BY PROGRAM, IN A SANDBOX (cutbox-door.mjs). By AI agents, Wed Nov 11 2026. No macro, syntax, notation, axiom, sorry.
-/
import Derived.Test.YtdcpobkemdacnaaGreatDoorRows
import GoSem.ClaimSeven
namespace Go.Proofs.YtdcpobkemdacnaaGreatDoor
namespace Rows

/-- THE TIED CARD OF 'laws.FnExactLoadsFully'. -/
def fnExactLoadsFullyCard : Claim7 := { stood := { row := fnExactLoadsFullyRow, standIns := [], harness := (true, "e6cf9ca3342af7e51a50772dbefa6d1ce09c3afcdc3626de2800ebc1e21f358e"), looks := true }, kinds := [], alts := [], laidByText := true, laidKinds := [.data, .data, .data, .data, .sentinel, .sentinel, .pinned], laidTests := true, laidLooks := .later }
def FnExactLoadsFullyCardSaid : Prop := Claim7.holds Tryz.pinned (.plain (OpenSpec.ofChange fnExactLoadsFullySpec)) fnExactLoadsFullyCard

/-- THE SECOND FORM's CARD OF 'laws.FnExactLoadsFully'. -/
def fnExactLoadsFullyUptoCard : Claim7 := { stood := { row := fnExactLoadsFullyUptoRow, standIns := [], harness := (true, "e6cf9ca3342af7e51a50772dbefa6d1ce09c3afcdc3626de2800ebc1e21f358e"), looks := true }, kinds := [], alts := [], laidByText := true, laidKinds := [.data, .data, .data, .data, .sentinel, .sentinel, .pinned], laidTests := true, laidLooks := .later }
def FnExactLoadsFullyUptoCardSaid : Prop := Claim7.holds Tryz.pinned (.plain (OpenSpec.upto fnExactLoadsFullySpec)) fnExactLoadsFullyUptoCard
end Rows
end Go.Proofs.YtdcpobkemdacnaaGreatDoor
