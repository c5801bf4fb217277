/-
  DERIVED. GIVEN WITH THE SEED: THE CARDS: each row of YtanobkmhbpjnpaaGreatDoorRows.lean that lists a variable, with what it lists TIED to the program's text (the seventh form; the later family's looks); each row that meets fmt, with fmt's text TOLD by the authors' own Lean function (tested against real Go, not proved from fmt's source: count such statements apart). THE CARD IS WHAT COUNTS. Prove the row's statement (the work); the ties are given (YtanobkmhbpjnpaaGreatDoorTie.lean); close each card by the builder's one call (the guide's Derived/Test/ToyasCard.lean, 'card_holds'). Laid BY PROGRAM, IN A SANDBOX (cutbox-door.mjs). By AI agents, Wed Nov 11 2026. No macro, syntax, notation, axiom, sorry.
-/
import Derived.Test.YtanobkmhbpjnpaaGreatDoorRows
import GoSem.ClaimSeven
namespace Go.Proofs.YtanobkmhbpjnpaaGreatDoor
namespace Rows

/-- THE TIED CARD OF 'laws.FnTails'. -/
def fnTailsCard : Claim7 := { stood := { row := fnTailsRow, standIns := [], harness := (true, "db802e1eef0d54c2d9b1f6a9332ee348eb378de74c2c38c6981c896a9b7b91d3"), looks := true }, kinds := [], alts := [], laidByText := true, laidKinds := [.data, .data, .data, .data, .sentinel, .sentinel, .pinned], laidTests := true, laidLooks := .later }
def FnTailsCardSaid : Prop := Claim7.holds Tryz.pinned (.plain (OpenSpec.ofChange fnTailsSpec)) fnTailsCard

/-- THE SECOND FORM's CARD OF 'laws.FnTails'. -/
def fnTailsUptoCard : Claim7 := { stood := { row := fnTailsUptoRow, standIns := [], harness := (true, "db802e1eef0d54c2d9b1f6a9332ee348eb378de74c2c38c6981c896a9b7b91d3"), looks := true }, kinds := [], alts := [], laidByText := true, laidKinds := [.data, .data, .data, .data, .sentinel, .sentinel, .pinned], laidTests := true, laidLooks := .later }
def FnTailsUptoCardSaid : Prop := Claim7.holds Tryz.pinned (.plain (OpenSpec.upto fnTailsSpec)) fnTailsUptoCard
end Rows
end Go.Proofs.YtanobkmhbpjnpaaGreatDoor
