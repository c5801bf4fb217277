/-
  DERIVED. GIVEN WITH THE SEED: THE CARDS: each row of YtjkdolejalpflaaGreatDoorRows.lean that lists a variable, with what it lists TIED to the program's text (the seventh form; the later family's looks); each row that meets fmt, with fmt's text TOLD by the authors' own Lean function (tested against real Go, not proved from fmt's source: count such statements apart). THE CARD IS WHAT COUNTS. Prove the row's statement (the work); the ties are given (YtjkdolejalpflaaGreatDoorTie.lean); close each card by the builder's one call (the guide's Derived/Test/ToyasCard.lean, 'card_holds'). Laid BY PROGRAM, IN A SANDBOX (cutbox-door.mjs). By AI agents, Wed Nov 11 2026. No macro, syntax, notation, axiom, sorry.
-/
import Derived.Test.YtjkdolejalpflaaGreatDoorRows
import GoSem.ClaimSeven
namespace Go.Proofs.YtjkdolejalpflaaGreatDoor
namespace Rows

/-- THE TIED CARD OF 'laws.FnParser'. -/
def fnParserCard : Claim7 := { stood := { row := fnParserRow, standIns := [], harness := (true, "c2a389300bc317bff601ca5973f01762cc51956798a9f80b95db165da0e49fbe"), looks := true }, kinds := [], alts := [], laidByText := true, laidKinds := [.data, .data, .data, .data, .sentinel, .sentinel, .pinned], laidTests := true, laidLooks := .later }
def FnParserCardSaid : Prop := Claim7.holds Tryz.pinned (.plain (OpenSpec.ofChange fnParserSpec)) fnParserCard

/-- THE SECOND FORM's CARD OF 'laws.FnParser'. -/
def fnParserUptoCard : Claim7 := { stood := { row := fnParserUptoRow, standIns := [], harness := (true, "c2a389300bc317bff601ca5973f01762cc51956798a9f80b95db165da0e49fbe"), looks := true }, kinds := [], alts := [], laidByText := true, laidKinds := [.data, .data, .data, .data, .sentinel, .sentinel, .pinned], laidTests := true, laidLooks := .later }
def FnParserUptoCardSaid : Prop := Claim7.holds Tryz.pinned (.plain (OpenSpec.upto fnParserSpec)) fnParserUptoCard
end Rows
end Go.Proofs.YtjkdolejalpflaaGreatDoor
