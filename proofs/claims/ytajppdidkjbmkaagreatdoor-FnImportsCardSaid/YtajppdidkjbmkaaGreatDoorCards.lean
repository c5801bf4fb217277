/-
  DERIVED. GIVEN WITH THE SEED: THE CARDS: each row of YtajppdidkjbmkaaGreatDoorRows.lean that lists a variable, with what it lists TIED to the program's text (the seventh form; the later family's looks); each row that meets fmt, with fmt's text TOLD by the authors' own Lean function (tested against real Go, not proved from fmt's source: count such statements apart). THE CARD IS WHAT COUNTS. Prove the row's statement (the work); the ties are given (YtajppdidkjbmkaaGreatDoorTie.lean); close each card by the builder's one call (the guide's Derived/Test/ToyasCard.lean, 'card_holds'). Laid BY PROGRAM, IN A SANDBOX (cutbox-door.mjs). By AI agents, Wed Nov 11 2026. No macro, syntax, notation, axiom, sorry.
-/
import Derived.Test.YtajppdidkjbmkaaGreatDoorRows
import GoSem.ClaimSeven
namespace Go.Proofs.YtajppdidkjbmkaaGreatDoor
namespace Rows

/-- THE TIED CARD OF 'laws.FnImports'. -/
def fnImportsCard : Claim7 := { stood := { row := fnImportsRow, standIns := [], harness := (true, "bb40e1fd1ce8af7a2172ce5a0a327f2f6fd48add3f99b4a4f102fb24463cbf1a"), looks := false }, kinds := [], alts := [], laidByText := true, laidKinds := [.data, .data, .data, .data, .pinned], laidTests := true, laidLooks := .later }
def FnImportsCardSaid : Prop := Claim7.holds Tryz.pinned (.plain (OpenSpec.ofChange fnImportsSpec)) fnImportsCard

/-- THE SECOND FORM's CARD OF 'laws.FnImports'. -/
def fnImportsUptoCard : Claim7 := { stood := { row := fnImportsUptoRow, standIns := [], harness := (true, "bb40e1fd1ce8af7a2172ce5a0a327f2f6fd48add3f99b4a4f102fb24463cbf1a"), looks := false }, kinds := [], alts := [], laidByText := true, laidKinds := [.data, .data, .data, .data, .pinned], laidTests := true, laidLooks := .later }
def FnImportsUptoCardSaid : Prop := Claim7.holds Tryz.pinned (.plain (OpenSpec.upto fnImportsSpec)) fnImportsUptoCard
end Rows
end Go.Proofs.YtajppdidkjbmkaaGreatDoor
