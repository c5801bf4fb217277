/-
  DERIVED. GIVEN WITH THE SEED: THE CARDS: each row of YtgkllebnnakojaaGreatDoorRows.lean that lists a variable, with what it lists TIED to the program's text (the seventh form; the later family's looks); each row that meets fmt, with fmt's text TOLD by the authors' own Lean function (tested against real Go, not proved from fmt's source: count such statements apart). THE CARD IS WHAT COUNTS. Prove the row's statement (the work); the ties are given (YtgkllebnnakojaaGreatDoorTie.lean); close each card by the builder's one call (the guide's Derived/Test/ToyasCard.lean, 'card_holds'). Laid BY PROGRAM, IN A SANDBOX (cutbox-door.mjs). By AI agents, Wed Nov 11 2026. No macro, syntax, notation, axiom, sorry.
-/
import Derived.Test.YtgkllebnnakojaaGreatDoorRows
import GoSem.ClaimSeven
namespace Go.Proofs.YtgkllebnnakojaaGreatDoor
namespace Rows

/-- THE TIED CARD OF 'laws.FnModules'. -/
def fnModulesCard : Claim7 := { stood := { row := fnModulesRow, standIns := [], harness := (true, "0f203192f5afff91d4afeb2eef87a918c8d8711893862e923eac184898fbe89a"), looks := false }, kinds := [], alts := [], laidByText := true, laidKinds := [.data, .pinned], laidTests := true, laidLooks := .later }
def FnModulesCardSaid : Prop := Claim7.holds Tryz.pinned (.plain (OpenSpec.ofChange fnModulesSpec)) fnModulesCard

/-- THE SECOND FORM's CARD OF 'laws.FnModules'. -/
def fnModulesUptoCard : Claim7 := { stood := { row := fnModulesUptoRow, standIns := [], harness := (true, "0f203192f5afff91d4afeb2eef87a918c8d8711893862e923eac184898fbe89a"), looks := false }, kinds := [], alts := [], laidByText := true, laidKinds := [.data, .pinned], laidTests := true, laidLooks := .later }
def FnModulesUptoCardSaid : Prop := Claim7.holds Tryz.pinned (.plain (OpenSpec.upto fnModulesSpec)) fnModulesUptoCard
end Rows
end Go.Proofs.YtgkllebnnakojaaGreatDoor
