/-
  DERIVED. GIVEN WITH THE SEED: THE CARDS: each row of YthddijamfbfibaaGreatDoorRows.lean that lists a variable, with what it lists TIED to the program's text (the seventh form; the later family's looks); each row that meets fmt, with fmt's text TOLD by the authors' own Lean function (tested against real Go, not proved from fmt's source: count such statements apart). THE CARD IS WHAT COUNTS. Prove the row's statement (the work); the ties are given (YthddijamfbfibaaGreatDoorTie.lean); close each card by the builder's one call (the guide's Derived/Test/ToyasCard.lean, 'card_holds'). Laid BY PROGRAM, IN A SANDBOX (cutbox-door.mjs). By AI agents, Wed Nov 11 2026. No macro, syntax, notation, axiom, sorry.
-/
import Derived.Test.YthddijamfbfibaaGreatDoorRows
import GoSem.ClaimSeven
namespace Go.Proofs.YthddijamfbfibaaGreatDoor
namespace Rows

/-- THE TIED CARD OF 'laws.FnExactPlainNeeds'. -/
def fnExactPlainNeedsCard : Claim7 := { stood := { row := fnExactPlainNeedsRow, standIns := [], harness := (true, "f917049df97e89871dbcf0c4320ba48c6c748d108ea956134396c65df9f12690"), looks := true }, kinds := [], alts := [], laidByText := true, laidKinds := [.data, .data, .data, .data, .sentinel, .sentinel, .pinned], laidTests := true, laidLooks := .later }
def FnExactPlainNeedsCardSaid : Prop := Claim7.holds Tryz.pinned (.plain (OpenSpec.ofChange fnExactPlainNeedsSpec)) fnExactPlainNeedsCard

/-- THE SECOND FORM's CARD OF 'laws.FnExactPlainNeeds'. -/
def fnExactPlainNeedsUptoCard : Claim7 := { stood := { row := fnExactPlainNeedsUptoRow, standIns := [], harness := (true, "f917049df97e89871dbcf0c4320ba48c6c748d108ea956134396c65df9f12690"), looks := true }, kinds := [], alts := [], laidByText := true, laidKinds := [.data, .data, .data, .data, .sentinel, .sentinel, .pinned], laidTests := true, laidLooks := .later }
def FnExactPlainNeedsUptoCardSaid : Prop := Claim7.holds Tryz.pinned (.plain (OpenSpec.upto fnExactPlainNeedsSpec)) fnExactPlainNeedsUptoCard
end Rows
end Go.Proofs.YthddijamfbfibaaGreatDoor
