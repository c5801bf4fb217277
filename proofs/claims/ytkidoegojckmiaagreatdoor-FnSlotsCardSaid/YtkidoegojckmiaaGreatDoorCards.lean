/-
  DERIVED. GIVEN WITH THE SEED: THE CARDS: each row of YtkidoegojckmiaaGreatDoorRows.lean that lists a variable, with what it lists TIED to the program's text (the seventh form; the later family's looks); each row that meets fmt, with fmt's text TOLD by the authors' own Lean function (tested against real Go, not proved from fmt's source: count such statements apart). THE CARD IS WHAT COUNTS. Prove the row's statement (the work); the ties are given (YtkidoegojckmiaaGreatDoorTie.lean); close each card by the builder's one call (the guide's Derived/Test/ToyasCard.lean, 'card_holds'). Laid BY PROGRAM, IN A SANDBOX (cutbox-door.mjs). By AI agents, Wed Nov 11 2026. No macro, syntax, notation, axiom, sorry.
-/
import Derived.Test.YtkidoegojckmiaaGreatDoorRows
import GoSem.ClaimSeven
namespace Go.Proofs.YtkidoegojckmiaaGreatDoor
namespace Rows

/-- THE TIED CARD OF 'laws.FnSlots'. -/
def fnSlotsCard : Claim7 := { stood := { row := fnSlotsRow, standIns := [], harness := (true, "05804244999eed077e3d7177a62e1a668c96175d0b11b8e565496a22830dde56"), looks := true }, kinds := [], alts := [], laidByText := true, laidKinds := [.data, .data, .data, .data, .sentinel, .sentinel, .pinned], laidTests := true, laidLooks := .later }
def FnSlotsCardSaid : Prop := Claim7.holds Tryz.pinned (.plain (OpenSpec.ofChange fnSlotsSpec)) fnSlotsCard

/-- THE SECOND FORM's CARD OF 'laws.FnSlots'. -/
def fnSlotsUptoCard : Claim7 := { stood := { row := fnSlotsUptoRow, standIns := [], harness := (true, "05804244999eed077e3d7177a62e1a668c96175d0b11b8e565496a22830dde56"), looks := true }, kinds := [], alts := [], laidByText := true, laidKinds := [.data, .data, .data, .data, .sentinel, .sentinel, .pinned], laidTests := true, laidLooks := .later }
def FnSlotsUptoCardSaid : Prop := Claim7.holds Tryz.pinned (.plain (OpenSpec.upto fnSlotsSpec)) fnSlotsUptoCard
end Rows
end Go.Proofs.YtkidoegojckmiaaGreatDoor
