/-
  DERIVED. GIVEN WITH THE SEED: THE CARDS: each row of YtfbefblglejcaaaGreatDoorRows.lean that lists a variable, with what it lists TIED to the program's text (the seventh form; the later family's looks); each row that meets fmt, with fmt's text TOLD by the authors' own Lean function (tested against real Go, not proved from fmt's source: count such statements apart). THE CARD IS WHAT COUNTS. Prove the row's statement (the work); the ties are given (YtfbefblglejcaaaGreatDoorTie.lean); close each card by the builder's one call (the guide's Derived/Test/ToyasCard.lean, 'card_holds'). Laid BY PROGRAM, IN A SANDBOX (cutbox-door.mjs). By AI agents, Wed Nov 11 2026. No macro, syntax, notation, axiom, sorry.
-/
import Derived.Test.YtfbefblglejcaaaGreatDoorRows
import GoSem.ClaimSeven
namespace Go.Proofs.YtfbefblglejcaaaGreatDoor
namespace Rows

/-- THE TIED CARD OF 'laws.FnExactPlainLog'. -/
def fnExactPlainLogCard : Claim7 := { stood := { row := fnExactPlainLogRow, standIns := [], harness := (true, "bb5abf7593932a3285f756822d454e9d8e2f3a5d43e0302d1ea8e4b5f9d651ee"), looks := true }, kinds := [], alts := [], laidByText := true, laidKinds := [.data, .data, .data, .data, .sentinel, .sentinel, .pinned], laidTests := true, laidLooks := .later }
def FnExactPlainLogCardSaid : Prop := Claim7.holds Tryz.pinned (.plain (OpenSpec.ofChange fnExactPlainLogSpec)) fnExactPlainLogCard

/-- THE SECOND FORM's CARD OF 'laws.FnExactPlainLog'. -/
def fnExactPlainLogUptoCard : Claim7 := { stood := { row := fnExactPlainLogUptoRow, standIns := [], harness := (true, "bb5abf7593932a3285f756822d454e9d8e2f3a5d43e0302d1ea8e4b5f9d651ee"), looks := true }, kinds := [], alts := [], laidByText := true, laidKinds := [.data, .data, .data, .data, .sentinel, .sentinel, .pinned], laidTests := true, laidLooks := .later }
def FnExactPlainLogUptoCardSaid : Prop := Claim7.holds Tryz.pinned (.plain (OpenSpec.upto fnExactPlainLogSpec)) fnExactPlainLogUptoCard
end Rows
end Go.Proofs.YtfbefblglejcaaaGreatDoor
