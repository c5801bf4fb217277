/-
  DERIVED. GIVEN WITH THE SEED: THE CARDS: each row of YtjmpjmilndkgfaaGreatDoorRows.lean that lists a variable, with what it lists TIED to the program's text (the seventh form; the later family's looks); each row that meets fmt, with fmt's text TOLD by the authors' own Lean function (tested against real Go, not proved from fmt's source: count such statements apart). THE CARD IS WHAT COUNTS. Prove the row's statement (the work); the ties are given (YtjmpjmilndkgfaaGreatDoorTie.lean); close each card by the builder's one call (the guide's Derived/Test/ToyasCard.lean, 'card_holds'). Laid BY PROGRAM, IN A SANDBOX (cutbox-door.mjs). By AI agents, Wed Nov 11 2026. No macro, syntax, notation, axiom, sorry.
-/
import Derived.Test.YtjmpjmilndkgfaaGreatDoorRows
import GoSem.ClaimSeven
namespace Go.Proofs.YtjmpjmilndkgfaaGreatDoor
namespace Rows

/-- THE TIED CARD OF 'laws.FnExactTakeAnswer'. -/
def fnExactTakeAnswerCard : Claim7 := { stood := { row := fnExactTakeAnswerRow, standIns := [], harness := (true, "c8d5af2849648b2fbd6e480b057256fe23041d65985eedf49ec11b530b3a62ff"), looks := true }, kinds := [], alts := [], laidByText := true, laidKinds := [.data, .data, .data, .data, .sentinel, .sentinel, .pinned], laidTests := true, laidLooks := .later }
def FnExactTakeAnswerCardSaid : Prop := Claim7.holds Tryz.pinned (.plain (OpenSpec.ofChange fnExactTakeAnswerSpec)) fnExactTakeAnswerCard

/-- THE SECOND FORM's CARD OF 'laws.FnExactTakeAnswer'. -/
def fnExactTakeAnswerUptoCard : Claim7 := { stood := { row := fnExactTakeAnswerUptoRow, standIns := [], harness := (true, "c8d5af2849648b2fbd6e480b057256fe23041d65985eedf49ec11b530b3a62ff"), looks := true }, kinds := [], alts := [], laidByText := true, laidKinds := [.data, .data, .data, .data, .sentinel, .sentinel, .pinned], laidTests := true, laidLooks := .later }
def FnExactTakeAnswerUptoCardSaid : Prop := Claim7.holds Tryz.pinned (.plain (OpenSpec.upto fnExactTakeAnswerSpec)) fnExactTakeAnswerUptoCard
end Rows
end Go.Proofs.YtjmpjmilndkgfaaGreatDoor
