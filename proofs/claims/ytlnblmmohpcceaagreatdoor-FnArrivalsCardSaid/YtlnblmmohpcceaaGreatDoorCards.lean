/-
  DERIVED. GIVEN WITH THE SEED: THE CARDS: each row of YtlnblmmohpcceaaGreatDoorRows.lean that lists a variable, with what it lists TIED to the program's text (the seventh form; the later family's looks); each row that meets fmt, with fmt's text TOLD by the authors' own Lean function (tested against real Go, not proved from fmt's source: count such statements apart). THE CARD IS WHAT COUNTS. Prove the row's statement (the work); the ties are given (YtlnblmmohpcceaaGreatDoorTie.lean); close each card by the builder's one call (the guide's Derived/Test/ToyasCard.lean, 'card_holds'). Laid BY PROGRAM, IN A SANDBOX (cutbox-door.mjs). By AI agents, Wed Nov 11 2026. No macro, syntax, notation, axiom, sorry.
-/
import Derived.Test.YtlnblmmohpcceaaGreatDoorRows
import GoSem.ClaimSeven
namespace Go.Proofs.YtlnblmmohpcceaaGreatDoor
namespace Rows

/-- THE TIED CARD OF 'laws.FnArrivals'. -/
def fnArrivalsCard : Claim7 := { stood := { row := fnArrivalsRow, standIns := [], harness := (true, "a1f6a3d342fad8f85eb0db9236c373f42958f96b44d8bf5db6c98af6e6833958"), looks := true }, kinds := [], alts := [], laidByText := true, laidKinds := [.data, .pinned], laidTests := true, laidLooks := .later }
def FnArrivalsCardSaid : Prop := Claim7.holds Tryz.pinned (.plain (OpenSpec.ofChange fnArrivalsSpec)) fnArrivalsCard

/-- THE TIED CARD OF 'laws.FnExactStepTail'. -/
def fnExactStepTailCard : Claim7 := { stood := { row := fnExactStepTailRow, standIns := [], harness := (true, "a1f6a3d342fad8f85eb0db9236c373f42958f96b44d8bf5db6c98af6e6833958"), looks := true }, kinds := [], alts := [], laidByText := true, laidKinds := [.data, .data, .data, .data, .sentinel, .sentinel, .pinned], laidTests := true, laidLooks := .later }
def FnExactStepTailCardSaid : Prop := Claim7.holds Tryz.pinned (.plain (OpenSpec.ofChange fnExactStepTailSpec)) fnExactStepTailCard

/-- THE TIED CARD OF 'laws.FnExactStepParser'. -/
def fnExactStepParserCard : Claim7 := { stood := { row := fnExactStepParserRow, standIns := [], harness := (true, "a1f6a3d342fad8f85eb0db9236c373f42958f96b44d8bf5db6c98af6e6833958"), looks := true }, kinds := [], alts := [], laidByText := true, laidKinds := [.data, .data, .data, .data, .sentinel, .sentinel, .pinned], laidTests := true, laidLooks := .later }
def FnExactStepParserCardSaid : Prop := Claim7.holds Tryz.pinned (.plain (OpenSpec.ofChange fnExactStepParserSpec)) fnExactStepParserCard

/-- THE TIED CARD OF 'laws.FnExactAdvance'. -/
def fnExactAdvanceCard : Claim7 := { stood := { row := fnExactAdvanceRow, standIns := [], harness := (true, "a1f6a3d342fad8f85eb0db9236c373f42958f96b44d8bf5db6c98af6e6833958"), looks := true }, kinds := [], alts := [], laidByText := true, laidKinds := [.data, .data, .data, .data, .sentinel, .sentinel, .pinned], laidTests := true, laidLooks := .later }
def FnExactAdvanceCardSaid : Prop := Claim7.holds Tryz.pinned (.plain (OpenSpec.ofChange fnExactAdvanceSpec)) fnExactAdvanceCard

/-- THE SECOND FORM's CARD OF 'laws.FnArrivals'. -/
def fnArrivalsUptoCard : Claim7 := { stood := { row := fnArrivalsUptoRow, standIns := [], harness := (true, "a1f6a3d342fad8f85eb0db9236c373f42958f96b44d8bf5db6c98af6e6833958"), looks := true }, kinds := [], alts := [], laidByText := true, laidKinds := [.data, .pinned], laidTests := true, laidLooks := .later }
def FnArrivalsUptoCardSaid : Prop := Claim7.holds Tryz.pinned (.plain (OpenSpec.upto fnArrivalsSpec)) fnArrivalsUptoCard

/-- THE SECOND FORM's CARD OF 'laws.FnExactStepTail'. -/
def fnExactStepTailUptoCard : Claim7 := { stood := { row := fnExactStepTailUptoRow, standIns := [], harness := (true, "a1f6a3d342fad8f85eb0db9236c373f42958f96b44d8bf5db6c98af6e6833958"), looks := true }, kinds := [], alts := [], laidByText := true, laidKinds := [.data, .data, .data, .data, .sentinel, .sentinel, .pinned], laidTests := true, laidLooks := .later }
def FnExactStepTailUptoCardSaid : Prop := Claim7.holds Tryz.pinned (.plain (OpenSpec.upto fnExactStepTailSpec)) fnExactStepTailUptoCard

/-- THE SECOND FORM's CARD OF 'laws.FnExactStepParser'. -/
def fnExactStepParserUptoCard : Claim7 := { stood := { row := fnExactStepParserUptoRow, standIns := [], harness := (true, "a1f6a3d342fad8f85eb0db9236c373f42958f96b44d8bf5db6c98af6e6833958"), looks := true }, kinds := [], alts := [], laidByText := true, laidKinds := [.data, .data, .data, .data, .sentinel, .sentinel, .pinned], laidTests := true, laidLooks := .later }
def FnExactStepParserUptoCardSaid : Prop := Claim7.holds Tryz.pinned (.plain (OpenSpec.upto fnExactStepParserSpec)) fnExactStepParserUptoCard

/-- THE SECOND FORM's CARD OF 'laws.FnExactAdvance'. -/
def fnExactAdvanceUptoCard : Claim7 := { stood := { row := fnExactAdvanceUptoRow, standIns := [], harness := (true, "a1f6a3d342fad8f85eb0db9236c373f42958f96b44d8bf5db6c98af6e6833958"), looks := true }, kinds := [], alts := [], laidByText := true, laidKinds := [.data, .data, .data, .data, .sentinel, .sentinel, .pinned], laidTests := true, laidLooks := .later }
def FnExactAdvanceUptoCardSaid : Prop := Claim7.holds Tryz.pinned (.plain (OpenSpec.upto fnExactAdvanceSpec)) fnExactAdvanceUptoCard
end Rows
end Go.Proofs.YtlnblmmohpcceaaGreatDoor
