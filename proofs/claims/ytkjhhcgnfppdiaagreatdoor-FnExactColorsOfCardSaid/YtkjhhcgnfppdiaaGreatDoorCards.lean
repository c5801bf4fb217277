/-
  DERIVED. GIVEN WITH THE SEED: THE CARDS: each row of YtkjhhcgnfppdiaaGreatDoorRows.lean that lists a variable, with what it lists TIED to the program's text (the seventh form; the later family's looks); each row that meets fmt, with fmt's text TOLD by the authors' own Lean function (tested against real Go, not proved from fmt's source: count such statements apart). THE CARD IS WHAT COUNTS. Prove the row's statement (the work); the ties are given (YtkjhhcgnfppdiaaGreatDoorTie.lean); close each card by the builder's one call (the guide's Derived/Test/ToyasCard.lean, 'card_holds'). Laid BY PROGRAM, IN A SANDBOX (cutbox-door.mjs). By AI agents, Wed Nov 11 2026. No macro, syntax, notation, axiom, sorry.
-/
import Derived.Test.YtkjhhcgnfppdiaaGreatDoorRows
import GoSem.ClaimSeven
namespace Go.Proofs.YtkjhhcgnfppdiaaGreatDoor
namespace Rows

/-- THE TIED CARD OF 'laws.FnExactNewPage'. -/
def fnExactNewPageCard : Claim7 := { stood := { row := fnExactNewPageRow, standIns := [], harness := (true, "3c6da04ad9eac5a5e3d12a135e7db90db7ce4888012698904c1143750fe46d21"), looks := true }, kinds := [], alts := [], laidByText := true, laidKinds := [.data, .pinned], laidTests := true, laidLooks := .later }
def FnExactNewPageCardSaid : Prop := Claim7.holds Tryz.pinned (.plain (OpenSpec.ofChange fnExactNewPageSpec)) fnExactNewPageCard

/-- THE TIED CARD OF 'laws.FnExactArriveText'. -/
def fnExactArriveTextCard : Claim7 := { stood := { row := fnExactArriveTextRow, standIns := [], harness := (true, "3c6da04ad9eac5a5e3d12a135e7db90db7ce4888012698904c1143750fe46d21"), looks := true }, kinds := [], alts := [], laidByText := true, laidKinds := [.data, .pinned], laidTests := true, laidLooks := .later }
def FnExactArriveTextCardSaid : Prop := Claim7.holds Tryz.pinned (.plain (OpenSpec.ofChange fnExactArriveTextSpec)) fnExactArriveTextCard

/-- THE TIED CARD OF 'laws.FnExactSheetsOf'. -/
def fnExactSheetsOfCard : Claim7 := { stood := { row := fnExactSheetsOfRow, standIns := [], harness := (true, "3c6da04ad9eac5a5e3d12a135e7db90db7ce4888012698904c1143750fe46d21"), looks := true }, kinds := [], alts := [], laidByText := true, laidKinds := [.data, .data, .data, .data, .sentinel, .sentinel, .pinned], laidTests := true, laidLooks := .later }
def FnExactSheetsOfCardSaid : Prop := Claim7.holds Tryz.pinned (.plain (OpenSpec.ofChange fnExactSheetsOfSpec)) fnExactSheetsOfCard

/-- THE TIED CARD OF 'laws.FnExactFillSlot'. -/
def fnExactFillSlotCard : Claim7 := { stood := { row := fnExactFillSlotRow, standIns := [], harness := (true, "3c6da04ad9eac5a5e3d12a135e7db90db7ce4888012698904c1143750fe46d21"), looks := true }, kinds := [], alts := [], laidByText := true, laidKinds := [.data, .data, .data, .data, .pinned], laidTests := true, laidLooks := .later }
def FnExactFillSlotCardSaid : Prop := Claim7.holds Tryz.pinned (.plain (OpenSpec.ofChange fnExactFillSlotSpec)) fnExactFillSlotCard

/-- THE TIED CARD OF 'laws.FnExactFillAll'. -/
def fnExactFillAllCard : Claim7 := { stood := { row := fnExactFillAllRow, standIns := [], harness := (true, "3c6da04ad9eac5a5e3d12a135e7db90db7ce4888012698904c1143750fe46d21"), looks := true }, kinds := [], alts := [], laidByText := true, laidKinds := [.data, .data, .data, .data, .pinned], laidTests := true, laidLooks := .later }
def FnExactFillAllCardSaid : Prop := Claim7.holds Tryz.pinned (.plain (OpenSpec.ofChange fnExactFillAllSpec)) fnExactFillAllCard

/-- THE TIED CARD OF 'laws.FnExactColorsOf'. -/
def fnExactColorsOfCard : Claim7 := { stood := { row := fnExactColorsOfRow, standIns := [], harness := (true, "3c6da04ad9eac5a5e3d12a135e7db90db7ce4888012698904c1143750fe46d21"), looks := true }, kinds := [], alts := [], laidByText := true, laidKinds := [.data, .data, .data, .data, .sentinel, .sentinel, .pinned], laidTests := true, laidLooks := .later }
def FnExactColorsOfCardSaid : Prop := Claim7.holds Tryz.pinned (.plain (OpenSpec.ofChange fnExactColorsOfSpec)) fnExactColorsOfCard

/-- THE SECOND FORM's CARD OF 'laws.FnExactNewPage'. -/
def fnExactNewPageUptoCard : Claim7 := { stood := { row := fnExactNewPageUptoRow, standIns := [], harness := (true, "3c6da04ad9eac5a5e3d12a135e7db90db7ce4888012698904c1143750fe46d21"), looks := true }, kinds := [], alts := [], laidByText := true, laidKinds := [.data, .pinned], laidTests := true, laidLooks := .later }
def FnExactNewPageUptoCardSaid : Prop := Claim7.holds Tryz.pinned (.plain (OpenSpec.upto fnExactNewPageSpec)) fnExactNewPageUptoCard

/-- THE SECOND FORM's CARD OF 'laws.FnExactArriveText'. -/
def fnExactArriveTextUptoCard : Claim7 := { stood := { row := fnExactArriveTextUptoRow, standIns := [], harness := (true, "3c6da04ad9eac5a5e3d12a135e7db90db7ce4888012698904c1143750fe46d21"), looks := true }, kinds := [], alts := [], laidByText := true, laidKinds := [.data, .pinned], laidTests := true, laidLooks := .later }
def FnExactArriveTextUptoCardSaid : Prop := Claim7.holds Tryz.pinned (.plain (OpenSpec.upto fnExactArriveTextSpec)) fnExactArriveTextUptoCard

/-- THE SECOND FORM's CARD OF 'laws.FnExactSheetsOf'. -/
def fnExactSheetsOfUptoCard : Claim7 := { stood := { row := fnExactSheetsOfUptoRow, standIns := [], harness := (true, "3c6da04ad9eac5a5e3d12a135e7db90db7ce4888012698904c1143750fe46d21"), looks := true }, kinds := [], alts := [], laidByText := true, laidKinds := [.data, .data, .data, .data, .sentinel, .sentinel, .pinned], laidTests := true, laidLooks := .later }
def FnExactSheetsOfUptoCardSaid : Prop := Claim7.holds Tryz.pinned (.plain (OpenSpec.upto fnExactSheetsOfSpec)) fnExactSheetsOfUptoCard

/-- THE SECOND FORM's CARD OF 'laws.FnExactFillSlot'. -/
def fnExactFillSlotUptoCard : Claim7 := { stood := { row := fnExactFillSlotUptoRow, standIns := [], harness := (true, "3c6da04ad9eac5a5e3d12a135e7db90db7ce4888012698904c1143750fe46d21"), looks := true }, kinds := [], alts := [], laidByText := true, laidKinds := [.data, .data, .data, .data, .pinned], laidTests := true, laidLooks := .later }
def FnExactFillSlotUptoCardSaid : Prop := Claim7.holds Tryz.pinned (.plain (OpenSpec.upto fnExactFillSlotSpec)) fnExactFillSlotUptoCard

/-- THE SECOND FORM's CARD OF 'laws.FnExactFillAll'. -/
def fnExactFillAllUptoCard : Claim7 := { stood := { row := fnExactFillAllUptoRow, standIns := [], harness := (true, "3c6da04ad9eac5a5e3d12a135e7db90db7ce4888012698904c1143750fe46d21"), looks := true }, kinds := [], alts := [], laidByText := true, laidKinds := [.data, .data, .data, .data, .pinned], laidTests := true, laidLooks := .later }
def FnExactFillAllUptoCardSaid : Prop := Claim7.holds Tryz.pinned (.plain (OpenSpec.upto fnExactFillAllSpec)) fnExactFillAllUptoCard

/-- THE SECOND FORM's CARD OF 'laws.FnExactColorsOf'. -/
def fnExactColorsOfUptoCard : Claim7 := { stood := { row := fnExactColorsOfUptoRow, standIns := [], harness := (true, "3c6da04ad9eac5a5e3d12a135e7db90db7ce4888012698904c1143750fe46d21"), looks := true }, kinds := [], alts := [], laidByText := true, laidKinds := [.data, .data, .data, .data, .sentinel, .sentinel, .pinned], laidTests := true, laidLooks := .later }
def FnExactColorsOfUptoCardSaid : Prop := Claim7.holds Tryz.pinned (.plain (OpenSpec.upto fnExactColorsOfSpec)) fnExactColorsOfUptoCard
end Rows
end Go.Proofs.YtkjhhcgnfppdiaaGreatDoor
