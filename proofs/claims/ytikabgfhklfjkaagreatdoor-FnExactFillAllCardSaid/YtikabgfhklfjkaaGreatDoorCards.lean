/-
  DERIVED. GIVEN WITH THE SEED: THE CARDS: each row of YtikabgfhklfjkaaGreatDoorRows.lean that lists a variable, with what it lists TIED to the program's text (the seventh form; the later family's looks); each row that meets fmt, with fmt's text TOLD by the authors' own Lean function (tested against real Go, not proved from fmt's source: count such statements apart). THE CARD IS WHAT COUNTS. Prove the row's statement (the work); the ties are given (YtikabgfhklfjkaaGreatDoorTie.lean); close each card by the builder's one call (the guide's Derived/Test/ToyasCard.lean, 'card_holds'). Laid BY PROGRAM, IN A SANDBOX (cutbox-door.mjs). By AI agents, Wed Nov 11 2026. No macro, syntax, notation, axiom, sorry.
-/
import Derived.Test.YtikabgfhklfjkaaGreatDoorRows
import GoSem.ClaimSeven
namespace Go.Proofs.YtikabgfhklfjkaaGreatDoor
namespace Rows

/-- THE TIED CARD OF 'laws.FnExactResultOf'. -/
def fnExactResultOfCard : Claim7 := { stood := { row := fnExactResultOfRow, standIns := [], harness := (true, "f30b5f92984920be41c9f71eea20535a572545b22b906cef73cb0037c0c9a629"), looks := true }, kinds := [], alts := [], laidByText := true, laidKinds := [.data, .data, .data, .data, .sentinel, .sentinel, .pinned], laidTests := true, laidLooks := .later }
def FnExactResultOfCardSaid : Prop := Claim7.holds Tryz.pinned (.plain (OpenSpec.ofChange fnExactResultOfSpec)) fnExactResultOfCard

/-- THE TIED CARD OF 'laws.FnExactNewPage'. -/
def fnExactNewPageCard : Claim7 := { stood := { row := fnExactNewPageRow, standIns := [], harness := (true, "f30b5f92984920be41c9f71eea20535a572545b22b906cef73cb0037c0c9a629"), looks := true }, kinds := [], alts := [], laidByText := true, laidKinds := [.data, .pinned], laidTests := true, laidLooks := .later }
def FnExactNewPageCardSaid : Prop := Claim7.holds Tryz.pinned (.plain (OpenSpec.ofChange fnExactNewPageSpec)) fnExactNewPageCard

/-- THE TIED CARD OF 'laws.FnExactFillSlot'. -/
def fnExactFillSlotCard : Claim7 := { stood := { row := fnExactFillSlotRow, standIns := [], harness := (true, "f30b5f92984920be41c9f71eea20535a572545b22b906cef73cb0037c0c9a629"), looks := true }, kinds := [], alts := [], laidByText := true, laidKinds := [.data, .data, .data, .data, .pinned], laidTests := true, laidLooks := .later }
def FnExactFillSlotCardSaid : Prop := Claim7.holds Tryz.pinned (.plain (OpenSpec.ofChange fnExactFillSlotSpec)) fnExactFillSlotCard

/-- THE TIED CARD OF 'laws.FnExactFillAll'. -/
def fnExactFillAllCard : Claim7 := { stood := { row := fnExactFillAllRow, standIns := [], harness := (true, "f30b5f92984920be41c9f71eea20535a572545b22b906cef73cb0037c0c9a629"), looks := true }, kinds := [], alts := [], laidByText := true, laidKinds := [.data, .data, .data, .data, .pinned], laidTests := true, laidLooks := .later }
def FnExactFillAllCardSaid : Prop := Claim7.holds Tryz.pinned (.plain (OpenSpec.ofChange fnExactFillAllSpec)) fnExactFillAllCard

/-- THE TIED CARD OF 'laws.FnExactRespondTo'. -/
def fnExactRespondToCard : Claim7 := { stood := { row := fnExactRespondToRow, standIns := [], harness := (true, "f30b5f92984920be41c9f71eea20535a572545b22b906cef73cb0037c0c9a629"), looks := true }, kinds := [], alts := [], laidByText := true, laidKinds := [.data, .pinned], laidTests := true, laidLooks := .later }
def FnExactRespondToCardSaid : Prop := Claim7.holds Tryz.pinned (.plain (OpenSpec.ofChange fnExactRespondToSpec)) fnExactRespondToCard

/-- THE TIED CARD OF 'laws.FnExactFillModule'. -/
def fnExactFillModuleCard : Claim7 := { stood := { row := fnExactFillModuleRow, standIns := [], harness := (true, "f30b5f92984920be41c9f71eea20535a572545b22b906cef73cb0037c0c9a629"), looks := true }, kinds := [], alts := [], laidByText := true, laidKinds := [.data, .data, .data, .data, .pinned], laidTests := true, laidLooks := .later }
def FnExactFillModuleCardSaid : Prop := Claim7.holds Tryz.pinned (.plain (OpenSpec.ofChange fnExactFillModuleSpec)) fnExactFillModuleCard

/-- THE TIED CARD OF 'laws.FnExactReachOf'. -/
def fnExactReachOfCard : Claim7 := { stood := { row := fnExactReachOfRow, standIns := [], harness := (true, "f30b5f92984920be41c9f71eea20535a572545b22b906cef73cb0037c0c9a629"), looks := true }, kinds := [], alts := [], laidByText := true, laidKinds := [.data, .pinned], laidTests := true, laidLooks := .later }
def FnExactReachOfCardSaid : Prop := Claim7.holds Tryz.pinned (.plain (OpenSpec.ofChange fnExactReachOfSpec)) fnExactReachOfCard

/-- THE TIED CARD OF 'laws.FnExactGraphReady'. -/
def fnExactGraphReadyCard : Claim7 := { stood := { row := fnExactGraphReadyRow, standIns := [], harness := (true, "f30b5f92984920be41c9f71eea20535a572545b22b906cef73cb0037c0c9a629"), looks := true }, kinds := [], alts := [], laidByText := true, laidKinds := [.data, .pinned], laidTests := true, laidLooks := .later }
def FnExactGraphReadyCardSaid : Prop := Claim7.holds Tryz.pinned (.plain (OpenSpec.ofChange fnExactGraphReadySpec)) fnExactGraphReadyCard

/-- THE TIED CARD OF 'laws.FnExactGraphFails'. -/
def fnExactGraphFailsCard : Claim7 := { stood := { row := fnExactGraphFailsRow, standIns := [], harness := (true, "f30b5f92984920be41c9f71eea20535a572545b22b906cef73cb0037c0c9a629"), looks := true }, kinds := [], alts := [], laidByText := true, laidKinds := [.data, .pinned], laidTests := true, laidLooks := .later }
def FnExactGraphFailsCardSaid : Prop := Claim7.holds Tryz.pinned (.plain (OpenSpec.ofChange fnExactGraphFailsSpec)) fnExactGraphFailsCard

/-- THE TIED CARD OF 'laws.FnExactRunCode'. -/
def fnExactRunCodeCard : Claim7 := { stood := { row := fnExactRunCodeRow, standIns := [], harness := (true, "f30b5f92984920be41c9f71eea20535a572545b22b906cef73cb0037c0c9a629"), looks := true }, kinds := [], alts := [], laidByText := true, laidKinds := [.data, .data, .data, .data, .sentinel, .sentinel, .pinned], laidTests := true, laidLooks := .later }
def FnExactRunCodeCardSaid : Prop := Claim7.holds Tryz.pinned (.plain (OpenSpec.ofChange fnExactRunCodeSpec)) fnExactRunCodeCard

/-- THE SECOND FORM's CARD OF 'laws.FnExactResultOf'. -/
def fnExactResultOfUptoCard : Claim7 := { stood := { row := fnExactResultOfUptoRow, standIns := [], harness := (true, "f30b5f92984920be41c9f71eea20535a572545b22b906cef73cb0037c0c9a629"), looks := true }, kinds := [], alts := [], laidByText := true, laidKinds := [.data, .data, .data, .data, .sentinel, .sentinel, .pinned], laidTests := true, laidLooks := .later }
def FnExactResultOfUptoCardSaid : Prop := Claim7.holds Tryz.pinned (.plain (OpenSpec.upto fnExactResultOfSpec)) fnExactResultOfUptoCard

/-- THE SECOND FORM's CARD OF 'laws.FnExactNewPage'. -/
def fnExactNewPageUptoCard : Claim7 := { stood := { row := fnExactNewPageUptoRow, standIns := [], harness := (true, "f30b5f92984920be41c9f71eea20535a572545b22b906cef73cb0037c0c9a629"), looks := true }, kinds := [], alts := [], laidByText := true, laidKinds := [.data, .pinned], laidTests := true, laidLooks := .later }
def FnExactNewPageUptoCardSaid : Prop := Claim7.holds Tryz.pinned (.plain (OpenSpec.upto fnExactNewPageSpec)) fnExactNewPageUptoCard

/-- THE SECOND FORM's CARD OF 'laws.FnExactFillSlot'. -/
def fnExactFillSlotUptoCard : Claim7 := { stood := { row := fnExactFillSlotUptoRow, standIns := [], harness := (true, "f30b5f92984920be41c9f71eea20535a572545b22b906cef73cb0037c0c9a629"), looks := true }, kinds := [], alts := [], laidByText := true, laidKinds := [.data, .data, .data, .data, .pinned], laidTests := true, laidLooks := .later }
def FnExactFillSlotUptoCardSaid : Prop := Claim7.holds Tryz.pinned (.plain (OpenSpec.upto fnExactFillSlotSpec)) fnExactFillSlotUptoCard

/-- THE SECOND FORM's CARD OF 'laws.FnExactFillAll'. -/
def fnExactFillAllUptoCard : Claim7 := { stood := { row := fnExactFillAllUptoRow, standIns := [], harness := (true, "f30b5f92984920be41c9f71eea20535a572545b22b906cef73cb0037c0c9a629"), looks := true }, kinds := [], alts := [], laidByText := true, laidKinds := [.data, .data, .data, .data, .pinned], laidTests := true, laidLooks := .later }
def FnExactFillAllUptoCardSaid : Prop := Claim7.holds Tryz.pinned (.plain (OpenSpec.upto fnExactFillAllSpec)) fnExactFillAllUptoCard

/-- THE SECOND FORM's CARD OF 'laws.FnExactRespondTo'. -/
def fnExactRespondToUptoCard : Claim7 := { stood := { row := fnExactRespondToUptoRow, standIns := [], harness := (true, "f30b5f92984920be41c9f71eea20535a572545b22b906cef73cb0037c0c9a629"), looks := true }, kinds := [], alts := [], laidByText := true, laidKinds := [.data, .pinned], laidTests := true, laidLooks := .later }
def FnExactRespondToUptoCardSaid : Prop := Claim7.holds Tryz.pinned (.plain (OpenSpec.upto fnExactRespondToSpec)) fnExactRespondToUptoCard

/-- THE SECOND FORM's CARD OF 'laws.FnExactFillModule'. -/
def fnExactFillModuleUptoCard : Claim7 := { stood := { row := fnExactFillModuleUptoRow, standIns := [], harness := (true, "f30b5f92984920be41c9f71eea20535a572545b22b906cef73cb0037c0c9a629"), looks := true }, kinds := [], alts := [], laidByText := true, laidKinds := [.data, .data, .data, .data, .pinned], laidTests := true, laidLooks := .later }
def FnExactFillModuleUptoCardSaid : Prop := Claim7.holds Tryz.pinned (.plain (OpenSpec.upto fnExactFillModuleSpec)) fnExactFillModuleUptoCard

/-- THE SECOND FORM's CARD OF 'laws.FnExactReachOf'. -/
def fnExactReachOfUptoCard : Claim7 := { stood := { row := fnExactReachOfUptoRow, standIns := [], harness := (true, "f30b5f92984920be41c9f71eea20535a572545b22b906cef73cb0037c0c9a629"), looks := true }, kinds := [], alts := [], laidByText := true, laidKinds := [.data, .pinned], laidTests := true, laidLooks := .later }
def FnExactReachOfUptoCardSaid : Prop := Claim7.holds Tryz.pinned (.plain (OpenSpec.upto fnExactReachOfSpec)) fnExactReachOfUptoCard

/-- THE SECOND FORM's CARD OF 'laws.FnExactGraphReady'. -/
def fnExactGraphReadyUptoCard : Claim7 := { stood := { row := fnExactGraphReadyUptoRow, standIns := [], harness := (true, "f30b5f92984920be41c9f71eea20535a572545b22b906cef73cb0037c0c9a629"), looks := true }, kinds := [], alts := [], laidByText := true, laidKinds := [.data, .pinned], laidTests := true, laidLooks := .later }
def FnExactGraphReadyUptoCardSaid : Prop := Claim7.holds Tryz.pinned (.plain (OpenSpec.upto fnExactGraphReadySpec)) fnExactGraphReadyUptoCard

/-- THE SECOND FORM's CARD OF 'laws.FnExactGraphFails'. -/
def fnExactGraphFailsUptoCard : Claim7 := { stood := { row := fnExactGraphFailsUptoRow, standIns := [], harness := (true, "f30b5f92984920be41c9f71eea20535a572545b22b906cef73cb0037c0c9a629"), looks := true }, kinds := [], alts := [], laidByText := true, laidKinds := [.data, .pinned], laidTests := true, laidLooks := .later }
def FnExactGraphFailsUptoCardSaid : Prop := Claim7.holds Tryz.pinned (.plain (OpenSpec.upto fnExactGraphFailsSpec)) fnExactGraphFailsUptoCard

/-- THE SECOND FORM's CARD OF 'laws.FnExactRunCode'. -/
def fnExactRunCodeUptoCard : Claim7 := { stood := { row := fnExactRunCodeUptoRow, standIns := [], harness := (true, "f30b5f92984920be41c9f71eea20535a572545b22b906cef73cb0037c0c9a629"), looks := true }, kinds := [], alts := [], laidByText := true, laidKinds := [.data, .data, .data, .data, .sentinel, .sentinel, .pinned], laidTests := true, laidLooks := .later }
def FnExactRunCodeUptoCardSaid : Prop := Claim7.holds Tryz.pinned (.plain (OpenSpec.upto fnExactRunCodeSpec)) fnExactRunCodeUptoCard
end Rows
end Go.Proofs.YtikabgfhklfjkaaGreatDoor
