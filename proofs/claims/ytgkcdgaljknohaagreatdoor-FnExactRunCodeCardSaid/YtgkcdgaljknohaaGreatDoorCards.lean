/-
  DERIVED. GIVEN WITH THE SEED: THE CARDS: each row of YtgkcdgaljknohaaGreatDoorRows.lean that lists a variable, with what it lists TIED to the program's text (the seventh form; the later family's looks); each row that meets fmt, with fmt's text TOLD by the authors' own Lean function (tested against real Go, not proved from fmt's source: count such statements apart). THE CARD IS WHAT COUNTS. Prove the row's statement (the work); the ties are given (YtgkcdgaljknohaaGreatDoorTie.lean); close each card by the builder's one call (the guide's Derived/Test/ToyasCard.lean, 'card_holds'). Laid BY PROGRAM, IN A SANDBOX (cutbox-door.mjs). By AI agents, Wed Nov 11 2026. No macro, syntax, notation, axiom, sorry.
-/
import Derived.Test.YtgkcdgaljknohaaGreatDoorRows
import GoSem.ClaimSeven
namespace Go.Proofs.YtgkcdgaljknohaaGreatDoor
namespace Rows

/-- THE TIED CARD OF 'laws.FnExactRunCode'. -/
def fnExactRunCodeCard : Claim7 := { stood := { row := fnExactRunCodeRow, standIns := [], harness := (true, "d881a30ec8b8c5728ec801b600c5c6b7ae10eb3992a446715b80fdb451f03623"), looks := true }, kinds := [], alts := [], laidByText := true, laidKinds := [.data, .data, .data, .data, .sentinel, .sentinel, .pinned], laidTests := true, laidLooks := .later }
def FnExactRunCodeCardSaid : Prop := Claim7.holds Tryz.pinned (.plain (OpenSpec.ofChange fnExactRunCodeSpec)) fnExactRunCodeCard

/-- THE TIED CARD OF 'laws.FnExactStepParser'. -/
def fnExactStepParserCard : Claim7 := { stood := { row := fnExactStepParserRow, standIns := [], harness := (true, "d881a30ec8b8c5728ec801b600c5c6b7ae10eb3992a446715b80fdb451f03623"), looks := true }, kinds := [], alts := [], laidByText := true, laidKinds := [.data, .data, .data, .data, .sentinel, .sentinel, .pinned], laidTests := true, laidLooks := .later }
def FnExactStepParserCardSaid : Prop := Claim7.holds Tryz.pinned (.plain (OpenSpec.ofChange fnExactStepParserSpec)) fnExactStepParserCard

/-- THE TIED CARD OF 'laws.FnExactStepTail'. -/
def fnExactStepTailCard : Claim7 := { stood := { row := fnExactStepTailRow, standIns := [], harness := (true, "d881a30ec8b8c5728ec801b600c5c6b7ae10eb3992a446715b80fdb451f03623"), looks := true }, kinds := [], alts := [], laidByText := true, laidKinds := [.data, .data, .data, .data, .sentinel, .sentinel, .pinned], laidTests := true, laidLooks := .later }
def FnExactStepTailCardSaid : Prop := Claim7.holds Tryz.pinned (.plain (OpenSpec.ofChange fnExactStepTailSpec)) fnExactStepTailCard

/-- THE TIED CARD OF 'laws.FnExactAdvance'. -/
def fnExactAdvanceCard : Claim7 := { stood := { row := fnExactAdvanceRow, standIns := [], harness := (true, "d881a30ec8b8c5728ec801b600c5c6b7ae10eb3992a446715b80fdb451f03623"), looks := true }, kinds := [], alts := [], laidByText := true, laidKinds := [.data, .data, .data, .data, .sentinel, .sentinel, .pinned], laidTests := true, laidLooks := .later }
def FnExactAdvanceCardSaid : Prop := Claim7.holds Tryz.pinned (.plain (OpenSpec.ofChange fnExactAdvanceSpec)) fnExactAdvanceCard

/-- THE TIED CARD OF 'laws.FnExactTakeAnswer'. -/
def fnExactTakeAnswerCard : Claim7 := { stood := { row := fnExactTakeAnswerRow, standIns := [], harness := (true, "d881a30ec8b8c5728ec801b600c5c6b7ae10eb3992a446715b80fdb451f03623"), looks := true }, kinds := [], alts := [], laidByText := true, laidKinds := [.data, .data, .data, .data, .sentinel, .sentinel, .pinned], laidTests := true, laidLooks := .later }
def FnExactTakeAnswerCardSaid : Prop := Claim7.holds Tryz.pinned (.plain (OpenSpec.ofChange fnExactTakeAnswerSpec)) fnExactTakeAnswerCard

/-- THE SECOND FORM's CARD OF 'laws.FnExactRunCode'. -/
def fnExactRunCodeUptoCard : Claim7 := { stood := { row := fnExactRunCodeUptoRow, standIns := [], harness := (true, "d881a30ec8b8c5728ec801b600c5c6b7ae10eb3992a446715b80fdb451f03623"), looks := true }, kinds := [], alts := [], laidByText := true, laidKinds := [.data, .data, .data, .data, .sentinel, .sentinel, .pinned], laidTests := true, laidLooks := .later }
def FnExactRunCodeUptoCardSaid : Prop := Claim7.holds Tryz.pinned (.plain (OpenSpec.upto fnExactRunCodeSpec)) fnExactRunCodeUptoCard

/-- THE SECOND FORM's CARD OF 'laws.FnExactStepParser'. -/
def fnExactStepParserUptoCard : Claim7 := { stood := { row := fnExactStepParserUptoRow, standIns := [], harness := (true, "d881a30ec8b8c5728ec801b600c5c6b7ae10eb3992a446715b80fdb451f03623"), looks := true }, kinds := [], alts := [], laidByText := true, laidKinds := [.data, .data, .data, .data, .sentinel, .sentinel, .pinned], laidTests := true, laidLooks := .later }
def FnExactStepParserUptoCardSaid : Prop := Claim7.holds Tryz.pinned (.plain (OpenSpec.upto fnExactStepParserSpec)) fnExactStepParserUptoCard

/-- THE SECOND FORM's CARD OF 'laws.FnExactStepTail'. -/
def fnExactStepTailUptoCard : Claim7 := { stood := { row := fnExactStepTailUptoRow, standIns := [], harness := (true, "d881a30ec8b8c5728ec801b600c5c6b7ae10eb3992a446715b80fdb451f03623"), looks := true }, kinds := [], alts := [], laidByText := true, laidKinds := [.data, .data, .data, .data, .sentinel, .sentinel, .pinned], laidTests := true, laidLooks := .later }
def FnExactStepTailUptoCardSaid : Prop := Claim7.holds Tryz.pinned (.plain (OpenSpec.upto fnExactStepTailSpec)) fnExactStepTailUptoCard

/-- THE SECOND FORM's CARD OF 'laws.FnExactAdvance'. -/
def fnExactAdvanceUptoCard : Claim7 := { stood := { row := fnExactAdvanceUptoRow, standIns := [], harness := (true, "d881a30ec8b8c5728ec801b600c5c6b7ae10eb3992a446715b80fdb451f03623"), looks := true }, kinds := [], alts := [], laidByText := true, laidKinds := [.data, .data, .data, .data, .sentinel, .sentinel, .pinned], laidTests := true, laidLooks := .later }
def FnExactAdvanceUptoCardSaid : Prop := Claim7.holds Tryz.pinned (.plain (OpenSpec.upto fnExactAdvanceSpec)) fnExactAdvanceUptoCard

/-- THE SECOND FORM's CARD OF 'laws.FnExactTakeAnswer'. -/
def fnExactTakeAnswerUptoCard : Claim7 := { stood := { row := fnExactTakeAnswerUptoRow, standIns := [], harness := (true, "d881a30ec8b8c5728ec801b600c5c6b7ae10eb3992a446715b80fdb451f03623"), looks := true }, kinds := [], alts := [], laidByText := true, laidKinds := [.data, .data, .data, .data, .sentinel, .sentinel, .pinned], laidTests := true, laidLooks := .later }
def FnExactTakeAnswerUptoCardSaid : Prop := Claim7.holds Tryz.pinned (.plain (OpenSpec.upto fnExactTakeAnswerSpec)) fnExactTakeAnswerUptoCard
end Rows
end Go.Proofs.YtgkcdgaljknohaaGreatDoor
