/-
  DERIVED. GIVEN WITH THE SEED: THE CARDS: each row of YtkjhhcgnfppdiaaDoorRows.lean that lists a variable, with what it lists TIED to the program's text (the seventh form; the later family's looks); each row that meets fmt, with fmt's text TOLD by the authors' own Lean function (tested against real Go, not proved from fmt's source: count such statements apart). THE CARD IS WHAT COUNTS. Prove the row's statement (the work); the ties are given (YtkjhhcgnfppdiaaDoorTie.lean); close each card by the builder's one call (the guide's Derived/Test/ToyasCard.lean, 'card_holds'). Laid BY PROGRAM, IN A SANDBOX (cutbox-door.mjs). By AI agents, Wed Nov 11 2026. No macro, syntax, notation, axiom, sorry.
-/
import Derived.Test.YtkjhhcgnfppdiaaDoorRows
import GoSem.ClaimSeven
namespace Go.Proofs.YtkjhhcgnfppdiaaDoor
namespace Rows

/-- THE TIED CARD OF 'laws.FnExactParseModule'. -/
def fnExactParseModuleCard : Claim7 := { stood := { row := fnExactParseModuleRow, standIns := [], harness := (true, "d49a790918126b8b61768cc83ea2964b8757f592c5f5812da8bd2d371993bae4"), looks := false }, kinds := [], alts := [], laidByText := true, laidKinds := [.data, .pinned], laidTests := true, laidLooks := .later }
def FnExactParseModuleCardSaid : Prop := Claim7.holds Tryd.pinned (.plain (OpenSpec.ofChange fnExactParseModuleSpec)) fnExactParseModuleCard

/-- THE TIED CARD OF 'laws.FnExactScanText'. -/
def fnExactScanTextCard : Claim7 := { stood := { row := fnExactScanTextRow, standIns := [], harness := (true, "d49a790918126b8b61768cc83ea2964b8757f592c5f5812da8bd2d371993bae4"), looks := false }, kinds := [], alts := [], laidByText := true, laidKinds := [.data, .pinned], laidTests := true, laidLooks := .later }
def FnExactScanTextCardSaid : Prop := Claim7.holds Tryd.pinned (.plain (OpenSpec.ofChange fnExactScanTextSpec)) fnExactScanTextCard

/-- THE SECOND FORM's CARD OF 'laws.FnExactParseModule'. -/
def fnExactParseModuleUptoCard : Claim7 := { stood := { row := fnExactParseModuleUptoRow, standIns := [], harness := (true, "d49a790918126b8b61768cc83ea2964b8757f592c5f5812da8bd2d371993bae4"), looks := false }, kinds := [], alts := [], laidByText := true, laidKinds := [.data, .pinned], laidTests := true, laidLooks := .later }
def FnExactParseModuleUptoCardSaid : Prop := Claim7.holds Tryd.pinned (.plain (OpenSpec.upto fnExactParseModuleSpec)) fnExactParseModuleUptoCard

/-- THE SECOND FORM's CARD OF 'laws.FnExactScanText'. -/
def fnExactScanTextUptoCard : Claim7 := { stood := { row := fnExactScanTextUptoRow, standIns := [], harness := (true, "d49a790918126b8b61768cc83ea2964b8757f592c5f5812da8bd2d371993bae4"), looks := false }, kinds := [], alts := [], laidByText := true, laidKinds := [.data, .pinned], laidTests := true, laidLooks := .later }
def FnExactScanTextUptoCardSaid : Prop := Claim7.holds Tryd.pinned (.plain (OpenSpec.upto fnExactScanTextSpec)) fnExactScanTextUptoCard
end Rows
end Go.Proofs.YtkjhhcgnfppdiaaDoor
