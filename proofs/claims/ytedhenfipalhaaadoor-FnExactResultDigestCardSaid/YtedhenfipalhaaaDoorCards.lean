/-
  DERIVED. GIVEN WITH THE SEED: THE CARDS: each row of YtedhenfipalhaaaDoorRows.lean that lists a variable, with what it lists TIED to the program's text (the seventh form; the later family's looks); each row that meets fmt, with fmt's text TOLD by the authors' own Lean function (tested against real Go, not proved from fmt's source: count such statements apart). THE CARD IS WHAT COUNTS. Prove the row's statement (the work); the ties are given (YtedhenfipalhaaaDoorTie.lean); close each card by the builder's one call (the guide's Derived/Test/ToyasCard.lean, 'card_holds'). Laid BY PROGRAM, IN A SANDBOX (cutbox-door.mjs). By AI agents, Wed Nov 11 2026. No macro, syntax, notation, axiom, sorry.
-/
import Derived.Test.YtedhenfipalhaaaDoorRows
import GoSem.ClaimSeven
namespace Go.Proofs.YtedhenfipalhaaaDoor
namespace Rows

/-- THE TIED CARD OF 'laws.FnExactFormatTree'. -/
def fnExactFormatTreeCard : Claim7 := { stood := { row := fnExactFormatTreeRow, standIns := [], harness := (true, "77c4824c81dceef588427a8ee46c3d4ab4b8990bddb1d74598486f463e7b3799"), looks := false }, kinds := [], alts := [], laidByText := true, laidKinds := [.data, .data, .data], laidTests := true, laidLooks := .later }
def FnExactFormatTreeCardSaid : Prop := Claim7.holds Tryd.pinned (.plain (OpenSpec.ofChange fnExactFormatTreeSpec)) fnExactFormatTreeCard

/-- THE TIED CARD OF 'laws.FnExactParseModule'. -/
def fnExactParseModuleCard : Claim7 := { stood := { row := fnExactParseModuleRow, standIns := [], harness := (true, "77c4824c81dceef588427a8ee46c3d4ab4b8990bddb1d74598486f463e7b3799"), looks := false }, kinds := [], alts := [], laidByText := true, laidKinds := [.data, .pinned], laidTests := true, laidLooks := .later }
def FnExactParseModuleCardSaid : Prop := Claim7.holds Tryd.pinned (.plain (OpenSpec.ofChange fnExactParseModuleSpec)) fnExactParseModuleCard

/-- THE TIED CARD OF 'laws.FnExactScanText'. -/
def fnExactScanTextCard : Claim7 := { stood := { row := fnExactScanTextRow, standIns := [], harness := (true, "77c4824c81dceef588427a8ee46c3d4ab4b8990bddb1d74598486f463e7b3799"), looks := false }, kinds := [], alts := [], laidByText := true, laidKinds := [.data, .pinned], laidTests := true, laidLooks := .later }
def FnExactScanTextCardSaid : Prop := Claim7.holds Tryd.pinned (.plain (OpenSpec.ofChange fnExactScanTextSpec)) fnExactScanTextCard

/-- THE TIED CARD OF 'laws.FnExactResultDigest'. -/
def fnExactResultDigestCard : Claim7 := { stood := { row := fnExactResultDigestRow, standIns := [], harness := (true, "77c4824c81dceef588427a8ee46c3d4ab4b8990bddb1d74598486f463e7b3799"), looks := false }, kinds := [], alts := [], laidByText := true, laidKinds := [.data, .data, .data], laidTests := true, laidLooks := .later }
def FnExactResultDigestCardSaid : Prop := Claim7.holds Tryd.pinned (.plain (OpenSpec.ofChange fnExactResultDigestSpec)) fnExactResultDigestCard

/-- THE SECOND FORM's CARD OF 'laws.FnExactFormatTree'. -/
def fnExactFormatTreeUptoCard : Claim7 := { stood := { row := fnExactFormatTreeUptoRow, standIns := [], harness := (true, "77c4824c81dceef588427a8ee46c3d4ab4b8990bddb1d74598486f463e7b3799"), looks := false }, kinds := [], alts := [], laidByText := true, laidKinds := [.data, .data, .data], laidTests := true, laidLooks := .later }
def FnExactFormatTreeUptoCardSaid : Prop := Claim7.holds Tryd.pinned (.plain (OpenSpec.upto fnExactFormatTreeSpec)) fnExactFormatTreeUptoCard

/-- THE SECOND FORM's CARD OF 'laws.FnExactParseModule'. -/
def fnExactParseModuleUptoCard : Claim7 := { stood := { row := fnExactParseModuleUptoRow, standIns := [], harness := (true, "77c4824c81dceef588427a8ee46c3d4ab4b8990bddb1d74598486f463e7b3799"), looks := false }, kinds := [], alts := [], laidByText := true, laidKinds := [.data, .pinned], laidTests := true, laidLooks := .later }
def FnExactParseModuleUptoCardSaid : Prop := Claim7.holds Tryd.pinned (.plain (OpenSpec.upto fnExactParseModuleSpec)) fnExactParseModuleUptoCard

/-- THE SECOND FORM's CARD OF 'laws.FnExactScanText'. -/
def fnExactScanTextUptoCard : Claim7 := { stood := { row := fnExactScanTextUptoRow, standIns := [], harness := (true, "77c4824c81dceef588427a8ee46c3d4ab4b8990bddb1d74598486f463e7b3799"), looks := false }, kinds := [], alts := [], laidByText := true, laidKinds := [.data, .pinned], laidTests := true, laidLooks := .later }
def FnExactScanTextUptoCardSaid : Prop := Claim7.holds Tryd.pinned (.plain (OpenSpec.upto fnExactScanTextSpec)) fnExactScanTextUptoCard

/-- THE SECOND FORM's CARD OF 'laws.FnExactResultDigest'. -/
def fnExactResultDigestUptoCard : Claim7 := { stood := { row := fnExactResultDigestUptoRow, standIns := [], harness := (true, "77c4824c81dceef588427a8ee46c3d4ab4b8990bddb1d74598486f463e7b3799"), looks := false }, kinds := [], alts := [], laidByText := true, laidKinds := [.data, .data, .data], laidTests := true, laidLooks := .later }
def FnExactResultDigestUptoCardSaid : Prop := Claim7.holds Tryd.pinned (.plain (OpenSpec.upto fnExactResultDigestSpec)) fnExactResultDigestUptoCard
end Rows
end Go.Proofs.YtedhenfipalhaaaDoor
