/-
  DERIVED. GIVEN WITH THE SEED: THE CARDS: each row of YtphofanfadgalaaGreatDoorRows.lean that lists a variable, with what it lists TIED to the program's text (the seventh form; the later family's looks); each row that meets fmt, with fmt's text TOLD by the authors' own Lean function (tested against real Go, not proved from fmt's source: count such statements apart). THE CARD IS WHAT COUNTS. Prove the row's statement (the work); the ties are given (YtphofanfadgalaaGreatDoorTie.lean); close each card by the builder's one call (the guide's Derived/Test/ToyasCard.lean, 'card_holds'). Laid BY PROGRAM, IN A SANDBOX (cutbox-door.mjs). By AI agents, Wed Nov 11 2026. No macro, syntax, notation, axiom, sorry.
-/
import Derived.Test.YtphofanfadgalaaGreatDoorRows
import GoSem.ClaimSeven
namespace Go.Proofs.YtphofanfadgalaaGreatDoor
namespace Rows

/-- THE TIED CARD OF 'laws.FnExactGraphReady'. -/
def fnExactGraphReadyCard : Claim7 := { stood := { row := fnExactGraphReadyRow, standIns := [], harness := (true, "645828d6ca57b78fae124487fb2016b9c129ec7261d27498b1cd47d702546bb8"), looks := false }, kinds := [], alts := [], laidByText := true, laidKinds := [.data, .pinned], laidTests := true, laidLooks := .later }
def FnExactGraphReadyCardSaid : Prop := Claim7.holds Tryz.pinned (.plain (OpenSpec.ofChange fnExactGraphReadySpec)) fnExactGraphReadyCard

/-- THE TIED CARD OF 'laws.FnExactGraphFails'. -/
def fnExactGraphFailsCard : Claim7 := { stood := { row := fnExactGraphFailsRow, standIns := [], harness := (true, "645828d6ca57b78fae124487fb2016b9c129ec7261d27498b1cd47d702546bb8"), looks := false }, kinds := [], alts := [], laidByText := true, laidKinds := [.data, .pinned], laidTests := true, laidLooks := .later }
def FnExactGraphFailsCardSaid : Prop := Claim7.holds Tryz.pinned (.plain (OpenSpec.ofChange fnExactGraphFailsSpec)) fnExactGraphFailsCard

/-- THE TIED CARD OF 'laws.FnExactReachOf'. -/
def fnExactReachOfCard : Claim7 := { stood := { row := fnExactReachOfRow, standIns := [], harness := (true, "645828d6ca57b78fae124487fb2016b9c129ec7261d27498b1cd47d702546bb8"), looks := false }, kinds := [], alts := [], laidByText := true, laidKinds := [.data, .pinned], laidTests := true, laidLooks := .later }
def FnExactReachOfCardSaid : Prop := Claim7.holds Tryz.pinned (.plain (OpenSpec.ofChange fnExactReachOfSpec)) fnExactReachOfCard

/-- THE TIED CARD OF 'laws.FnExactFillModule'. -/
def fnExactFillModuleCard : Claim7 := { stood := { row := fnExactFillModuleRow, standIns := [], harness := (true, "645828d6ca57b78fae124487fb2016b9c129ec7261d27498b1cd47d702546bb8"), looks := false }, kinds := [], alts := [], laidByText := true, laidKinds := [.data, .data, .data, .data, .pinned], laidTests := true, laidLooks := .later }
def FnExactFillModuleCardSaid : Prop := Claim7.holds Tryz.pinned (.plain (OpenSpec.ofChange fnExactFillModuleSpec)) fnExactFillModuleCard

/-- THE SECOND FORM's CARD OF 'laws.FnExactGraphReady'. -/
def fnExactGraphReadyUptoCard : Claim7 := { stood := { row := fnExactGraphReadyUptoRow, standIns := [], harness := (true, "645828d6ca57b78fae124487fb2016b9c129ec7261d27498b1cd47d702546bb8"), looks := false }, kinds := [], alts := [], laidByText := true, laidKinds := [.data, .pinned], laidTests := true, laidLooks := .later }
def FnExactGraphReadyUptoCardSaid : Prop := Claim7.holds Tryz.pinned (.plain (OpenSpec.upto fnExactGraphReadySpec)) fnExactGraphReadyUptoCard

/-- THE SECOND FORM's CARD OF 'laws.FnExactGraphFails'. -/
def fnExactGraphFailsUptoCard : Claim7 := { stood := { row := fnExactGraphFailsUptoRow, standIns := [], harness := (true, "645828d6ca57b78fae124487fb2016b9c129ec7261d27498b1cd47d702546bb8"), looks := false }, kinds := [], alts := [], laidByText := true, laidKinds := [.data, .pinned], laidTests := true, laidLooks := .later }
def FnExactGraphFailsUptoCardSaid : Prop := Claim7.holds Tryz.pinned (.plain (OpenSpec.upto fnExactGraphFailsSpec)) fnExactGraphFailsUptoCard

/-- THE SECOND FORM's CARD OF 'laws.FnExactReachOf'. -/
def fnExactReachOfUptoCard : Claim7 := { stood := { row := fnExactReachOfUptoRow, standIns := [], harness := (true, "645828d6ca57b78fae124487fb2016b9c129ec7261d27498b1cd47d702546bb8"), looks := false }, kinds := [], alts := [], laidByText := true, laidKinds := [.data, .pinned], laidTests := true, laidLooks := .later }
def FnExactReachOfUptoCardSaid : Prop := Claim7.holds Tryz.pinned (.plain (OpenSpec.upto fnExactReachOfSpec)) fnExactReachOfUptoCard

/-- THE SECOND FORM's CARD OF 'laws.FnExactFillModule'. -/
def fnExactFillModuleUptoCard : Claim7 := { stood := { row := fnExactFillModuleUptoRow, standIns := [], harness := (true, "645828d6ca57b78fae124487fb2016b9c129ec7261d27498b1cd47d702546bb8"), looks := false }, kinds := [], alts := [], laidByText := true, laidKinds := [.data, .data, .data, .data, .pinned], laidTests := true, laidLooks := .later }
def FnExactFillModuleUptoCardSaid : Prop := Claim7.holds Tryz.pinned (.plain (OpenSpec.upto fnExactFillModuleSpec)) fnExactFillModuleUptoCard
end Rows
end Go.Proofs.YtphofanfadgalaaGreatDoor
