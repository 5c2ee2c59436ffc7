/-
  DERIVED. GIVEN WITH THE SEED: THE CARDS: each row of YtfmjgnjaoihefaaGreatDoorRows.lean that lists a variable, with what it lists TIED to the program's text (the seventh form; the later family's looks); each row that meets fmt, with fmt's text TOLD by the authors' own Lean function (tested against real Go, not proved from fmt's source: count such statements apart). THE CARD IS WHAT COUNTS. Prove the row's statement (the work); the ties are given (YtfmjgnjaoihefaaGreatDoorTie.lean); close each card by the builder's one call (the guide's Derived/Test/ToyasCard.lean, 'card_holds'). Laid BY PROGRAM, IN A SANDBOX (cutbox-door.mjs). By AI agents, Wed Nov 11 2026. No macro, syntax, notation, axiom, sorry.
-/
import Derived.Test.YtfmjgnjaoihefaaGreatDoorRows
import GoSem.ClaimSeven
namespace Go.Proofs.YtfmjgnjaoihefaaGreatDoor
namespace Rows

/-- THE TIED CARD OF 'laws.FnExactStepEngine'. -/
def fnExactStepEngineCard : Claim7 := { stood := { row := fnExactStepEngineRow, standIns := [], harness := (true, "e20e8d7da10351c7d0f6f11479a397bd6ae0633a54e337f8a473e199ff77f472"), looks := true }, kinds := [], alts := [], laidByText := true, laidKinds := [.data, .data, .data, .sentinel, .sentinel], laidTests := true, laidLooks := .later }
def FnExactStepEngineCardSaid : Prop := Claim7.holds Tryz.pinned (.plain (OpenSpec.ofChange fnExactStepEngineSpec)) fnExactStepEngineCard

/-- THE TIED CARD OF 'laws.FnExactRunEngine'. -/
def fnExactRunEngineCard : Claim7 := { stood := { row := fnExactRunEngineRow, standIns := [], harness := (true, "e20e8d7da10351c7d0f6f11479a397bd6ae0633a54e337f8a473e199ff77f472"), looks := true }, kinds := [], alts := [], laidByText := true, laidKinds := [.data, .data, .data, .sentinel, .sentinel], laidTests := true, laidLooks := .later }
def FnExactRunEngineCardSaid : Prop := Claim7.holds Tryz.pinned (.plain (OpenSpec.ofChange fnExactRunEngineSpec)) fnExactRunEngineCard

/-- THE TIED CARD OF 'laws.FnExactReplayLog'. -/
def fnExactReplayLogCard : Claim7 := { stood := { row := fnExactReplayLogRow, standIns := [], harness := (true, "e20e8d7da10351c7d0f6f11479a397bd6ae0633a54e337f8a473e199ff77f472"), looks := true }, kinds := [], alts := [], laidByText := true, laidKinds := [.data, .data, .data, .sentinel, .sentinel], laidTests := true, laidLooks := .later }
def FnExactReplayLogCardSaid : Prop := Claim7.holds Tryz.pinned (.plain (OpenSpec.ofChange fnExactReplayLogSpec)) fnExactReplayLogCard

/-- THE TIED CARD OF 'laws.FnExactIsQuiet'. -/
def fnExactIsQuietCard : Claim7 := { stood := { row := fnExactIsQuietRow, standIns := [], harness := (true, "e20e8d7da10351c7d0f6f11479a397bd6ae0633a54e337f8a473e199ff77f472"), looks := true }, kinds := [], alts := [], laidByText := true, laidKinds := [.data, .data, .data, .sentinel, .sentinel], laidTests := true, laidLooks := .later }
def FnExactIsQuietCardSaid : Prop := Claim7.holds Tryz.pinned (.plain (OpenSpec.ofChange fnExactIsQuietSpec)) fnExactIsQuietCard

/-- THE TIED CARD OF 'laws.FnExactConflicts'. -/
def fnExactConflictsCard : Claim7 := { stood := { row := fnExactConflictsRow, standIns := [], harness := (true, "e20e8d7da10351c7d0f6f11479a397bd6ae0633a54e337f8a473e199ff77f472"), looks := true }, kinds := [], alts := [], laidByText := true, laidKinds := [.data, .data, .data, .sentinel, .sentinel], laidTests := true, laidLooks := .later }
def FnExactConflictsCardSaid : Prop := Claim7.holds Tryz.pinned (.plain (OpenSpec.ofChange fnExactConflictsSpec)) fnExactConflictsCard

/-- THE SECOND FORM's CARD OF 'laws.FnExactStepEngine'. -/
def fnExactStepEngineUptoCard : Claim7 := { stood := { row := fnExactStepEngineUptoRow, standIns := [], harness := (true, "e20e8d7da10351c7d0f6f11479a397bd6ae0633a54e337f8a473e199ff77f472"), looks := true }, kinds := [], alts := [], laidByText := true, laidKinds := [.data, .data, .data, .sentinel, .sentinel], laidTests := true, laidLooks := .later }
def FnExactStepEngineUptoCardSaid : Prop := Claim7.holds Tryz.pinned (.plain (OpenSpec.upto fnExactStepEngineSpec)) fnExactStepEngineUptoCard

/-- THE SECOND FORM's CARD OF 'laws.FnExactRunEngine'. -/
def fnExactRunEngineUptoCard : Claim7 := { stood := { row := fnExactRunEngineUptoRow, standIns := [], harness := (true, "e20e8d7da10351c7d0f6f11479a397bd6ae0633a54e337f8a473e199ff77f472"), looks := true }, kinds := [], alts := [], laidByText := true, laidKinds := [.data, .data, .data, .sentinel, .sentinel], laidTests := true, laidLooks := .later }
def FnExactRunEngineUptoCardSaid : Prop := Claim7.holds Tryz.pinned (.plain (OpenSpec.upto fnExactRunEngineSpec)) fnExactRunEngineUptoCard

/-- THE SECOND FORM's CARD OF 'laws.FnExactReplayLog'. -/
def fnExactReplayLogUptoCard : Claim7 := { stood := { row := fnExactReplayLogUptoRow, standIns := [], harness := (true, "e20e8d7da10351c7d0f6f11479a397bd6ae0633a54e337f8a473e199ff77f472"), looks := true }, kinds := [], alts := [], laidByText := true, laidKinds := [.data, .data, .data, .sentinel, .sentinel], laidTests := true, laidLooks := .later }
def FnExactReplayLogUptoCardSaid : Prop := Claim7.holds Tryz.pinned (.plain (OpenSpec.upto fnExactReplayLogSpec)) fnExactReplayLogUptoCard

/-- THE SECOND FORM's CARD OF 'laws.FnExactIsQuiet'. -/
def fnExactIsQuietUptoCard : Claim7 := { stood := { row := fnExactIsQuietUptoRow, standIns := [], harness := (true, "e20e8d7da10351c7d0f6f11479a397bd6ae0633a54e337f8a473e199ff77f472"), looks := true }, kinds := [], alts := [], laidByText := true, laidKinds := [.data, .data, .data, .sentinel, .sentinel], laidTests := true, laidLooks := .later }
def FnExactIsQuietUptoCardSaid : Prop := Claim7.holds Tryz.pinned (.plain (OpenSpec.upto fnExactIsQuietSpec)) fnExactIsQuietUptoCard

/-- THE SECOND FORM's CARD OF 'laws.FnExactConflicts'. -/
def fnExactConflictsUptoCard : Claim7 := { stood := { row := fnExactConflictsUptoRow, standIns := [], harness := (true, "e20e8d7da10351c7d0f6f11479a397bd6ae0633a54e337f8a473e199ff77f472"), looks := true }, kinds := [], alts := [], laidByText := true, laidKinds := [.data, .data, .data, .sentinel, .sentinel], laidTests := true, laidLooks := .later }
def FnExactConflictsUptoCardSaid : Prop := Claim7.holds Tryz.pinned (.plain (OpenSpec.upto fnExactConflictsSpec)) fnExactConflictsUptoCard
end Rows
end Go.Proofs.YtfmjgnjaoihefaaGreatDoor
