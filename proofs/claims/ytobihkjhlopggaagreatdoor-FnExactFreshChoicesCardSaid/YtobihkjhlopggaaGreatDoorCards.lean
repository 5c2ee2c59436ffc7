/-
  DERIVED. GIVEN WITH THE SEED: THE CARDS: each row of YtobihkjhlopggaaGreatDoorRows.lean that lists a variable, with what it lists TIED to the program's text (the seventh form; the later family's looks); each row that meets fmt, with fmt's text TOLD by the authors' own Lean function (tested against real Go, not proved from fmt's source: count such statements apart). THE CARD IS WHAT COUNTS. Prove the row's statement (the work); the ties are given (YtobihkjhlopggaaGreatDoorTie.lean); close each card by the builder's one call (the guide's Derived/Test/ToyasCard.lean, 'card_holds'). Laid BY PROGRAM, IN A SANDBOX (cutbox-door.mjs). By AI agents, Wed Nov 11 2026. No macro, syntax, notation, axiom, sorry.
-/
import Derived.Test.YtobihkjhlopggaaGreatDoorRows
import GoSem.ClaimSeven
namespace Go.Proofs.YtobihkjhlopggaaGreatDoor
namespace Rows

/-- THE TIED CARD OF 'laws.FnExactCompareChoices'. -/
def fnExactCompareChoicesCard : Claim7 := { stood := { row := fnExactCompareChoicesRow, standIns := [], harness := (true, "0fdd78593573eb25578bce97c44e4335531ada8ab0b06541ae5c1ab805f38808"), looks := true }, kinds := [], alts := [], laidByText := true, laidKinds := [.data, .data, .data, .sentinel, .sentinel], laidTests := true, laidLooks := .later }
def FnExactCompareChoicesCardSaid : Prop := Claim7.holds Tryz.pinned (.plain (OpenSpec.ofChange fnExactCompareChoicesSpec)) fnExactCompareChoicesCard

/-- THE TIED CARD OF 'laws.FnExactSortChoices'. -/
def fnExactSortChoicesCard : Claim7 := { stood := { row := fnExactSortChoicesRow, standIns := [], harness := (true, "0fdd78593573eb25578bce97c44e4335531ada8ab0b06541ae5c1ab805f38808"), looks := true }, kinds := [], alts := [], laidByText := true, laidKinds := [.data, .data, .data, .sentinel, .sentinel], laidTests := true, laidLooks := .later }
def FnExactSortChoicesCardSaid : Prop := Claim7.holds Tryz.pinned (.plain (OpenSpec.ofChange fnExactSortChoicesSpec)) fnExactSortChoicesCard

/-- THE TIED CARD OF 'laws.FnExactFreshChoices'. -/
def fnExactFreshChoicesCard : Claim7 := { stood := { row := fnExactFreshChoicesRow, standIns := [], harness := (true, "0fdd78593573eb25578bce97c44e4335531ada8ab0b06541ae5c1ab805f38808"), looks := true }, kinds := [], alts := [], laidByText := true, laidKinds := [.data, .data, .data, .sentinel, .sentinel], laidTests := true, laidLooks := .later }
def FnExactFreshChoicesCardSaid : Prop := Claim7.holds Tryz.pinned (.plain (OpenSpec.ofChange fnExactFreshChoicesSpec)) fnExactFreshChoicesCard

/-- THE TIED CARD OF 'laws.FnExactIsQuiet'. -/
def fnExactIsQuietCard : Claim7 := { stood := { row := fnExactIsQuietRow, standIns := [], harness := (true, "0fdd78593573eb25578bce97c44e4335531ada8ab0b06541ae5c1ab805f38808"), looks := true }, kinds := [], alts := [], laidByText := true, laidKinds := [.data, .data, .data, .sentinel, .sentinel], laidTests := true, laidLooks := .later }
def FnExactIsQuietCardSaid : Prop := Claim7.holds Tryz.pinned (.plain (OpenSpec.ofChange fnExactIsQuietSpec)) fnExactIsQuietCard

/-- THE TIED CARD OF 'laws.FnExactConflicts'. -/
def fnExactConflictsCard : Claim7 := { stood := { row := fnExactConflictsRow, standIns := [], harness := (true, "0fdd78593573eb25578bce97c44e4335531ada8ab0b06541ae5c1ab805f38808"), looks := true }, kinds := [], alts := [], laidByText := true, laidKinds := [.data, .data, .data, .sentinel, .sentinel], laidTests := true, laidLooks := .later }
def FnExactConflictsCardSaid : Prop := Claim7.holds Tryz.pinned (.plain (OpenSpec.ofChange fnExactConflictsSpec)) fnExactConflictsCard

/-- THE SECOND FORM's CARD OF 'laws.FnExactCompareChoices'. -/
def fnExactCompareChoicesUptoCard : Claim7 := { stood := { row := fnExactCompareChoicesUptoRow, standIns := [], harness := (true, "0fdd78593573eb25578bce97c44e4335531ada8ab0b06541ae5c1ab805f38808"), looks := true }, kinds := [], alts := [], laidByText := true, laidKinds := [.data, .data, .data, .sentinel, .sentinel], laidTests := true, laidLooks := .later }
def FnExactCompareChoicesUptoCardSaid : Prop := Claim7.holds Tryz.pinned (.plain (OpenSpec.upto fnExactCompareChoicesSpec)) fnExactCompareChoicesUptoCard

/-- THE SECOND FORM's CARD OF 'laws.FnExactSortChoices'. -/
def fnExactSortChoicesUptoCard : Claim7 := { stood := { row := fnExactSortChoicesUptoRow, standIns := [], harness := (true, "0fdd78593573eb25578bce97c44e4335531ada8ab0b06541ae5c1ab805f38808"), looks := true }, kinds := [], alts := [], laidByText := true, laidKinds := [.data, .data, .data, .sentinel, .sentinel], laidTests := true, laidLooks := .later }
def FnExactSortChoicesUptoCardSaid : Prop := Claim7.holds Tryz.pinned (.plain (OpenSpec.upto fnExactSortChoicesSpec)) fnExactSortChoicesUptoCard

/-- THE SECOND FORM's CARD OF 'laws.FnExactFreshChoices'. -/
def fnExactFreshChoicesUptoCard : Claim7 := { stood := { row := fnExactFreshChoicesUptoRow, standIns := [], harness := (true, "0fdd78593573eb25578bce97c44e4335531ada8ab0b06541ae5c1ab805f38808"), looks := true }, kinds := [], alts := [], laidByText := true, laidKinds := [.data, .data, .data, .sentinel, .sentinel], laidTests := true, laidLooks := .later }
def FnExactFreshChoicesUptoCardSaid : Prop := Claim7.holds Tryz.pinned (.plain (OpenSpec.upto fnExactFreshChoicesSpec)) fnExactFreshChoicesUptoCard

/-- THE SECOND FORM's CARD OF 'laws.FnExactIsQuiet'. -/
def fnExactIsQuietUptoCard : Claim7 := { stood := { row := fnExactIsQuietUptoRow, standIns := [], harness := (true, "0fdd78593573eb25578bce97c44e4335531ada8ab0b06541ae5c1ab805f38808"), looks := true }, kinds := [], alts := [], laidByText := true, laidKinds := [.data, .data, .data, .sentinel, .sentinel], laidTests := true, laidLooks := .later }
def FnExactIsQuietUptoCardSaid : Prop := Claim7.holds Tryz.pinned (.plain (OpenSpec.upto fnExactIsQuietSpec)) fnExactIsQuietUptoCard

/-- THE SECOND FORM's CARD OF 'laws.FnExactConflicts'. -/
def fnExactConflictsUptoCard : Claim7 := { stood := { row := fnExactConflictsUptoRow, standIns := [], harness := (true, "0fdd78593573eb25578bce97c44e4335531ada8ab0b06541ae5c1ab805f38808"), looks := true }, kinds := [], alts := [], laidByText := true, laidKinds := [.data, .data, .data, .sentinel, .sentinel], laidTests := true, laidLooks := .later }
def FnExactConflictsUptoCardSaid : Prop := Claim7.holds Tryz.pinned (.plain (OpenSpec.upto fnExactConflictsSpec)) fnExactConflictsUptoCard
end Rows
end Go.Proofs.YtobihkjhlopggaaGreatDoor
