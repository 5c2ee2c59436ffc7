/-
  DERIVED. GIVEN WITH THE SEED: THE CARDS: each row of YtamkdpknhaninaaGreatDoorRows.lean that lists a variable, with what it lists TIED to the program's text (the seventh form; the later family's looks); each row that meets fmt, with fmt's text TOLD by the authors' own Lean function (tested against real Go, not proved from fmt's source: count such statements apart). THE CARD IS WHAT COUNTS. Prove the row's statement (the work); the ties are given (YtamkdpknhaninaaGreatDoorTie.lean); close each card by the builder's one call (the guide's Derived/Test/ToyasCard.lean, 'card_holds'). Laid BY PROGRAM, IN A SANDBOX (cutbox-door.mjs). By AI agents, Wed Nov 11 2026. No macro, syntax, notation, axiom, sorry.
-/
import Derived.Test.YtamkdpknhaninaaGreatDoorRows
import GoSem.ClaimSeven
namespace Go.Proofs.YtamkdpknhaninaaGreatDoor
namespace Rows

/-- THE TIED CARD OF 'laws.FnExactIsEngine'. -/
def fnExactIsEngineCard : Claim7 := { stood := { row := fnExactIsEngineRow, standIns := [], harness := (true, "8b733dce0a4e893232c7ee8f1935f7f148b3135575602013582636d91e06290b"), looks := true }, kinds := [], alts := [], laidByText := true, laidKinds := [.data, .data, .data, .sentinel, .sentinel], laidTests := true, laidLooks := .later }
def FnExactIsEngineCardSaid : Prop := Claim7.holds Tryz.pinned (.plain (OpenSpec.ofChange fnExactIsEngineSpec)) fnExactIsEngineCard

/-- THE SECOND FORM's CARD OF 'laws.FnExactIsEngine'. -/
def fnExactIsEngineUptoCard : Claim7 := { stood := { row := fnExactIsEngineUptoRow, standIns := [], harness := (true, "8b733dce0a4e893232c7ee8f1935f7f148b3135575602013582636d91e06290b"), looks := true }, kinds := [], alts := [], laidByText := true, laidKinds := [.data, .data, .data, .sentinel, .sentinel], laidTests := true, laidLooks := .later }
def FnExactIsEngineUptoCardSaid : Prop := Claim7.holds Tryz.pinned (.plain (OpenSpec.upto fnExactIsEngineSpec)) fnExactIsEngineUptoCard
end Rows
end Go.Proofs.YtamkdpknhaninaaGreatDoor
