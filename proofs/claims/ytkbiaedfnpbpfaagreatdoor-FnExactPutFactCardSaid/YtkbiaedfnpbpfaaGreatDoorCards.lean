/-
  DERIVED. GIVEN WITH THE SEED: THE CARDS: each row of YtkbiaedfnpbpfaaGreatDoorRows.lean that lists a variable, with what it lists TIED to the program's text (the seventh form; the later family's looks); each row that meets fmt, with fmt's text TOLD by the authors' own Lean function (tested against real Go, not proved from fmt's source: count such statements apart). THE CARD IS WHAT COUNTS. Prove the row's statement (the work); the ties are given (YtkbiaedfnpbpfaaGreatDoorTie.lean); close each card by the builder's one call (the guide's Derived/Test/ToyasCard.lean, 'card_holds'). Laid BY PROGRAM, IN A SANDBOX (cutbox-door.mjs). By AI agents, Wed Nov 11 2026. No macro, syntax, notation, axiom, sorry.
-/
import Derived.Test.YtkbiaedfnpbpfaaGreatDoorRows
import GoSem.ClaimSeven
namespace Go.Proofs.YtkbiaedfnpbpfaaGreatDoor
namespace Rows

/-- THE TIED CARD OF 'laws.FnExactChoiceOf'. -/
def fnExactChoiceOfCard : Claim7 := { stood := { row := fnExactChoiceOfRow, standIns := [], harness := (true, "cfc0c6476264667d92a64fa4df0b320d3b6c42c46648ba201a4aaaa8cc078896"), looks := true }, kinds := [], alts := [], laidByText := true, laidKinds := [.data, .data, .data, .sentinel, .sentinel], laidTests := true, laidLooks := .later }
def FnExactChoiceOfCardSaid : Prop := Claim7.holds Tryz.pinned (.plain (OpenSpec.ofChange fnExactChoiceOfSpec)) fnExactChoiceOfCard

/-- THE TIED CARD OF 'laws.FnExactTakeFact'. -/
def fnExactTakeFactCard : Claim7 := { stood := { row := fnExactTakeFactRow, standIns := [], harness := (true, "cfc0c6476264667d92a64fa4df0b320d3b6c42c46648ba201a4aaaa8cc078896"), looks := true }, kinds := [], alts := [], laidByText := true, laidKinds := [.data, .data, .data, .sentinel, .sentinel], laidTests := true, laidLooks := .later }
def FnExactTakeFactCardSaid : Prop := Claim7.holds Tryz.pinned (.plain (OpenSpec.ofChange fnExactTakeFactSpec)) fnExactTakeFactCard

/-- THE TIED CARD OF 'laws.FnExactPutFact'. -/
def fnExactPutFactCard : Claim7 := { stood := { row := fnExactPutFactRow, standIns := [], harness := (true, "cfc0c6476264667d92a64fa4df0b320d3b6c42c46648ba201a4aaaa8cc078896"), looks := true }, kinds := [], alts := [], laidByText := true, laidKinds := [.data, .data, .data, .sentinel, .sentinel], laidTests := true, laidLooks := .later }
def FnExactPutFactCardSaid : Prop := Claim7.holds Tryz.pinned (.plain (OpenSpec.ofChange fnExactPutFactSpec)) fnExactPutFactCard

/-- THE SECOND FORM's CARD OF 'laws.FnExactChoiceOf'. -/
def fnExactChoiceOfUptoCard : Claim7 := { stood := { row := fnExactChoiceOfUptoRow, standIns := [], harness := (true, "cfc0c6476264667d92a64fa4df0b320d3b6c42c46648ba201a4aaaa8cc078896"), looks := true }, kinds := [], alts := [], laidByText := true, laidKinds := [.data, .data, .data, .sentinel, .sentinel], laidTests := true, laidLooks := .later }
def FnExactChoiceOfUptoCardSaid : Prop := Claim7.holds Tryz.pinned (.plain (OpenSpec.upto fnExactChoiceOfSpec)) fnExactChoiceOfUptoCard

/-- THE SECOND FORM's CARD OF 'laws.FnExactTakeFact'. -/
def fnExactTakeFactUptoCard : Claim7 := { stood := { row := fnExactTakeFactUptoRow, standIns := [], harness := (true, "cfc0c6476264667d92a64fa4df0b320d3b6c42c46648ba201a4aaaa8cc078896"), looks := true }, kinds := [], alts := [], laidByText := true, laidKinds := [.data, .data, .data, .sentinel, .sentinel], laidTests := true, laidLooks := .later }
def FnExactTakeFactUptoCardSaid : Prop := Claim7.holds Tryz.pinned (.plain (OpenSpec.upto fnExactTakeFactSpec)) fnExactTakeFactUptoCard

/-- THE SECOND FORM's CARD OF 'laws.FnExactPutFact'. -/
def fnExactPutFactUptoCard : Claim7 := { stood := { row := fnExactPutFactUptoRow, standIns := [], harness := (true, "cfc0c6476264667d92a64fa4df0b320d3b6c42c46648ba201a4aaaa8cc078896"), looks := true }, kinds := [], alts := [], laidByText := true, laidKinds := [.data, .data, .data, .sentinel, .sentinel], laidTests := true, laidLooks := .later }
def FnExactPutFactUptoCardSaid : Prop := Claim7.holds Tryz.pinned (.plain (OpenSpec.upto fnExactPutFactSpec)) fnExactPutFactUptoCard
end Rows
end Go.Proofs.YtkbiaedfnpbpfaaGreatDoor
