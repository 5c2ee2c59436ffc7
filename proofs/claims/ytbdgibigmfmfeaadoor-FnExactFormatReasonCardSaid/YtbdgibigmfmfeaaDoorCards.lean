/-
  DERIVED. GIVEN WITH THE SEED: THE CARDS: each row of YtbdgibigmfmfeaaDoorRows.lean that lists a variable, with what it lists TIED to the program's text (the seventh form; the later family's looks); each row that meets fmt, with fmt's text TOLD by the authors' own Lean function (tested against real Go, not proved from fmt's source: count such statements apart). THE CARD IS WHAT COUNTS. Prove the row's statement (the work); the ties are given (YtbdgibigmfmfeaaDoorTie.lean); close each card by the builder's one call (the guide's Derived/Test/ToyasCard.lean, 'card_holds'). Laid BY PROGRAM, IN A SANDBOX (cutbox-door.mjs). By AI agents, Wed Nov 11 2026. No macro, syntax, notation, axiom, sorry.
-/
import Derived.Test.YtbdgibigmfmfeaaDoorRows
import GoSem.ClaimSeven
namespace Go.Proofs.YtbdgibigmfmfeaaDoor
namespace Rows

/-- THE TIED CARD OF 'laws.FnExactFormatReason'. -/
def fnExactFormatReasonCard : Claim7 := { stood := { row := fnExactFormatReasonRow, standIns := [], harness := (true, "49bbb61ef1e73d20747fb53a65bf1ce8b2b3fc381e6bf351fe91e3b0e89bdb5d"), looks := false }, kinds := [], alts := [], laidByText := true, laidKinds := [.data, .data, .data], laidTests := true, laidLooks := .later }
def FnExactFormatReasonCardSaid : Prop := Claim7.holds Tryd.pinned (.plain (OpenSpec.ofChange fnExactFormatReasonSpec)) fnExactFormatReasonCard

/-- THE SECOND FORM's CARD OF 'laws.FnExactFormatReason'. -/
def fnExactFormatReasonUptoCard : Claim7 := { stood := { row := fnExactFormatReasonUptoRow, standIns := [], harness := (true, "49bbb61ef1e73d20747fb53a65bf1ce8b2b3fc381e6bf351fe91e3b0e89bdb5d"), looks := false }, kinds := [], alts := [], laidByText := true, laidKinds := [.data, .data, .data], laidTests := true, laidLooks := .later }
def FnExactFormatReasonUptoCardSaid : Prop := Claim7.holds Tryd.pinned (.plain (OpenSpec.upto fnExactFormatReasonSpec)) fnExactFormatReasonUptoCard
end Rows
end Go.Proofs.YtbdgibigmfmfeaaDoor
