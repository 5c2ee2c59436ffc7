/-
  DERIVED. GIVEN WITH THE SEED: THE CARDS: each row of YtmjmglkogcomaaaGreatDoorRows.lean that lists a variable, with what it lists TIED to the program's text (the seventh form; the later family's looks); each row that meets fmt, with fmt's text TOLD by the authors' own Lean function (tested against real Go, not proved from fmt's source: count such statements apart). THE CARD IS WHAT COUNTS. Prove the row's statement (the work); the ties are given (YtmjmglkogcomaaaGreatDoorTie.lean); close each card by the builder's one call (the guide's Derived/Test/ToyasCard.lean, 'card_holds'). Laid BY PROGRAM, IN A SANDBOX (cutbox-door.mjs). By AI agents, Wed Nov 11 2026. No macro, syntax, notation, axiom, sorry.
-/
import Derived.Test.YtmjmglkogcomaaaGreatDoorRows
import GoSem.ClaimSeven
namespace Go.Proofs.YtmjmglkogcomaaaGreatDoor
namespace Rows

/-- THE TIED CARD OF 'laws.FnHandKeeps'. -/
def fnHandKeepsCard : Claim7 := { stood := { row := fnHandKeepsRow, standIns := [], harness := (true, "c95c54f860ac42b996564eb93804918bd4dd12561bcea1cb6782697d48f12eaa"), looks := true }, kinds := [], alts := [], laidByText := true, laidKinds := [.data, .data, .data, .sentinel, .sentinel], laidTests := true, laidLooks := .later }
def FnHandKeepsCardSaid : Prop := Claim7.holds Tryz.pinned (.plain (OpenSpec.ofChange fnHandKeepsSpec)) fnHandKeepsCard

/-- THE TIED CARD OF 'laws.FnStepKeeps'. -/
def fnStepKeepsCard : Claim7 := { stood := { row := fnStepKeepsRow, standIns := [], harness := (true, "c95c54f860ac42b996564eb93804918bd4dd12561bcea1cb6782697d48f12eaa"), looks := true }, kinds := [], alts := [], laidByText := true, laidKinds := [.data, .data, .data, .sentinel, .sentinel], laidTests := true, laidLooks := .later }
def FnStepKeepsCardSaid : Prop := Claim7.holds Tryz.pinned (.plain (OpenSpec.ofChange fnStepKeepsSpec)) fnStepKeepsCard

/-- THE TIED CARD OF 'laws.FnRunHalves'. -/
def fnRunHalvesCard : Claim7 := { stood := { row := fnRunHalvesRow, standIns := [], harness := (true, "c95c54f860ac42b996564eb93804918bd4dd12561bcea1cb6782697d48f12eaa"), looks := true }, kinds := [], alts := [], laidByText := true, laidKinds := [.data, .data, .data, .sentinel, .sentinel], laidTests := true, laidLooks := .later }
def FnRunHalvesCardSaid : Prop := Claim7.holds Tryz.pinned (.plain (OpenSpec.ofChange fnRunHalvesSpec)) fnRunHalvesCard

/-- THE TIED CARD OF 'laws.FnReplayedLog'. -/
def fnReplayedLogCard : Claim7 := { stood := { row := fnReplayedLogRow, standIns := [], harness := (true, "c95c54f860ac42b996564eb93804918bd4dd12561bcea1cb6782697d48f12eaa"), looks := true }, kinds := [], alts := [], laidByText := true, laidKinds := [.data, .data, .data, .sentinel, .sentinel], laidTests := true, laidLooks := .later }
def FnReplayedLogCardSaid : Prop := Claim7.holds Tryz.pinned (.plain (OpenSpec.ofChange fnReplayedLogSpec)) fnReplayedLogCard

/-- THE SECOND FORM's CARD OF 'laws.FnHandKeeps'. -/
def fnHandKeepsUptoCard : Claim7 := { stood := { row := fnHandKeepsUptoRow, standIns := [], harness := (true, "c95c54f860ac42b996564eb93804918bd4dd12561bcea1cb6782697d48f12eaa"), looks := true }, kinds := [], alts := [], laidByText := true, laidKinds := [.data, .data, .data, .sentinel, .sentinel], laidTests := true, laidLooks := .later }
def FnHandKeepsUptoCardSaid : Prop := Claim7.holds Tryz.pinned (.plain (OpenSpec.upto fnHandKeepsSpec)) fnHandKeepsUptoCard

/-- THE SECOND FORM's CARD OF 'laws.FnStepKeeps'. -/
def fnStepKeepsUptoCard : Claim7 := { stood := { row := fnStepKeepsUptoRow, standIns := [], harness := (true, "c95c54f860ac42b996564eb93804918bd4dd12561bcea1cb6782697d48f12eaa"), looks := true }, kinds := [], alts := [], laidByText := true, laidKinds := [.data, .data, .data, .sentinel, .sentinel], laidTests := true, laidLooks := .later }
def FnStepKeepsUptoCardSaid : Prop := Claim7.holds Tryz.pinned (.plain (OpenSpec.upto fnStepKeepsSpec)) fnStepKeepsUptoCard

/-- THE SECOND FORM's CARD OF 'laws.FnRunHalves'. -/
def fnRunHalvesUptoCard : Claim7 := { stood := { row := fnRunHalvesUptoRow, standIns := [], harness := (true, "c95c54f860ac42b996564eb93804918bd4dd12561bcea1cb6782697d48f12eaa"), looks := true }, kinds := [], alts := [], laidByText := true, laidKinds := [.data, .data, .data, .sentinel, .sentinel], laidTests := true, laidLooks := .later }
def FnRunHalvesUptoCardSaid : Prop := Claim7.holds Tryz.pinned (.plain (OpenSpec.upto fnRunHalvesSpec)) fnRunHalvesUptoCard

/-- THE SECOND FORM's CARD OF 'laws.FnReplayedLog'. -/
def fnReplayedLogUptoCard : Claim7 := { stood := { row := fnReplayedLogUptoRow, standIns := [], harness := (true, "c95c54f860ac42b996564eb93804918bd4dd12561bcea1cb6782697d48f12eaa"), looks := true }, kinds := [], alts := [], laidByText := true, laidKinds := [.data, .data, .data, .sentinel, .sentinel], laidTests := true, laidLooks := .later }
def FnReplayedLogUptoCardSaid : Prop := Claim7.holds Tryz.pinned (.plain (OpenSpec.upto fnReplayedLogSpec)) fnReplayedLogUptoCard
end Rows
end Go.Proofs.YtmjmglkogcomaaaGreatDoor
