/-
  DERIVED. GIVEN WITH THE SEED: THE CARDS: each row of YtbnpgdcpbmaebaaGreatDoorRows.lean that lists a variable, with what it lists TIED to the program's text (the seventh form; the later family's looks); each row that meets fmt, with fmt's text TOLD by the authors' own Lean function (tested against real Go, not proved from fmt's source: count such statements apart). THE CARD IS WHAT COUNTS. Prove the row's statement (the work); the ties are given (YtbnpgdcpbmaebaaGreatDoorTie.lean); close each card by the builder's one call (the guide's Derived/Test/ToyasCard.lean, 'card_holds'). Laid BY PROGRAM, IN A SANDBOX (cutbox-door.mjs). By AI agents, Wed Nov 11 2026. No macro, syntax, notation, axiom, sorry.
-/
import Derived.Test.YtbnpgdcpbmaebaaGreatDoorRows
import GoSem.ClaimSeven
namespace Go.Proofs.YtbnpgdcpbmaebaaGreatDoor
namespace Rows

/-- THE TIED CARD OF 'laws.FnMatches'. -/
def fnMatchesCard : Claim7 := { stood := { row := fnMatchesRow, standIns := [], harness := (true, "41fba89255946f121015c8825464e3f3f69152619ca7f6729965e936752b9e2c"), looks := true }, kinds := [], alts := [], laidByText := true, laidKinds := [.data, .data, .data, .sentinel, .sentinel], laidTests := true, laidLooks := .later }
def FnMatchesCardSaid : Prop := Claim7.holds Tryz.pinned (.plain (OpenSpec.ofChange fnMatchesSpec)) fnMatchesCard

/-- THE TIED CARD OF 'laws.FnReplayed'. -/
def fnReplayedCard : Claim7 := { stood := { row := fnReplayedRow, standIns := [], harness := (true, "41fba89255946f121015c8825464e3f3f69152619ca7f6729965e936752b9e2c"), looks := true }, kinds := [], alts := [], laidByText := true, laidKinds := [.data, .data, .data, .sentinel, .sentinel], laidTests := true, laidLooks := .later }
def FnReplayedCardSaid : Prop := Claim7.holds Tryz.pinned (.plain (OpenSpec.ofChange fnReplayedSpec)) fnReplayedCard

/-- THE TIED CARD OF 'laws.FnFresh'. -/
def fnFreshCard : Claim7 := { stood := { row := fnFreshRow, standIns := [], harness := (true, "41fba89255946f121015c8825464e3f3f69152619ca7f6729965e936752b9e2c"), looks := true }, kinds := [], alts := [], laidByText := true, laidKinds := [.data, .data, .data, .sentinel, .sentinel], laidTests := true, laidLooks := .later }
def FnFreshCardSaid : Prop := Claim7.holds Tryz.pinned (.plain (OpenSpec.ofChange fnFreshSpec)) fnFreshCard

/-- THE TIED CARD OF 'laws.FnRanked'. -/
def fnRankedCard : Claim7 := { stood := { row := fnRankedRow, standIns := [], harness := (true, "41fba89255946f121015c8825464e3f3f69152619ca7f6729965e936752b9e2c"), looks := true }, kinds := [], alts := [], laidByText := true, laidKinds := [.data, .data, .data, .sentinel, .sentinel], laidTests := true, laidLooks := .later }
def FnRankedCardSaid : Prop := Claim7.holds Tryz.pinned (.plain (OpenSpec.ofChange fnRankedSpec)) fnRankedCard

/-- THE SECOND FORM's CARD OF 'laws.FnMatches'. -/
def fnMatchesUptoCard : Claim7 := { stood := { row := fnMatchesUptoRow, standIns := [], harness := (true, "41fba89255946f121015c8825464e3f3f69152619ca7f6729965e936752b9e2c"), looks := true }, kinds := [], alts := [], laidByText := true, laidKinds := [.data, .data, .data, .sentinel, .sentinel], laidTests := true, laidLooks := .later }
def FnMatchesUptoCardSaid : Prop := Claim7.holds Tryz.pinned (.plain (OpenSpec.upto fnMatchesSpec)) fnMatchesUptoCard

/-- THE SECOND FORM's CARD OF 'laws.FnReplayed'. -/
def fnReplayedUptoCard : Claim7 := { stood := { row := fnReplayedUptoRow, standIns := [], harness := (true, "41fba89255946f121015c8825464e3f3f69152619ca7f6729965e936752b9e2c"), looks := true }, kinds := [], alts := [], laidByText := true, laidKinds := [.data, .data, .data, .sentinel, .sentinel], laidTests := true, laidLooks := .later }
def FnReplayedUptoCardSaid : Prop := Claim7.holds Tryz.pinned (.plain (OpenSpec.upto fnReplayedSpec)) fnReplayedUptoCard

/-- THE SECOND FORM's CARD OF 'laws.FnFresh'. -/
def fnFreshUptoCard : Claim7 := { stood := { row := fnFreshUptoRow, standIns := [], harness := (true, "41fba89255946f121015c8825464e3f3f69152619ca7f6729965e936752b9e2c"), looks := true }, kinds := [], alts := [], laidByText := true, laidKinds := [.data, .data, .data, .sentinel, .sentinel], laidTests := true, laidLooks := .later }
def FnFreshUptoCardSaid : Prop := Claim7.holds Tryz.pinned (.plain (OpenSpec.upto fnFreshSpec)) fnFreshUptoCard

/-- THE SECOND FORM's CARD OF 'laws.FnRanked'. -/
def fnRankedUptoCard : Claim7 := { stood := { row := fnRankedUptoRow, standIns := [], harness := (true, "41fba89255946f121015c8825464e3f3f69152619ca7f6729965e936752b9e2c"), looks := true }, kinds := [], alts := [], laidByText := true, laidKinds := [.data, .data, .data, .sentinel, .sentinel], laidTests := true, laidLooks := .later }
def FnRankedUptoCardSaid : Prop := Claim7.holds Tryz.pinned (.plain (OpenSpec.upto fnRankedSpec)) fnRankedUptoCard
end Rows
end Go.Proofs.YtbnpgdcpbmaebaaGreatDoor
