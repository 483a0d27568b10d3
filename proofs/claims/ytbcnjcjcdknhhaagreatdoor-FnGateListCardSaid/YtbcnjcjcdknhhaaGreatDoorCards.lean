/-
  DERIVED. GIVEN WITH THE SEED: THE CARDS: each row of YtbcnjcjcdknhhaaGreatDoorRows.lean that lists a variable, with what it lists TIED to the program's text (the seventh form; the later family's looks); each row that meets fmt, with fmt's text TOLD by the authors' own Lean function (tested against real Go, not proved from fmt's source: count such statements apart). THE CARD IS WHAT COUNTS. Prove the row's statement (the work); the ties are given (YtbcnjcjcdknhhaaGreatDoorTie.lean); close each card by the builder's one call (the guide's Derived/Test/ToyasCard.lean, 'card_holds'). Laid BY PROGRAM, IN A SANDBOX (cutbox-door.mjs). By AI agents, Wed Nov 11 2026. No macro, syntax, notation, axiom, sorry.
-/
import Derived.Test.YtbcnjcjcdknhhaaGreatDoorRows
import GoSem.ClaimSeven
namespace Go.Proofs.YtbcnjcjcdknhhaaGreatDoor
namespace Rows

/-- THE TIED CARD OF 'laws.FnClockPins'. -/
def fnClockPinsCard : Claim7 := { stood := { row := fnClockPinsRow, standIns := [], harness := (true, "827ae70bfabea6fd1c932733c7aab7e7d85e1aa630b0fb053a8625892b5078e8"), looks := false }, kinds := [], alts := [], laidByText := true, laidKinds := [.data, .pinned], laidTests := true, laidLooks := .later }
def FnClockPinsCardSaid : Prop := Claim7.holds Tryz.pinned (.plain (OpenSpec.ofChange fnClockPinsSpec)) fnClockPinsCard

/-- THE TIED CARD OF 'laws.FnGateList'. -/
def fnGateListCard : Claim7 := { stood := { row := fnGateListRow, standIns := [], harness := (true, "827ae70bfabea6fd1c932733c7aab7e7d85e1aa630b0fb053a8625892b5078e8"), looks := false }, kinds := [], alts := [], laidByText := true, laidKinds := [.data, .pinned], laidTests := true, laidLooks := .later }
def FnGateListCardSaid : Prop := Claim7.holds Tryz.pinned (.plain (OpenSpec.ofChange fnGateListSpec)) fnGateListCard

/-- THE SECOND FORM's CARD OF 'laws.FnClockPins'. -/
def fnClockPinsUptoCard : Claim7 := { stood := { row := fnClockPinsUptoRow, standIns := [], harness := (true, "827ae70bfabea6fd1c932733c7aab7e7d85e1aa630b0fb053a8625892b5078e8"), looks := false }, kinds := [], alts := [], laidByText := true, laidKinds := [.data, .pinned], laidTests := true, laidLooks := .later }
def FnClockPinsUptoCardSaid : Prop := Claim7.holds Tryz.pinned (.plain (OpenSpec.upto fnClockPinsSpec)) fnClockPinsUptoCard

/-- THE SECOND FORM's CARD OF 'laws.FnGateList'. -/
def fnGateListUptoCard : Claim7 := { stood := { row := fnGateListUptoRow, standIns := [], harness := (true, "827ae70bfabea6fd1c932733c7aab7e7d85e1aa630b0fb053a8625892b5078e8"), looks := false }, kinds := [], alts := [], laidByText := true, laidKinds := [.data, .pinned], laidTests := true, laidLooks := .later }
def FnGateListUptoCardSaid : Prop := Claim7.holds Tryz.pinned (.plain (OpenSpec.upto fnGateListSpec)) fnGateListUptoCard
end Rows
end Go.Proofs.YtbcnjcjcdknhhaaGreatDoor
