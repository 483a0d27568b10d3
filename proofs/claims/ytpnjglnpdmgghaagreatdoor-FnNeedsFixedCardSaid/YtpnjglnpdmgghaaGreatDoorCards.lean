/-
  DERIVED. GIVEN WITH THE SEED: THE CARDS: each row of YtpnjglnpdmgghaaGreatDoorRows.lean that lists a variable, with what it lists TIED to the program's text (the seventh form; the later family's looks); each row that meets fmt, with fmt's text TOLD by the authors' own Lean function (tested against real Go, not proved from fmt's source: count such statements apart). THE CARD IS WHAT COUNTS. Prove the row's statement (the work); the ties are given (YtpnjglnpdmgghaaGreatDoorTie.lean); close each card by the builder's one call (the guide's Derived/Test/ToyasCard.lean, 'card_holds'). Laid BY PROGRAM, IN A SANDBOX (cutbox-door.mjs). By AI agents, Wed Nov 11 2026. No macro, syntax, notation, axiom, sorry.
-/
import Derived.Test.YtpnjglnpdmgghaaGreatDoorRows
import GoSem.ClaimSeven
namespace Go.Proofs.YtpnjglnpdmgghaaGreatDoor
namespace Rows

/-- THE TIED CARD OF 'laws.FnNeedsFixed'. -/
def fnNeedsFixedCard : Claim7 := { stood := { row := fnNeedsFixedRow, standIns := [], harness := (true, "9cfb362e28557324c336d60e84cca6b43ad0174bfe3f23bd36eb17a95be69381"), looks := false }, kinds := [], alts := [], laidByText := true, laidKinds := [.data, .pinned], laidTests := true, laidLooks := .later }
def FnNeedsFixedCardSaid : Prop := Claim7.holds Tryz.pinned (.plain (OpenSpec.ofChange fnNeedsFixedSpec)) fnNeedsFixedCard

/-- THE SECOND FORM's CARD OF 'laws.FnNeedsFixed'. -/
def fnNeedsFixedUptoCard : Claim7 := { stood := { row := fnNeedsFixedUptoRow, standIns := [], harness := (true, "9cfb362e28557324c336d60e84cca6b43ad0174bfe3f23bd36eb17a95be69381"), looks := false }, kinds := [], alts := [], laidByText := true, laidKinds := [.data, .pinned], laidTests := true, laidLooks := .later }
def FnNeedsFixedUptoCardSaid : Prop := Claim7.holds Tryz.pinned (.plain (OpenSpec.upto fnNeedsFixedSpec)) fnNeedsFixedUptoCard
end Rows
end Go.Proofs.YtpnjglnpdmgghaaGreatDoor
