/-
  DERIVED. GIVEN WITH THE SEED: THE CARDS: each row of YtaijnchdfgojiabGreatDoorRows.lean that lists a variable, with what it lists TIED to the program's text (the seventh form; the later family's looks); each row that meets fmt, with fmt's text TOLD by the authors' own Lean function (tested against real Go, not proved from fmt's source: count such statements apart). THE CARD IS WHAT COUNTS. Prove the row's statement (the work); the ties are given (YtaijnchdfgojiabGreatDoorTie.lean); close each card by the builder's one call (the guide's Derived/Test/ToyasCard.lean, 'card_holds'). Laid BY PROGRAM, IN A SANDBOX (cutbox-door.mjs). By AI agents, Wed Nov 11 2026. No macro, syntax, notation, axiom, sorry.
-/
import Derived.Test.YtaijnchdfgojiabGreatDoorRows
import GoSem.ClaimSeven
namespace Go.Proofs.YtaijnchdfgojiabGreatDoor
namespace Rows

/-- THE TIED CARD OF 'laws.FnExactPropagateRequired'. -/
def fnExactPropagateRequiredCard : Claim7 := { stood := { row := fnExactPropagateRequiredRow, standIns := [], harness := (true, "b2006b3be719274a5a29287b740760cc629d0fbd9fbe05008e801634140874ca"), looks := false }, kinds := [], alts := [], laidByText := true, laidKinds := [.data, .pinned], laidTests := true, laidLooks := .later }
def FnExactPropagateRequiredCardSaid : Prop := Claim7.holds Tryz.pinned (.plain (OpenSpec.ofChange fnExactPropagateRequiredSpec)) fnExactPropagateRequiredCard

/-- THE SECOND FORM's CARD OF 'laws.FnExactPropagateRequired'. -/
def fnExactPropagateRequiredUptoCard : Claim7 := { stood := { row := fnExactPropagateRequiredUptoRow, standIns := [], harness := (true, "b2006b3be719274a5a29287b740760cc629d0fbd9fbe05008e801634140874ca"), looks := false }, kinds := [], alts := [], laidByText := true, laidKinds := [.data, .pinned], laidTests := true, laidLooks := .later }
def FnExactPropagateRequiredUptoCardSaid : Prop := Claim7.holds Tryz.pinned (.plain (OpenSpec.upto fnExactPropagateRequiredSpec)) fnExactPropagateRequiredUptoCard
end Rows
end Go.Proofs.YtaijnchdfgojiabGreatDoor
