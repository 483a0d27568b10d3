/-
  DERIVED. GIVEN WITH THE SEED: THE CARDS: each row of YthojemmmflaicabGreatDoorRows.lean that lists a variable, with what it lists TIED to the program's text (the seventh form; the later family's looks); each row that meets fmt, with fmt's text TOLD by the authors' own Lean function (tested against real Go, not proved from fmt's source: count such statements apart). THE CARD IS WHAT COUNTS. Prove the row's statement (the work); the ties are given (YthojemmmflaicabGreatDoorTie.lean); close each card by the builder's one call (the guide's Derived/Test/ToyasCard.lean, 'card_holds'). Laid BY PROGRAM, IN A SANDBOX (cutbox-door.mjs). By AI agents, Wed Nov 11 2026. No macro, syntax, notation, axiom, sorry.
-/
import Derived.Test.YthojemmmflaicabGreatDoorRows
import GoSem.ClaimSeven
namespace Go.Proofs.YthojemmmflaicabGreatDoor
namespace Rows

/-- THE TIED CARD OF 'laws.FnTotalSlack'. -/
def fnTotalSlackCard : Claim7 := { stood := { row := fnTotalSlackRow, standIns := [], harness := (true, "aed2f5ae9b06133f62ad8df003e33fe1c4b142dc32995365f1f2414a94aae7c4"), looks := false }, kinds := [], alts := [], laidByText := true, laidKinds := [.data, .pinned], laidTests := true, laidLooks := .later }
def FnTotalSlackCardSaid : Prop := Claim7.holds Tryz.pinned (.plain (OpenSpec.ofChange fnTotalSlackSpec)) fnTotalSlackCard

/-- THE SECOND FORM's CARD OF 'laws.FnTotalSlack'. -/
def fnTotalSlackUptoCard : Claim7 := { stood := { row := fnTotalSlackUptoRow, standIns := [], harness := (true, "aed2f5ae9b06133f62ad8df003e33fe1c4b142dc32995365f1f2414a94aae7c4"), looks := false }, kinds := [], alts := [], laidByText := true, laidKinds := [.data, .pinned], laidTests := true, laidLooks := .later }
def FnTotalSlackUptoCardSaid : Prop := Claim7.holds Tryz.pinned (.plain (OpenSpec.upto fnTotalSlackSpec)) fnTotalSlackUptoCard
end Rows
end Go.Proofs.YthojemmmflaicabGreatDoor
