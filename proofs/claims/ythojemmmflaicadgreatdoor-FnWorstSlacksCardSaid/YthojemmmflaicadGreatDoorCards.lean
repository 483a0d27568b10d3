/-
  DERIVED. GIVEN WITH THE SEED: THE CARDS: each row of YthojemmmflaicadGreatDoorRows.lean that lists a variable, with what it lists TIED to the program's text (the seventh form; the later family's looks); each row that meets fmt, with fmt's text TOLD by the authors' own Lean function (tested against real Go, not proved from fmt's source: count such statements apart). THE CARD IS WHAT COUNTS. Prove the row's statement (the work); the ties are given (YthojemmmflaicadGreatDoorTie.lean); close each card by the builder's one call (the guide's Derived/Test/ToyasCard.lean, 'card_holds'). Laid BY PROGRAM, IN A SANDBOX (cutbox-door.mjs). By AI agents, Wed Nov 11 2026. No macro, syntax, notation, axiom, sorry.
-/
import Derived.Test.YthojemmmflaicadGreatDoorRows
import GoSem.ClaimSeven
namespace Go.Proofs.YthojemmmflaicadGreatDoor
namespace Rows

/-- THE TIED CARD OF 'laws.FnWorstSlacks'. -/
def fnWorstSlacksCard : Claim7 := { stood := { row := fnWorstSlacksRow, standIns := [], harness := (true, "cfc775d0cd22bff884fa3eac8ad30c34147ba5ace0040f00ff10351bf0eaa6fb"), looks := false }, kinds := [], alts := [], laidByText := true, laidKinds := [.data, .pinned], laidTests := true, laidLooks := .later }
def FnWorstSlacksCardSaid : Prop := Claim7.holds Tryz.pinned (.plain (OpenSpec.ofChange fnWorstSlacksSpec)) fnWorstSlacksCard

/-- THE SECOND FORM's CARD OF 'laws.FnWorstSlacks'. -/
def fnWorstSlacksUptoCard : Claim7 := { stood := { row := fnWorstSlacksUptoRow, standIns := [], harness := (true, "cfc775d0cd22bff884fa3eac8ad30c34147ba5ace0040f00ff10351bf0eaa6fb"), looks := false }, kinds := [], alts := [], laidByText := true, laidKinds := [.data, .pinned], laidTests := true, laidLooks := .later }
def FnWorstSlacksUptoCardSaid : Prop := Claim7.holds Tryz.pinned (.plain (OpenSpec.upto fnWorstSlacksSpec)) fnWorstSlacksUptoCard
end Rows
end Go.Proofs.YthojemmmflaicadGreatDoor
