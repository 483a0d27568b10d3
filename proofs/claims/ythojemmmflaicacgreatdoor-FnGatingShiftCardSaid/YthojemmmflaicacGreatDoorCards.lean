/-
  DERIVED. GIVEN WITH THE SEED: THE CARDS: each row of YthojemmmflaicacGreatDoorRows.lean that lists a variable, with what it lists TIED to the program's text (the seventh form; the later family's looks); each row that meets fmt, with fmt's text TOLD by the authors' own Lean function (tested against real Go, not proved from fmt's source: count such statements apart). THE CARD IS WHAT COUNTS. Prove the row's statement (the work); the ties are given (YthojemmmflaicacGreatDoorTie.lean); close each card by the builder's one call (the guide's Derived/Test/ToyasCard.lean, 'card_holds'). Laid BY PROGRAM, IN A SANDBOX (cutbox-door.mjs). By AI agents, Wed Nov 11 2026. No macro, syntax, notation, axiom, sorry.
-/
import Derived.Test.YthojemmmflaicacGreatDoorRows
import GoSem.ClaimSeven
namespace Go.Proofs.YthojemmmflaicacGreatDoor
namespace Rows

/-- THE TIED CARD OF 'laws.FnGatingShift'. -/
def fnGatingShiftCard : Claim7 := { stood := { row := fnGatingShiftRow, standIns := [], harness := (true, "f2871e72b5c1a993d99cbc259c6f0c0986546ac13ee8ab1ffe276daa34317977"), looks := false }, kinds := [], alts := [], laidByText := true, laidKinds := [.data, .pinned], laidTests := true, laidLooks := .later }
def FnGatingShiftCardSaid : Prop := Claim7.holds Tryz.pinned (.plain (OpenSpec.ofChange fnGatingShiftSpec)) fnGatingShiftCard

/-- THE SECOND FORM's CARD OF 'laws.FnGatingShift'. -/
def fnGatingShiftUptoCard : Claim7 := { stood := { row := fnGatingShiftUptoRow, standIns := [], harness := (true, "f2871e72b5c1a993d99cbc259c6f0c0986546ac13ee8ab1ffe276daa34317977"), looks := false }, kinds := [], alts := [], laidByText := true, laidKinds := [.data, .pinned], laidTests := true, laidLooks := .later }
def FnGatingShiftUptoCardSaid : Prop := Claim7.holds Tryz.pinned (.plain (OpenSpec.upto fnGatingShiftSpec)) fnGatingShiftUptoCard
end Rows
end Go.Proofs.YthojemmmflaicacGreatDoor
