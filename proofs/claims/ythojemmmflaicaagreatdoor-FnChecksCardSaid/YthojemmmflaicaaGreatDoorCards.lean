/-
  DERIVED. GIVEN WITH THE SEED: THE CARDS: each row of YthojemmmflaicaaGreatDoorRows.lean that lists a variable, with what it lists TIED to the program's text (the seventh form; the later family's looks); each row that meets fmt, with fmt's text TOLD by the authors' own Lean function (tested against real Go, not proved from fmt's source: count such statements apart). THE CARD IS WHAT COUNTS. Prove the row's statement (the work); the ties are given (YthojemmmflaicaaGreatDoorTie.lean); close each card by the builder's one call (the guide's Derived/Test/ToyasCard.lean, 'card_holds'). Laid BY PROGRAM, IN A SANDBOX (cutbox-door.mjs). By AI agents, Wed Nov 11 2026. No macro, syntax, notation, axiom, sorry.
-/
import Derived.Test.YthojemmmflaicaaGreatDoorRows
import GoSem.ClaimSeven
namespace Go.Proofs.YthojemmmflaicaaGreatDoor
namespace Rows

/-- THE TIED CARD OF 'laws.FnChecks'. -/
def fnChecksCard : Claim7 := { stood := { row := fnChecksRow, standIns := [], harness := (true, "fc7961f628524012167aa51cd0e407f672997c6dd7ec8e5ec3259a74aed64e9b"), looks := false }, kinds := [], alts := [], laidByText := true, laidKinds := [.data, .pinned], laidTests := true, laidLooks := .later }
def FnChecksCardSaid : Prop := Claim7.holds Tryz.pinned (.plain (OpenSpec.ofChange fnChecksSpec)) fnChecksCard

/-- THE SECOND FORM's CARD OF 'laws.FnChecks'. -/
def fnChecksUptoCard : Claim7 := { stood := { row := fnChecksUptoRow, standIns := [], harness := (true, "fc7961f628524012167aa51cd0e407f672997c6dd7ec8e5ec3259a74aed64e9b"), looks := false }, kinds := [], alts := [], laidByText := true, laidKinds := [.data, .pinned], laidTests := true, laidLooks := .later }
def FnChecksUptoCardSaid : Prop := Claim7.holds Tryz.pinned (.plain (OpenSpec.upto fnChecksSpec)) fnChecksUptoCard
end Rows
end Go.Proofs.YthojemmmflaicaaGreatDoor
