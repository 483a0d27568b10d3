/-
  DERIVED. GIVEN WITH THE SEED: THE CARDS: each row of YthjagnioabgceabGreatDoorRows.lean that lists a variable, with what it lists TIED to the program's text (the seventh form; the later family's looks); each row that meets fmt, with fmt's text TOLD by the authors' own Lean function (tested against real Go, not proved from fmt's source: count such statements apart). THE CARD IS WHAT COUNTS. Prove the row's statement (the work); the ties are given (YthjagnioabgceabGreatDoorTie.lean); close each card by the builder's one call (the guide's Derived/Test/ToyasCard.lean, 'card_holds'). Laid BY PROGRAM, IN A SANDBOX (cutbox-door.mjs). By AI agents, Wed Nov 11 2026. No macro, syntax, notation, axiom, sorry.
-/
import Derived.Test.YthjagnioabgceabGreatDoorRows
import GoSem.ClaimSeven
namespace Go.Proofs.YthjagnioabgceabGreatDoor
namespace Rows

/-- THE TIED CARD OF 'laws.FnExactActiveLevel'. -/
def fnExactActiveLevelCard : Claim7 := { stood := { row := fnExactActiveLevelRow, standIns := [], harness := (true, "5357aeec0b6b167fd66003c6e3e4bc49b2115e2f6c93c7986225a0ae5759549a"), looks := false }, kinds := [], alts := [], laidByText := true, laidKinds := [.data, .pinned], laidTests := true, laidLooks := .later }
def FnExactActiveLevelCardSaid : Prop := Claim7.holds Tryz.pinned (.plain (OpenSpec.ofChange fnExactActiveLevelSpec)) fnExactActiveLevelCard

/-- THE SECOND FORM's CARD OF 'laws.FnExactActiveLevel'. -/
def fnExactActiveLevelUptoCard : Claim7 := { stood := { row := fnExactActiveLevelUptoRow, standIns := [], harness := (true, "5357aeec0b6b167fd66003c6e3e4bc49b2115e2f6c93c7986225a0ae5759549a"), looks := false }, kinds := [], alts := [], laidByText := true, laidKinds := [.data, .pinned], laidTests := true, laidLooks := .later }
def FnExactActiveLevelUptoCardSaid : Prop := Claim7.holds Tryz.pinned (.plain (OpenSpec.upto fnExactActiveLevelSpec)) fnExactActiveLevelUptoCard
end Rows
end Go.Proofs.YthjagnioabgceabGreatDoor
