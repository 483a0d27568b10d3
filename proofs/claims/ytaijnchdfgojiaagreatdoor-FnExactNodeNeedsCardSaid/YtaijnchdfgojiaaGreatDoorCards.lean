/-
  DERIVED. GIVEN WITH THE SEED: THE CARDS: each row of YtaijnchdfgojiaaGreatDoorRows.lean that lists a variable, with what it lists TIED to the program's text (the seventh form; the later family's looks); each row that meets fmt, with fmt's text TOLD by the authors' own Lean function (tested against real Go, not proved from fmt's source: count such statements apart). THE CARD IS WHAT COUNTS. Prove the row's statement (the work); the ties are given (YtaijnchdfgojiaaGreatDoorTie.lean); close each card by the builder's one call (the guide's Derived/Test/ToyasCard.lean, 'card_holds'). Laid BY PROGRAM, IN A SANDBOX (cutbox-door.mjs). By AI agents, Wed Nov 11 2026. No macro, syntax, notation, axiom, sorry.
-/
import Derived.Test.YtaijnchdfgojiaaGreatDoorRows
import GoSem.ClaimSeven
namespace Go.Proofs.YtaijnchdfgojiaaGreatDoor
namespace Rows

/-- THE TIED CARD OF 'laws.FnExactNodeNeeds'. -/
def fnExactNodeNeedsCard : Claim7 := { stood := { row := fnExactNodeNeedsRow, standIns := [], harness := (true, "ef68042d9c5f3bd0bf589452900e0b7eac140e33c28311706928015ff05020fa"), looks := false }, kinds := [], alts := [], laidByText := true, laidKinds := [.data, .pinned], laidTests := true, laidLooks := .later }
def FnExactNodeNeedsCardSaid : Prop := Claim7.holds Tryz.pinned (.plain (OpenSpec.ofChange fnExactNodeNeedsSpec)) fnExactNodeNeedsCard

/-- THE SECOND FORM's CARD OF 'laws.FnExactNodeNeeds'. -/
def fnExactNodeNeedsUptoCard : Claim7 := { stood := { row := fnExactNodeNeedsUptoRow, standIns := [], harness := (true, "ef68042d9c5f3bd0bf589452900e0b7eac140e33c28311706928015ff05020fa"), looks := false }, kinds := [], alts := [], laidByText := true, laidKinds := [.data, .pinned], laidTests := true, laidLooks := .later }
def FnExactNodeNeedsUptoCardSaid : Prop := Claim7.holds Tryz.pinned (.plain (OpenSpec.upto fnExactNodeNeedsSpec)) fnExactNodeNeedsUptoCard
end Rows
end Go.Proofs.YtaijnchdfgojiaaGreatDoor
