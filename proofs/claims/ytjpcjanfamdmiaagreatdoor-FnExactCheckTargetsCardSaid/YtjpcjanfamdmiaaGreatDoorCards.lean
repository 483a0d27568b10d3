/-
  DERIVED. GIVEN WITH THE SEED: THE CARDS: each row of YtjpcjanfamdmiaaGreatDoorRows.lean that lists a variable, with what it lists TIED to the program's text (the seventh form; the later family's looks); each row that meets fmt, with fmt's text TOLD by the authors' own Lean function (tested against real Go, not proved from fmt's source: count such statements apart). THE CARD IS WHAT COUNTS. Prove the row's statement (the work); the ties are given (YtjpcjanfamdmiaaGreatDoorTie.lean); close each card by the builder's one call (the guide's Derived/Test/ToyasCard.lean, 'card_holds'). Laid BY PROGRAM, IN A SANDBOX (cutbox-door.mjs). By AI agents, Wed Nov 11 2026. No macro, syntax, notation, axiom, sorry.
-/
import Derived.Test.YtjpcjanfamdmiaaGreatDoorRows
import GoSem.ClaimSeven
namespace Go.Proofs.YtjpcjanfamdmiaaGreatDoor
namespace Rows

/-- THE TIED CARD OF 'laws.FnExactCheckTargets'. -/
def fnExactCheckTargetsCard : Claim7 := { stood := { row := fnExactCheckTargetsRow, standIns := [], harness := (true, "96ed0f208c757d98f3b1dd5331ce60512a8ef53be4d1692afa084ca1c20fc51a"), looks := false }, kinds := [], alts := [], laidByText := true, laidKinds := [.data, .pinned], laidTests := true, laidLooks := .later }
def FnExactCheckTargetsCardSaid : Prop := Claim7.holds Tryz.pinned (.plain (OpenSpec.ofChange fnExactCheckTargetsSpec)) fnExactCheckTargetsCard

/-- THE SECOND FORM's CARD OF 'laws.FnExactCheckTargets'. -/
def fnExactCheckTargetsUptoCard : Claim7 := { stood := { row := fnExactCheckTargetsUptoRow, standIns := [], harness := (true, "96ed0f208c757d98f3b1dd5331ce60512a8ef53be4d1692afa084ca1c20fc51a"), looks := false }, kinds := [], alts := [], laidByText := true, laidKinds := [.data, .pinned], laidTests := true, laidLooks := .later }
def FnExactCheckTargetsUptoCardSaid : Prop := Claim7.holds Tryz.pinned (.plain (OpenSpec.upto fnExactCheckTargetsSpec)) fnExactCheckTargetsUptoCard
end Rows
end Go.Proofs.YtjpcjanfamdmiaaGreatDoor
