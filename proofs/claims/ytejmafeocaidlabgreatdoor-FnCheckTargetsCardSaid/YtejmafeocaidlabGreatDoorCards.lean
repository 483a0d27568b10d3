/-
  DERIVED. GIVEN WITH THE SEED: THE CARDS: each row of YtejmafeocaidlabGreatDoorRows.lean that lists a variable, with what it lists TIED to the program's text (the seventh form; the later family's looks); each row that meets fmt, with fmt's text TOLD by the authors' own Lean function (tested against real Go, not proved from fmt's source: count such statements apart). THE CARD IS WHAT COUNTS. Prove the row's statement (the work); the ties are given (YtejmafeocaidlabGreatDoorTie.lean); close each card by the builder's one call (the guide's Derived/Test/ToyasCard.lean, 'card_holds'). Laid BY PROGRAM, IN A SANDBOX (cutbox-door.mjs). By AI agents, Wed Nov 11 2026. No macro, syntax, notation, axiom, sorry.
-/
import Derived.Test.YtejmafeocaidlabGreatDoorRows
import GoSem.ClaimSeven
namespace Go.Proofs.YtejmafeocaidlabGreatDoor
namespace Rows

/-- THE TIED CARD OF 'laws.FnCheckTargets'. -/
def fnCheckTargetsCard : Claim7 := { stood := { row := fnCheckTargetsRow, standIns := [], harness := (true, "2501a4a9129cd15822eba0b1b27d3fdbe83d6668393153208de01521df86fd82"), looks := false }, kinds := [], alts := [], laidByText := true, laidKinds := [.data, .pinned], laidTests := true, laidLooks := .later }
def FnCheckTargetsCardSaid : Prop := Claim7.holds Tryz.pinned (.plain (OpenSpec.ofChange fnCheckTargetsSpec)) fnCheckTargetsCard

/-- THE SECOND FORM's CARD OF 'laws.FnCheckTargets'. -/
def fnCheckTargetsUptoCard : Claim7 := { stood := { row := fnCheckTargetsUptoRow, standIns := [], harness := (true, "2501a4a9129cd15822eba0b1b27d3fdbe83d6668393153208de01521df86fd82"), looks := false }, kinds := [], alts := [], laidByText := true, laidKinds := [.data, .pinned], laidTests := true, laidLooks := .later }
def FnCheckTargetsUptoCardSaid : Prop := Claim7.holds Tryz.pinned (.plain (OpenSpec.upto fnCheckTargetsSpec)) fnCheckTargetsUptoCard
end Rows
end Go.Proofs.YtejmafeocaidlabGreatDoor
