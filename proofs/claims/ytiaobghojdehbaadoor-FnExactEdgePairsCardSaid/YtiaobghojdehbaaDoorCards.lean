/-
  DERIVED. GIVEN WITH THE SEED: THE CARDS: each row of YtiaobghojdehbaaDoorRows.lean that lists a variable, with what it lists TIED to the program's text (the seventh form; the later family's looks); each row that meets fmt, with fmt's text TOLD by the authors' own Lean function (tested against real Go, not proved from fmt's source: count such statements apart). THE CARD IS WHAT COUNTS. Prove the row's statement (the work); the ties are given (YtiaobghojdehbaaDoorTie.lean); close each card by the builder's one call (the guide's Derived/Test/ToyasCard.lean, 'card_holds'). Laid BY PROGRAM, IN A SANDBOX (cutbox-door.mjs). By AI agents, Wed Nov 11 2026. No macro, syntax, notation, axiom, sorry.
-/
import Derived.Test.YtiaobghojdehbaaDoorRows
import GoSem.ClaimSeven
namespace Go.Proofs.YtiaobghojdehbaaDoor
namespace Rows

/-- THE TIED CARD OF 'laws.FnExactEdgePairs'. -/
def fnExactEdgePairsCard : Claim7 := { stood := { row := fnExactEdgePairsRow, standIns := [], harness := (true, "cc0bad4deb48065f9b10577f34d7cf5ac7074dd3bfa84edea23d2e8aa80968b5"), looks := false }, kinds := [], alts := [], laidByText := true, laidKinds := [.data, .pinned], laidTests := true, laidLooks := .later }
def FnExactEdgePairsCardSaid : Prop := Claim7.holds Tryd.pinned (.plain (OpenSpec.ofChange fnExactEdgePairsSpec)) fnExactEdgePairsCard

/-- THE SECOND FORM's CARD OF 'laws.FnExactEdgePairs'. -/
def fnExactEdgePairsUptoCard : Claim7 := { stood := { row := fnExactEdgePairsUptoRow, standIns := [], harness := (true, "cc0bad4deb48065f9b10577f34d7cf5ac7074dd3bfa84edea23d2e8aa80968b5"), looks := false }, kinds := [], alts := [], laidByText := true, laidKinds := [.data, .pinned], laidTests := true, laidLooks := .later }
def FnExactEdgePairsUptoCardSaid : Prop := Claim7.holds Tryd.pinned (.plain (OpenSpec.upto fnExactEdgePairsSpec)) fnExactEdgePairsUptoCard
end Rows
end Go.Proofs.YtiaobghojdehbaaDoor
