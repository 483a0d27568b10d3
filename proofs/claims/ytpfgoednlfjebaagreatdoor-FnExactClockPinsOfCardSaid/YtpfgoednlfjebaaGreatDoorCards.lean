/-
  DERIVED. GIVEN WITH THE SEED: THE CARDS: each row of YtpfgoednlfjebaaGreatDoorRows.lean that lists a variable, with what it lists TIED to the program's text (the seventh form; the later family's looks); each row that meets fmt, with fmt's text TOLD by the authors' own Lean function (tested against real Go, not proved from fmt's source: count such statements apart). THE CARD IS WHAT COUNTS. Prove the row's statement (the work); the ties are given (YtpfgoednlfjebaaGreatDoorTie.lean); close each card by the builder's one call (the guide's Derived/Test/ToyasCard.lean, 'card_holds'). Laid BY PROGRAM, IN A SANDBOX (cutbox-door.mjs). By AI agents, Wed Nov 11 2026. No macro, syntax, notation, axiom, sorry.
-/
import Derived.Test.YtpfgoednlfjebaaGreatDoorRows
import GoSem.ClaimSeven
namespace Go.Proofs.YtpfgoednlfjebaaGreatDoor
namespace Rows

/-- THE TIED CARD OF 'laws.FnExactClockPinsOf'. -/
def fnExactClockPinsOfCard : Claim7 := { stood := { row := fnExactClockPinsOfRow, standIns := [], harness := (true, "9b1aa6b4990cb1fec994e64f9f97da029aef22d30f72ee2ec3d4070da9e2c277"), looks := false }, kinds := [], alts := [], laidByText := true, laidKinds := [.data, .pinned], laidTests := true, laidLooks := .later }
def FnExactClockPinsOfCardSaid : Prop := Claim7.holds Tryz.pinned (.plain (OpenSpec.ofChange fnExactClockPinsOfSpec)) fnExactClockPinsOfCard

/-- THE TIED CARD OF 'laws.FnExactGatesOf'. -/
def fnExactGatesOfCard : Claim7 := { stood := { row := fnExactGatesOfRow, standIns := [], harness := (true, "9b1aa6b4990cb1fec994e64f9f97da029aef22d30f72ee2ec3d4070da9e2c277"), looks := false }, kinds := [], alts := [], laidByText := true, laidKinds := [.data, .pinned], laidTests := true, laidLooks := .later }
def FnExactGatesOfCardSaid : Prop := Claim7.holds Tryz.pinned (.plain (OpenSpec.ofChange fnExactGatesOfSpec)) fnExactGatesOfCard

/-- THE SECOND FORM's CARD OF 'laws.FnExactClockPinsOf'. -/
def fnExactClockPinsOfUptoCard : Claim7 := { stood := { row := fnExactClockPinsOfUptoRow, standIns := [], harness := (true, "9b1aa6b4990cb1fec994e64f9f97da029aef22d30f72ee2ec3d4070da9e2c277"), looks := false }, kinds := [], alts := [], laidByText := true, laidKinds := [.data, .pinned], laidTests := true, laidLooks := .later }
def FnExactClockPinsOfUptoCardSaid : Prop := Claim7.holds Tryz.pinned (.plain (OpenSpec.upto fnExactClockPinsOfSpec)) fnExactClockPinsOfUptoCard

/-- THE SECOND FORM's CARD OF 'laws.FnExactGatesOf'. -/
def fnExactGatesOfUptoCard : Claim7 := { stood := { row := fnExactGatesOfUptoRow, standIns := [], harness := (true, "9b1aa6b4990cb1fec994e64f9f97da029aef22d30f72ee2ec3d4070da9e2c277"), looks := false }, kinds := [], alts := [], laidByText := true, laidKinds := [.data, .pinned], laidTests := true, laidLooks := .later }
def FnExactGatesOfUptoCardSaid : Prop := Claim7.holds Tryz.pinned (.plain (OpenSpec.upto fnExactGatesOfSpec)) fnExactGatesOfUptoCard
end Rows
end Go.Proofs.YtpfgoednlfjebaaGreatDoor
