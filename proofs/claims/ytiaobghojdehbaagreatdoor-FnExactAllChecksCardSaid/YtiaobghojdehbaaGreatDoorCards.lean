/-
  DERIVED. GIVEN WITH THE SEED: THE CARDS: each row of YtiaobghojdehbaaGreatDoorRows.lean that lists a variable, with what it lists TIED to the program's text (the seventh form; the later family's looks); each row that meets fmt, with fmt's text TOLD by the authors' own Lean function (tested against real Go, not proved from fmt's source: count such statements apart). THE CARD IS WHAT COUNTS. Prove the row's statement (the work); the ties are given (YtiaobghojdehbaaGreatDoorTie.lean); close each card by the builder's one call (the guide's Derived/Test/ToyasCard.lean, 'card_holds'). Laid BY PROGRAM, IN A SANDBOX (cutbox-door.mjs). By AI agents, Wed Nov 11 2026. No macro, syntax, notation, axiom, sorry.
-/
import Derived.Test.YtiaobghojdehbaaGreatDoorRows
import GoSem.ClaimSeven
namespace Go.Proofs.YtiaobghojdehbaaGreatDoor
namespace Rows

/-- THE TIED CARD OF 'laws.FnExactCheckSites'. -/
def fnExactCheckSitesCard : Claim7 := { stood := { row := fnExactCheckSitesRow, standIns := [], harness := (true, "af6fa70aec00902c60005eaa75dbd0bb152a350d604e4fa6f7727b6f367d9ace"), looks := false }, kinds := [], alts := [], laidByText := true, laidKinds := [.data, .pinned], laidTests := true, laidLooks := .later }
def FnExactCheckSitesCardSaid : Prop := Claim7.holds Tryz.pinned (.plain (OpenSpec.ofChange fnExactCheckSitesSpec)) fnExactCheckSitesCard

/-- THE TIED CARD OF 'laws.FnExactClockNodes'. -/
def fnExactClockNodesCard : Claim7 := { stood := { row := fnExactClockNodesRow, standIns := [], harness := (true, "af6fa70aec00902c60005eaa75dbd0bb152a350d604e4fa6f7727b6f367d9ace"), looks := false }, kinds := [], alts := [], laidByText := true, laidKinds := [.data, .pinned], laidTests := true, laidLooks := .later }
def FnExactClockNodesCardSaid : Prop := Claim7.holds Tryz.pinned (.plain (OpenSpec.ofChange fnExactClockNodesSpec)) fnExactClockNodesCard

/-- THE TIED CARD OF 'laws.FnExactClockPinsOf'. -/
def fnExactClockPinsOfCard : Claim7 := { stood := { row := fnExactClockPinsOfRow, standIns := [], harness := (true, "af6fa70aec00902c60005eaa75dbd0bb152a350d604e4fa6f7727b6f367d9ace"), looks := false }, kinds := [], alts := [], laidByText := true, laidKinds := [.data, .pinned], laidTests := true, laidLooks := .later }
def FnExactClockPinsOfCardSaid : Prop := Claim7.holds Tryz.pinned (.plain (OpenSpec.ofChange fnExactClockPinsOfSpec)) fnExactClockPinsOfCard

/-- THE TIED CARD OF 'laws.FnExactCriticalNodes'. -/
def fnExactCriticalNodesCard : Claim7 := { stood := { row := fnExactCriticalNodesRow, standIns := [], harness := (true, "af6fa70aec00902c60005eaa75dbd0bb152a350d604e4fa6f7727b6f367d9ace"), looks := false }, kinds := [], alts := [], laidByText := true, laidKinds := [.data, .pinned], laidTests := true, laidLooks := .later }
def FnExactCriticalNodesCardSaid : Prop := Claim7.holds Tryz.pinned (.plain (OpenSpec.ofChange fnExactCriticalNodesSpec)) fnExactCriticalNodesCard

/-- THE TIED CARD OF 'laws.FnExactGatesOf'. -/
def fnExactGatesOfCard : Claim7 := { stood := { row := fnExactGatesOfRow, standIns := [], harness := (true, "af6fa70aec00902c60005eaa75dbd0bb152a350d604e4fa6f7727b6f367d9ace"), looks := false }, kinds := [], alts := [], laidByText := true, laidKinds := [.data, .pinned], laidTests := true, laidLooks := .later }
def FnExactGatesOfCardSaid : Prop := Claim7.holds Tryz.pinned (.plain (OpenSpec.ofChange fnExactGatesOfSpec)) fnExactGatesOfCard

/-- THE TIED CARD OF 'laws.FnExactAllChecks'. -/
def fnExactAllChecksCard : Claim7 := { stood := { row := fnExactAllChecksRow, standIns := [], harness := (true, "af6fa70aec00902c60005eaa75dbd0bb152a350d604e4fa6f7727b6f367d9ace"), looks := false }, kinds := [], alts := [], laidByText := true, laidKinds := [.data, .pinned], laidTests := true, laidLooks := .later }
def FnExactAllChecksCardSaid : Prop := Claim7.holds Tryz.pinned (.plain (OpenSpec.ofChange fnExactAllChecksSpec)) fnExactAllChecksCard

/-- THE SECOND FORM's CARD OF 'laws.FnExactCheckSites'. -/
def fnExactCheckSitesUptoCard : Claim7 := { stood := { row := fnExactCheckSitesUptoRow, standIns := [], harness := (true, "af6fa70aec00902c60005eaa75dbd0bb152a350d604e4fa6f7727b6f367d9ace"), looks := false }, kinds := [], alts := [], laidByText := true, laidKinds := [.data, .pinned], laidTests := true, laidLooks := .later }
def FnExactCheckSitesUptoCardSaid : Prop := Claim7.holds Tryz.pinned (.plain (OpenSpec.upto fnExactCheckSitesSpec)) fnExactCheckSitesUptoCard

/-- THE SECOND FORM's CARD OF 'laws.FnExactClockNodes'. -/
def fnExactClockNodesUptoCard : Claim7 := { stood := { row := fnExactClockNodesUptoRow, standIns := [], harness := (true, "af6fa70aec00902c60005eaa75dbd0bb152a350d604e4fa6f7727b6f367d9ace"), looks := false }, kinds := [], alts := [], laidByText := true, laidKinds := [.data, .pinned], laidTests := true, laidLooks := .later }
def FnExactClockNodesUptoCardSaid : Prop := Claim7.holds Tryz.pinned (.plain (OpenSpec.upto fnExactClockNodesSpec)) fnExactClockNodesUptoCard

/-- THE SECOND FORM's CARD OF 'laws.FnExactClockPinsOf'. -/
def fnExactClockPinsOfUptoCard : Claim7 := { stood := { row := fnExactClockPinsOfUptoRow, standIns := [], harness := (true, "af6fa70aec00902c60005eaa75dbd0bb152a350d604e4fa6f7727b6f367d9ace"), looks := false }, kinds := [], alts := [], laidByText := true, laidKinds := [.data, .pinned], laidTests := true, laidLooks := .later }
def FnExactClockPinsOfUptoCardSaid : Prop := Claim7.holds Tryz.pinned (.plain (OpenSpec.upto fnExactClockPinsOfSpec)) fnExactClockPinsOfUptoCard

/-- THE SECOND FORM's CARD OF 'laws.FnExactCriticalNodes'. -/
def fnExactCriticalNodesUptoCard : Claim7 := { stood := { row := fnExactCriticalNodesUptoRow, standIns := [], harness := (true, "af6fa70aec00902c60005eaa75dbd0bb152a350d604e4fa6f7727b6f367d9ace"), looks := false }, kinds := [], alts := [], laidByText := true, laidKinds := [.data, .pinned], laidTests := true, laidLooks := .later }
def FnExactCriticalNodesUptoCardSaid : Prop := Claim7.holds Tryz.pinned (.plain (OpenSpec.upto fnExactCriticalNodesSpec)) fnExactCriticalNodesUptoCard

/-- THE SECOND FORM's CARD OF 'laws.FnExactGatesOf'. -/
def fnExactGatesOfUptoCard : Claim7 := { stood := { row := fnExactGatesOfUptoRow, standIns := [], harness := (true, "af6fa70aec00902c60005eaa75dbd0bb152a350d604e4fa6f7727b6f367d9ace"), looks := false }, kinds := [], alts := [], laidByText := true, laidKinds := [.data, .pinned], laidTests := true, laidLooks := .later }
def FnExactGatesOfUptoCardSaid : Prop := Claim7.holds Tryz.pinned (.plain (OpenSpec.upto fnExactGatesOfSpec)) fnExactGatesOfUptoCard

/-- THE SECOND FORM's CARD OF 'laws.FnExactAllChecks'. -/
def fnExactAllChecksUptoCard : Claim7 := { stood := { row := fnExactAllChecksUptoRow, standIns := [], harness := (true, "af6fa70aec00902c60005eaa75dbd0bb152a350d604e4fa6f7727b6f367d9ace"), looks := false }, kinds := [], alts := [], laidByText := true, laidKinds := [.data, .pinned], laidTests := true, laidLooks := .later }
def FnExactAllChecksUptoCardSaid : Prop := Claim7.holds Tryz.pinned (.plain (OpenSpec.upto fnExactAllChecksSpec)) fnExactAllChecksUptoCard
end Rows
end Go.Proofs.YtiaobghojdehbaaGreatDoor
