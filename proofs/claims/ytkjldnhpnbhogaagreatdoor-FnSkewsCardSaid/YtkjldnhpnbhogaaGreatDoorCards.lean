/-
  DERIVED. GIVEN WITH THE SEED: THE CARDS: each row of YtkjldnhpnbhogaaGreatDoorRows.lean that lists a variable, with what it lists TIED to the program's text (the seventh form; the later family's looks); each row that meets fmt, with fmt's text TOLD by the authors' own Lean function (tested against real Go, not proved from fmt's source: count such statements apart). THE CARD IS WHAT COUNTS. Prove the row's statement (the work); the ties are given (YtkjldnhpnbhogaaGreatDoorTie.lean); close each card by the builder's one call (the guide's Derived/Test/ToyasCard.lean, 'card_holds'). Laid BY PROGRAM, IN A SANDBOX (cutbox-door.mjs). By AI agents, Wed Nov 11 2026. No macro, syntax, notation, axiom, sorry.
-/
import Derived.Test.YtkjldnhpnbhogaaGreatDoorRows
import GoSem.ClaimSeven
namespace Go.Proofs.YtkjldnhpnbhogaaGreatDoor
namespace Rows

/-- THE TIED CARD OF 'laws.FnSkews'. -/
def fnSkewsCard : Claim7 := { stood := { row := fnSkewsRow, standIns := [], harness := (true, "5a59d095734e19db0740f39d9d9abdcbc9fde0ff82152adcfc9a24994987c4a4"), looks := false }, kinds := [], alts := [], laidByText := true, laidKinds := [.data, .pinned], laidTests := true, laidLooks := .later }
def FnSkewsCardSaid : Prop := Claim7.holds Tryz.pinned (.plain (OpenSpec.ofChange fnSkewsSpec)) fnSkewsCard

/-- THE TIED CARD OF 'laws.FnGatingShift'. -/
def fnGatingShiftCard : Claim7 := { stood := { row := fnGatingShiftRow, standIns := [], harness := (true, "5a59d095734e19db0740f39d9d9abdcbc9fde0ff82152adcfc9a24994987c4a4"), looks := false }, kinds := [], alts := [], laidByText := true, laidKinds := [.data, .pinned], laidTests := true, laidLooks := .later }
def FnGatingShiftCardSaid : Prop := Claim7.holds Tryz.pinned (.plain (OpenSpec.ofChange fnGatingShiftSpec)) fnGatingShiftCard

/-- THE TIED CARD OF 'laws.FnChecks'. -/
def fnChecksCard : Claim7 := { stood := { row := fnChecksRow, standIns := [], harness := (true, "5a59d095734e19db0740f39d9d9abdcbc9fde0ff82152adcfc9a24994987c4a4"), looks := false }, kinds := [], alts := [], laidByText := true, laidKinds := [.data, .pinned], laidTests := true, laidLooks := .later }
def FnChecksCardSaid : Prop := Claim7.holds Tryz.pinned (.plain (OpenSpec.ofChange fnChecksSpec)) fnChecksCard

/-- THE TIED CARD OF 'laws.FnTotalSlack'. -/
def fnTotalSlackCard : Claim7 := { stood := { row := fnTotalSlackRow, standIns := [], harness := (true, "5a59d095734e19db0740f39d9d9abdcbc9fde0ff82152adcfc9a24994987c4a4"), looks := false }, kinds := [], alts := [], laidByText := true, laidKinds := [.data, .pinned], laidTests := true, laidLooks := .later }
def FnTotalSlackCardSaid : Prop := Claim7.holds Tryz.pinned (.plain (OpenSpec.ofChange fnTotalSlackSpec)) fnTotalSlackCard

/-- THE TIED CARD OF 'laws.FnWorstSlacks'. -/
def fnWorstSlacksCard : Claim7 := { stood := { row := fnWorstSlacksRow, standIns := [], harness := (true, "5a59d095734e19db0740f39d9d9abdcbc9fde0ff82152adcfc9a24994987c4a4"), looks := false }, kinds := [], alts := [], laidByText := true, laidKinds := [.data, .pinned], laidTests := true, laidLooks := .later }
def FnWorstSlacksCardSaid : Prop := Claim7.holds Tryz.pinned (.plain (OpenSpec.ofChange fnWorstSlacksSpec)) fnWorstSlacksCard

/-- THE SECOND FORM's CARD OF 'laws.FnSkews'. -/
def fnSkewsUptoCard : Claim7 := { stood := { row := fnSkewsUptoRow, standIns := [], harness := (true, "5a59d095734e19db0740f39d9d9abdcbc9fde0ff82152adcfc9a24994987c4a4"), looks := false }, kinds := [], alts := [], laidByText := true, laidKinds := [.data, .pinned], laidTests := true, laidLooks := .later }
def FnSkewsUptoCardSaid : Prop := Claim7.holds Tryz.pinned (.plain (OpenSpec.upto fnSkewsSpec)) fnSkewsUptoCard

/-- THE SECOND FORM's CARD OF 'laws.FnGatingShift'. -/
def fnGatingShiftUptoCard : Claim7 := { stood := { row := fnGatingShiftUptoRow, standIns := [], harness := (true, "5a59d095734e19db0740f39d9d9abdcbc9fde0ff82152adcfc9a24994987c4a4"), looks := false }, kinds := [], alts := [], laidByText := true, laidKinds := [.data, .pinned], laidTests := true, laidLooks := .later }
def FnGatingShiftUptoCardSaid : Prop := Claim7.holds Tryz.pinned (.plain (OpenSpec.upto fnGatingShiftSpec)) fnGatingShiftUptoCard

/-- THE SECOND FORM's CARD OF 'laws.FnChecks'. -/
def fnChecksUptoCard : Claim7 := { stood := { row := fnChecksUptoRow, standIns := [], harness := (true, "5a59d095734e19db0740f39d9d9abdcbc9fde0ff82152adcfc9a24994987c4a4"), looks := false }, kinds := [], alts := [], laidByText := true, laidKinds := [.data, .pinned], laidTests := true, laidLooks := .later }
def FnChecksUptoCardSaid : Prop := Claim7.holds Tryz.pinned (.plain (OpenSpec.upto fnChecksSpec)) fnChecksUptoCard

/-- THE SECOND FORM's CARD OF 'laws.FnTotalSlack'. -/
def fnTotalSlackUptoCard : Claim7 := { stood := { row := fnTotalSlackUptoRow, standIns := [], harness := (true, "5a59d095734e19db0740f39d9d9abdcbc9fde0ff82152adcfc9a24994987c4a4"), looks := false }, kinds := [], alts := [], laidByText := true, laidKinds := [.data, .pinned], laidTests := true, laidLooks := .later }
def FnTotalSlackUptoCardSaid : Prop := Claim7.holds Tryz.pinned (.plain (OpenSpec.upto fnTotalSlackSpec)) fnTotalSlackUptoCard

/-- THE SECOND FORM's CARD OF 'laws.FnWorstSlacks'. -/
def fnWorstSlacksUptoCard : Claim7 := { stood := { row := fnWorstSlacksUptoRow, standIns := [], harness := (true, "5a59d095734e19db0740f39d9d9abdcbc9fde0ff82152adcfc9a24994987c4a4"), looks := false }, kinds := [], alts := [], laidByText := true, laidKinds := [.data, .pinned], laidTests := true, laidLooks := .later }
def FnWorstSlacksUptoCardSaid : Prop := Claim7.holds Tryz.pinned (.plain (OpenSpec.upto fnWorstSlacksSpec)) fnWorstSlacksUptoCard
end Rows
end Go.Proofs.YtkjldnhpnbhogaaGreatDoor
