/-
  DERIVED. GIVEN WITH THE SEED: THE CARDS: each row of YtjijjanefcaakaaGreatDoorRows.lean that lists a variable, with what it lists TIED to the program's text (the seventh form; the later family's looks); each row that meets fmt, with fmt's text TOLD by the authors' own Lean function (tested against real Go, not proved from fmt's source: count such statements apart). THE CARD IS WHAT COUNTS. Prove the row's statement (the work); the ties are given (YtjijjanefcaakaaGreatDoorTie.lean); close each card by the builder's one call (the guide's Derived/Test/ToyasCard.lean, 'card_holds'). Laid BY PROGRAM, IN A SANDBOX (cutbox-door.mjs). By AI agents, Wed Nov 11 2026. No macro, syntax, notation, axiom, sorry.
-/
import Derived.Test.YtjijjanefcaakaaGreatDoorRows
import GoSem.ClaimSeven
namespace Go.Proofs.YtjijjanefcaakaaGreatDoor
namespace Rows

/-- THE TIED CARD OF 'laws.FnExactIsTargets'. -/
def fnExactIsTargetsCard : Claim7 := { stood := { row := fnExactIsTargetsRow, standIns := [], harness := (true, "0cfbbe69e6496389c26123dfd2bf057f96429b10c7467d0915a65357578f797d"), looks := false }, kinds := [], alts := [], laidByText := true, laidKinds := [.data, .pinned], laidTests := true, laidLooks := .later }
def FnExactIsTargetsCardSaid : Prop := Claim7.holds Tryz.pinned (.plain (OpenSpec.ofChange fnExactIsTargetsSpec)) fnExactIsTargetsCard

/-- THE TIED CARD OF 'laws.FnExactIsNeeds'. -/
def fnExactIsNeedsCard : Claim7 := { stood := { row := fnExactIsNeedsRow, standIns := [], harness := (true, "0cfbbe69e6496389c26123dfd2bf057f96429b10c7467d0915a65357578f797d"), looks := false }, kinds := [], alts := [], laidByText := true, laidKinds := [.data, .pinned], laidTests := true, laidLooks := .later }
def FnExactIsNeedsCardSaid : Prop := Claim7.holds Tryz.pinned (.plain (OpenSpec.ofChange fnExactIsNeedsSpec)) fnExactIsNeedsCard

/-- THE TIED CARD OF 'laws.FnExactDataSlacks'. -/
def fnExactDataSlacksCard : Claim7 := { stood := { row := fnExactDataSlacksRow, standIns := [], harness := (true, "0cfbbe69e6496389c26123dfd2bf057f96429b10c7467d0915a65357578f797d"), looks := false }, kinds := [], alts := [], laidByText := true, laidKinds := [.data, .pinned], laidTests := true, laidLooks := .later }
def FnExactDataSlacksCardSaid : Prop := Claim7.holds Tryz.pinned (.plain (OpenSpec.ofChange fnExactDataSlacksSpec)) fnExactDataSlacksCard

/-- THE TIED CARD OF 'laws.FnExactSkewOf'. -/
def fnExactSkewOfCard : Claim7 := { stood := { row := fnExactSkewOfRow, standIns := [], harness := (true, "0cfbbe69e6496389c26123dfd2bf057f96429b10c7467d0915a65357578f797d"), looks := false }, kinds := [], alts := [], laidByText := true, laidKinds := [.data, .pinned], laidTests := true, laidLooks := .later }
def FnExactSkewOfCardSaid : Prop := Claim7.holds Tryz.pinned (.plain (OpenSpec.ofChange fnExactSkewOfSpec)) fnExactSkewOfCard

/-- THE TIED CARD OF 'laws.FnExactSlackOf'. -/
def fnExactSlackOfCard : Claim7 := { stood := { row := fnExactSlackOfRow, standIns := [], harness := (true, "0cfbbe69e6496389c26123dfd2bf057f96429b10c7467d0915a65357578f797d"), looks := false }, kinds := [], alts := [], laidByText := true, laidKinds := [.data, .pinned], laidTests := true, laidLooks := .later }
def FnExactSlackOfCardSaid : Prop := Claim7.holds Tryz.pinned (.plain (OpenSpec.ofChange fnExactSlackOfSpec)) fnExactSlackOfCard

/-- THE TIED CARD OF 'laws.FnExactWorstSlack'. -/
def fnExactWorstSlackCard : Claim7 := { stood := { row := fnExactWorstSlackRow, standIns := [], harness := (true, "0cfbbe69e6496389c26123dfd2bf057f96429b10c7467d0915a65357578f797d"), looks := false }, kinds := [], alts := [], laidByText := true, laidKinds := [.data, .pinned], laidTests := true, laidLooks := .later }
def FnExactWorstSlackCardSaid : Prop := Claim7.holds Tryz.pinned (.plain (OpenSpec.ofChange fnExactWorstSlackSpec)) fnExactWorstSlackCard

/-- THE TIED CARD OF 'laws.FnExactGatingSlacks'. -/
def fnExactGatingSlacksCard : Claim7 := { stood := { row := fnExactGatingSlacksRow, standIns := [], harness := (true, "0cfbbe69e6496389c26123dfd2bf057f96429b10c7467d0915a65357578f797d"), looks := false }, kinds := [], alts := [], laidByText := true, laidKinds := [.data, .pinned], laidTests := true, laidLooks := .later }
def FnExactGatingSlacksCardSaid : Prop := Claim7.holds Tryz.pinned (.plain (OpenSpec.ofChange fnExactGatingSlacksSpec)) fnExactGatingSlacksCard

/-- THE TIED CARD OF 'laws.FnExactTotalSlack'. -/
def fnExactTotalSlackCard : Claim7 := { stood := { row := fnExactTotalSlackRow, standIns := [], harness := (true, "0cfbbe69e6496389c26123dfd2bf057f96429b10c7467d0915a65357578f797d"), looks := false }, kinds := [], alts := [], laidByText := true, laidKinds := [.data, .pinned], laidTests := true, laidLooks := .later }
def FnExactTotalSlackCardSaid : Prop := Claim7.holds Tryz.pinned (.plain (OpenSpec.ofChange fnExactTotalSlackSpec)) fnExactTotalSlackCard

/-- THE TIED CARD OF 'laws.FnExactPulseSlacks'. -/
def fnExactPulseSlacksCard : Claim7 := { stood := { row := fnExactPulseSlacksRow, standIns := [], harness := (true, "0cfbbe69e6496389c26123dfd2bf057f96429b10c7467d0915a65357578f797d"), looks := false }, kinds := [], alts := [], laidByText := true, laidKinds := [.data, .pinned], laidTests := true, laidLooks := .later }
def FnExactPulseSlacksCardSaid : Prop := Claim7.holds Tryz.pinned (.plain (OpenSpec.ofChange fnExactPulseSlacksSpec)) fnExactPulseSlacksCard

/-- THE TIED CARD OF 'laws.FnExactHoldSlack'. -/
def fnExactHoldSlackCard : Claim7 := { stood := { row := fnExactHoldSlackRow, standIns := [], harness := (true, "0cfbbe69e6496389c26123dfd2bf057f96429b10c7467d0915a65357578f797d"), looks := false }, kinds := [], alts := [], laidByText := true, laidKinds := [.data, .pinned], laidTests := true, laidLooks := .later }
def FnExactHoldSlackCardSaid : Prop := Claim7.holds Tryz.pinned (.plain (OpenSpec.ofChange fnExactHoldSlackSpec)) fnExactHoldSlackCard

/-- THE TIED CARD OF 'laws.FnExactSetupSlack'. -/
def fnExactSetupSlackCard : Claim7 := { stood := { row := fnExactSetupSlackRow, standIns := [], harness := (true, "0cfbbe69e6496389c26123dfd2bf057f96429b10c7467d0915a65357578f797d"), looks := false }, kinds := [], alts := [], laidByText := true, laidKinds := [.data, .pinned], laidTests := true, laidLooks := .later }
def FnExactSetupSlackCardSaid : Prop := Claim7.holds Tryz.pinned (.plain (OpenSpec.ofChange fnExactSetupSlackSpec)) fnExactSetupSlackCard

/-- THE SECOND FORM's CARD OF 'laws.FnExactIsTargets'. -/
def fnExactIsTargetsUptoCard : Claim7 := { stood := { row := fnExactIsTargetsUptoRow, standIns := [], harness := (true, "0cfbbe69e6496389c26123dfd2bf057f96429b10c7467d0915a65357578f797d"), looks := false }, kinds := [], alts := [], laidByText := true, laidKinds := [.data, .pinned], laidTests := true, laidLooks := .later }
def FnExactIsTargetsUptoCardSaid : Prop := Claim7.holds Tryz.pinned (.plain (OpenSpec.upto fnExactIsTargetsSpec)) fnExactIsTargetsUptoCard

/-- THE SECOND FORM's CARD OF 'laws.FnExactIsNeeds'. -/
def fnExactIsNeedsUptoCard : Claim7 := { stood := { row := fnExactIsNeedsUptoRow, standIns := [], harness := (true, "0cfbbe69e6496389c26123dfd2bf057f96429b10c7467d0915a65357578f797d"), looks := false }, kinds := [], alts := [], laidByText := true, laidKinds := [.data, .pinned], laidTests := true, laidLooks := .later }
def FnExactIsNeedsUptoCardSaid : Prop := Claim7.holds Tryz.pinned (.plain (OpenSpec.upto fnExactIsNeedsSpec)) fnExactIsNeedsUptoCard

/-- THE SECOND FORM's CARD OF 'laws.FnExactDataSlacks'. -/
def fnExactDataSlacksUptoCard : Claim7 := { stood := { row := fnExactDataSlacksUptoRow, standIns := [], harness := (true, "0cfbbe69e6496389c26123dfd2bf057f96429b10c7467d0915a65357578f797d"), looks := false }, kinds := [], alts := [], laidByText := true, laidKinds := [.data, .pinned], laidTests := true, laidLooks := .later }
def FnExactDataSlacksUptoCardSaid : Prop := Claim7.holds Tryz.pinned (.plain (OpenSpec.upto fnExactDataSlacksSpec)) fnExactDataSlacksUptoCard

/-- THE SECOND FORM's CARD OF 'laws.FnExactSkewOf'. -/
def fnExactSkewOfUptoCard : Claim7 := { stood := { row := fnExactSkewOfUptoRow, standIns := [], harness := (true, "0cfbbe69e6496389c26123dfd2bf057f96429b10c7467d0915a65357578f797d"), looks := false }, kinds := [], alts := [], laidByText := true, laidKinds := [.data, .pinned], laidTests := true, laidLooks := .later }
def FnExactSkewOfUptoCardSaid : Prop := Claim7.holds Tryz.pinned (.plain (OpenSpec.upto fnExactSkewOfSpec)) fnExactSkewOfUptoCard

/-- THE SECOND FORM's CARD OF 'laws.FnExactSlackOf'. -/
def fnExactSlackOfUptoCard : Claim7 := { stood := { row := fnExactSlackOfUptoRow, standIns := [], harness := (true, "0cfbbe69e6496389c26123dfd2bf057f96429b10c7467d0915a65357578f797d"), looks := false }, kinds := [], alts := [], laidByText := true, laidKinds := [.data, .pinned], laidTests := true, laidLooks := .later }
def FnExactSlackOfUptoCardSaid : Prop := Claim7.holds Tryz.pinned (.plain (OpenSpec.upto fnExactSlackOfSpec)) fnExactSlackOfUptoCard

/-- THE SECOND FORM's CARD OF 'laws.FnExactWorstSlack'. -/
def fnExactWorstSlackUptoCard : Claim7 := { stood := { row := fnExactWorstSlackUptoRow, standIns := [], harness := (true, "0cfbbe69e6496389c26123dfd2bf057f96429b10c7467d0915a65357578f797d"), looks := false }, kinds := [], alts := [], laidByText := true, laidKinds := [.data, .pinned], laidTests := true, laidLooks := .later }
def FnExactWorstSlackUptoCardSaid : Prop := Claim7.holds Tryz.pinned (.plain (OpenSpec.upto fnExactWorstSlackSpec)) fnExactWorstSlackUptoCard

/-- THE SECOND FORM's CARD OF 'laws.FnExactGatingSlacks'. -/
def fnExactGatingSlacksUptoCard : Claim7 := { stood := { row := fnExactGatingSlacksUptoRow, standIns := [], harness := (true, "0cfbbe69e6496389c26123dfd2bf057f96429b10c7467d0915a65357578f797d"), looks := false }, kinds := [], alts := [], laidByText := true, laidKinds := [.data, .pinned], laidTests := true, laidLooks := .later }
def FnExactGatingSlacksUptoCardSaid : Prop := Claim7.holds Tryz.pinned (.plain (OpenSpec.upto fnExactGatingSlacksSpec)) fnExactGatingSlacksUptoCard

/-- THE SECOND FORM's CARD OF 'laws.FnExactTotalSlack'. -/
def fnExactTotalSlackUptoCard : Claim7 := { stood := { row := fnExactTotalSlackUptoRow, standIns := [], harness := (true, "0cfbbe69e6496389c26123dfd2bf057f96429b10c7467d0915a65357578f797d"), looks := false }, kinds := [], alts := [], laidByText := true, laidKinds := [.data, .pinned], laidTests := true, laidLooks := .later }
def FnExactTotalSlackUptoCardSaid : Prop := Claim7.holds Tryz.pinned (.plain (OpenSpec.upto fnExactTotalSlackSpec)) fnExactTotalSlackUptoCard

/-- THE SECOND FORM's CARD OF 'laws.FnExactPulseSlacks'. -/
def fnExactPulseSlacksUptoCard : Claim7 := { stood := { row := fnExactPulseSlacksUptoRow, standIns := [], harness := (true, "0cfbbe69e6496389c26123dfd2bf057f96429b10c7467d0915a65357578f797d"), looks := false }, kinds := [], alts := [], laidByText := true, laidKinds := [.data, .pinned], laidTests := true, laidLooks := .later }
def FnExactPulseSlacksUptoCardSaid : Prop := Claim7.holds Tryz.pinned (.plain (OpenSpec.upto fnExactPulseSlacksSpec)) fnExactPulseSlacksUptoCard

/-- THE SECOND FORM's CARD OF 'laws.FnExactHoldSlack'. -/
def fnExactHoldSlackUptoCard : Claim7 := { stood := { row := fnExactHoldSlackUptoRow, standIns := [], harness := (true, "0cfbbe69e6496389c26123dfd2bf057f96429b10c7467d0915a65357578f797d"), looks := false }, kinds := [], alts := [], laidByText := true, laidKinds := [.data, .pinned], laidTests := true, laidLooks := .later }
def FnExactHoldSlackUptoCardSaid : Prop := Claim7.holds Tryz.pinned (.plain (OpenSpec.upto fnExactHoldSlackSpec)) fnExactHoldSlackUptoCard

/-- THE SECOND FORM's CARD OF 'laws.FnExactSetupSlack'. -/
def fnExactSetupSlackUptoCard : Claim7 := { stood := { row := fnExactSetupSlackUptoRow, standIns := [], harness := (true, "0cfbbe69e6496389c26123dfd2bf057f96429b10c7467d0915a65357578f797d"), looks := false }, kinds := [], alts := [], laidByText := true, laidKinds := [.data, .pinned], laidTests := true, laidLooks := .later }
def FnExactSetupSlackUptoCardSaid : Prop := Claim7.holds Tryz.pinned (.plain (OpenSpec.upto fnExactSetupSlackSpec)) fnExactSetupSlackUptoCard
end Rows
end Go.Proofs.YtjijjanefcaakaaGreatDoor
