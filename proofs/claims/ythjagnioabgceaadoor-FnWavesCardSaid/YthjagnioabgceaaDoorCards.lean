/-
  DERIVED. GIVEN WITH THE SEED: THE CARDS: each row of YthjagnioabgceaaDoorRows.lean that lists a variable, with what it lists TIED to the program's text (the seventh form; the later family's looks); each row that meets fmt, with fmt's text TOLD by the authors' own Lean function (tested against real Go, not proved from fmt's source: count such statements apart). THE CARD IS WHAT COUNTS. Prove the row's statement (the work); the ties are given (YthjagnioabgceaaDoorTie.lean); close each card by the builder's one call (the guide's Derived/Test/ToyasCard.lean, 'card_holds'). Laid BY PROGRAM, IN A SANDBOX (cutbox-door.mjs). By AI agents, Wed Nov 11 2026. No macro, syntax, notation, axiom, sorry.
-/
import Derived.Test.YthjagnioabgceaaDoorRows
import GoSem.ClaimSeven
namespace Go.Proofs.YthjagnioabgceaaDoor
namespace Rows

/-- THE TIED CARD OF 'laws.FnExactIsClocks'. -/
def fnExactIsClocksCard : Claim7 := { stood := { row := fnExactIsClocksRow, standIns := [], harness := (true, "c386a9a63b7f42b8ee4bd07d668676c99d33cc3c0b55940fcdc26694ffa086e0"), looks := false }, kinds := [], alts := [], laidByText := true, laidKinds := [.data, .pinned], laidTests := true, laidLooks := .later }
def FnExactIsClocksCardSaid : Prop := Claim7.holds Tryd.pinned (.plain (OpenSpec.ofChange fnExactIsClocksSpec)) fnExactIsClocksCard

/-- THE TIED CARD OF 'laws.FnExactWaveOf'. -/
def fnExactWaveOfCard : Claim7 := { stood := { row := fnExactWaveOfRow, standIns := [], harness := (true, "c386a9a63b7f42b8ee4bd07d668676c99d33cc3c0b55940fcdc26694ffa086e0"), looks := false }, kinds := [], alts := [], laidByText := true, laidKinds := [.data, .pinned], laidTests := true, laidLooks := .later }
def FnExactWaveOfCardSaid : Prop := Claim7.holds Tryd.pinned (.plain (OpenSpec.ofChange fnExactWaveOfSpec)) fnExactWaveOfCard

/-- THE TIED CARD OF 'laws.FnPulses'. -/
def fnPulsesCard : Claim7 := { stood := { row := fnPulsesRow, standIns := [], harness := (true, "c386a9a63b7f42b8ee4bd07d668676c99d33cc3c0b55940fcdc26694ffa086e0"), looks := false }, kinds := [], alts := [], laidByText := true, laidKinds := [.data, .pinned], laidTests := true, laidLooks := .later }
def FnPulsesCardSaid : Prop := Claim7.holds Tryd.pinned (.plain (OpenSpec.ofChange fnPulsesSpec)) fnPulsesCard

/-- THE TIED CARD OF 'laws.FnExactUncertaintyOf'. -/
def fnExactUncertaintyOfCard : Claim7 := { stood := { row := fnExactUncertaintyOfRow, standIns := [], harness := (true, "c386a9a63b7f42b8ee4bd07d668676c99d33cc3c0b55940fcdc26694ffa086e0"), looks := false }, kinds := [], alts := [], laidByText := true, laidKinds := [.data, .pinned], laidTests := true, laidLooks := .later }
def FnExactUncertaintyOfCardSaid : Prop := Claim7.holds Tryd.pinned (.plain (OpenSpec.ofChange fnExactUncertaintyOfSpec)) fnExactUncertaintyOfCard

/-- THE TIED CARD OF 'laws.FnExactRootOf'. -/
def fnExactRootOfCard : Claim7 := { stood := { row := fnExactRootOfRow, standIns := [], harness := (true, "c386a9a63b7f42b8ee4bd07d668676c99d33cc3c0b55940fcdc26694ffa086e0"), looks := false }, kinds := [], alts := [], laidByText := true, laidKinds := [.data, .pinned], laidTests := true, laidLooks := .later }
def FnExactRootOfCardSaid : Prop := Claim7.holds Tryd.pinned (.plain (OpenSpec.ofChange fnExactRootOfSpec)) fnExactRootOfCard

/-- THE TIED CARD OF 'laws.FnExactPulseWidths'. -/
def fnExactPulseWidthsCard : Claim7 := { stood := { row := fnExactPulseWidthsRow, standIns := [], harness := (true, "c386a9a63b7f42b8ee4bd07d668676c99d33cc3c0b55940fcdc26694ffa086e0"), looks := false }, kinds := [], alts := [], laidByText := true, laidKinds := [.data, .pinned], laidTests := true, laidLooks := .later }
def FnExactPulseWidthsCardSaid : Prop := Claim7.holds Tryd.pinned (.plain (OpenSpec.ofChange fnExactPulseWidthsSpec)) fnExactPulseWidthsCard

/-- THE TIED CARD OF 'laws.FnExactNextEdge'. -/
def fnExactNextEdgeCard : Claim7 := { stood := { row := fnExactNextEdgeRow, standIns := [], harness := (true, "c386a9a63b7f42b8ee4bd07d668676c99d33cc3c0b55940fcdc26694ffa086e0"), looks := false }, kinds := [], alts := [], laidByText := true, laidKinds := [.data, .pinned], laidTests := true, laidLooks := .later }
def FnExactNextEdgeCardSaid : Prop := Claim7.holds Tryd.pinned (.plain (OpenSpec.ofChange fnExactNextEdgeSpec)) fnExactNextEdgeCard

/-- THE TIED CARD OF 'laws.FnExactLevelAt'. -/
def fnExactLevelAtCard : Claim7 := { stood := { row := fnExactLevelAtRow, standIns := [], harness := (true, "c386a9a63b7f42b8ee4bd07d668676c99d33cc3c0b55940fcdc26694ffa086e0"), looks := false }, kinds := [], alts := [], laidByText := true, laidKinds := [.data, .pinned], laidTests := true, laidLooks := .later }
def FnExactLevelAtCardSaid : Prop := Claim7.holds Tryd.pinned (.plain (OpenSpec.ofChange fnExactLevelAtSpec)) fnExactLevelAtCard

/-- THE TIED CARD OF 'laws.FnGenerated'. -/
def fnGeneratedCard : Claim7 := { stood := { row := fnGeneratedRow, standIns := [], harness := (true, "c386a9a63b7f42b8ee4bd07d668676c99d33cc3c0b55940fcdc26694ffa086e0"), looks := false }, kinds := [], alts := [], laidByText := true, laidKinds := [.data, .pinned], laidTests := true, laidLooks := .later }
def FnGeneratedCardSaid : Prop := Claim7.holds Tryd.pinned (.plain (OpenSpec.ofChange fnGeneratedSpec)) fnGeneratedCard

/-- THE TIED CARD OF 'laws.FnExactHyperPeriod'. -/
def fnExactHyperPeriodCard : Claim7 := { stood := { row := fnExactHyperPeriodRow, standIns := [], harness := (true, "c386a9a63b7f42b8ee4bd07d668676c99d33cc3c0b55940fcdc26694ffa086e0"), looks := false }, kinds := [], alts := [], laidByText := true, laidKinds := [.data, .pinned], laidTests := true, laidLooks := .later }
def FnExactHyperPeriodCardSaid : Prop := Claim7.holds Tryd.pinned (.plain (OpenSpec.ofChange fnExactHyperPeriodSpec)) fnExactHyperPeriodCard

/-- THE TIED CARD OF 'laws.FnWaves'. -/
def fnWavesCard : Claim7 := { stood := { row := fnWavesRow, standIns := [], harness := (true, "c386a9a63b7f42b8ee4bd07d668676c99d33cc3c0b55940fcdc26694ffa086e0"), looks := false }, kinds := [], alts := [], laidByText := true, laidKinds := [.data, .pinned], laidTests := true, laidLooks := .later }
def FnWavesCardSaid : Prop := Claim7.holds Tryd.pinned (.plain (OpenSpec.ofChange fnWavesSpec)) fnWavesCard

/-- THE TIED CARD OF 'laws.FnExactEdgesIn'. -/
def fnExactEdgesInCard : Claim7 := { stood := { row := fnExactEdgesInRow, standIns := [], harness := (true, "c386a9a63b7f42b8ee4bd07d668676c99d33cc3c0b55940fcdc26694ffa086e0"), looks := false }, kinds := [], alts := [], laidByText := true, laidKinds := [.data, .pinned], laidTests := true, laidLooks := .later }
def FnExactEdgesInCardSaid : Prop := Claim7.holds Tryd.pinned (.plain (OpenSpec.ofChange fnExactEdgesInSpec)) fnExactEdgesInCard

/-- THE SECOND FORM's CARD OF 'laws.FnExactIsClocks'. -/
def fnExactIsClocksUptoCard : Claim7 := { stood := { row := fnExactIsClocksUptoRow, standIns := [], harness := (true, "c386a9a63b7f42b8ee4bd07d668676c99d33cc3c0b55940fcdc26694ffa086e0"), looks := false }, kinds := [], alts := [], laidByText := true, laidKinds := [.data, .pinned], laidTests := true, laidLooks := .later }
def FnExactIsClocksUptoCardSaid : Prop := Claim7.holds Tryd.pinned (.plain (OpenSpec.upto fnExactIsClocksSpec)) fnExactIsClocksUptoCard

/-- THE SECOND FORM's CARD OF 'laws.FnExactWaveOf'. -/
def fnExactWaveOfUptoCard : Claim7 := { stood := { row := fnExactWaveOfUptoRow, standIns := [], harness := (true, "c386a9a63b7f42b8ee4bd07d668676c99d33cc3c0b55940fcdc26694ffa086e0"), looks := false }, kinds := [], alts := [], laidByText := true, laidKinds := [.data, .pinned], laidTests := true, laidLooks := .later }
def FnExactWaveOfUptoCardSaid : Prop := Claim7.holds Tryd.pinned (.plain (OpenSpec.upto fnExactWaveOfSpec)) fnExactWaveOfUptoCard

/-- THE SECOND FORM's CARD OF 'laws.FnPulses'. -/
def fnPulsesUptoCard : Claim7 := { stood := { row := fnPulsesUptoRow, standIns := [], harness := (true, "c386a9a63b7f42b8ee4bd07d668676c99d33cc3c0b55940fcdc26694ffa086e0"), looks := false }, kinds := [], alts := [], laidByText := true, laidKinds := [.data, .pinned], laidTests := true, laidLooks := .later }
def FnPulsesUptoCardSaid : Prop := Claim7.holds Tryd.pinned (.plain (OpenSpec.upto fnPulsesSpec)) fnPulsesUptoCard

/-- THE SECOND FORM's CARD OF 'laws.FnExactUncertaintyOf'. -/
def fnExactUncertaintyOfUptoCard : Claim7 := { stood := { row := fnExactUncertaintyOfUptoRow, standIns := [], harness := (true, "c386a9a63b7f42b8ee4bd07d668676c99d33cc3c0b55940fcdc26694ffa086e0"), looks := false }, kinds := [], alts := [], laidByText := true, laidKinds := [.data, .pinned], laidTests := true, laidLooks := .later }
def FnExactUncertaintyOfUptoCardSaid : Prop := Claim7.holds Tryd.pinned (.plain (OpenSpec.upto fnExactUncertaintyOfSpec)) fnExactUncertaintyOfUptoCard

/-- THE SECOND FORM's CARD OF 'laws.FnExactRootOf'. -/
def fnExactRootOfUptoCard : Claim7 := { stood := { row := fnExactRootOfUptoRow, standIns := [], harness := (true, "c386a9a63b7f42b8ee4bd07d668676c99d33cc3c0b55940fcdc26694ffa086e0"), looks := false }, kinds := [], alts := [], laidByText := true, laidKinds := [.data, .pinned], laidTests := true, laidLooks := .later }
def FnExactRootOfUptoCardSaid : Prop := Claim7.holds Tryd.pinned (.plain (OpenSpec.upto fnExactRootOfSpec)) fnExactRootOfUptoCard

/-- THE SECOND FORM's CARD OF 'laws.FnExactPulseWidths'. -/
def fnExactPulseWidthsUptoCard : Claim7 := { stood := { row := fnExactPulseWidthsUptoRow, standIns := [], harness := (true, "c386a9a63b7f42b8ee4bd07d668676c99d33cc3c0b55940fcdc26694ffa086e0"), looks := false }, kinds := [], alts := [], laidByText := true, laidKinds := [.data, .pinned], laidTests := true, laidLooks := .later }
def FnExactPulseWidthsUptoCardSaid : Prop := Claim7.holds Tryd.pinned (.plain (OpenSpec.upto fnExactPulseWidthsSpec)) fnExactPulseWidthsUptoCard

/-- THE SECOND FORM's CARD OF 'laws.FnExactNextEdge'. -/
def fnExactNextEdgeUptoCard : Claim7 := { stood := { row := fnExactNextEdgeUptoRow, standIns := [], harness := (true, "c386a9a63b7f42b8ee4bd07d668676c99d33cc3c0b55940fcdc26694ffa086e0"), looks := false }, kinds := [], alts := [], laidByText := true, laidKinds := [.data, .pinned], laidTests := true, laidLooks := .later }
def FnExactNextEdgeUptoCardSaid : Prop := Claim7.holds Tryd.pinned (.plain (OpenSpec.upto fnExactNextEdgeSpec)) fnExactNextEdgeUptoCard

/-- THE SECOND FORM's CARD OF 'laws.FnExactLevelAt'. -/
def fnExactLevelAtUptoCard : Claim7 := { stood := { row := fnExactLevelAtUptoRow, standIns := [], harness := (true, "c386a9a63b7f42b8ee4bd07d668676c99d33cc3c0b55940fcdc26694ffa086e0"), looks := false }, kinds := [], alts := [], laidByText := true, laidKinds := [.data, .pinned], laidTests := true, laidLooks := .later }
def FnExactLevelAtUptoCardSaid : Prop := Claim7.holds Tryd.pinned (.plain (OpenSpec.upto fnExactLevelAtSpec)) fnExactLevelAtUptoCard

/-- THE SECOND FORM's CARD OF 'laws.FnGenerated'. -/
def fnGeneratedUptoCard : Claim7 := { stood := { row := fnGeneratedUptoRow, standIns := [], harness := (true, "c386a9a63b7f42b8ee4bd07d668676c99d33cc3c0b55940fcdc26694ffa086e0"), looks := false }, kinds := [], alts := [], laidByText := true, laidKinds := [.data, .pinned], laidTests := true, laidLooks := .later }
def FnGeneratedUptoCardSaid : Prop := Claim7.holds Tryd.pinned (.plain (OpenSpec.upto fnGeneratedSpec)) fnGeneratedUptoCard

/-- THE SECOND FORM's CARD OF 'laws.FnExactHyperPeriod'. -/
def fnExactHyperPeriodUptoCard : Claim7 := { stood := { row := fnExactHyperPeriodUptoRow, standIns := [], harness := (true, "c386a9a63b7f42b8ee4bd07d668676c99d33cc3c0b55940fcdc26694ffa086e0"), looks := false }, kinds := [], alts := [], laidByText := true, laidKinds := [.data, .pinned], laidTests := true, laidLooks := .later }
def FnExactHyperPeriodUptoCardSaid : Prop := Claim7.holds Tryd.pinned (.plain (OpenSpec.upto fnExactHyperPeriodSpec)) fnExactHyperPeriodUptoCard

/-- THE SECOND FORM's CARD OF 'laws.FnWaves'. -/
def fnWavesUptoCard : Claim7 := { stood := { row := fnWavesUptoRow, standIns := [], harness := (true, "c386a9a63b7f42b8ee4bd07d668676c99d33cc3c0b55940fcdc26694ffa086e0"), looks := false }, kinds := [], alts := [], laidByText := true, laidKinds := [.data, .pinned], laidTests := true, laidLooks := .later }
def FnWavesUptoCardSaid : Prop := Claim7.holds Tryd.pinned (.plain (OpenSpec.upto fnWavesSpec)) fnWavesUptoCard

/-- THE SECOND FORM's CARD OF 'laws.FnExactEdgesIn'. -/
def fnExactEdgesInUptoCard : Claim7 := { stood := { row := fnExactEdgesInUptoRow, standIns := [], harness := (true, "c386a9a63b7f42b8ee4bd07d668676c99d33cc3c0b55940fcdc26694ffa086e0"), looks := false }, kinds := [], alts := [], laidByText := true, laidKinds := [.data, .pinned], laidTests := true, laidLooks := .later }
def FnExactEdgesInUptoCardSaid : Prop := Claim7.holds Tryd.pinned (.plain (OpenSpec.upto fnExactEdgesInSpec)) fnExactEdgesInUptoCard
end Rows
end Go.Proofs.YthjagnioabgceaaDoor
