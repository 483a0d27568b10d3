/-
  DERIVED. GIVEN WITH THE SEED: THE CARDS: each row of YthjagnioabgceabDoorRows.lean that lists a variable, with what it lists TIED to the program's text (the seventh form; the later family's looks); each row that meets fmt, with fmt's text TOLD by the authors' own Lean function (tested against real Go, not proved from fmt's source: count such statements apart). THE CARD IS WHAT COUNTS. Prove the row's statement (the work); the ties are given (YthjagnioabgceabDoorTie.lean); close each card by the builder's one call (the guide's Derived/Test/ToyasCard.lean, 'card_holds'). Laid BY PROGRAM, IN A SANDBOX (cutbox-door.mjs). By AI agents, Wed Nov 11 2026. No macro, syntax, notation, axiom, sorry.
-/
import Derived.Test.YthjagnioabgceabDoorRows
import GoSem.ClaimSeven
namespace Go.Proofs.YthjagnioabgceabDoor
namespace Rows

/-- THE TIED CARD OF 'laws.FnExactSetupSeparation'. -/
def fnExactSetupSeparationCard : Claim7 := { stood := { row := fnExactSetupSeparationRow, standIns := [], harness := (true, "ccc8e75673345fe7487dfa20816513fb106ea9751beb5c6719872d8e55f2743b"), looks := false }, kinds := [], alts := [], laidByText := true, laidKinds := [.data, .pinned], laidTests := true, laidLooks := .later }
def FnExactSetupSeparationCardSaid : Prop := Claim7.holds Tryd.pinned (.plain (OpenSpec.ofChange fnExactSetupSeparationSpec)) fnExactSetupSeparationCard

/-- THE TIED CARD OF 'laws.FnExactHoldSeparation'. -/
def fnExactHoldSeparationCard : Claim7 := { stood := { row := fnExactHoldSeparationRow, standIns := [], harness := (true, "ccc8e75673345fe7487dfa20816513fb106ea9751beb5c6719872d8e55f2743b"), looks := false }, kinds := [], alts := [], laidByText := true, laidKinds := [.data, .pinned], laidTests := true, laidLooks := .later }
def FnExactHoldSeparationCardSaid : Prop := Claim7.holds Tryd.pinned (.plain (OpenSpec.ofChange fnExactHoldSeparationSpec)) fnExactHoldSeparationCard

/-- THE TIED CARD OF 'laws.FnExactMulticycleSetup'. -/
def fnExactMulticycleSetupCard : Claim7 := { stood := { row := fnExactMulticycleSetupRow, standIns := [], harness := (true, "ccc8e75673345fe7487dfa20816513fb106ea9751beb5c6719872d8e55f2743b"), looks := false }, kinds := [], alts := [], laidByText := true, laidKinds := [.data, .pinned], laidTests := true, laidLooks := .later }
def FnExactMulticycleSetupCardSaid : Prop := Claim7.holds Tryd.pinned (.plain (OpenSpec.ofChange fnExactMulticycleSetupSpec)) fnExactMulticycleSetupCard

/-- THE TIED CARD OF 'laws.FnExactMulticycleHold'. -/
def fnExactMulticycleHoldCard : Claim7 := { stood := { row := fnExactMulticycleHoldRow, standIns := [], harness := (true, "ccc8e75673345fe7487dfa20816513fb106ea9751beb5c6719872d8e55f2743b"), looks := false }, kinds := [], alts := [], laidByText := true, laidKinds := [.data, .pinned], laidTests := true, laidLooks := .later }
def FnExactMulticycleHoldCardSaid : Prop := Claim7.holds Tryd.pinned (.plain (OpenSpec.ofChange fnExactMulticycleHoldSpec)) fnExactMulticycleHoldCard

/-- THE TIED CARD OF 'laws.FnEdgePairs'. -/
def fnEdgePairsCard : Claim7 := { stood := { row := fnEdgePairsRow, standIns := [], harness := (true, "ccc8e75673345fe7487dfa20816513fb106ea9751beb5c6719872d8e55f2743b"), looks := false }, kinds := [], alts := [], laidByText := true, laidKinds := [.data, .pinned], laidTests := true, laidLooks := .later }
def FnEdgePairsCardSaid : Prop := Claim7.holds Tryd.pinned (.plain (OpenSpec.ofChange fnEdgePairsSpec)) fnEdgePairsCard

/-- THE TIED CARD OF 'laws.FnSeparations'. -/
def fnSeparationsCard : Claim7 := { stood := { row := fnSeparationsRow, standIns := [], harness := (true, "ccc8e75673345fe7487dfa20816513fb106ea9751beb5c6719872d8e55f2743b"), looks := false }, kinds := [], alts := [], laidByText := true, laidKinds := [.data, .pinned], laidTests := true, laidLooks := .later }
def FnSeparationsCardSaid : Prop := Claim7.holds Tryd.pinned (.plain (OpenSpec.ofChange fnSeparationsSpec)) fnSeparationsCard

/-- THE TIED CARD OF 'laws.FnExactEdgePairs'. -/
def fnExactEdgePairsCard : Claim7 := { stood := { row := fnExactEdgePairsRow, standIns := [], harness := (true, "ccc8e75673345fe7487dfa20816513fb106ea9751beb5c6719872d8e55f2743b"), looks := false }, kinds := [], alts := [], laidByText := true, laidKinds := [.data, .pinned], laidTests := true, laidLooks := .later }
def FnExactEdgePairsCardSaid : Prop := Claim7.holds Tryd.pinned (.plain (OpenSpec.ofChange fnExactEdgePairsSpec)) fnExactEdgePairsCard

/-- THE TIED CARD OF 'laws.FnGates'. -/
def fnGatesCard : Claim7 := { stood := { row := fnGatesRow, standIns := [], harness := (true, "ccc8e75673345fe7487dfa20816513fb106ea9751beb5c6719872d8e55f2743b"), looks := false }, kinds := [], alts := [], laidByText := true, laidKinds := [.data, .pinned], laidTests := true, laidLooks := .later }
def FnGatesCardSaid : Prop := Claim7.holds Tryd.pinned (.plain (OpenSpec.ofChange fnGatesSpec)) fnGatesCard

/-- THE TIED CARD OF 'laws.FnExactCaptureEdge'. -/
def fnExactCaptureEdgeCard : Claim7 := { stood := { row := fnExactCaptureEdgeRow, standIns := [], harness := (true, "ccc8e75673345fe7487dfa20816513fb106ea9751beb5c6719872d8e55f2743b"), looks := false }, kinds := [], alts := [], laidByText := true, laidKinds := [.data, .pinned], laidTests := true, laidLooks := .later }
def FnExactCaptureEdgeCardSaid : Prop := Claim7.holds Tryd.pinned (.plain (OpenSpec.ofChange fnExactCaptureEdgeSpec)) fnExactCaptureEdgeCard

/-- THE SECOND FORM's CARD OF 'laws.FnExactSetupSeparation'. -/
def fnExactSetupSeparationUptoCard : Claim7 := { stood := { row := fnExactSetupSeparationUptoRow, standIns := [], harness := (true, "ccc8e75673345fe7487dfa20816513fb106ea9751beb5c6719872d8e55f2743b"), looks := false }, kinds := [], alts := [], laidByText := true, laidKinds := [.data, .pinned], laidTests := true, laidLooks := .later }
def FnExactSetupSeparationUptoCardSaid : Prop := Claim7.holds Tryd.pinned (.plain (OpenSpec.upto fnExactSetupSeparationSpec)) fnExactSetupSeparationUptoCard

/-- THE SECOND FORM's CARD OF 'laws.FnExactHoldSeparation'. -/
def fnExactHoldSeparationUptoCard : Claim7 := { stood := { row := fnExactHoldSeparationUptoRow, standIns := [], harness := (true, "ccc8e75673345fe7487dfa20816513fb106ea9751beb5c6719872d8e55f2743b"), looks := false }, kinds := [], alts := [], laidByText := true, laidKinds := [.data, .pinned], laidTests := true, laidLooks := .later }
def FnExactHoldSeparationUptoCardSaid : Prop := Claim7.holds Tryd.pinned (.plain (OpenSpec.upto fnExactHoldSeparationSpec)) fnExactHoldSeparationUptoCard

/-- THE SECOND FORM's CARD OF 'laws.FnExactMulticycleSetup'. -/
def fnExactMulticycleSetupUptoCard : Claim7 := { stood := { row := fnExactMulticycleSetupUptoRow, standIns := [], harness := (true, "ccc8e75673345fe7487dfa20816513fb106ea9751beb5c6719872d8e55f2743b"), looks := false }, kinds := [], alts := [], laidByText := true, laidKinds := [.data, .pinned], laidTests := true, laidLooks := .later }
def FnExactMulticycleSetupUptoCardSaid : Prop := Claim7.holds Tryd.pinned (.plain (OpenSpec.upto fnExactMulticycleSetupSpec)) fnExactMulticycleSetupUptoCard

/-- THE SECOND FORM's CARD OF 'laws.FnExactMulticycleHold'. -/
def fnExactMulticycleHoldUptoCard : Claim7 := { stood := { row := fnExactMulticycleHoldUptoRow, standIns := [], harness := (true, "ccc8e75673345fe7487dfa20816513fb106ea9751beb5c6719872d8e55f2743b"), looks := false }, kinds := [], alts := [], laidByText := true, laidKinds := [.data, .pinned], laidTests := true, laidLooks := .later }
def FnExactMulticycleHoldUptoCardSaid : Prop := Claim7.holds Tryd.pinned (.plain (OpenSpec.upto fnExactMulticycleHoldSpec)) fnExactMulticycleHoldUptoCard

/-- THE SECOND FORM's CARD OF 'laws.FnEdgePairs'. -/
def fnEdgePairsUptoCard : Claim7 := { stood := { row := fnEdgePairsUptoRow, standIns := [], harness := (true, "ccc8e75673345fe7487dfa20816513fb106ea9751beb5c6719872d8e55f2743b"), looks := false }, kinds := [], alts := [], laidByText := true, laidKinds := [.data, .pinned], laidTests := true, laidLooks := .later }
def FnEdgePairsUptoCardSaid : Prop := Claim7.holds Tryd.pinned (.plain (OpenSpec.upto fnEdgePairsSpec)) fnEdgePairsUptoCard

/-- THE SECOND FORM's CARD OF 'laws.FnSeparations'. -/
def fnSeparationsUptoCard : Claim7 := { stood := { row := fnSeparationsUptoRow, standIns := [], harness := (true, "ccc8e75673345fe7487dfa20816513fb106ea9751beb5c6719872d8e55f2743b"), looks := false }, kinds := [], alts := [], laidByText := true, laidKinds := [.data, .pinned], laidTests := true, laidLooks := .later }
def FnSeparationsUptoCardSaid : Prop := Claim7.holds Tryd.pinned (.plain (OpenSpec.upto fnSeparationsSpec)) fnSeparationsUptoCard

/-- THE SECOND FORM's CARD OF 'laws.FnExactEdgePairs'. -/
def fnExactEdgePairsUptoCard : Claim7 := { stood := { row := fnExactEdgePairsUptoRow, standIns := [], harness := (true, "ccc8e75673345fe7487dfa20816513fb106ea9751beb5c6719872d8e55f2743b"), looks := false }, kinds := [], alts := [], laidByText := true, laidKinds := [.data, .pinned], laidTests := true, laidLooks := .later }
def FnExactEdgePairsUptoCardSaid : Prop := Claim7.holds Tryd.pinned (.plain (OpenSpec.upto fnExactEdgePairsSpec)) fnExactEdgePairsUptoCard

/-- THE SECOND FORM's CARD OF 'laws.FnGates'. -/
def fnGatesUptoCard : Claim7 := { stood := { row := fnGatesUptoRow, standIns := [], harness := (true, "ccc8e75673345fe7487dfa20816513fb106ea9751beb5c6719872d8e55f2743b"), looks := false }, kinds := [], alts := [], laidByText := true, laidKinds := [.data, .pinned], laidTests := true, laidLooks := .later }
def FnGatesUptoCardSaid : Prop := Claim7.holds Tryd.pinned (.plain (OpenSpec.upto fnGatesSpec)) fnGatesUptoCard

/-- THE SECOND FORM's CARD OF 'laws.FnExactCaptureEdge'. -/
def fnExactCaptureEdgeUptoCard : Claim7 := { stood := { row := fnExactCaptureEdgeUptoRow, standIns := [], harness := (true, "ccc8e75673345fe7487dfa20816513fb106ea9751beb5c6719872d8e55f2743b"), looks := false }, kinds := [], alts := [], laidByText := true, laidKinds := [.data, .pinned], laidTests := true, laidLooks := .later }
def FnExactCaptureEdgeUptoCardSaid : Prop := Claim7.holds Tryd.pinned (.plain (OpenSpec.upto fnExactCaptureEdgeSpec)) fnExactCaptureEdgeUptoCard
end Rows
end Go.Proofs.YthjagnioabgceabDoor
