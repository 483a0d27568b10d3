/-
  NARROWER THAN 'FOR EVERY INPUT', by the rows' own cells (each row's printed sentence says how): FnExactSetupSeparation: laid · FnExactHoldSeparation: laid · FnExactMulticycleSetup: laid · FnExactMulticycleHold: laid · FnEdgePairs: laid · FnSeparations: laid · FnExactEdgePairs: laid · FnGates: laid · FnExactCaptureEdge: laid.
  DERIVED. THE GIVEN ROWS OF THIS SEAT. 9 by the template 'for every input the law returns true; each argument reads behind the call as it read before'; 0 by the template 'total and deterministic' (their statements: YthjagnioabgceabDoorTotals.lean).
  GIVEN WITH THE SEED: the statements are not yours to turn. If you find one false, say at which input.
  Laid BY PROGRAM, IN A SANDBOX (cutbox-rows.mjs): the forced cells as the released guide's own fill.sh prints them over the translation 6eba93e00c13c14d… (all of the seat's roots in one cut). By AI agents, Wed Nov 11 2026. No macro, syntax, notation, axiom, sorry.
-/
import Derived.Test.YthjagnioabgceabDoorChecked
import GoSem.PinnedTables
import GoSem.Claim
import GoSem.ClaimJoined
import GoSem.ClaimMapViews
import Derived.JoinedTies
import Derived.KernelRfl
namespace Go.Proofs.YthjagnioabgceabDoor
/- THE CELL 'sum', in the pinned program and in every row, IS THE sha256 OF THE DUMP (.gsa) THAT YthjagnioabgceabDoorProg.lean LOADS. Nothing in Lean hashes anything: it is a label: what it is worth is what the hold of that sum in a sandbox is worth. -/
noncomputable def Tryd.pinned : Pinned := { name := "ythjagnioabgceabdoor", sum := "6eba93e00c13c14dbcf9274c02c46f4ce2b0dd9e3894f9532d9c88d0857244f9", checked := Tryd.checked }
namespace Rows
def none {H : Type} : Left H := { results := [], args := [] }

/- WHAT THE LISTED PACKAGE-LEVEL VARIABLES READ AS WHEN THE CALL BEGINS. Each datum BY PROGRAM (the guide's laid-datum.mjs) off the statement by which the dump's own 'gosem.cut.vars' lays the variable. In a bare row this is a premise. The card (YthjagnioabgceabDoorCards.lean) ties it to the program's text. -/
def laid_unicode_utf8_acceptRanges {H : Type} : DataW H := .agg [.agg [.lit (.int .u8 128), .lit (.int .u8 191)], .agg [.lit (.int .u8 160), .lit (.int .u8 191)], .agg [.lit (.int .u8 128), .lit (.int .u8 159)], .agg [.lit (.int .u8 144), .lit (.int .u8 191)], .agg [.lit (.int .u8 128), .lit (.int .u8 143)], .agg [.lit (.int .u8 0), .lit (.int .u8 0)], .agg [.lit (.int .u8 0), .lit (.int .u8 0)], .agg [.lit (.int .u8 0), .lit (.int .u8 0)], .agg [.lit (.int .u8 0), .lit (.int .u8 0)], .agg [.lit (.int .u8 0), .lit (.int .u8 0)], .agg [.lit (.int .u8 0), .lit (.int .u8 0)], .agg [.lit (.int .u8 0), .lit (.int .u8 0)], .agg [.lit (.int .u8 0), .lit (.int .u8 0)], .agg [.lit (.int .u8 0), .lit (.int .u8 0)], .agg [.lit (.int .u8 0), .lit (.int .u8 0)], .agg [.lit (.int .u8 0), .lit (.int .u8 0)]]
/-- One of Go's own tables, pinned by name: the form's constant. -/
def laid_unicode_utf8_first : DataW Unit := Go.Pinned.utf8First

/-- 'laws.FnExactSetupSeparation': WHATEVER THE INPUT: true; the input reads as it did. -/
def fnExactSetupSeparationSpec : ChangeSpec := { name := "fnExactSetupSeparation", fn := fun _ => fun
  | [d1, d2, d3, d4, d5] => { results := [.lit (.bool true)], args := [d1, d2, d3, d4, d5] }
  | _ => none }
def fnExactSetupSeparationRow : OpenClaim := { program := "ythjagnioabgceabdoor", sum := "6eba93e00c13c14dbcf9274c02c46f4ce2b0dd9e3894f9532d9c88d0857244f9", func := "loop.example/g00861/laws.FnExactSetupSeparation", spec := "fnExactSetupSeparation", inPlace := ["internal/bytealg.IndexByteString", "internal/bytealg.IndexString"], unfollowed := true, recurses := true, named := ["unicode/utf8.first", "unicode/utf8.acceptRanges", "internal/bytealg.MaxLen"], apart := false, laid := [("unicode/utf8.acceptRanges", laid_unicode_utf8_acceptRanges), ("unicode/utf8.first", laid_unicode_utf8_first)] }
def FnExactSetupSeparationSaid : Prop := fnExactSetupSeparationRow.holds Tryd.pinned (OpenSpec.ofChange fnExactSetupSeparationSpec)

/-- ITS FALSE NEIGHBOUR: 'it returns false'. Refute it at one input. -/
def fnExactSetupSeparationWrong : ChangeSpec := { name := "fnExactSetupSeparation", fn := fun _ => fun
  | [d1, d2, d3, d4, d5] => { results := [.lit (.bool false)], args := [d1, d2, d3, d4, d5] }
  | _ => none }
def FnExactSetupSeparationWrongFalsely : Prop := fnExactSetupSeparationRow.holds Tryd.pinned (OpenSpec.ofChange fnExactSetupSeparationWrong)

/-- 'laws.FnExactHoldSeparation': WHATEVER THE INPUT: true; the input reads as it did. -/
def fnExactHoldSeparationSpec : ChangeSpec := { name := "fnExactHoldSeparation", fn := fun _ => fun
  | [d1, d2, d3, d4, d5] => { results := [.lit (.bool true)], args := [d1, d2, d3, d4, d5] }
  | _ => none }
def fnExactHoldSeparationRow : OpenClaim := { program := "ythjagnioabgceabdoor", sum := "6eba93e00c13c14dbcf9274c02c46f4ce2b0dd9e3894f9532d9c88d0857244f9", func := "loop.example/g00861/laws.FnExactHoldSeparation", spec := "fnExactHoldSeparation", inPlace := ["internal/bytealg.IndexByteString", "internal/bytealg.IndexString"], unfollowed := true, recurses := true, named := ["unicode/utf8.first", "unicode/utf8.acceptRanges", "internal/bytealg.MaxLen"], apart := false, laid := [("unicode/utf8.acceptRanges", laid_unicode_utf8_acceptRanges), ("unicode/utf8.first", laid_unicode_utf8_first)] }
def FnExactHoldSeparationSaid : Prop := fnExactHoldSeparationRow.holds Tryd.pinned (OpenSpec.ofChange fnExactHoldSeparationSpec)

/-- ITS FALSE NEIGHBOUR: 'it returns false'. Refute it at one input. -/
def fnExactHoldSeparationWrong : ChangeSpec := { name := "fnExactHoldSeparation", fn := fun _ => fun
  | [d1, d2, d3, d4, d5] => { results := [.lit (.bool false)], args := [d1, d2, d3, d4, d5] }
  | _ => none }
def FnExactHoldSeparationWrongFalsely : Prop := fnExactHoldSeparationRow.holds Tryd.pinned (OpenSpec.ofChange fnExactHoldSeparationWrong)

/-- 'laws.FnExactMulticycleSetup': WHATEVER THE INPUT: true; the input reads as it did. -/
def fnExactMulticycleSetupSpec : ChangeSpec := { name := "fnExactMulticycleSetup", fn := fun _ => fun
  | [d1, d2, d3, d4, d5, d6] => { results := [.lit (.bool true)], args := [d1, d2, d3, d4, d5, d6] }
  | _ => none }
def fnExactMulticycleSetupRow : OpenClaim := { program := "ythjagnioabgceabdoor", sum := "6eba93e00c13c14dbcf9274c02c46f4ce2b0dd9e3894f9532d9c88d0857244f9", func := "loop.example/g00861/laws.FnExactMulticycleSetup", spec := "fnExactMulticycleSetup", inPlace := ["internal/bytealg.IndexByteString", "internal/bytealg.IndexString"], unfollowed := true, recurses := true, named := ["unicode/utf8.first", "unicode/utf8.acceptRanges", "internal/bytealg.MaxLen"], apart := false, laid := [("unicode/utf8.acceptRanges", laid_unicode_utf8_acceptRanges), ("unicode/utf8.first", laid_unicode_utf8_first)] }
def FnExactMulticycleSetupSaid : Prop := fnExactMulticycleSetupRow.holds Tryd.pinned (OpenSpec.ofChange fnExactMulticycleSetupSpec)

/-- ITS FALSE NEIGHBOUR: 'it returns false'. Refute it at one input. -/
def fnExactMulticycleSetupWrong : ChangeSpec := { name := "fnExactMulticycleSetup", fn := fun _ => fun
  | [d1, d2, d3, d4, d5, d6] => { results := [.lit (.bool false)], args := [d1, d2, d3, d4, d5, d6] }
  | _ => none }
def FnExactMulticycleSetupWrongFalsely : Prop := fnExactMulticycleSetupRow.holds Tryd.pinned (OpenSpec.ofChange fnExactMulticycleSetupWrong)

/-- 'laws.FnExactMulticycleHold': WHATEVER THE INPUT: true; the input reads as it did. -/
def fnExactMulticycleHoldSpec : ChangeSpec := { name := "fnExactMulticycleHold", fn := fun _ => fun
  | [d1, d2, d3, d4, d5, d6, d7] => { results := [.lit (.bool true)], args := [d1, d2, d3, d4, d5, d6, d7] }
  | _ => none }
def fnExactMulticycleHoldRow : OpenClaim := { program := "ythjagnioabgceabdoor", sum := "6eba93e00c13c14dbcf9274c02c46f4ce2b0dd9e3894f9532d9c88d0857244f9", func := "loop.example/g00861/laws.FnExactMulticycleHold", spec := "fnExactMulticycleHold", inPlace := ["internal/bytealg.IndexByteString", "internal/bytealg.IndexString"], unfollowed := true, recurses := true, named := ["unicode/utf8.first", "unicode/utf8.acceptRanges", "internal/bytealg.MaxLen"], apart := false, laid := [("unicode/utf8.acceptRanges", laid_unicode_utf8_acceptRanges), ("unicode/utf8.first", laid_unicode_utf8_first)] }
def FnExactMulticycleHoldSaid : Prop := fnExactMulticycleHoldRow.holds Tryd.pinned (OpenSpec.ofChange fnExactMulticycleHoldSpec)

/-- ITS FALSE NEIGHBOUR: 'it returns false'. Refute it at one input. -/
def fnExactMulticycleHoldWrong : ChangeSpec := { name := "fnExactMulticycleHold", fn := fun _ => fun
  | [d1, d2, d3, d4, d5, d6, d7] => { results := [.lit (.bool false)], args := [d1, d2, d3, d4, d5, d6, d7] }
  | _ => none }
def FnExactMulticycleHoldWrongFalsely : Prop := fnExactMulticycleHoldRow.holds Tryd.pinned (OpenSpec.ofChange fnExactMulticycleHoldWrong)

/-- 'laws.FnEdgePairs': WHATEVER THE INPUT: true; the input reads as it did. -/
def fnEdgePairsSpec : ChangeSpec := { name := "fnEdgePairs", fn := fun _ => fun
  | [d] => { results := [.lit (.bool true)], args := [d] }
  | _ => none }
def fnEdgePairsRow : OpenClaim := { program := "ythjagnioabgceabdoor", sum := "6eba93e00c13c14dbcf9274c02c46f4ce2b0dd9e3894f9532d9c88d0857244f9", func := "loop.example/g00861/laws.FnEdgePairs", spec := "fnEdgePairs", inPlace := ["internal/bytealg.IndexByteString", "internal/bytealg.IndexString"], unfollowed := true, recurses := true, named := ["unicode/utf8.first", "unicode/utf8.acceptRanges", "internal/bytealg.MaxLen"], apart := false, laid := [("unicode/utf8.acceptRanges", laid_unicode_utf8_acceptRanges), ("unicode/utf8.first", laid_unicode_utf8_first)] }
def FnEdgePairsSaid : Prop := fnEdgePairsRow.holds Tryd.pinned (OpenSpec.ofChange fnEdgePairsSpec)

/-- ITS FALSE NEIGHBOUR: 'it returns false'. Refute it at one input. -/
def fnEdgePairsWrong : ChangeSpec := { name := "fnEdgePairs", fn := fun _ => fun
  | [d] => { results := [.lit (.bool false)], args := [d] }
  | _ => none }
def FnEdgePairsWrongFalsely : Prop := fnEdgePairsRow.holds Tryd.pinned (OpenSpec.ofChange fnEdgePairsWrong)

/-- 'laws.FnSeparations': WHATEVER THE INPUT: true; the input reads as it did. -/
def fnSeparationsSpec : ChangeSpec := { name := "fnSeparations", fn := fun _ => fun
  | [d] => { results := [.lit (.bool true)], args := [d] }
  | _ => none }
def fnSeparationsRow : OpenClaim := { program := "ythjagnioabgceabdoor", sum := "6eba93e00c13c14dbcf9274c02c46f4ce2b0dd9e3894f9532d9c88d0857244f9", func := "loop.example/g00861/laws.FnSeparations", spec := "fnSeparations", inPlace := ["internal/bytealg.IndexByteString", "internal/bytealg.IndexString"], unfollowed := true, recurses := true, named := ["unicode/utf8.first", "unicode/utf8.acceptRanges", "internal/bytealg.MaxLen"], apart := false, laid := [("unicode/utf8.acceptRanges", laid_unicode_utf8_acceptRanges), ("unicode/utf8.first", laid_unicode_utf8_first)] }
def FnSeparationsSaid : Prop := fnSeparationsRow.holds Tryd.pinned (OpenSpec.ofChange fnSeparationsSpec)

/-- ITS FALSE NEIGHBOUR: 'it returns false'. Refute it at one input. -/
def fnSeparationsWrong : ChangeSpec := { name := "fnSeparations", fn := fun _ => fun
  | [d] => { results := [.lit (.bool false)], args := [d] }
  | _ => none }
def FnSeparationsWrongFalsely : Prop := fnSeparationsRow.holds Tryd.pinned (OpenSpec.ofChange fnSeparationsWrong)

/-- 'laws.FnExactEdgePairs': WHATEVER THE INPUT: true; the input reads as it did. -/
def fnExactEdgePairsSpec : ChangeSpec := { name := "fnExactEdgePairs", fn := fun _ => fun
  | [d1, d2, d3, d4, d5] => { results := [.lit (.bool true)], args := [d1, d2, d3, d4, d5] }
  | _ => none }
def fnExactEdgePairsRow : OpenClaim := { program := "ythjagnioabgceabdoor", sum := "6eba93e00c13c14dbcf9274c02c46f4ce2b0dd9e3894f9532d9c88d0857244f9", func := "loop.example/g00861/laws.FnExactEdgePairs", spec := "fnExactEdgePairs", inPlace := ["internal/bytealg.IndexByteString", "internal/bytealg.IndexString"], unfollowed := true, recurses := true, named := ["unicode/utf8.first", "unicode/utf8.acceptRanges", "internal/bytealg.MaxLen"], apart := false, laid := [("unicode/utf8.acceptRanges", laid_unicode_utf8_acceptRanges), ("unicode/utf8.first", laid_unicode_utf8_first)] }
def FnExactEdgePairsSaid : Prop := fnExactEdgePairsRow.holds Tryd.pinned (OpenSpec.ofChange fnExactEdgePairsSpec)

/-- ITS FALSE NEIGHBOUR: 'it returns false'. Refute it at one input. -/
def fnExactEdgePairsWrong : ChangeSpec := { name := "fnExactEdgePairs", fn := fun _ => fun
  | [d1, d2, d3, d4, d5] => { results := [.lit (.bool false)], args := [d1, d2, d3, d4, d5] }
  | _ => none }
def FnExactEdgePairsWrongFalsely : Prop := fnExactEdgePairsRow.holds Tryd.pinned (OpenSpec.ofChange fnExactEdgePairsWrong)

/-- 'laws.FnGates': WHATEVER THE INPUT: true; the input reads as it did. -/
def fnGatesSpec : ChangeSpec := { name := "fnGates", fn := fun _ => fun
  | [d] => { results := [.lit (.bool true)], args := [d] }
  | _ => none }
def fnGatesRow : OpenClaim := { program := "ythjagnioabgceabdoor", sum := "6eba93e00c13c14dbcf9274c02c46f4ce2b0dd9e3894f9532d9c88d0857244f9", func := "loop.example/g00861/laws.FnGates", spec := "fnGates", inPlace := ["internal/bytealg.IndexByteString", "internal/bytealg.IndexString"], unfollowed := true, recurses := true, named := ["unicode/utf8.first", "unicode/utf8.acceptRanges", "internal/bytealg.MaxLen"], apart := false, laid := [("unicode/utf8.acceptRanges", laid_unicode_utf8_acceptRanges), ("unicode/utf8.first", laid_unicode_utf8_first)] }
def FnGatesSaid : Prop := fnGatesRow.holds Tryd.pinned (OpenSpec.ofChange fnGatesSpec)

/-- ITS FALSE NEIGHBOUR: 'it returns false'. Refute it at one input. -/
def fnGatesWrong : ChangeSpec := { name := "fnGates", fn := fun _ => fun
  | [d] => { results := [.lit (.bool false)], args := [d] }
  | _ => none }
def FnGatesWrongFalsely : Prop := fnGatesRow.holds Tryd.pinned (OpenSpec.ofChange fnGatesWrong)

/-- 'laws.FnExactCaptureEdge': WHATEVER THE INPUT: true; the input reads as it did. -/
def fnExactCaptureEdgeSpec : ChangeSpec := { name := "fnExactCaptureEdge", fn := fun _ => fun
  | [d] => { results := [.lit (.bool true)], args := [d] }
  | _ => none }
def fnExactCaptureEdgeRow : OpenClaim := { program := "ythjagnioabgceabdoor", sum := "6eba93e00c13c14dbcf9274c02c46f4ce2b0dd9e3894f9532d9c88d0857244f9", func := "loop.example/g00861/laws.FnExactCaptureEdge", spec := "fnExactCaptureEdge", inPlace := ["internal/bytealg.IndexByteString", "internal/bytealg.IndexString"], unfollowed := true, recurses := true, named := ["unicode/utf8.first", "unicode/utf8.acceptRanges", "internal/bytealg.MaxLen"], apart := false, laid := [("unicode/utf8.acceptRanges", laid_unicode_utf8_acceptRanges), ("unicode/utf8.first", laid_unicode_utf8_first)] }
def FnExactCaptureEdgeSaid : Prop := fnExactCaptureEdgeRow.holds Tryd.pinned (OpenSpec.ofChange fnExactCaptureEdgeSpec)

/-- ITS FALSE NEIGHBOUR: 'it returns false'. Refute it at one input. -/
def fnExactCaptureEdgeWrong : ChangeSpec := { name := "fnExactCaptureEdge", fn := fun _ => fun
  | [d] => { results := [.lit (.bool false)], args := [d] }
  | _ => none }
def FnExactCaptureEdgeWrongFalsely : Prop := fnExactCaptureEdgeRow.holds Tryd.pinned (OpenSpec.ofChange fnExactCaptureEdgeWrong)

/- THE SECOND FORM. 'bulk': how many values and letters a reading holds, each counted each time it is reached (what is shared counts as often as it is met; a slice's spare places count too). A statement '..UptoSaid' is the law's where the arguments, and the package variables that the reading takes, are together of bulk at most 1048576: NARROWER than '..Said'. Prove '..Said' where nothing that the law and all that it calls make is longer than what came in: it says more and counts as full. Else prove '..UptoSaid'. A law counts once. -/
mutual
def uptoBulk {H : Type} : DataW H → Nat
  | .lit (.string bytes) => bytes.length + 1
  | .lit _ => 1
  | .nil => 1
  | .ptr d => uptoBulk d + 1
  | .slice elems spare => uptoBulkAll elems + uptoBulkAll spare + 1
  | .agg parts => uptoBulkAll parts + 1
  | .iface _ d => uptoBulk d + 1
  | .map entries => uptoBulkEntries entries + 1
  | .held _ => 1
def uptoBulkAll {H : Type} : List (DataW H) → Nat
  | [] => 0
  | d :: r => uptoBulk d + uptoBulkAll r
def uptoBulkEntries {H : Type} : List (Lit × DataW H) → Nat
  | [] => 0
  | x :: r => uptoBulkEntry x + uptoBulkEntries r
def uptoBulkEntry {H : Type} : Lit × DataW H → Nat
  | (.string bytes, d) => bytes.length + uptoBulk d + 1
  | (_, d) => uptoBulk d + 1
 end
def uptoSmall : (H : Type) → List (DataW H) → Bool := fun _ ds => decide (uptoBulkAll ds ≤ 1048576)
def OpenSpec.upto (s : _root_.Go.ChangeSpec) : _root_.Go.OpenSpec := { _root_.Go.OpenSpec.ofChange s with cond := some uptoSmall }

/-- 'laws.FnExactSetupSeparation', WHERE WHAT IT READS IS OF BULK AT MOST 1048576: true; the input reads as it did. -/
def fnExactSetupSeparationUptoRow : OpenClaim := { program := "ythjagnioabgceabdoor", sum := "6eba93e00c13c14dbcf9274c02c46f4ce2b0dd9e3894f9532d9c88d0857244f9", func := "loop.example/g00861/laws.FnExactSetupSeparation", spec := "fnExactSetupSeparation", inPlace := ["internal/bytealg.IndexByteString", "internal/bytealg.IndexString"], unfollowed := true, recurses := true, named := ["unicode/utf8.first", "unicode/utf8.acceptRanges", "internal/bytealg.MaxLen"], apart := false, laid := [("unicode/utf8.acceptRanges", laid_unicode_utf8_acceptRanges), ("unicode/utf8.first", laid_unicode_utf8_first)], narrowed := true }
def FnExactSetupSeparationUptoSaid : Prop := fnExactSetupSeparationUptoRow.holds Tryd.pinned (OpenSpec.upto fnExactSetupSeparationSpec)

/-- 'laws.FnExactHoldSeparation', WHERE WHAT IT READS IS OF BULK AT MOST 1048576: true; the input reads as it did. -/
def fnExactHoldSeparationUptoRow : OpenClaim := { program := "ythjagnioabgceabdoor", sum := "6eba93e00c13c14dbcf9274c02c46f4ce2b0dd9e3894f9532d9c88d0857244f9", func := "loop.example/g00861/laws.FnExactHoldSeparation", spec := "fnExactHoldSeparation", inPlace := ["internal/bytealg.IndexByteString", "internal/bytealg.IndexString"], unfollowed := true, recurses := true, named := ["unicode/utf8.first", "unicode/utf8.acceptRanges", "internal/bytealg.MaxLen"], apart := false, laid := [("unicode/utf8.acceptRanges", laid_unicode_utf8_acceptRanges), ("unicode/utf8.first", laid_unicode_utf8_first)], narrowed := true }
def FnExactHoldSeparationUptoSaid : Prop := fnExactHoldSeparationUptoRow.holds Tryd.pinned (OpenSpec.upto fnExactHoldSeparationSpec)

/-- 'laws.FnExactMulticycleSetup', WHERE WHAT IT READS IS OF BULK AT MOST 1048576: true; the input reads as it did. -/
def fnExactMulticycleSetupUptoRow : OpenClaim := { program := "ythjagnioabgceabdoor", sum := "6eba93e00c13c14dbcf9274c02c46f4ce2b0dd9e3894f9532d9c88d0857244f9", func := "loop.example/g00861/laws.FnExactMulticycleSetup", spec := "fnExactMulticycleSetup", inPlace := ["internal/bytealg.IndexByteString", "internal/bytealg.IndexString"], unfollowed := true, recurses := true, named := ["unicode/utf8.first", "unicode/utf8.acceptRanges", "internal/bytealg.MaxLen"], apart := false, laid := [("unicode/utf8.acceptRanges", laid_unicode_utf8_acceptRanges), ("unicode/utf8.first", laid_unicode_utf8_first)], narrowed := true }
def FnExactMulticycleSetupUptoSaid : Prop := fnExactMulticycleSetupUptoRow.holds Tryd.pinned (OpenSpec.upto fnExactMulticycleSetupSpec)

/-- 'laws.FnExactMulticycleHold', WHERE WHAT IT READS IS OF BULK AT MOST 1048576: true; the input reads as it did. -/
def fnExactMulticycleHoldUptoRow : OpenClaim := { program := "ythjagnioabgceabdoor", sum := "6eba93e00c13c14dbcf9274c02c46f4ce2b0dd9e3894f9532d9c88d0857244f9", func := "loop.example/g00861/laws.FnExactMulticycleHold", spec := "fnExactMulticycleHold", inPlace := ["internal/bytealg.IndexByteString", "internal/bytealg.IndexString"], unfollowed := true, recurses := true, named := ["unicode/utf8.first", "unicode/utf8.acceptRanges", "internal/bytealg.MaxLen"], apart := false, laid := [("unicode/utf8.acceptRanges", laid_unicode_utf8_acceptRanges), ("unicode/utf8.first", laid_unicode_utf8_first)], narrowed := true }
def FnExactMulticycleHoldUptoSaid : Prop := fnExactMulticycleHoldUptoRow.holds Tryd.pinned (OpenSpec.upto fnExactMulticycleHoldSpec)

/-- 'laws.FnEdgePairs', WHERE WHAT IT READS IS OF BULK AT MOST 1048576: true; the input reads as it did. -/
def fnEdgePairsUptoRow : OpenClaim := { program := "ythjagnioabgceabdoor", sum := "6eba93e00c13c14dbcf9274c02c46f4ce2b0dd9e3894f9532d9c88d0857244f9", func := "loop.example/g00861/laws.FnEdgePairs", spec := "fnEdgePairs", inPlace := ["internal/bytealg.IndexByteString", "internal/bytealg.IndexString"], unfollowed := true, recurses := true, named := ["unicode/utf8.first", "unicode/utf8.acceptRanges", "internal/bytealg.MaxLen"], apart := false, laid := [("unicode/utf8.acceptRanges", laid_unicode_utf8_acceptRanges), ("unicode/utf8.first", laid_unicode_utf8_first)], narrowed := true }
def FnEdgePairsUptoSaid : Prop := fnEdgePairsUptoRow.holds Tryd.pinned (OpenSpec.upto fnEdgePairsSpec)

/-- 'laws.FnSeparations', WHERE WHAT IT READS IS OF BULK AT MOST 1048576: true; the input reads as it did. -/
def fnSeparationsUptoRow : OpenClaim := { program := "ythjagnioabgceabdoor", sum := "6eba93e00c13c14dbcf9274c02c46f4ce2b0dd9e3894f9532d9c88d0857244f9", func := "loop.example/g00861/laws.FnSeparations", spec := "fnSeparations", inPlace := ["internal/bytealg.IndexByteString", "internal/bytealg.IndexString"], unfollowed := true, recurses := true, named := ["unicode/utf8.first", "unicode/utf8.acceptRanges", "internal/bytealg.MaxLen"], apart := false, laid := [("unicode/utf8.acceptRanges", laid_unicode_utf8_acceptRanges), ("unicode/utf8.first", laid_unicode_utf8_first)], narrowed := true }
def FnSeparationsUptoSaid : Prop := fnSeparationsUptoRow.holds Tryd.pinned (OpenSpec.upto fnSeparationsSpec)

/-- 'laws.FnExactEdgePairs', WHERE WHAT IT READS IS OF BULK AT MOST 1048576: true; the input reads as it did. -/
def fnExactEdgePairsUptoRow : OpenClaim := { program := "ythjagnioabgceabdoor", sum := "6eba93e00c13c14dbcf9274c02c46f4ce2b0dd9e3894f9532d9c88d0857244f9", func := "loop.example/g00861/laws.FnExactEdgePairs", spec := "fnExactEdgePairs", inPlace := ["internal/bytealg.IndexByteString", "internal/bytealg.IndexString"], unfollowed := true, recurses := true, named := ["unicode/utf8.first", "unicode/utf8.acceptRanges", "internal/bytealg.MaxLen"], apart := false, laid := [("unicode/utf8.acceptRanges", laid_unicode_utf8_acceptRanges), ("unicode/utf8.first", laid_unicode_utf8_first)], narrowed := true }
def FnExactEdgePairsUptoSaid : Prop := fnExactEdgePairsUptoRow.holds Tryd.pinned (OpenSpec.upto fnExactEdgePairsSpec)

/-- 'laws.FnGates', WHERE WHAT IT READS IS OF BULK AT MOST 1048576: true; the input reads as it did. -/
def fnGatesUptoRow : OpenClaim := { program := "ythjagnioabgceabdoor", sum := "6eba93e00c13c14dbcf9274c02c46f4ce2b0dd9e3894f9532d9c88d0857244f9", func := "loop.example/g00861/laws.FnGates", spec := "fnGates", inPlace := ["internal/bytealg.IndexByteString", "internal/bytealg.IndexString"], unfollowed := true, recurses := true, named := ["unicode/utf8.first", "unicode/utf8.acceptRanges", "internal/bytealg.MaxLen"], apart := false, laid := [("unicode/utf8.acceptRanges", laid_unicode_utf8_acceptRanges), ("unicode/utf8.first", laid_unicode_utf8_first)], narrowed := true }
def FnGatesUptoSaid : Prop := fnGatesUptoRow.holds Tryd.pinned (OpenSpec.upto fnGatesSpec)

/-- 'laws.FnExactCaptureEdge', WHERE WHAT IT READS IS OF BULK AT MOST 1048576: true; the input reads as it did. -/
def fnExactCaptureEdgeUptoRow : OpenClaim := { program := "ythjagnioabgceabdoor", sum := "6eba93e00c13c14dbcf9274c02c46f4ce2b0dd9e3894f9532d9c88d0857244f9", func := "loop.example/g00861/laws.FnExactCaptureEdge", spec := "fnExactCaptureEdge", inPlace := ["internal/bytealg.IndexByteString", "internal/bytealg.IndexString"], unfollowed := true, recurses := true, named := ["unicode/utf8.first", "unicode/utf8.acceptRanges", "internal/bytealg.MaxLen"], apart := false, laid := [("unicode/utf8.acceptRanges", laid_unicode_utf8_acceptRanges), ("unicode/utf8.first", laid_unicode_utf8_first)], narrowed := true }
def FnExactCaptureEdgeUptoSaid : Prop := fnExactCaptureEdgeUptoRow.holds Tryd.pinned (OpenSpec.upto fnExactCaptureEdgeSpec)

end Rows
end Go.Proofs.YthjagnioabgceabDoor
