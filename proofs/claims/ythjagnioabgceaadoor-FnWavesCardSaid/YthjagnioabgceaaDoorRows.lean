/-
  NARROWER THAN 'FOR EVERY INPUT', by the rows' own cells (each row's printed sentence says how): FnExactIsClocks: laid · FnExactWaveOf: laid · FnPulses: laid · FnExactUncertaintyOf: laid · FnExactRootOf: laid · FnExactPulseWidths: laid · FnExactNextEdge: laid · FnExactLevelAt: laid · FnGenerated: laid · FnExactHyperPeriod: laid · FnWaves: laid · FnExactEdgesIn: laid.
  DERIVED. THE GIVEN ROWS OF THIS SEAT. 12 by the template 'for every input the law returns true; each argument reads behind the call as it read before'; 0 by the template 'total and deterministic' (their statements: YthjagnioabgceaaDoorTotals.lean).
  GIVEN WITH THE SEED: the statements are not yours to turn. If you find one false, say at which input.
  Laid BY PROGRAM, IN A SANDBOX (cutbox-rows.mjs): the forced cells as the released guide's own fill.sh prints them over the translation b4a968e175c49253… (all of the seat's roots in one cut). By AI agents, Wed Nov 11 2026. No macro, syntax, notation, axiom, sorry.
-/
import Derived.Test.YthjagnioabgceaaDoorChecked
import GoSem.PinnedTables
import GoSem.Claim
import GoSem.ClaimJoined
import GoSem.ClaimMapViews
import Derived.JoinedTies
import Derived.KernelRfl
namespace Go.Proofs.YthjagnioabgceaaDoor
/- THE CELL 'sum', in the pinned program and in every row, IS THE sha256 OF THE DUMP (.gsa) THAT YthjagnioabgceaaDoorProg.lean LOADS. Nothing in Lean hashes anything: it is a label: what it is worth is what the hold of that sum in a sandbox is worth. -/
noncomputable def Tryd.pinned : Pinned := { name := "ythjagnioabgceaadoor", sum := "b4a968e175c49253f2133738edc12eb9542c305bdfc063a49ebb16d58ba67eae", checked := Tryd.checked }
namespace Rows
def none {H : Type} : Left H := { results := [], args := [] }

/- WHAT THE LISTED PACKAGE-LEVEL VARIABLES READ AS WHEN THE CALL BEGINS. Each datum BY PROGRAM (the guide's laid-datum.mjs) off the statement by which the dump's own 'gosem.cut.vars' lays the variable. In a bare row this is a premise. The card (YthjagnioabgceaaDoorCards.lean) ties it to the program's text. -/
def laid_unicode_utf8_acceptRanges {H : Type} : DataW H := .agg [.agg [.lit (.int .u8 128), .lit (.int .u8 191)], .agg [.lit (.int .u8 160), .lit (.int .u8 191)], .agg [.lit (.int .u8 128), .lit (.int .u8 159)], .agg [.lit (.int .u8 144), .lit (.int .u8 191)], .agg [.lit (.int .u8 128), .lit (.int .u8 143)], .agg [.lit (.int .u8 0), .lit (.int .u8 0)], .agg [.lit (.int .u8 0), .lit (.int .u8 0)], .agg [.lit (.int .u8 0), .lit (.int .u8 0)], .agg [.lit (.int .u8 0), .lit (.int .u8 0)], .agg [.lit (.int .u8 0), .lit (.int .u8 0)], .agg [.lit (.int .u8 0), .lit (.int .u8 0)], .agg [.lit (.int .u8 0), .lit (.int .u8 0)], .agg [.lit (.int .u8 0), .lit (.int .u8 0)], .agg [.lit (.int .u8 0), .lit (.int .u8 0)], .agg [.lit (.int .u8 0), .lit (.int .u8 0)], .agg [.lit (.int .u8 0), .lit (.int .u8 0)]]
/-- One of Go's own tables, pinned by name: the form's constant. -/
def laid_unicode_utf8_first : DataW Unit := Go.Pinned.utf8First

/-- 'laws.FnExactIsClocks': WHATEVER THE INPUT: true; the input reads as it did. -/
def fnExactIsClocksSpec : ChangeSpec := { name := "fnExactIsClocks", fn := fun _ => fun
  | [d] => { results := [.lit (.bool true)], args := [d] }
  | _ => none }
def fnExactIsClocksRow : OpenClaim := { program := "ythjagnioabgceaadoor", sum := "b4a968e175c49253f2133738edc12eb9542c305bdfc063a49ebb16d58ba67eae", func := "loop.example/g00861/laws.FnExactIsClocks", spec := "fnExactIsClocks", inPlace := ["internal/bytealg.IndexByteString", "internal/bytealg.IndexString"], recurses := true, named := ["unicode/utf8.first", "unicode/utf8.acceptRanges", "internal/bytealg.MaxLen"], apart := false, laid := [("unicode/utf8.acceptRanges", laid_unicode_utf8_acceptRanges), ("unicode/utf8.first", laid_unicode_utf8_first)] }
def FnExactIsClocksSaid : Prop := fnExactIsClocksRow.holds Tryd.pinned (OpenSpec.ofChange fnExactIsClocksSpec)

/-- ITS FALSE NEIGHBOUR: 'it returns false'. Refute it at one input. -/
def fnExactIsClocksWrong : ChangeSpec := { name := "fnExactIsClocks", fn := fun _ => fun
  | [d] => { results := [.lit (.bool false)], args := [d] }
  | _ => none }
def FnExactIsClocksWrongFalsely : Prop := fnExactIsClocksRow.holds Tryd.pinned (OpenSpec.ofChange fnExactIsClocksWrong)

/-- 'laws.FnExactWaveOf': WHATEVER THE INPUT: true; the input reads as it did. -/
def fnExactWaveOfSpec : ChangeSpec := { name := "fnExactWaveOf", fn := fun _ => fun
  | [d1, d2] => { results := [.lit (.bool true)], args := [d1, d2] }
  | _ => none }
def fnExactWaveOfRow : OpenClaim := { program := "ythjagnioabgceaadoor", sum := "b4a968e175c49253f2133738edc12eb9542c305bdfc063a49ebb16d58ba67eae", func := "loop.example/g00861/laws.FnExactWaveOf", spec := "fnExactWaveOf", inPlace := ["internal/bytealg.IndexByteString", "internal/bytealg.IndexString"], unfollowed := true, recurses := true, named := ["unicode/utf8.first", "unicode/utf8.acceptRanges", "internal/bytealg.MaxLen"], apart := false, laid := [("unicode/utf8.acceptRanges", laid_unicode_utf8_acceptRanges), ("unicode/utf8.first", laid_unicode_utf8_first)] }
def FnExactWaveOfSaid : Prop := fnExactWaveOfRow.holds Tryd.pinned (OpenSpec.ofChange fnExactWaveOfSpec)

/-- ITS FALSE NEIGHBOUR: 'it returns false'. Refute it at one input. -/
def fnExactWaveOfWrong : ChangeSpec := { name := "fnExactWaveOf", fn := fun _ => fun
  | [d1, d2] => { results := [.lit (.bool false)], args := [d1, d2] }
  | _ => none }
def FnExactWaveOfWrongFalsely : Prop := fnExactWaveOfRow.holds Tryd.pinned (OpenSpec.ofChange fnExactWaveOfWrong)

/-- 'laws.FnPulses': WHATEVER THE INPUT: true; the input reads as it did. -/
def fnPulsesSpec : ChangeSpec := { name := "fnPulses", fn := fun _ => fun
  | [d] => { results := [.lit (.bool true)], args := [d] }
  | _ => none }
def fnPulsesRow : OpenClaim := { program := "ythjagnioabgceaadoor", sum := "b4a968e175c49253f2133738edc12eb9542c305bdfc063a49ebb16d58ba67eae", func := "loop.example/g00861/laws.FnPulses", spec := "fnPulses", inPlace := ["internal/bytealg.IndexByteString", "internal/bytealg.IndexString"], unfollowed := true, recurses := true, named := ["unicode/utf8.first", "unicode/utf8.acceptRanges", "internal/bytealg.MaxLen"], apart := false, laid := [("unicode/utf8.acceptRanges", laid_unicode_utf8_acceptRanges), ("unicode/utf8.first", laid_unicode_utf8_first)] }
def FnPulsesSaid : Prop := fnPulsesRow.holds Tryd.pinned (OpenSpec.ofChange fnPulsesSpec)

/-- ITS FALSE NEIGHBOUR: 'it returns false'. Refute it at one input. -/
def fnPulsesWrong : ChangeSpec := { name := "fnPulses", fn := fun _ => fun
  | [d] => { results := [.lit (.bool false)], args := [d] }
  | _ => none }
def FnPulsesWrongFalsely : Prop := fnPulsesRow.holds Tryd.pinned (OpenSpec.ofChange fnPulsesWrong)

/-- 'laws.FnExactUncertaintyOf': WHATEVER THE INPUT: true; the input reads as it did. -/
def fnExactUncertaintyOfSpec : ChangeSpec := { name := "fnExactUncertaintyOf", fn := fun _ => fun
  | [d1, d2, d3] => { results := [.lit (.bool true)], args := [d1, d2, d3] }
  | _ => none }
def fnExactUncertaintyOfRow : OpenClaim := { program := "ythjagnioabgceaadoor", sum := "b4a968e175c49253f2133738edc12eb9542c305bdfc063a49ebb16d58ba67eae", func := "loop.example/g00861/laws.FnExactUncertaintyOf", spec := "fnExactUncertaintyOf", inPlace := ["internal/bytealg.IndexByteString", "internal/bytealg.IndexString"], unfollowed := true, recurses := true, named := ["unicode/utf8.first", "unicode/utf8.acceptRanges", "internal/bytealg.MaxLen"], apart := false, laid := [("unicode/utf8.acceptRanges", laid_unicode_utf8_acceptRanges), ("unicode/utf8.first", laid_unicode_utf8_first)] }
def FnExactUncertaintyOfSaid : Prop := fnExactUncertaintyOfRow.holds Tryd.pinned (OpenSpec.ofChange fnExactUncertaintyOfSpec)

/-- ITS FALSE NEIGHBOUR: 'it returns false'. Refute it at one input. -/
def fnExactUncertaintyOfWrong : ChangeSpec := { name := "fnExactUncertaintyOf", fn := fun _ => fun
  | [d1, d2, d3] => { results := [.lit (.bool false)], args := [d1, d2, d3] }
  | _ => none }
def FnExactUncertaintyOfWrongFalsely : Prop := fnExactUncertaintyOfRow.holds Tryd.pinned (OpenSpec.ofChange fnExactUncertaintyOfWrong)

/-- 'laws.FnExactRootOf': WHATEVER THE INPUT: true; the input reads as it did. -/
def fnExactRootOfSpec : ChangeSpec := { name := "fnExactRootOf", fn := fun _ => fun
  | [d1, d2] => { results := [.lit (.bool true)], args := [d1, d2] }
  | _ => none }
def fnExactRootOfRow : OpenClaim := { program := "ythjagnioabgceaadoor", sum := "b4a968e175c49253f2133738edc12eb9542c305bdfc063a49ebb16d58ba67eae", func := "loop.example/g00861/laws.FnExactRootOf", spec := "fnExactRootOf", inPlace := ["internal/bytealg.IndexByteString", "internal/bytealg.IndexString"], unfollowed := true, recurses := true, named := ["unicode/utf8.first", "unicode/utf8.acceptRanges", "internal/bytealg.MaxLen"], apart := false, laid := [("unicode/utf8.acceptRanges", laid_unicode_utf8_acceptRanges), ("unicode/utf8.first", laid_unicode_utf8_first)] }
def FnExactRootOfSaid : Prop := fnExactRootOfRow.holds Tryd.pinned (OpenSpec.ofChange fnExactRootOfSpec)

/-- ITS FALSE NEIGHBOUR: 'it returns false'. Refute it at one input. -/
def fnExactRootOfWrong : ChangeSpec := { name := "fnExactRootOf", fn := fun _ => fun
  | [d1, d2] => { results := [.lit (.bool false)], args := [d1, d2] }
  | _ => none }
def FnExactRootOfWrongFalsely : Prop := fnExactRootOfRow.holds Tryd.pinned (OpenSpec.ofChange fnExactRootOfWrong)

/-- 'laws.FnExactPulseWidths': WHATEVER THE INPUT: true; the input reads as it did. -/
def fnExactPulseWidthsSpec : ChangeSpec := { name := "fnExactPulseWidths", fn := fun _ => fun
  | [d1, d2] => { results := [.lit (.bool true)], args := [d1, d2] }
  | _ => none }
def fnExactPulseWidthsRow : OpenClaim := { program := "ythjagnioabgceaadoor", sum := "b4a968e175c49253f2133738edc12eb9542c305bdfc063a49ebb16d58ba67eae", func := "loop.example/g00861/laws.FnExactPulseWidths", spec := "fnExactPulseWidths", inPlace := ["internal/bytealg.IndexByteString", "internal/bytealg.IndexString"], unfollowed := true, recurses := true, named := ["unicode/utf8.first", "unicode/utf8.acceptRanges", "internal/bytealg.MaxLen"], apart := false, laid := [("unicode/utf8.acceptRanges", laid_unicode_utf8_acceptRanges), ("unicode/utf8.first", laid_unicode_utf8_first)] }
def FnExactPulseWidthsSaid : Prop := fnExactPulseWidthsRow.holds Tryd.pinned (OpenSpec.ofChange fnExactPulseWidthsSpec)

/-- ITS FALSE NEIGHBOUR: 'it returns false'. Refute it at one input. -/
def fnExactPulseWidthsWrong : ChangeSpec := { name := "fnExactPulseWidths", fn := fun _ => fun
  | [d1, d2] => { results := [.lit (.bool false)], args := [d1, d2] }
  | _ => none }
def FnExactPulseWidthsWrongFalsely : Prop := fnExactPulseWidthsRow.holds Tryd.pinned (OpenSpec.ofChange fnExactPulseWidthsWrong)

/-- 'laws.FnExactNextEdge': WHATEVER THE INPUT: true; the input reads as it did. -/
def fnExactNextEdgeSpec : ChangeSpec := { name := "fnExactNextEdge", fn := fun _ => fun
  | [d1, d2, d3, d4] => { results := [.lit (.bool true)], args := [d1, d2, d3, d4] }
  | _ => none }
def fnExactNextEdgeRow : OpenClaim := { program := "ythjagnioabgceaadoor", sum := "b4a968e175c49253f2133738edc12eb9542c305bdfc063a49ebb16d58ba67eae", func := "loop.example/g00861/laws.FnExactNextEdge", spec := "fnExactNextEdge", inPlace := ["internal/bytealg.IndexByteString", "internal/bytealg.IndexString"], unfollowed := true, recurses := true, named := ["unicode/utf8.first", "unicode/utf8.acceptRanges", "internal/bytealg.MaxLen"], apart := false, laid := [("unicode/utf8.acceptRanges", laid_unicode_utf8_acceptRanges), ("unicode/utf8.first", laid_unicode_utf8_first)] }
def FnExactNextEdgeSaid : Prop := fnExactNextEdgeRow.holds Tryd.pinned (OpenSpec.ofChange fnExactNextEdgeSpec)

/-- ITS FALSE NEIGHBOUR: 'it returns false'. Refute it at one input. -/
def fnExactNextEdgeWrong : ChangeSpec := { name := "fnExactNextEdge", fn := fun _ => fun
  | [d1, d2, d3, d4] => { results := [.lit (.bool false)], args := [d1, d2, d3, d4] }
  | _ => none }
def FnExactNextEdgeWrongFalsely : Prop := fnExactNextEdgeRow.holds Tryd.pinned (OpenSpec.ofChange fnExactNextEdgeWrong)

/-- 'laws.FnExactLevelAt': WHATEVER THE INPUT: true; the input reads as it did. -/
def fnExactLevelAtSpec : ChangeSpec := { name := "fnExactLevelAt", fn := fun _ => fun
  | [d1, d2, d3] => { results := [.lit (.bool true)], args := [d1, d2, d3] }
  | _ => none }
def fnExactLevelAtRow : OpenClaim := { program := "ythjagnioabgceaadoor", sum := "b4a968e175c49253f2133738edc12eb9542c305bdfc063a49ebb16d58ba67eae", func := "loop.example/g00861/laws.FnExactLevelAt", spec := "fnExactLevelAt", inPlace := ["internal/bytealg.IndexByteString", "internal/bytealg.IndexString"], unfollowed := true, recurses := true, named := ["unicode/utf8.first", "unicode/utf8.acceptRanges", "internal/bytealg.MaxLen"], apart := false, laid := [("unicode/utf8.acceptRanges", laid_unicode_utf8_acceptRanges), ("unicode/utf8.first", laid_unicode_utf8_first)] }
def FnExactLevelAtSaid : Prop := fnExactLevelAtRow.holds Tryd.pinned (OpenSpec.ofChange fnExactLevelAtSpec)

/-- ITS FALSE NEIGHBOUR: 'it returns false'. Refute it at one input. -/
def fnExactLevelAtWrong : ChangeSpec := { name := "fnExactLevelAt", fn := fun _ => fun
  | [d1, d2, d3] => { results := [.lit (.bool false)], args := [d1, d2, d3] }
  | _ => none }
def FnExactLevelAtWrongFalsely : Prop := fnExactLevelAtRow.holds Tryd.pinned (OpenSpec.ofChange fnExactLevelAtWrong)

/-- 'laws.FnGenerated': WHATEVER THE INPUT: true; the input reads as it did. -/
def fnGeneratedSpec : ChangeSpec := { name := "fnGenerated", fn := fun _ => fun
  | [d] => { results := [.lit (.bool true)], args := [d] }
  | _ => none }
def fnGeneratedRow : OpenClaim := { program := "ythjagnioabgceaadoor", sum := "b4a968e175c49253f2133738edc12eb9542c305bdfc063a49ebb16d58ba67eae", func := "loop.example/g00861/laws.FnGenerated", spec := "fnGenerated", inPlace := ["internal/bytealg.IndexByteString", "internal/bytealg.IndexString"], unfollowed := true, recurses := true, named := ["unicode/utf8.first", "unicode/utf8.acceptRanges", "internal/bytealg.MaxLen"], apart := false, laid := [("unicode/utf8.acceptRanges", laid_unicode_utf8_acceptRanges), ("unicode/utf8.first", laid_unicode_utf8_first)] }
def FnGeneratedSaid : Prop := fnGeneratedRow.holds Tryd.pinned (OpenSpec.ofChange fnGeneratedSpec)

/-- ITS FALSE NEIGHBOUR: 'it returns false'. Refute it at one input. -/
def fnGeneratedWrong : ChangeSpec := { name := "fnGenerated", fn := fun _ => fun
  | [d] => { results := [.lit (.bool false)], args := [d] }
  | _ => none }
def FnGeneratedWrongFalsely : Prop := fnGeneratedRow.holds Tryd.pinned (OpenSpec.ofChange fnGeneratedWrong)

/-- 'laws.FnExactHyperPeriod': WHATEVER THE INPUT: true; the input reads as it did. -/
def fnExactHyperPeriodSpec : ChangeSpec := { name := "fnExactHyperPeriod", fn := fun _ => fun
  | [d1, d2, d3] => { results := [.lit (.bool true)], args := [d1, d2, d3] }
  | _ => none }
def fnExactHyperPeriodRow : OpenClaim := { program := "ythjagnioabgceaadoor", sum := "b4a968e175c49253f2133738edc12eb9542c305bdfc063a49ebb16d58ba67eae", func := "loop.example/g00861/laws.FnExactHyperPeriod", spec := "fnExactHyperPeriod", inPlace := ["internal/bytealg.IndexByteString", "internal/bytealg.IndexString"], unfollowed := true, recurses := true, named := ["unicode/utf8.first", "unicode/utf8.acceptRanges", "internal/bytealg.MaxLen"], apart := false, laid := [("unicode/utf8.acceptRanges", laid_unicode_utf8_acceptRanges), ("unicode/utf8.first", laid_unicode_utf8_first)] }
def FnExactHyperPeriodSaid : Prop := fnExactHyperPeriodRow.holds Tryd.pinned (OpenSpec.ofChange fnExactHyperPeriodSpec)

/-- ITS FALSE NEIGHBOUR: 'it returns false'. Refute it at one input. -/
def fnExactHyperPeriodWrong : ChangeSpec := { name := "fnExactHyperPeriod", fn := fun _ => fun
  | [d1, d2, d3] => { results := [.lit (.bool false)], args := [d1, d2, d3] }
  | _ => none }
def FnExactHyperPeriodWrongFalsely : Prop := fnExactHyperPeriodRow.holds Tryd.pinned (OpenSpec.ofChange fnExactHyperPeriodWrong)

/-- 'laws.FnWaves': WHATEVER THE INPUT: true; the input reads as it did. -/
def fnWavesSpec : ChangeSpec := { name := "fnWaves", fn := fun _ => fun
  | [d] => { results := [.lit (.bool true)], args := [d] }
  | _ => none }
def fnWavesRow : OpenClaim := { program := "ythjagnioabgceaadoor", sum := "b4a968e175c49253f2133738edc12eb9542c305bdfc063a49ebb16d58ba67eae", func := "loop.example/g00861/laws.FnWaves", spec := "fnWaves", inPlace := ["internal/bytealg.IndexByteString", "internal/bytealg.IndexString"], unfollowed := true, recurses := true, named := ["unicode/utf8.first", "unicode/utf8.acceptRanges", "internal/bytealg.MaxLen"], apart := false, laid := [("unicode/utf8.acceptRanges", laid_unicode_utf8_acceptRanges), ("unicode/utf8.first", laid_unicode_utf8_first)] }
def FnWavesSaid : Prop := fnWavesRow.holds Tryd.pinned (OpenSpec.ofChange fnWavesSpec)

/-- ITS FALSE NEIGHBOUR: 'it returns false'. Refute it at one input. -/
def fnWavesWrong : ChangeSpec := { name := "fnWaves", fn := fun _ => fun
  | [d] => { results := [.lit (.bool false)], args := [d] }
  | _ => none }
def FnWavesWrongFalsely : Prop := fnWavesRow.holds Tryd.pinned (OpenSpec.ofChange fnWavesWrong)

/-- 'laws.FnExactEdgesIn': WHATEVER THE INPUT: true; the input reads as it did. -/
def fnExactEdgesInSpec : ChangeSpec := { name := "fnExactEdgesIn", fn := fun _ => fun
  | [d1, d2, d3, d4, d5] => { results := [.lit (.bool true)], args := [d1, d2, d3, d4, d5] }
  | _ => none }
def fnExactEdgesInRow : OpenClaim := { program := "ythjagnioabgceaadoor", sum := "b4a968e175c49253f2133738edc12eb9542c305bdfc063a49ebb16d58ba67eae", func := "loop.example/g00861/laws.FnExactEdgesIn", spec := "fnExactEdgesIn", inPlace := ["internal/bytealg.IndexByteString", "internal/bytealg.IndexString"], unfollowed := true, recurses := true, named := ["unicode/utf8.first", "unicode/utf8.acceptRanges", "internal/bytealg.MaxLen"], apart := false, laid := [("unicode/utf8.acceptRanges", laid_unicode_utf8_acceptRanges), ("unicode/utf8.first", laid_unicode_utf8_first)] }
def FnExactEdgesInSaid : Prop := fnExactEdgesInRow.holds Tryd.pinned (OpenSpec.ofChange fnExactEdgesInSpec)

/-- ITS FALSE NEIGHBOUR: 'it returns false'. Refute it at one input. -/
def fnExactEdgesInWrong : ChangeSpec := { name := "fnExactEdgesIn", fn := fun _ => fun
  | [d1, d2, d3, d4, d5] => { results := [.lit (.bool false)], args := [d1, d2, d3, d4, d5] }
  | _ => none }
def FnExactEdgesInWrongFalsely : Prop := fnExactEdgesInRow.holds Tryd.pinned (OpenSpec.ofChange fnExactEdgesInWrong)

/- THE SECOND FORM. 'bulk': how many values and letters a reading holds, each counted each time it is reached (what is shared counts as often as it is met; a slice's spare places count too). A statement '..UptoSaid' is the law's where the arguments, and the package variables that the reading takes, are together of bulk at most 1048576: NARROWER than '..Said'. Prove '..Said' where nothing that the law and all that it calls make is longer than what came in: it says more and counts as full. Else prove '..UptoSaid'. A law counts once. -/
mutual
def uptoBulk {H : Type} : DataW H → Nat
  | .lit (.string bytes) => bytes.length + 1
  | .lit _ => 1
  | .nil => 1
  | .ptr d => uptoBulk d + 1
  | .slice elems spare => uptoBulkAll elems + uptoBulkAll spare + 1
  | .agg parts => uptoBulkAll parts + 1
  | .iface _ d => uptoBulk d + 1
  | .map entries => uptoBulkEntries entries + 1
  | .held _ => 1
def uptoBulkAll {H : Type} : List (DataW H) → Nat
  | [] => 0
  | d :: r => uptoBulk d + uptoBulkAll r
def uptoBulkEntries {H : Type} : List (Lit × DataW H) → Nat
  | [] => 0
  | x :: r => uptoBulkEntry x + uptoBulkEntries r
def uptoBulkEntry {H : Type} : Lit × DataW H → Nat
  | (.string bytes, d) => bytes.length + uptoBulk d + 1
  | (_, d) => uptoBulk d + 1
 end
def uptoSmall : (H : Type) → List (DataW H) → Bool := fun _ ds => decide (uptoBulkAll ds ≤ 1048576)
def OpenSpec.upto (s : _root_.Go.ChangeSpec) : _root_.Go.OpenSpec := { _root_.Go.OpenSpec.ofChange s with cond := some uptoSmall }

/-- 'laws.FnExactIsClocks', WHERE WHAT IT READS IS OF BULK AT MOST 1048576: true; the input reads as it did. -/
def fnExactIsClocksUptoRow : OpenClaim := { program := "ythjagnioabgceaadoor", sum := "b4a968e175c49253f2133738edc12eb9542c305bdfc063a49ebb16d58ba67eae", func := "loop.example/g00861/laws.FnExactIsClocks", spec := "fnExactIsClocks", inPlace := ["internal/bytealg.IndexByteString", "internal/bytealg.IndexString"], recurses := true, named := ["unicode/utf8.first", "unicode/utf8.acceptRanges", "internal/bytealg.MaxLen"], apart := false, laid := [("unicode/utf8.acceptRanges", laid_unicode_utf8_acceptRanges), ("unicode/utf8.first", laid_unicode_utf8_first)], narrowed := true }
def FnExactIsClocksUptoSaid : Prop := fnExactIsClocksUptoRow.holds Tryd.pinned (OpenSpec.upto fnExactIsClocksSpec)

/-- 'laws.FnExactWaveOf', WHERE WHAT IT READS IS OF BULK AT MOST 1048576: true; the input reads as it did. -/
def fnExactWaveOfUptoRow : OpenClaim := { program := "ythjagnioabgceaadoor", sum := "b4a968e175c49253f2133738edc12eb9542c305bdfc063a49ebb16d58ba67eae", func := "loop.example/g00861/laws.FnExactWaveOf", spec := "fnExactWaveOf", inPlace := ["internal/bytealg.IndexByteString", "internal/bytealg.IndexString"], unfollowed := true, recurses := true, named := ["unicode/utf8.first", "unicode/utf8.acceptRanges", "internal/bytealg.MaxLen"], apart := false, laid := [("unicode/utf8.acceptRanges", laid_unicode_utf8_acceptRanges), ("unicode/utf8.first", laid_unicode_utf8_first)], narrowed := true }
def FnExactWaveOfUptoSaid : Prop := fnExactWaveOfUptoRow.holds Tryd.pinned (OpenSpec.upto fnExactWaveOfSpec)

/-- 'laws.FnPulses', WHERE WHAT IT READS IS OF BULK AT MOST 1048576: true; the input reads as it did. -/
def fnPulsesUptoRow : OpenClaim := { program := "ythjagnioabgceaadoor", sum := "b4a968e175c49253f2133738edc12eb9542c305bdfc063a49ebb16d58ba67eae", func := "loop.example/g00861/laws.FnPulses", spec := "fnPulses", inPlace := ["internal/bytealg.IndexByteString", "internal/bytealg.IndexString"], unfollowed := true, recurses := true, named := ["unicode/utf8.first", "unicode/utf8.acceptRanges", "internal/bytealg.MaxLen"], apart := false, laid := [("unicode/utf8.acceptRanges", laid_unicode_utf8_acceptRanges), ("unicode/utf8.first", laid_unicode_utf8_first)], narrowed := true }
def FnPulsesUptoSaid : Prop := fnPulsesUptoRow.holds Tryd.pinned (OpenSpec.upto fnPulsesSpec)

/-- 'laws.FnExactUncertaintyOf', WHERE WHAT IT READS IS OF BULK AT MOST 1048576: true; the input reads as it did. -/
def fnExactUncertaintyOfUptoRow : OpenClaim := { program := "ythjagnioabgceaadoor", sum := "b4a968e175c49253f2133738edc12eb9542c305bdfc063a49ebb16d58ba67eae", func := "loop.example/g00861/laws.FnExactUncertaintyOf", spec := "fnExactUncertaintyOf", inPlace := ["internal/bytealg.IndexByteString", "internal/bytealg.IndexString"], unfollowed := true, recurses := true, named := ["unicode/utf8.first", "unicode/utf8.acceptRanges", "internal/bytealg.MaxLen"], apart := false, laid := [("unicode/utf8.acceptRanges", laid_unicode_utf8_acceptRanges), ("unicode/utf8.first", laid_unicode_utf8_first)], narrowed := true }
def FnExactUncertaintyOfUptoSaid : Prop := fnExactUncertaintyOfUptoRow.holds Tryd.pinned (OpenSpec.upto fnExactUncertaintyOfSpec)

/-- 'laws.FnExactRootOf', WHERE WHAT IT READS IS OF BULK AT MOST 1048576: true; the input reads as it did. -/
def fnExactRootOfUptoRow : OpenClaim := { program := "ythjagnioabgceaadoor", sum := "b4a968e175c49253f2133738edc12eb9542c305bdfc063a49ebb16d58ba67eae", func := "loop.example/g00861/laws.FnExactRootOf", spec := "fnExactRootOf", inPlace := ["internal/bytealg.IndexByteString", "internal/bytealg.IndexString"], unfollowed := true, recurses := true, named := ["unicode/utf8.first", "unicode/utf8.acceptRanges", "internal/bytealg.MaxLen"], apart := false, laid := [("unicode/utf8.acceptRanges", laid_unicode_utf8_acceptRanges), ("unicode/utf8.first", laid_unicode_utf8_first)], narrowed := true }
def FnExactRootOfUptoSaid : Prop := fnExactRootOfUptoRow.holds Tryd.pinned (OpenSpec.upto fnExactRootOfSpec)

/-- 'laws.FnExactPulseWidths', WHERE WHAT IT READS IS OF BULK AT MOST 1048576: true; the input reads as it did. -/
def fnExactPulseWidthsUptoRow : OpenClaim := { program := "ythjagnioabgceaadoor", sum := "b4a968e175c49253f2133738edc12eb9542c305bdfc063a49ebb16d58ba67eae", func := "loop.example/g00861/laws.FnExactPulseWidths", spec := "fnExactPulseWidths", inPlace := ["internal/bytealg.IndexByteString", "internal/bytealg.IndexString"], unfollowed := true, recurses := true, named := ["unicode/utf8.first", "unicode/utf8.acceptRanges", "internal/bytealg.MaxLen"], apart := false, laid := [("unicode/utf8.acceptRanges", laid_unicode_utf8_acceptRanges), ("unicode/utf8.first", laid_unicode_utf8_first)], narrowed := true }
def FnExactPulseWidthsUptoSaid : Prop := fnExactPulseWidthsUptoRow.holds Tryd.pinned (OpenSpec.upto fnExactPulseWidthsSpec)

/-- 'laws.FnExactNextEdge', WHERE WHAT IT READS IS OF BULK AT MOST 1048576: true; the input reads as it did. -/
def fnExactNextEdgeUptoRow : OpenClaim := { program := "ythjagnioabgceaadoor", sum := "b4a968e175c49253f2133738edc12eb9542c305bdfc063a49ebb16d58ba67eae", func := "loop.example/g00861/laws.FnExactNextEdge", spec := "fnExactNextEdge", inPlace := ["internal/bytealg.IndexByteString", "internal/bytealg.IndexString"], unfollowed := true, recurses := true, named := ["unicode/utf8.first", "unicode/utf8.acceptRanges", "internal/bytealg.MaxLen"], apart := false, laid := [("unicode/utf8.acceptRanges", laid_unicode_utf8_acceptRanges), ("unicode/utf8.first", laid_unicode_utf8_first)], narrowed := true }
def FnExactNextEdgeUptoSaid : Prop := fnExactNextEdgeUptoRow.holds Tryd.pinned (OpenSpec.upto fnExactNextEdgeSpec)

/-- 'laws.FnExactLevelAt', WHERE WHAT IT READS IS OF BULK AT MOST 1048576: true; the input reads as it did. -/
def fnExactLevelAtUptoRow : OpenClaim := { program := "ythjagnioabgceaadoor", sum := "b4a968e175c49253f2133738edc12eb9542c305bdfc063a49ebb16d58ba67eae", func := "loop.example/g00861/laws.FnExactLevelAt", spec := "fnExactLevelAt", inPlace := ["internal/bytealg.IndexByteString", "internal/bytealg.IndexString"], unfollowed := true, recurses := true, named := ["unicode/utf8.first", "unicode/utf8.acceptRanges", "internal/bytealg.MaxLen"], apart := false, laid := [("unicode/utf8.acceptRanges", laid_unicode_utf8_acceptRanges), ("unicode/utf8.first", laid_unicode_utf8_first)], narrowed := true }
def FnExactLevelAtUptoSaid : Prop := fnExactLevelAtUptoRow.holds Tryd.pinned (OpenSpec.upto fnExactLevelAtSpec)

/-- 'laws.FnGenerated', WHERE WHAT IT READS IS OF BULK AT MOST 1048576: true; the input reads as it did. -/
def fnGeneratedUptoRow : OpenClaim := { program := "ythjagnioabgceaadoor", sum := "b4a968e175c49253f2133738edc12eb9542c305bdfc063a49ebb16d58ba67eae", func := "loop.example/g00861/laws.FnGenerated", spec := "fnGenerated", inPlace := ["internal/bytealg.IndexByteString", "internal/bytealg.IndexString"], unfollowed := true, recurses := true, named := ["unicode/utf8.first", "unicode/utf8.acceptRanges", "internal/bytealg.MaxLen"], apart := false, laid := [("unicode/utf8.acceptRanges", laid_unicode_utf8_acceptRanges), ("unicode/utf8.first", laid_unicode_utf8_first)], narrowed := true }
def FnGeneratedUptoSaid : Prop := fnGeneratedUptoRow.holds Tryd.pinned (OpenSpec.upto fnGeneratedSpec)

/-- 'laws.FnExactHyperPeriod', WHERE WHAT IT READS IS OF BULK AT MOST 1048576: true; the input reads as it did. -/
def fnExactHyperPeriodUptoRow : OpenClaim := { program := "ythjagnioabgceaadoor", sum := "b4a968e175c49253f2133738edc12eb9542c305bdfc063a49ebb16d58ba67eae", func := "loop.example/g00861/laws.FnExactHyperPeriod", spec := "fnExactHyperPeriod", inPlace := ["internal/bytealg.IndexByteString", "internal/bytealg.IndexString"], unfollowed := true, recurses := true, named := ["unicode/utf8.first", "unicode/utf8.acceptRanges", "internal/bytealg.MaxLen"], apart := false, laid := [("unicode/utf8.acceptRanges", laid_unicode_utf8_acceptRanges), ("unicode/utf8.first", laid_unicode_utf8_first)], narrowed := true }
def FnExactHyperPeriodUptoSaid : Prop := fnExactHyperPeriodUptoRow.holds Tryd.pinned (OpenSpec.upto fnExactHyperPeriodSpec)

/-- 'laws.FnWaves', WHERE WHAT IT READS IS OF BULK AT MOST 1048576: true; the input reads as it did. -/
def fnWavesUptoRow : OpenClaim := { program := "ythjagnioabgceaadoor", sum := "b4a968e175c49253f2133738edc12eb9542c305bdfc063a49ebb16d58ba67eae", func := "loop.example/g00861/laws.FnWaves", spec := "fnWaves", inPlace := ["internal/bytealg.IndexByteString", "internal/bytealg.IndexString"], unfollowed := true, recurses := true, named := ["unicode/utf8.first", "unicode/utf8.acceptRanges", "internal/bytealg.MaxLen"], apart := false, laid := [("unicode/utf8.acceptRanges", laid_unicode_utf8_acceptRanges), ("unicode/utf8.first", laid_unicode_utf8_first)], narrowed := true }
def FnWavesUptoSaid : Prop := fnWavesUptoRow.holds Tryd.pinned (OpenSpec.upto fnWavesSpec)

/-- 'laws.FnExactEdgesIn', WHERE WHAT IT READS IS OF BULK AT MOST 1048576: true; the input reads as it did. -/
def fnExactEdgesInUptoRow : OpenClaim := { program := "ythjagnioabgceaadoor", sum := "b4a968e175c49253f2133738edc12eb9542c305bdfc063a49ebb16d58ba67eae", func := "loop.example/g00861/laws.FnExactEdgesIn", spec := "fnExactEdgesIn", inPlace := ["internal/bytealg.IndexByteString", "internal/bytealg.IndexString"], unfollowed := true, recurses := true, named := ["unicode/utf8.first", "unicode/utf8.acceptRanges", "internal/bytealg.MaxLen"], apart := false, laid := [("unicode/utf8.acceptRanges", laid_unicode_utf8_acceptRanges), ("unicode/utf8.first", laid_unicode_utf8_first)], narrowed := true }
def FnExactEdgesInUptoSaid : Prop := fnExactEdgesInUptoRow.holds Tryd.pinned (OpenSpec.upto fnExactEdgesInSpec)

end Rows
end Go.Proofs.YthjagnioabgceaaDoor
