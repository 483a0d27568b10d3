/-
  NARROWER THAN 'FOR EVERY INPUT', by the rows' own cells (each row's printed sentence says how): FnExactIsTargets: laid · FnExactIsNeeds: laid · FnExactDataSlacks: laid · FnExactSkewOf: laid · FnExactSlackOf: laid · FnExactWorstSlack: laid · FnExactGatingSlacks: laid · FnExactTotalSlack: laid · FnExactPulseSlacks: laid · FnExactHoldSlack: laid · FnExactSetupSlack: laid.
  DERIVED. THE GIVEN ROWS OF THIS SEAT. 11 by the template 'for every input the law returns true; each argument reads behind the call as it read before'; 0 by the template 'total and deterministic' (their statements: YtjijjanefcaakaaGreatDoorTotals.lean).
  GIVEN WITH THE SEED: the statements are not yours to turn. If you find one false, say at which input.
  Laid BY PROGRAM, IN A SANDBOX (cutbox-rows.mjs): the forced cells as the released guide's own fill.sh prints them over the translation 4bcbadad67b4284d… (all of the seat's roots in one cut). By AI agents, Wed Nov 11 2026. No macro, syntax, notation, axiom, sorry.
-/
import Derived.Test.YtjijjanefcaakaaGreatDoorChecked
import GoSem.PinnedTables
import GoSem.Claim
import GoSem.ClaimJoined
import GoSem.ClaimMapViews
import Derived.JoinedTies
import Derived.KernelRfl
namespace Go.Proofs.YtjijjanefcaakaaGreatDoor
/- THE CELL 'sum', in the pinned program and in every row, IS THE sha256 OF THE DUMP (.gsa) THAT YtjijjanefcaakaaGreatDoorProg.lean LOADS. Nothing in Lean hashes anything: it is a label: what it is worth is what the hold of that sum in a sandbox is worth. -/
noncomputable def Tryz.pinned : Pinned := { name := "ytjijjanefcaakaagreatdoor", sum := "4bcbadad67b4284d37c3235f8593f44244acd0b60e2ade8d5a61a6db1f9dd712", checked := Tryz.checked }
namespace Rows
def none {H : Type} : Left H := { results := [], args := [] }

/- WHAT THE LISTED PACKAGE-LEVEL VARIABLES READ AS WHEN THE CALL BEGINS. Each datum BY PROGRAM (the guide's laid-datum.mjs) off the statement by which the dump's own 'gosem.cut.vars' lays the variable. In a bare row this is a premise. The card (YtjijjanefcaakaaGreatDoorCards.lean) ties it to the program's text. -/
def laid_unicode_utf8_acceptRanges {H : Type} : DataW H := .agg [.agg [.lit (.int .u8 128), .lit (.int .u8 191)], .agg [.lit (.int .u8 160), .lit (.int .u8 191)], .agg [.lit (.int .u8 128), .lit (.int .u8 159)], .agg [.lit (.int .u8 144), .lit (.int .u8 191)], .agg [.lit (.int .u8 128), .lit (.int .u8 143)], .agg [.lit (.int .u8 0), .lit (.int .u8 0)], .agg [.lit (.int .u8 0), .lit (.int .u8 0)], .agg [.lit (.int .u8 0), .lit (.int .u8 0)], .agg [.lit (.int .u8 0), .lit (.int .u8 0)], .agg [.lit (.int .u8 0), .lit (.int .u8 0)], .agg [.lit (.int .u8 0), .lit (.int .u8 0)], .agg [.lit (.int .u8 0), .lit (.int .u8 0)], .agg [.lit (.int .u8 0), .lit (.int .u8 0)], .agg [.lit (.int .u8 0), .lit (.int .u8 0)], .agg [.lit (.int .u8 0), .lit (.int .u8 0)], .agg [.lit (.int .u8 0), .lit (.int .u8 0)]]
/-- One of Go's own tables, pinned by name: the form's constant. -/
def laid_unicode_utf8_first : DataW Unit := Go.Pinned.utf8First

/-- 'laws.FnExactIsTargets': WHATEVER THE INPUT: true; the input reads as it did. -/
def fnExactIsTargetsSpec : ChangeSpec := { name := "fnExactIsTargets", fn := fun _ => fun
  | [d1, d2] => { results := [.lit (.bool true)], args := [d1, d2] }
  | _ => none }
def fnExactIsTargetsRow : OpenClaim := { program := "ytjijjanefcaakaagreatdoor", sum := "4bcbadad67b4284d37c3235f8593f44244acd0b60e2ade8d5a61a6db1f9dd712", func := "loop.example/g00861/laws.FnExactIsTargets", spec := "fnExactIsTargets", inPlace := ["internal/bytealg.IndexByteString", "internal/bytealg.IndexString"], unfollowed := true, recurses := true, named := ["unicode/utf8.first", "unicode/utf8.acceptRanges", "internal/bytealg.MaxLen"], apart := false, laid := [("unicode/utf8.acceptRanges", laid_unicode_utf8_acceptRanges), ("unicode/utf8.first", laid_unicode_utf8_first)] }
def FnExactIsTargetsSaid : Prop := fnExactIsTargetsRow.holds Tryz.pinned (OpenSpec.ofChange fnExactIsTargetsSpec)

/-- ITS FALSE NEIGHBOUR: 'it returns false'. Refute it at one input. -/
def fnExactIsTargetsWrong : ChangeSpec := { name := "fnExactIsTargets", fn := fun _ => fun
  | [d1, d2] => { results := [.lit (.bool false)], args := [d1, d2] }
  | _ => none }
def FnExactIsTargetsWrongFalsely : Prop := fnExactIsTargetsRow.holds Tryz.pinned (OpenSpec.ofChange fnExactIsTargetsWrong)

/-- 'laws.FnExactIsNeeds': WHATEVER THE INPUT: true; the input reads as it did. -/
def fnExactIsNeedsSpec : ChangeSpec := { name := "fnExactIsNeeds", fn := fun _ => fun
  | [d1, d2] => { results := [.lit (.bool true)], args := [d1, d2] }
  | _ => none }
def fnExactIsNeedsRow : OpenClaim := { program := "ytjijjanefcaakaagreatdoor", sum := "4bcbadad67b4284d37c3235f8593f44244acd0b60e2ade8d5a61a6db1f9dd712", func := "loop.example/g00861/laws.FnExactIsNeeds", spec := "fnExactIsNeeds", inPlace := ["internal/bytealg.IndexByteString", "internal/bytealg.IndexString"], unfollowed := true, recurses := true, named := ["unicode/utf8.first", "unicode/utf8.acceptRanges", "internal/bytealg.MaxLen"], apart := false, laid := [("unicode/utf8.acceptRanges", laid_unicode_utf8_acceptRanges), ("unicode/utf8.first", laid_unicode_utf8_first)] }
def FnExactIsNeedsSaid : Prop := fnExactIsNeedsRow.holds Tryz.pinned (OpenSpec.ofChange fnExactIsNeedsSpec)

/-- ITS FALSE NEIGHBOUR: 'it returns false'. Refute it at one input. -/
def fnExactIsNeedsWrong : ChangeSpec := { name := "fnExactIsNeeds", fn := fun _ => fun
  | [d1, d2] => { results := [.lit (.bool false)], args := [d1, d2] }
  | _ => none }
def FnExactIsNeedsWrongFalsely : Prop := fnExactIsNeedsRow.holds Tryz.pinned (OpenSpec.ofChange fnExactIsNeedsWrong)

/-- 'laws.FnExactDataSlacks': WHATEVER THE INPUT: true; the input reads as it did. -/
def fnExactDataSlacksSpec : ChangeSpec := { name := "fnExactDataSlacks", fn := fun _ => fun
  | [d1, d2, d3, d4, d5] => { results := [.lit (.bool true)], args := [d1, d2, d3, d4, d5] }
  | _ => none }
def fnExactDataSlacksRow : OpenClaim := { program := "ytjijjanefcaakaagreatdoor", sum := "4bcbadad67b4284d37c3235f8593f44244acd0b60e2ade8d5a61a6db1f9dd712", func := "loop.example/g00861/laws.FnExactDataSlacks", spec := "fnExactDataSlacks", inPlace := ["internal/bytealg.IndexByteString", "internal/bytealg.IndexString"], unfollowed := true, recurses := true, named := ["unicode/utf8.first", "unicode/utf8.acceptRanges", "internal/bytealg.MaxLen"], apart := false, laid := [("unicode/utf8.acceptRanges", laid_unicode_utf8_acceptRanges), ("unicode/utf8.first", laid_unicode_utf8_first)] }
def FnExactDataSlacksSaid : Prop := fnExactDataSlacksRow.holds Tryz.pinned (OpenSpec.ofChange fnExactDataSlacksSpec)

/-- ITS FALSE NEIGHBOUR: 'it returns false'. Refute it at one input. -/
def fnExactDataSlacksWrong : ChangeSpec := { name := "fnExactDataSlacks", fn := fun _ => fun
  | [d1, d2, d3, d4, d5] => { results := [.lit (.bool false)], args := [d1, d2, d3, d4, d5] }
  | _ => none }
def FnExactDataSlacksWrongFalsely : Prop := fnExactDataSlacksRow.holds Tryz.pinned (OpenSpec.ofChange fnExactDataSlacksWrong)

/-- 'laws.FnExactSkewOf': WHATEVER THE INPUT: true; the input reads as it did. -/
def fnExactSkewOfSpec : ChangeSpec := { name := "fnExactSkewOf", fn := fun _ => fun
  | [d1, d2, d3] => { results := [.lit (.bool true)], args := [d1, d2, d3] }
  | _ => none }
def fnExactSkewOfRow : OpenClaim := { program := "ytjijjanefcaakaagreatdoor", sum := "4bcbadad67b4284d37c3235f8593f44244acd0b60e2ade8d5a61a6db1f9dd712", func := "loop.example/g00861/laws.FnExactSkewOf", spec := "fnExactSkewOf", inPlace := ["internal/bytealg.IndexByteString", "internal/bytealg.IndexString"], unfollowed := true, recurses := true, named := ["unicode/utf8.first", "unicode/utf8.acceptRanges", "internal/bytealg.MaxLen"], apart := false, laid := [("unicode/utf8.acceptRanges", laid_unicode_utf8_acceptRanges), ("unicode/utf8.first", laid_unicode_utf8_first)] }
def FnExactSkewOfSaid : Prop := fnExactSkewOfRow.holds Tryz.pinned (OpenSpec.ofChange fnExactSkewOfSpec)

/-- ITS FALSE NEIGHBOUR: 'it returns false'. Refute it at one input. -/
def fnExactSkewOfWrong : ChangeSpec := { name := "fnExactSkewOf", fn := fun _ => fun
  | [d1, d2, d3] => { results := [.lit (.bool false)], args := [d1, d2, d3] }
  | _ => none }
def FnExactSkewOfWrongFalsely : Prop := fnExactSkewOfRow.holds Tryz.pinned (OpenSpec.ofChange fnExactSkewOfWrong)

/-- 'laws.FnExactSlackOf': WHATEVER THE INPUT: true; the input reads as it did. -/
def fnExactSlackOfSpec : ChangeSpec := { name := "fnExactSlackOf", fn := fun _ => fun
  | [d1, d2, d3, d4, d5] => { results := [.lit (.bool true)], args := [d1, d2, d3, d4, d5] }
  | _ => none }
def fnExactSlackOfRow : OpenClaim := { program := "ytjijjanefcaakaagreatdoor", sum := "4bcbadad67b4284d37c3235f8593f44244acd0b60e2ade8d5a61a6db1f9dd712", func := "loop.example/g00861/laws.FnExactSlackOf", spec := "fnExactSlackOf", inPlace := ["internal/bytealg.IndexByteString", "internal/bytealg.IndexString"], unfollowed := true, recurses := true, named := ["unicode/utf8.first", "unicode/utf8.acceptRanges", "internal/bytealg.MaxLen"], apart := false, laid := [("unicode/utf8.acceptRanges", laid_unicode_utf8_acceptRanges), ("unicode/utf8.first", laid_unicode_utf8_first)] }
def FnExactSlackOfSaid : Prop := fnExactSlackOfRow.holds Tryz.pinned (OpenSpec.ofChange fnExactSlackOfSpec)

/-- ITS FALSE NEIGHBOUR: 'it returns false'. Refute it at one input. -/
def fnExactSlackOfWrong : ChangeSpec := { name := "fnExactSlackOf", fn := fun _ => fun
  | [d1, d2, d3, d4, d5] => { results := [.lit (.bool false)], args := [d1, d2, d3, d4, d5] }
  | _ => none }
def FnExactSlackOfWrongFalsely : Prop := fnExactSlackOfRow.holds Tryz.pinned (OpenSpec.ofChange fnExactSlackOfWrong)

/-- 'laws.FnExactWorstSlack': WHATEVER THE INPUT: true; the input reads as it did. -/
def fnExactWorstSlackSpec : ChangeSpec := { name := "fnExactWorstSlack", fn := fun _ => fun
  | [d1, d2, d3, d4] => { results := [.lit (.bool true)], args := [d1, d2, d3, d4] }
  | _ => none }
def fnExactWorstSlackRow : OpenClaim := { program := "ytjijjanefcaakaagreatdoor", sum := "4bcbadad67b4284d37c3235f8593f44244acd0b60e2ade8d5a61a6db1f9dd712", func := "loop.example/g00861/laws.FnExactWorstSlack", spec := "fnExactWorstSlack", inPlace := ["internal/bytealg.IndexByteString", "internal/bytealg.IndexString"], unfollowed := true, recurses := true, named := ["unicode/utf8.first", "unicode/utf8.acceptRanges", "internal/bytealg.MaxLen"], apart := false, laid := [("unicode/utf8.acceptRanges", laid_unicode_utf8_acceptRanges), ("unicode/utf8.first", laid_unicode_utf8_first)] }
def FnExactWorstSlackSaid : Prop := fnExactWorstSlackRow.holds Tryz.pinned (OpenSpec.ofChange fnExactWorstSlackSpec)

/-- ITS FALSE NEIGHBOUR: 'it returns false'. Refute it at one input. -/
def fnExactWorstSlackWrong : ChangeSpec := { name := "fnExactWorstSlack", fn := fun _ => fun
  | [d1, d2, d3, d4] => { results := [.lit (.bool false)], args := [d1, d2, d3, d4] }
  | _ => none }
def FnExactWorstSlackWrongFalsely : Prop := fnExactWorstSlackRow.holds Tryz.pinned (OpenSpec.ofChange fnExactWorstSlackWrong)

/-- 'laws.FnExactGatingSlacks': WHATEVER THE INPUT: true; the input reads as it did. -/
def fnExactGatingSlacksSpec : ChangeSpec := { name := "fnExactGatingSlacks", fn := fun _ => fun
  | [d1, d2, d3, d4] => { results := [.lit (.bool true)], args := [d1, d2, d3, d4] }
  | _ => none }
def fnExactGatingSlacksRow : OpenClaim := { program := "ytjijjanefcaakaagreatdoor", sum := "4bcbadad67b4284d37c3235f8593f44244acd0b60e2ade8d5a61a6db1f9dd712", func := "loop.example/g00861/laws.FnExactGatingSlacks", spec := "fnExactGatingSlacks", inPlace := ["internal/bytealg.IndexByteString", "internal/bytealg.IndexString"], unfollowed := true, recurses := true, named := ["unicode/utf8.first", "unicode/utf8.acceptRanges", "internal/bytealg.MaxLen"], apart := false, laid := [("unicode/utf8.acceptRanges", laid_unicode_utf8_acceptRanges), ("unicode/utf8.first", laid_unicode_utf8_first)] }
def FnExactGatingSlacksSaid : Prop := fnExactGatingSlacksRow.holds Tryz.pinned (OpenSpec.ofChange fnExactGatingSlacksSpec)

/-- ITS FALSE NEIGHBOUR: 'it returns false'. Refute it at one input. -/
def fnExactGatingSlacksWrong : ChangeSpec := { name := "fnExactGatingSlacks", fn := fun _ => fun
  | [d1, d2, d3, d4] => { results := [.lit (.bool false)], args := [d1, d2, d3, d4] }
  | _ => none }
def FnExactGatingSlacksWrongFalsely : Prop := fnExactGatingSlacksRow.holds Tryz.pinned (OpenSpec.ofChange fnExactGatingSlacksWrong)

/-- 'laws.FnExactTotalSlack': WHATEVER THE INPUT: true; the input reads as it did. -/
def fnExactTotalSlackSpec : ChangeSpec := { name := "fnExactTotalSlack", fn := fun _ => fun
  | [d1, d2, d3, d4, d5] => { results := [.lit (.bool true)], args := [d1, d2, d3, d4, d5] }
  | _ => none }
def fnExactTotalSlackRow : OpenClaim := { program := "ytjijjanefcaakaagreatdoor", sum := "4bcbadad67b4284d37c3235f8593f44244acd0b60e2ade8d5a61a6db1f9dd712", func := "loop.example/g00861/laws.FnExactTotalSlack", spec := "fnExactTotalSlack", inPlace := ["internal/bytealg.IndexByteString", "internal/bytealg.IndexString"], unfollowed := true, recurses := true, named := ["unicode/utf8.first", "unicode/utf8.acceptRanges", "internal/bytealg.MaxLen"], apart := false, laid := [("unicode/utf8.acceptRanges", laid_unicode_utf8_acceptRanges), ("unicode/utf8.first", laid_unicode_utf8_first)] }
def FnExactTotalSlackSaid : Prop := fnExactTotalSlackRow.holds Tryz.pinned (OpenSpec.ofChange fnExactTotalSlackSpec)

/-- ITS FALSE NEIGHBOUR: 'it returns false'. Refute it at one input. -/
def fnExactTotalSlackWrong : ChangeSpec := { name := "fnExactTotalSlack", fn := fun _ => fun
  | [d1, d2, d3, d4, d5] => { results := [.lit (.bool false)], args := [d1, d2, d3, d4, d5] }
  | _ => none }
def FnExactTotalSlackWrongFalsely : Prop := fnExactTotalSlackRow.holds Tryz.pinned (OpenSpec.ofChange fnExactTotalSlackWrong)

/-- 'laws.FnExactPulseSlacks': WHATEVER THE INPUT: true; the input reads as it did. -/
def fnExactPulseSlacksSpec : ChangeSpec := { name := "fnExactPulseSlacks", fn := fun _ => fun
  | [d1, d2, d3, d4, d5, d6] => { results := [.lit (.bool true)], args := [d1, d2, d3, d4, d5, d6] }
  | _ => none }
def fnExactPulseSlacksRow : OpenClaim := { program := "ytjijjanefcaakaagreatdoor", sum := "4bcbadad67b4284d37c3235f8593f44244acd0b60e2ade8d5a61a6db1f9dd712", func := "loop.example/g00861/laws.FnExactPulseSlacks", spec := "fnExactPulseSlacks", inPlace := ["internal/bytealg.IndexByteString", "internal/bytealg.IndexString"], unfollowed := true, recurses := true, named := ["unicode/utf8.first", "unicode/utf8.acceptRanges", "internal/bytealg.MaxLen"], apart := false, laid := [("unicode/utf8.acceptRanges", laid_unicode_utf8_acceptRanges), ("unicode/utf8.first", laid_unicode_utf8_first)] }
def FnExactPulseSlacksSaid : Prop := fnExactPulseSlacksRow.holds Tryz.pinned (OpenSpec.ofChange fnExactPulseSlacksSpec)

/-- ITS FALSE NEIGHBOUR: 'it returns false'. Refute it at one input. -/
def fnExactPulseSlacksWrong : ChangeSpec := { name := "fnExactPulseSlacks", fn := fun _ => fun
  | [d1, d2, d3, d4, d5, d6] => { results := [.lit (.bool false)], args := [d1, d2, d3, d4, d5, d6] }
  | _ => none }
def FnExactPulseSlacksWrongFalsely : Prop := fnExactPulseSlacksRow.holds Tryz.pinned (OpenSpec.ofChange fnExactPulseSlacksWrong)

/-- 'laws.FnExactHoldSlack': WHATEVER THE INPUT: true; the input reads as it did. -/
def fnExactHoldSlackSpec : ChangeSpec := { name := "fnExactHoldSlack", fn := fun _ => fun
  | [d1, d2, d3, d4, d5, d6] => { results := [.lit (.bool true)], args := [d1, d2, d3, d4, d5, d6] }
  | _ => none }
def fnExactHoldSlackRow : OpenClaim := { program := "ytjijjanefcaakaagreatdoor", sum := "4bcbadad67b4284d37c3235f8593f44244acd0b60e2ade8d5a61a6db1f9dd712", func := "loop.example/g00861/laws.FnExactHoldSlack", spec := "fnExactHoldSlack", inPlace := ["internal/bytealg.IndexByteString", "internal/bytealg.IndexString"], unfollowed := true, recurses := true, named := ["unicode/utf8.first", "unicode/utf8.acceptRanges", "internal/bytealg.MaxLen"], apart := false, laid := [("unicode/utf8.acceptRanges", laid_unicode_utf8_acceptRanges), ("unicode/utf8.first", laid_unicode_utf8_first)] }
def FnExactHoldSlackSaid : Prop := fnExactHoldSlackRow.holds Tryz.pinned (OpenSpec.ofChange fnExactHoldSlackSpec)

/-- ITS FALSE NEIGHBOUR: 'it returns false'. Refute it at one input. -/
def fnExactHoldSlackWrong : ChangeSpec := { name := "fnExactHoldSlack", fn := fun _ => fun
  | [d1, d2, d3, d4, d5, d6] => { results := [.lit (.bool false)], args := [d1, d2, d3, d4, d5, d6] }
  | _ => none }
def FnExactHoldSlackWrongFalsely : Prop := fnExactHoldSlackRow.holds Tryz.pinned (OpenSpec.ofChange fnExactHoldSlackWrong)

/-- 'laws.FnExactSetupSlack': WHATEVER THE INPUT: true; the input reads as it did. -/
def fnExactSetupSlackSpec : ChangeSpec := { name := "fnExactSetupSlack", fn := fun _ => fun
  | [d1, d2, d3, d4, d5, d6] => { results := [.lit (.bool true)], args := [d1, d2, d3, d4, d5, d6] }
  | _ => none }
def fnExactSetupSlackRow : OpenClaim := { program := "ytjijjanefcaakaagreatdoor", sum := "4bcbadad67b4284d37c3235f8593f44244acd0b60e2ade8d5a61a6db1f9dd712", func := "loop.example/g00861/laws.FnExactSetupSlack", spec := "fnExactSetupSlack", inPlace := ["internal/bytealg.IndexByteString", "internal/bytealg.IndexString"], unfollowed := true, recurses := true, named := ["unicode/utf8.first", "unicode/utf8.acceptRanges", "internal/bytealg.MaxLen"], apart := false, laid := [("unicode/utf8.acceptRanges", laid_unicode_utf8_acceptRanges), ("unicode/utf8.first", laid_unicode_utf8_first)] }
def FnExactSetupSlackSaid : Prop := fnExactSetupSlackRow.holds Tryz.pinned (OpenSpec.ofChange fnExactSetupSlackSpec)

/-- ITS FALSE NEIGHBOUR: 'it returns false'. Refute it at one input. -/
def fnExactSetupSlackWrong : ChangeSpec := { name := "fnExactSetupSlack", fn := fun _ => fun
  | [d1, d2, d3, d4, d5, d6] => { results := [.lit (.bool false)], args := [d1, d2, d3, d4, d5, d6] }
  | _ => none }
def FnExactSetupSlackWrongFalsely : Prop := fnExactSetupSlackRow.holds Tryz.pinned (OpenSpec.ofChange fnExactSetupSlackWrong)

/- THE SECOND FORM. 'bulk': how many values and letters a reading holds, each counted each time it is reached (what is shared counts as often as it is met; a slice's spare places count too). A statement '..UptoSaid' is the law's where the arguments, and the package variables that the reading takes, are together of bulk at most 1048576: NARROWER than '..Said'. Prove '..Said' where nothing that the law and all that it calls make is longer than what came in: it says more and counts as full. Else prove '..UptoSaid'. A law counts once. -/
mutual
def uptoBulk {H : Type} : DataW H → Nat
  | .lit (.string bytes) => bytes.length + 1
  | .lit _ => 1
  | .nil => 1
  | .ptr d => uptoBulk d + 1
  | .slice elems spare => uptoBulkAll elems + uptoBulkAll spare + 1
  | .agg parts => uptoBulkAll parts + 1
  | .iface _ d => uptoBulk d + 1
  | .map entries => uptoBulkEntries entries + 1
  | .held _ => 1
def uptoBulkAll {H : Type} : List (DataW H) → Nat
  | [] => 0
  | d :: r => uptoBulk d + uptoBulkAll r
def uptoBulkEntries {H : Type} : List (Lit × DataW H) → Nat
  | [] => 0
  | x :: r => uptoBulkEntry x + uptoBulkEntries r
def uptoBulkEntry {H : Type} : Lit × DataW H → Nat
  | (.string bytes, d) => bytes.length + uptoBulk d + 1
  | (_, d) => uptoBulk d + 1
 end
def uptoSmall : (H : Type) → List (DataW H) → Bool := fun _ ds => decide (uptoBulkAll ds ≤ 1048576)
def OpenSpec.upto (s : _root_.Go.ChangeSpec) : _root_.Go.OpenSpec := { _root_.Go.OpenSpec.ofChange s with cond := some uptoSmall }

/-- 'laws.FnExactIsTargets', WHERE WHAT IT READS IS OF BULK AT MOST 1048576: true; the input reads as it did. -/
def fnExactIsTargetsUptoRow : OpenClaim := { program := "ytjijjanefcaakaagreatdoor", sum := "4bcbadad67b4284d37c3235f8593f44244acd0b60e2ade8d5a61a6db1f9dd712", func := "loop.example/g00861/laws.FnExactIsTargets", spec := "fnExactIsTargets", inPlace := ["internal/bytealg.IndexByteString", "internal/bytealg.IndexString"], unfollowed := true, recurses := true, named := ["unicode/utf8.first", "unicode/utf8.acceptRanges", "internal/bytealg.MaxLen"], apart := false, laid := [("unicode/utf8.acceptRanges", laid_unicode_utf8_acceptRanges), ("unicode/utf8.first", laid_unicode_utf8_first)], narrowed := true }
def FnExactIsTargetsUptoSaid : Prop := fnExactIsTargetsUptoRow.holds Tryz.pinned (OpenSpec.upto fnExactIsTargetsSpec)

/-- 'laws.FnExactIsNeeds', WHERE WHAT IT READS IS OF BULK AT MOST 1048576: true; the input reads as it did. -/
def fnExactIsNeedsUptoRow : OpenClaim := { program := "ytjijjanefcaakaagreatdoor", sum := "4bcbadad67b4284d37c3235f8593f44244acd0b60e2ade8d5a61a6db1f9dd712", func := "loop.example/g00861/laws.FnExactIsNeeds", spec := "fnExactIsNeeds", inPlace := ["internal/bytealg.IndexByteString", "internal/bytealg.IndexString"], unfollowed := true, recurses := true, named := ["unicode/utf8.first", "unicode/utf8.acceptRanges", "internal/bytealg.MaxLen"], apart := false, laid := [("unicode/utf8.acceptRanges", laid_unicode_utf8_acceptRanges), ("unicode/utf8.first", laid_unicode_utf8_first)], narrowed := true }
def FnExactIsNeedsUptoSaid : Prop := fnExactIsNeedsUptoRow.holds Tryz.pinned (OpenSpec.upto fnExactIsNeedsSpec)

/-- 'laws.FnExactDataSlacks', WHERE WHAT IT READS IS OF BULK AT MOST 1048576: true; the input reads as it did. -/
def fnExactDataSlacksUptoRow : OpenClaim := { program := "ytjijjanefcaakaagreatdoor", sum := "4bcbadad67b4284d37c3235f8593f44244acd0b60e2ade8d5a61a6db1f9dd712", func := "loop.example/g00861/laws.FnExactDataSlacks", spec := "fnExactDataSlacks", inPlace := ["internal/bytealg.IndexByteString", "internal/bytealg.IndexString"], unfollowed := true, recurses := true, named := ["unicode/utf8.first", "unicode/utf8.acceptRanges", "internal/bytealg.MaxLen"], apart := false, laid := [("unicode/utf8.acceptRanges", laid_unicode_utf8_acceptRanges), ("unicode/utf8.first", laid_unicode_utf8_first)], narrowed := true }
def FnExactDataSlacksUptoSaid : Prop := fnExactDataSlacksUptoRow.holds Tryz.pinned (OpenSpec.upto fnExactDataSlacksSpec)

/-- 'laws.FnExactSkewOf', WHERE WHAT IT READS IS OF BULK AT MOST 1048576: true; the input reads as it did. -/
def fnExactSkewOfUptoRow : OpenClaim := { program := "ytjijjanefcaakaagreatdoor", sum := "4bcbadad67b4284d37c3235f8593f44244acd0b60e2ade8d5a61a6db1f9dd712", func := "loop.example/g00861/laws.FnExactSkewOf", spec := "fnExactSkewOf", inPlace := ["internal/bytealg.IndexByteString", "internal/bytealg.IndexString"], unfollowed := true, recurses := true, named := ["unicode/utf8.first", "unicode/utf8.acceptRanges", "internal/bytealg.MaxLen"], apart := false, laid := [("unicode/utf8.acceptRanges", laid_unicode_utf8_acceptRanges), ("unicode/utf8.first", laid_unicode_utf8_first)], narrowed := true }
def FnExactSkewOfUptoSaid : Prop := fnExactSkewOfUptoRow.holds Tryz.pinned (OpenSpec.upto fnExactSkewOfSpec)

/-- 'laws.FnExactSlackOf', WHERE WHAT IT READS IS OF BULK AT MOST 1048576: true; the input reads as it did. -/
def fnExactSlackOfUptoRow : OpenClaim := { program := "ytjijjanefcaakaagreatdoor", sum := "4bcbadad67b4284d37c3235f8593f44244acd0b60e2ade8d5a61a6db1f9dd712", func := "loop.example/g00861/laws.FnExactSlackOf", spec := "fnExactSlackOf", inPlace := ["internal/bytealg.IndexByteString", "internal/bytealg.IndexString"], unfollowed := true, recurses := true, named := ["unicode/utf8.first", "unicode/utf8.acceptRanges", "internal/bytealg.MaxLen"], apart := false, laid := [("unicode/utf8.acceptRanges", laid_unicode_utf8_acceptRanges), ("unicode/utf8.first", laid_unicode_utf8_first)], narrowed := true }
def FnExactSlackOfUptoSaid : Prop := fnExactSlackOfUptoRow.holds Tryz.pinned (OpenSpec.upto fnExactSlackOfSpec)

/-- 'laws.FnExactWorstSlack', WHERE WHAT IT READS IS OF BULK AT MOST 1048576: true; the input reads as it did. -/
def fnExactWorstSlackUptoRow : OpenClaim := { program := "ytjijjanefcaakaagreatdoor", sum := "4bcbadad67b4284d37c3235f8593f44244acd0b60e2ade8d5a61a6db1f9dd712", func := "loop.example/g00861/laws.FnExactWorstSlack", spec := "fnExactWorstSlack", inPlace := ["internal/bytealg.IndexByteString", "internal/bytealg.IndexString"], unfollowed := true, recurses := true, named := ["unicode/utf8.first", "unicode/utf8.acceptRanges", "internal/bytealg.MaxLen"], apart := false, laid := [("unicode/utf8.acceptRanges", laid_unicode_utf8_acceptRanges), ("unicode/utf8.first", laid_unicode_utf8_first)], narrowed := true }
def FnExactWorstSlackUptoSaid : Prop := fnExactWorstSlackUptoRow.holds Tryz.pinned (OpenSpec.upto fnExactWorstSlackSpec)

/-- 'laws.FnExactGatingSlacks', WHERE WHAT IT READS IS OF BULK AT MOST 1048576: true; the input reads as it did. -/
def fnExactGatingSlacksUptoRow : OpenClaim := { program := "ytjijjanefcaakaagreatdoor", sum := "4bcbadad67b4284d37c3235f8593f44244acd0b60e2ade8d5a61a6db1f9dd712", func := "loop.example/g00861/laws.FnExactGatingSlacks", spec := "fnExactGatingSlacks", inPlace := ["internal/bytealg.IndexByteString", "internal/bytealg.IndexString"], unfollowed := true, recurses := true, named := ["unicode/utf8.first", "unicode/utf8.acceptRanges", "internal/bytealg.MaxLen"], apart := false, laid := [("unicode/utf8.acceptRanges", laid_unicode_utf8_acceptRanges), ("unicode/utf8.first", laid_unicode_utf8_first)], narrowed := true }
def FnExactGatingSlacksUptoSaid : Prop := fnExactGatingSlacksUptoRow.holds Tryz.pinned (OpenSpec.upto fnExactGatingSlacksSpec)

/-- 'laws.FnExactTotalSlack', WHERE WHAT IT READS IS OF BULK AT MOST 1048576: true; the input reads as it did. -/
def fnExactTotalSlackUptoRow : OpenClaim := { program := "ytjijjanefcaakaagreatdoor", sum := "4bcbadad67b4284d37c3235f8593f44244acd0b60e2ade8d5a61a6db1f9dd712", func := "loop.example/g00861/laws.FnExactTotalSlack", spec := "fnExactTotalSlack", inPlace := ["internal/bytealg.IndexByteString", "internal/bytealg.IndexString"], unfollowed := true, recurses := true, named := ["unicode/utf8.first", "unicode/utf8.acceptRanges", "internal/bytealg.MaxLen"], apart := false, laid := [("unicode/utf8.acceptRanges", laid_unicode_utf8_acceptRanges), ("unicode/utf8.first", laid_unicode_utf8_first)], narrowed := true }
def FnExactTotalSlackUptoSaid : Prop := fnExactTotalSlackUptoRow.holds Tryz.pinned (OpenSpec.upto fnExactTotalSlackSpec)

/-- 'laws.FnExactPulseSlacks', WHERE WHAT IT READS IS OF BULK AT MOST 1048576: true; the input reads as it did. -/
def fnExactPulseSlacksUptoRow : OpenClaim := { program := "ytjijjanefcaakaagreatdoor", sum := "4bcbadad67b4284d37c3235f8593f44244acd0b60e2ade8d5a61a6db1f9dd712", func := "loop.example/g00861/laws.FnExactPulseSlacks", spec := "fnExactPulseSlacks", inPlace := ["internal/bytealg.IndexByteString", "internal/bytealg.IndexString"], unfollowed := true, recurses := true, named := ["unicode/utf8.first", "unicode/utf8.acceptRanges", "internal/bytealg.MaxLen"], apart := false, laid := [("unicode/utf8.acceptRanges", laid_unicode_utf8_acceptRanges), ("unicode/utf8.first", laid_unicode_utf8_first)], narrowed := true }
def FnExactPulseSlacksUptoSaid : Prop := fnExactPulseSlacksUptoRow.holds Tryz.pinned (OpenSpec.upto fnExactPulseSlacksSpec)

/-- 'laws.FnExactHoldSlack', WHERE WHAT IT READS IS OF BULK AT MOST 1048576: true; the input reads as it did. -/
def fnExactHoldSlackUptoRow : OpenClaim := { program := "ytjijjanefcaakaagreatdoor", sum := "4bcbadad67b4284d37c3235f8593f44244acd0b60e2ade8d5a61a6db1f9dd712", func := "loop.example/g00861/laws.FnExactHoldSlack", spec := "fnExactHoldSlack", inPlace := ["internal/bytealg.IndexByteString", "internal/bytealg.IndexString"], unfollowed := true, recurses := true, named := ["unicode/utf8.first", "unicode/utf8.acceptRanges", "internal/bytealg.MaxLen"], apart := false, laid := [("unicode/utf8.acceptRanges", laid_unicode_utf8_acceptRanges), ("unicode/utf8.first", laid_unicode_utf8_first)], narrowed := true }
def FnExactHoldSlackUptoSaid : Prop := fnExactHoldSlackUptoRow.holds Tryz.pinned (OpenSpec.upto fnExactHoldSlackSpec)

/-- 'laws.FnExactSetupSlack', WHERE WHAT IT READS IS OF BULK AT MOST 1048576: true; the input reads as it did. -/
def fnExactSetupSlackUptoRow : OpenClaim := { program := "ytjijjanefcaakaagreatdoor", sum := "4bcbadad67b4284d37c3235f8593f44244acd0b60e2ade8d5a61a6db1f9dd712", func := "loop.example/g00861/laws.FnExactSetupSlack", spec := "fnExactSetupSlack", inPlace := ["internal/bytealg.IndexByteString", "internal/bytealg.IndexString"], unfollowed := true, recurses := true, named := ["unicode/utf8.first", "unicode/utf8.acceptRanges", "internal/bytealg.MaxLen"], apart := false, laid := [("unicode/utf8.acceptRanges", laid_unicode_utf8_acceptRanges), ("unicode/utf8.first", laid_unicode_utf8_first)], narrowed := true }
def FnExactSetupSlackUptoSaid : Prop := fnExactSetupSlackUptoRow.holds Tryz.pinned (OpenSpec.upto fnExactSetupSlackSpec)

end Rows
end Go.Proofs.YtjijjanefcaakaaGreatDoor
