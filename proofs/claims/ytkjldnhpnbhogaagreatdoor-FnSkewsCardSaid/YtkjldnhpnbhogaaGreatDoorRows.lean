/-
  NARROWER THAN 'FOR EVERY INPUT', by the rows' own cells (each row's printed sentence says how): FnSkews: laid · FnGatingShift: laid · FnChecks: laid · FnTotalSlack: laid · FnWorstSlacks: laid.
  DERIVED. THE GIVEN ROWS OF THIS SEAT. 5 by the template 'for every input the law returns true; each argument reads behind the call as it read before'; 0 by the template 'total and deterministic' (their statements: YtkjldnhpnbhogaaGreatDoorTotals.lean).
  GIVEN WITH THE SEED: the statements are not yours to turn. If you find one false, say at which input.
  Laid BY PROGRAM, IN A SANDBOX (cutbox-rows.mjs): the forced cells as the released guide's own fill.sh prints them over the translation 692a1a4e726d74a8… (all of the seat's roots in one cut). By AI agents, Wed Nov 11 2026. No macro, syntax, notation, axiom, sorry.
-/
import Derived.Test.YtkjldnhpnbhogaaGreatDoorChecked
import GoSem.PinnedTables
import GoSem.Claim
import GoSem.ClaimJoined
import GoSem.ClaimMapViews
import Derived.JoinedTies
import Derived.KernelRfl
namespace Go.Proofs.YtkjldnhpnbhogaaGreatDoor
/- THE CELL 'sum', in the pinned program and in every row, IS THE sha256 OF THE DUMP (.gsa) THAT YtkjldnhpnbhogaaGreatDoorProg.lean LOADS. Nothing in Lean hashes anything: it is a label: what it is worth is what the hold of that sum in a sandbox is worth. -/
noncomputable def Tryz.pinned : Pinned := { name := "ytkjldnhpnbhogaagreatdoor", sum := "692a1a4e726d74a8a2baf675430c8f291fc91a7df7227ba99829eb57ab7481a1", checked := Tryz.checked }
namespace Rows
def none {H : Type} : Left H := { results := [], args := [] }

/- WHAT THE LISTED PACKAGE-LEVEL VARIABLES READ AS WHEN THE CALL BEGINS. Each datum BY PROGRAM (the guide's laid-datum.mjs) off the statement by which the dump's own 'gosem.cut.vars' lays the variable. In a bare row this is a premise. The card (YtkjldnhpnbhogaaGreatDoorCards.lean) ties it to the program's text. -/
def laid_unicode_utf8_acceptRanges {H : Type} : DataW H := .agg [.agg [.lit (.int .u8 128), .lit (.int .u8 191)], .agg [.lit (.int .u8 160), .lit (.int .u8 191)], .agg [.lit (.int .u8 128), .lit (.int .u8 159)], .agg [.lit (.int .u8 144), .lit (.int .u8 191)], .agg [.lit (.int .u8 128), .lit (.int .u8 143)], .agg [.lit (.int .u8 0), .lit (.int .u8 0)], .agg [.lit (.int .u8 0), .lit (.int .u8 0)], .agg [.lit (.int .u8 0), .lit (.int .u8 0)], .agg [.lit (.int .u8 0), .lit (.int .u8 0)], .agg [.lit (.int .u8 0), .lit (.int .u8 0)], .agg [.lit (.int .u8 0), .lit (.int .u8 0)], .agg [.lit (.int .u8 0), .lit (.int .u8 0)], .agg [.lit (.int .u8 0), .lit (.int .u8 0)], .agg [.lit (.int .u8 0), .lit (.int .u8 0)], .agg [.lit (.int .u8 0), .lit (.int .u8 0)], .agg [.lit (.int .u8 0), .lit (.int .u8 0)]]
/-- One of Go's own tables, pinned by name: the form's constant. -/
def laid_unicode_utf8_first : DataW Unit := Go.Pinned.utf8First

/-- 'laws.FnSkews': WHATEVER THE INPUT: true; the input reads as it did. -/
def fnSkewsSpec : ChangeSpec := { name := "fnSkews", fn := fun _ => fun
  | [d] => { results := [.lit (.bool true)], args := [d] }
  | _ => none }
def fnSkewsRow : OpenClaim := { program := "ytkjldnhpnbhogaagreatdoor", sum := "692a1a4e726d74a8a2baf675430c8f291fc91a7df7227ba99829eb57ab7481a1", func := "loop.example/g00861/laws.FnSkews", spec := "fnSkews", inPlace := ["internal/bytealg.IndexByteString", "internal/bytealg.IndexString"], unfollowed := true, recurses := true, named := ["unicode/utf8.first", "unicode/utf8.acceptRanges", "internal/bytealg.MaxLen"], apart := false, laid := [("unicode/utf8.acceptRanges", laid_unicode_utf8_acceptRanges), ("unicode/utf8.first", laid_unicode_utf8_first)] }
def FnSkewsSaid : Prop := fnSkewsRow.holds Tryz.pinned (OpenSpec.ofChange fnSkewsSpec)

/-- ITS FALSE NEIGHBOUR: 'it returns false'. Refute it at one input. -/
def fnSkewsWrong : ChangeSpec := { name := "fnSkews", fn := fun _ => fun
  | [d] => { results := [.lit (.bool false)], args := [d] }
  | _ => none }
def FnSkewsWrongFalsely : Prop := fnSkewsRow.holds Tryz.pinned (OpenSpec.ofChange fnSkewsWrong)

/-- 'laws.FnGatingShift': WHATEVER THE INPUT: true; the input reads as it did. -/
def fnGatingShiftSpec : ChangeSpec := { name := "fnGatingShift", fn := fun _ => fun
  | [d] => { results := [.lit (.bool true)], args := [d] }
  | _ => none }
def fnGatingShiftRow : OpenClaim := { program := "ytkjldnhpnbhogaagreatdoor", sum := "692a1a4e726d74a8a2baf675430c8f291fc91a7df7227ba99829eb57ab7481a1", func := "loop.example/g00861/laws.FnGatingShift", spec := "fnGatingShift", inPlace := ["internal/bytealg.IndexByteString", "internal/bytealg.IndexString"], unfollowed := true, recurses := true, named := ["unicode/utf8.first", "unicode/utf8.acceptRanges", "internal/bytealg.MaxLen"], apart := false, laid := [("unicode/utf8.acceptRanges", laid_unicode_utf8_acceptRanges), ("unicode/utf8.first", laid_unicode_utf8_first)] }
def FnGatingShiftSaid : Prop := fnGatingShiftRow.holds Tryz.pinned (OpenSpec.ofChange fnGatingShiftSpec)

/-- ITS FALSE NEIGHBOUR: 'it returns false'. Refute it at one input. -/
def fnGatingShiftWrong : ChangeSpec := { name := "fnGatingShift", fn := fun _ => fun
  | [d] => { results := [.lit (.bool false)], args := [d] }
  | _ => none }
def FnGatingShiftWrongFalsely : Prop := fnGatingShiftRow.holds Tryz.pinned (OpenSpec.ofChange fnGatingShiftWrong)

/-- 'laws.FnChecks': WHATEVER THE INPUT: true; the input reads as it did. -/
def fnChecksSpec : ChangeSpec := { name := "fnChecks", fn := fun _ => fun
  | [d] => { results := [.lit (.bool true)], args := [d] }
  | _ => none }
def fnChecksRow : OpenClaim := { program := "ytkjldnhpnbhogaagreatdoor", sum := "692a1a4e726d74a8a2baf675430c8f291fc91a7df7227ba99829eb57ab7481a1", func := "loop.example/g00861/laws.FnChecks", spec := "fnChecks", inPlace := ["internal/bytealg.IndexByteString", "internal/bytealg.IndexString"], unfollowed := true, recurses := true, named := ["unicode/utf8.first", "unicode/utf8.acceptRanges", "internal/bytealg.MaxLen"], apart := false, laid := [("unicode/utf8.acceptRanges", laid_unicode_utf8_acceptRanges), ("unicode/utf8.first", laid_unicode_utf8_first)] }
def FnChecksSaid : Prop := fnChecksRow.holds Tryz.pinned (OpenSpec.ofChange fnChecksSpec)

/-- ITS FALSE NEIGHBOUR: 'it returns false'. Refute it at one input. -/
def fnChecksWrong : ChangeSpec := { name := "fnChecks", fn := fun _ => fun
  | [d] => { results := [.lit (.bool false)], args := [d] }
  | _ => none }
def FnChecksWrongFalsely : Prop := fnChecksRow.holds Tryz.pinned (OpenSpec.ofChange fnChecksWrong)

/-- 'laws.FnTotalSlack': WHATEVER THE INPUT: true; the input reads as it did. -/
def fnTotalSlackSpec : ChangeSpec := { name := "fnTotalSlack", fn := fun _ => fun
  | [d] => { results := [.lit (.bool true)], args := [d] }
  | _ => none }
def fnTotalSlackRow : OpenClaim := { program := "ytkjldnhpnbhogaagreatdoor", sum := "692a1a4e726d74a8a2baf675430c8f291fc91a7df7227ba99829eb57ab7481a1", func := "loop.example/g00861/laws.FnTotalSlack", spec := "fnTotalSlack", inPlace := ["internal/bytealg.IndexByteString", "internal/bytealg.IndexString"], unfollowed := true, recurses := true, named := ["unicode/utf8.first", "unicode/utf8.acceptRanges", "internal/bytealg.MaxLen"], apart := false, laid := [("unicode/utf8.acceptRanges", laid_unicode_utf8_acceptRanges), ("unicode/utf8.first", laid_unicode_utf8_first)] }
def FnTotalSlackSaid : Prop := fnTotalSlackRow.holds Tryz.pinned (OpenSpec.ofChange fnTotalSlackSpec)

/-- ITS FALSE NEIGHBOUR: 'it returns false'. Refute it at one input. -/
def fnTotalSlackWrong : ChangeSpec := { name := "fnTotalSlack", fn := fun _ => fun
  | [d] => { results := [.lit (.bool false)], args := [d] }
  | _ => none }
def FnTotalSlackWrongFalsely : Prop := fnTotalSlackRow.holds Tryz.pinned (OpenSpec.ofChange fnTotalSlackWrong)

/-- 'laws.FnWorstSlacks': WHATEVER THE INPUT: true; the input reads as it did. -/
def fnWorstSlacksSpec : ChangeSpec := { name := "fnWorstSlacks", fn := fun _ => fun
  | [d] => { results := [.lit (.bool true)], args := [d] }
  | _ => none }
def fnWorstSlacksRow : OpenClaim := { program := "ytkjldnhpnbhogaagreatdoor", sum := "692a1a4e726d74a8a2baf675430c8f291fc91a7df7227ba99829eb57ab7481a1", func := "loop.example/g00861/laws.FnWorstSlacks", spec := "fnWorstSlacks", inPlace := ["internal/bytealg.IndexByteString", "internal/bytealg.IndexString"], unfollowed := true, recurses := true, named := ["unicode/utf8.first", "unicode/utf8.acceptRanges", "internal/bytealg.MaxLen"], apart := false, laid := [("unicode/utf8.acceptRanges", laid_unicode_utf8_acceptRanges), ("unicode/utf8.first", laid_unicode_utf8_first)] }
def FnWorstSlacksSaid : Prop := fnWorstSlacksRow.holds Tryz.pinned (OpenSpec.ofChange fnWorstSlacksSpec)

/-- ITS FALSE NEIGHBOUR: 'it returns false'. Refute it at one input. -/
def fnWorstSlacksWrong : ChangeSpec := { name := "fnWorstSlacks", fn := fun _ => fun
  | [d] => { results := [.lit (.bool false)], args := [d] }
  | _ => none }
def FnWorstSlacksWrongFalsely : Prop := fnWorstSlacksRow.holds Tryz.pinned (OpenSpec.ofChange fnWorstSlacksWrong)

/- THE SECOND FORM. 'bulk': how many values and letters a reading holds, each counted each time it is reached (what is shared counts as often as it is met; a slice's spare places count too). A statement '..UptoSaid' is the law's where the arguments, and the package variables that the reading takes, are together of bulk at most 1048576: NARROWER than '..Said'. Prove '..Said' where nothing that the law and all that it calls make is longer than what came in: it says more and counts as full. Else prove '..UptoSaid'. A law counts once. -/
mutual
def uptoBulk {H : Type} : DataW H → Nat
  | .lit (.string bytes) => bytes.length + 1
  | .lit _ => 1
  | .nil => 1
  | .ptr d => uptoBulk d + 1
  | .slice elems spare => uptoBulkAll elems + uptoBulkAll spare + 1
  | .agg parts => uptoBulkAll parts + 1
  | .iface _ d => uptoBulk d + 1
  | .map entries => uptoBulkEntries entries + 1
  | .held _ => 1
def uptoBulkAll {H : Type} : List (DataW H) → Nat
  | [] => 0
  | d :: r => uptoBulk d + uptoBulkAll r
def uptoBulkEntries {H : Type} : List (Lit × DataW H) → Nat
  | [] => 0
  | x :: r => uptoBulkEntry x + uptoBulkEntries r
def uptoBulkEntry {H : Type} : Lit × DataW H → Nat
  | (.string bytes, d) => bytes.length + uptoBulk d + 1
  | (_, d) => uptoBulk d + 1
 end
def uptoSmall : (H : Type) → List (DataW H) → Bool := fun _ ds => decide (uptoBulkAll ds ≤ 1048576)
def OpenSpec.upto (s : _root_.Go.ChangeSpec) : _root_.Go.OpenSpec := { _root_.Go.OpenSpec.ofChange s with cond := some uptoSmall }

/-- 'laws.FnSkews', WHERE WHAT IT READS IS OF BULK AT MOST 1048576: true; the input reads as it did. -/
def fnSkewsUptoRow : OpenClaim := { program := "ytkjldnhpnbhogaagreatdoor", sum := "692a1a4e726d74a8a2baf675430c8f291fc91a7df7227ba99829eb57ab7481a1", func := "loop.example/g00861/laws.FnSkews", spec := "fnSkews", inPlace := ["internal/bytealg.IndexByteString", "internal/bytealg.IndexString"], unfollowed := true, recurses := true, named := ["unicode/utf8.first", "unicode/utf8.acceptRanges", "internal/bytealg.MaxLen"], apart := false, laid := [("unicode/utf8.acceptRanges", laid_unicode_utf8_acceptRanges), ("unicode/utf8.first", laid_unicode_utf8_first)], narrowed := true }
def FnSkewsUptoSaid : Prop := fnSkewsUptoRow.holds Tryz.pinned (OpenSpec.upto fnSkewsSpec)

/-- 'laws.FnGatingShift', WHERE WHAT IT READS IS OF BULK AT MOST 1048576: true; the input reads as it did. -/
def fnGatingShiftUptoRow : OpenClaim := { program := "ytkjldnhpnbhogaagreatdoor", sum := "692a1a4e726d74a8a2baf675430c8f291fc91a7df7227ba99829eb57ab7481a1", func := "loop.example/g00861/laws.FnGatingShift", spec := "fnGatingShift", inPlace := ["internal/bytealg.IndexByteString", "internal/bytealg.IndexString"], unfollowed := true, recurses := true, named := ["unicode/utf8.first", "unicode/utf8.acceptRanges", "internal/bytealg.MaxLen"], apart := false, laid := [("unicode/utf8.acceptRanges", laid_unicode_utf8_acceptRanges), ("unicode/utf8.first", laid_unicode_utf8_first)], narrowed := true }
def FnGatingShiftUptoSaid : Prop := fnGatingShiftUptoRow.holds Tryz.pinned (OpenSpec.upto fnGatingShiftSpec)

/-- 'laws.FnChecks', WHERE WHAT IT READS IS OF BULK AT MOST 1048576: true; the input reads as it did. -/
def fnChecksUptoRow : OpenClaim := { program := "ytkjldnhpnbhogaagreatdoor", sum := "692a1a4e726d74a8a2baf675430c8f291fc91a7df7227ba99829eb57ab7481a1", func := "loop.example/g00861/laws.FnChecks", spec := "fnChecks", inPlace := ["internal/bytealg.IndexByteString", "internal/bytealg.IndexString"], unfollowed := true, recurses := true, named := ["unicode/utf8.first", "unicode/utf8.acceptRanges", "internal/bytealg.MaxLen"], apart := false, laid := [("unicode/utf8.acceptRanges", laid_unicode_utf8_acceptRanges), ("unicode/utf8.first", laid_unicode_utf8_first)], narrowed := true }
def FnChecksUptoSaid : Prop := fnChecksUptoRow.holds Tryz.pinned (OpenSpec.upto fnChecksSpec)

/-- 'laws.FnTotalSlack', WHERE WHAT IT READS IS OF BULK AT MOST 1048576: true; the input reads as it did. -/
def fnTotalSlackUptoRow : OpenClaim := { program := "ytkjldnhpnbhogaagreatdoor", sum := "692a1a4e726d74a8a2baf675430c8f291fc91a7df7227ba99829eb57ab7481a1", func := "loop.example/g00861/laws.FnTotalSlack", spec := "fnTotalSlack", inPlace := ["internal/bytealg.IndexByteString", "internal/bytealg.IndexString"], unfollowed := true, recurses := true, named := ["unicode/utf8.first", "unicode/utf8.acceptRanges", "internal/bytealg.MaxLen"], apart := false, laid := [("unicode/utf8.acceptRanges", laid_unicode_utf8_acceptRanges), ("unicode/utf8.first", laid_unicode_utf8_first)], narrowed := true }
def FnTotalSlackUptoSaid : Prop := fnTotalSlackUptoRow.holds Tryz.pinned (OpenSpec.upto fnTotalSlackSpec)

/-- 'laws.FnWorstSlacks', WHERE WHAT IT READS IS OF BULK AT MOST 1048576: true; the input reads as it did. -/
def fnWorstSlacksUptoRow : OpenClaim := { program := "ytkjldnhpnbhogaagreatdoor", sum := "692a1a4e726d74a8a2baf675430c8f291fc91a7df7227ba99829eb57ab7481a1", func := "loop.example/g00861/laws.FnWorstSlacks", spec := "fnWorstSlacks", inPlace := ["internal/bytealg.IndexByteString", "internal/bytealg.IndexString"], unfollowed := true, recurses := true, named := ["unicode/utf8.first", "unicode/utf8.acceptRanges", "internal/bytealg.MaxLen"], apart := false, laid := [("unicode/utf8.acceptRanges", laid_unicode_utf8_acceptRanges), ("unicode/utf8.first", laid_unicode_utf8_first)], narrowed := true }
def FnWorstSlacksUptoSaid : Prop := fnWorstSlacksUptoRow.holds Tryz.pinned (OpenSpec.upto fnWorstSlacksSpec)

end Rows
end Go.Proofs.YtkjldnhpnbhogaaGreatDoor
