/-
  NARROWER THAN 'FOR EVERY INPUT', by the rows' own cells (each row's printed sentence says how): FnExactCheckSites: laid · FnExactClockNodes: laid · FnExactClockPinsOf: laid · FnExactCriticalNodes: laid · FnExactGatesOf: laid · FnExactAllChecks: laid.
  DERIVED. THE GIVEN ROWS OF THIS SEAT. 6 by the template 'for every input the law returns true; each argument reads behind the call as it read before'; 0 by the template 'total and deterministic' (their statements: YtiaobghojdehbaaGreatDoorTotals.lean).
  GIVEN WITH THE SEED: the statements are not yours to turn. If you find one false, say at which input.
  Laid BY PROGRAM, IN A SANDBOX (cutbox-rows.mjs): the forced cells as the released guide's own fill.sh prints them over the translation bd993fd041209126… (all of the seat's roots in one cut). By AI agents, Wed Nov 11 2026. No macro, syntax, notation, axiom, sorry.
-/
import Derived.Test.YtiaobghojdehbaaGreatDoorChecked
import GoSem.PinnedTables
import GoSem.Claim
import GoSem.ClaimJoined
import GoSem.ClaimMapViews
import Derived.JoinedTies
import Derived.KernelRfl
namespace Go.Proofs.YtiaobghojdehbaaGreatDoor
/- THE CELL 'sum', in the pinned program and in every row, IS THE sha256 OF THE DUMP (.gsa) THAT YtiaobghojdehbaaGreatDoorProg.lean LOADS. Nothing in Lean hashes anything: it is a label: what it is worth is what the hold of that sum in a sandbox is worth. -/
noncomputable def Tryz.pinned : Pinned := { name := "ytiaobghojdehbaagreatdoor", sum := "bd993fd041209126cdac67b5aa134611ff43e1c0f67f04433dcdcc53ee8d66ea", checked := Tryz.checked }
namespace Rows
def none {H : Type} : Left H := { results := [], args := [] }

/- WHAT THE LISTED PACKAGE-LEVEL VARIABLES READ AS WHEN THE CALL BEGINS. Each datum BY PROGRAM (the guide's laid-datum.mjs) off the statement by which the dump's own 'gosem.cut.vars' lays the variable. In a bare row this is a premise. The card (YtiaobghojdehbaaGreatDoorCards.lean) ties it to the program's text. -/
def laid_unicode_utf8_acceptRanges {H : Type} : DataW H := .agg [.agg [.lit (.int .u8 128), .lit (.int .u8 191)], .agg [.lit (.int .u8 160), .lit (.int .u8 191)], .agg [.lit (.int .u8 128), .lit (.int .u8 159)], .agg [.lit (.int .u8 144), .lit (.int .u8 191)], .agg [.lit (.int .u8 128), .lit (.int .u8 143)], .agg [.lit (.int .u8 0), .lit (.int .u8 0)], .agg [.lit (.int .u8 0), .lit (.int .u8 0)], .agg [.lit (.int .u8 0), .lit (.int .u8 0)], .agg [.lit (.int .u8 0), .lit (.int .u8 0)], .agg [.lit (.int .u8 0), .lit (.int .u8 0)], .agg [.lit (.int .u8 0), .lit (.int .u8 0)], .agg [.lit (.int .u8 0), .lit (.int .u8 0)], .agg [.lit (.int .u8 0), .lit (.int .u8 0)], .agg [.lit (.int .u8 0), .lit (.int .u8 0)], .agg [.lit (.int .u8 0), .lit (.int .u8 0)], .agg [.lit (.int .u8 0), .lit (.int .u8 0)]]
/-- One of Go's own tables, pinned by name: the form's constant. -/
def laid_unicode_utf8_first : DataW Unit := Go.Pinned.utf8First

/-- 'laws.FnExactCheckSites': WHATEVER THE INPUT: true; the input reads as it did. -/
def fnExactCheckSitesSpec : ChangeSpec := { name := "fnExactCheckSites", fn := fun _ => fun
  | [d] => { results := [.lit (.bool true)], args := [d] }
  | _ => none }
def fnExactCheckSitesRow : OpenClaim := { program := "ytiaobghojdehbaagreatdoor", sum := "bd993fd041209126cdac67b5aa134611ff43e1c0f67f04433dcdcc53ee8d66ea", func := "loop.example/g00861/laws.FnExactCheckSites", spec := "fnExactCheckSites", inPlace := ["internal/bytealg.IndexByteString", "internal/bytealg.IndexString"], unfollowed := true, recurses := true, named := ["unicode/utf8.first", "unicode/utf8.acceptRanges", "internal/bytealg.MaxLen"], apart := false, laid := [("unicode/utf8.acceptRanges", laid_unicode_utf8_acceptRanges), ("unicode/utf8.first", laid_unicode_utf8_first)] }
def FnExactCheckSitesSaid : Prop := fnExactCheckSitesRow.holds Tryz.pinned (OpenSpec.ofChange fnExactCheckSitesSpec)

/-- ITS FALSE NEIGHBOUR: 'it returns false'. Refute it at one input. -/
def fnExactCheckSitesWrong : ChangeSpec := { name := "fnExactCheckSites", fn := fun _ => fun
  | [d] => { results := [.lit (.bool false)], args := [d] }
  | _ => none }
def FnExactCheckSitesWrongFalsely : Prop := fnExactCheckSitesRow.holds Tryz.pinned (OpenSpec.ofChange fnExactCheckSitesWrong)

/-- 'laws.FnExactClockNodes': WHATEVER THE INPUT: true; the input reads as it did. -/
def fnExactClockNodesSpec : ChangeSpec := { name := "fnExactClockNodes", fn := fun _ => fun
  | [d1, d2, d3] => { results := [.lit (.bool true)], args := [d1, d2, d3] }
  | _ => none }
def fnExactClockNodesRow : OpenClaim := { program := "ytiaobghojdehbaagreatdoor", sum := "bd993fd041209126cdac67b5aa134611ff43e1c0f67f04433dcdcc53ee8d66ea", func := "loop.example/g00861/laws.FnExactClockNodes", spec := "fnExactClockNodes", inPlace := ["internal/bytealg.IndexByteString", "internal/bytealg.IndexString"], unfollowed := true, recurses := true, named := ["unicode/utf8.first", "unicode/utf8.acceptRanges", "internal/bytealg.MaxLen"], apart := false, laid := [("unicode/utf8.acceptRanges", laid_unicode_utf8_acceptRanges), ("unicode/utf8.first", laid_unicode_utf8_first)] }
def FnExactClockNodesSaid : Prop := fnExactClockNodesRow.holds Tryz.pinned (OpenSpec.ofChange fnExactClockNodesSpec)

/-- ITS FALSE NEIGHBOUR: 'it returns false'. Refute it at one input. -/
def fnExactClockNodesWrong : ChangeSpec := { name := "fnExactClockNodes", fn := fun _ => fun
  | [d1, d2, d3] => { results := [.lit (.bool false)], args := [d1, d2, d3] }
  | _ => none }
def FnExactClockNodesWrongFalsely : Prop := fnExactClockNodesRow.holds Tryz.pinned (OpenSpec.ofChange fnExactClockNodesWrong)

/-- 'laws.FnExactClockPinsOf': WHATEVER THE INPUT: true; the input reads as it did. -/
def fnExactClockPinsOfSpec : ChangeSpec := { name := "fnExactClockPinsOf", fn := fun _ => fun
  | [d1, d2, d3] => { results := [.lit (.bool true)], args := [d1, d2, d3] }
  | _ => none }
def fnExactClockPinsOfRow : OpenClaim := { program := "ytiaobghojdehbaagreatdoor", sum := "bd993fd041209126cdac67b5aa134611ff43e1c0f67f04433dcdcc53ee8d66ea", func := "loop.example/g00861/laws.FnExactClockPinsOf", spec := "fnExactClockPinsOf", inPlace := ["internal/bytealg.IndexByteString", "internal/bytealg.IndexString"], unfollowed := true, recurses := true, named := ["unicode/utf8.first", "unicode/utf8.acceptRanges", "internal/bytealg.MaxLen"], apart := false, laid := [("unicode/utf8.acceptRanges", laid_unicode_utf8_acceptRanges), ("unicode/utf8.first", laid_unicode_utf8_first)] }
def FnExactClockPinsOfSaid : Prop := fnExactClockPinsOfRow.holds Tryz.pinned (OpenSpec.ofChange fnExactClockPinsOfSpec)

/-- ITS FALSE NEIGHBOUR: 'it returns false'. Refute it at one input. -/
def fnExactClockPinsOfWrong : ChangeSpec := { name := "fnExactClockPinsOf", fn := fun _ => fun
  | [d1, d2, d3] => { results := [.lit (.bool false)], args := [d1, d2, d3] }
  | _ => none }
def FnExactClockPinsOfWrongFalsely : Prop := fnExactClockPinsOfRow.holds Tryz.pinned (OpenSpec.ofChange fnExactClockPinsOfWrong)

/-- 'laws.FnExactCriticalNodes': WHATEVER THE INPUT: true; the input reads as it did. -/
def fnExactCriticalNodesSpec : ChangeSpec := { name := "fnExactCriticalNodes", fn := fun _ => fun
  | [d1, d2, d3, d4, d5] => { results := [.lit (.bool true)], args := [d1, d2, d3, d4, d5] }
  | _ => none }
def fnExactCriticalNodesRow : OpenClaim := { program := "ytiaobghojdehbaagreatdoor", sum := "bd993fd041209126cdac67b5aa134611ff43e1c0f67f04433dcdcc53ee8d66ea", func := "loop.example/g00861/laws.FnExactCriticalNodes", spec := "fnExactCriticalNodes", inPlace := ["internal/bytealg.IndexByteString", "internal/bytealg.IndexString"], unfollowed := true, recurses := true, named := ["unicode/utf8.first", "unicode/utf8.acceptRanges", "internal/bytealg.MaxLen"], apart := false, laid := [("unicode/utf8.acceptRanges", laid_unicode_utf8_acceptRanges), ("unicode/utf8.first", laid_unicode_utf8_first)] }
def FnExactCriticalNodesSaid : Prop := fnExactCriticalNodesRow.holds Tryz.pinned (OpenSpec.ofChange fnExactCriticalNodesSpec)

/-- ITS FALSE NEIGHBOUR: 'it returns false'. Refute it at one input. -/
def fnExactCriticalNodesWrong : ChangeSpec := { name := "fnExactCriticalNodes", fn := fun _ => fun
  | [d1, d2, d3, d4, d5] => { results := [.lit (.bool false)], args := [d1, d2, d3, d4, d5] }
  | _ => none }
def FnExactCriticalNodesWrongFalsely : Prop := fnExactCriticalNodesRow.holds Tryz.pinned (OpenSpec.ofChange fnExactCriticalNodesWrong)

/-- 'laws.FnExactGatesOf': WHATEVER THE INPUT: true; the input reads as it did. -/
def fnExactGatesOfSpec : ChangeSpec := { name := "fnExactGatesOf", fn := fun _ => fun
  | [d1, d2, d3] => { results := [.lit (.bool true)], args := [d1, d2, d3] }
  | _ => none }
def fnExactGatesOfRow : OpenClaim := { program := "ytiaobghojdehbaagreatdoor", sum := "bd993fd041209126cdac67b5aa134611ff43e1c0f67f04433dcdcc53ee8d66ea", func := "loop.example/g00861/laws.FnExactGatesOf", spec := "fnExactGatesOf", inPlace := ["internal/bytealg.IndexByteString", "internal/bytealg.IndexString"], unfollowed := true, recurses := true, named := ["unicode/utf8.first", "unicode/utf8.acceptRanges", "internal/bytealg.MaxLen"], apart := false, laid := [("unicode/utf8.acceptRanges", laid_unicode_utf8_acceptRanges), ("unicode/utf8.first", laid_unicode_utf8_first)] }
def FnExactGatesOfSaid : Prop := fnExactGatesOfRow.holds Tryz.pinned (OpenSpec.ofChange fnExactGatesOfSpec)

/-- ITS FALSE NEIGHBOUR: 'it returns false'. Refute it at one input. -/
def fnExactGatesOfWrong : ChangeSpec := { name := "fnExactGatesOf", fn := fun _ => fun
  | [d1, d2, d3] => { results := [.lit (.bool false)], args := [d1, d2, d3] }
  | _ => none }
def FnExactGatesOfWrongFalsely : Prop := fnExactGatesOfRow.holds Tryz.pinned (OpenSpec.ofChange fnExactGatesOfWrong)

/-- 'laws.FnExactAllChecks': WHATEVER THE INPUT: true; the input reads as it did. -/
def fnExactAllChecksSpec : ChangeSpec := { name := "fnExactAllChecks", fn := fun _ => fun
  | [d1, d2, d3] => { results := [.lit (.bool true)], args := [d1, d2, d3] }
  | _ => none }
def fnExactAllChecksRow : OpenClaim := { program := "ytiaobghojdehbaagreatdoor", sum := "bd993fd041209126cdac67b5aa134611ff43e1c0f67f04433dcdcc53ee8d66ea", func := "loop.example/g00861/laws.FnExactAllChecks", spec := "fnExactAllChecks", inPlace := ["internal/bytealg.IndexByteString", "internal/bytealg.IndexString"], unfollowed := true, recurses := true, named := ["unicode/utf8.first", "unicode/utf8.acceptRanges", "internal/bytealg.MaxLen"], apart := false, laid := [("unicode/utf8.acceptRanges", laid_unicode_utf8_acceptRanges), ("unicode/utf8.first", laid_unicode_utf8_first)] }
def FnExactAllChecksSaid : Prop := fnExactAllChecksRow.holds Tryz.pinned (OpenSpec.ofChange fnExactAllChecksSpec)

/-- ITS FALSE NEIGHBOUR: 'it returns false'. Refute it at one input. -/
def fnExactAllChecksWrong : ChangeSpec := { name := "fnExactAllChecks", fn := fun _ => fun
  | [d1, d2, d3] => { results := [.lit (.bool false)], args := [d1, d2, d3] }
  | _ => none }
def FnExactAllChecksWrongFalsely : Prop := fnExactAllChecksRow.holds Tryz.pinned (OpenSpec.ofChange fnExactAllChecksWrong)

/- THE SECOND FORM. 'bulk': how many values and letters a reading holds, each counted each time it is reached (what is shared counts as often as it is met; a slice's spare places count too). A statement '..UptoSaid' is the law's where the arguments, and the package variables that the reading takes, are together of bulk at most 1048576: NARROWER than '..Said'. Prove '..Said' where nothing that the law and all that it calls make is longer than what came in: it says more and counts as full. Else prove '..UptoSaid'. A law counts once. -/
mutual
def uptoBulk {H : Type} : DataW H → Nat
  | .lit (.string bytes) => bytes.length + 1
  | .lit _ => 1
  | .nil => 1
  | .ptr d => uptoBulk d + 1
  | .slice elems spare => uptoBulkAll elems + uptoBulkAll spare + 1
  | .agg parts => uptoBulkAll parts + 1
  | .iface _ d => uptoBulk d + 1
  | .map entries => uptoBulkEntries entries + 1
  | .held _ => 1
def uptoBulkAll {H : Type} : List (DataW H) → Nat
  | [] => 0
  | d :: r => uptoBulk d + uptoBulkAll r
def uptoBulkEntries {H : Type} : List (Lit × DataW H) → Nat
  | [] => 0
  | x :: r => uptoBulkEntry x + uptoBulkEntries r
def uptoBulkEntry {H : Type} : Lit × DataW H → Nat
  | (.string bytes, d) => bytes.length + uptoBulk d + 1
  | (_, d) => uptoBulk d + 1
 end
def uptoSmall : (H : Type) → List (DataW H) → Bool := fun _ ds => decide (uptoBulkAll ds ≤ 1048576)
def OpenSpec.upto (s : _root_.Go.ChangeSpec) : _root_.Go.OpenSpec := { _root_.Go.OpenSpec.ofChange s with cond := some uptoSmall }

/-- 'laws.FnExactCheckSites', WHERE WHAT IT READS IS OF BULK AT MOST 1048576: true; the input reads as it did. -/
def fnExactCheckSitesUptoRow : OpenClaim := { program := "ytiaobghojdehbaagreatdoor", sum := "bd993fd041209126cdac67b5aa134611ff43e1c0f67f04433dcdcc53ee8d66ea", func := "loop.example/g00861/laws.FnExactCheckSites", spec := "fnExactCheckSites", inPlace := ["internal/bytealg.IndexByteString", "internal/bytealg.IndexString"], unfollowed := true, recurses := true, named := ["unicode/utf8.first", "unicode/utf8.acceptRanges", "internal/bytealg.MaxLen"], apart := false, laid := [("unicode/utf8.acceptRanges", laid_unicode_utf8_acceptRanges), ("unicode/utf8.first", laid_unicode_utf8_first)], narrowed := true }
def FnExactCheckSitesUptoSaid : Prop := fnExactCheckSitesUptoRow.holds Tryz.pinned (OpenSpec.upto fnExactCheckSitesSpec)

/-- 'laws.FnExactClockNodes', WHERE WHAT IT READS IS OF BULK AT MOST 1048576: true; the input reads as it did. -/
def fnExactClockNodesUptoRow : OpenClaim := { program := "ytiaobghojdehbaagreatdoor", sum := "bd993fd041209126cdac67b5aa134611ff43e1c0f67f04433dcdcc53ee8d66ea", func := "loop.example/g00861/laws.FnExactClockNodes", spec := "fnExactClockNodes", inPlace := ["internal/bytealg.IndexByteString", "internal/bytealg.IndexString"], unfollowed := true, recurses := true, named := ["unicode/utf8.first", "unicode/utf8.acceptRanges", "internal/bytealg.MaxLen"], apart := false, laid := [("unicode/utf8.acceptRanges", laid_unicode_utf8_acceptRanges), ("unicode/utf8.first", laid_unicode_utf8_first)], narrowed := true }
def FnExactClockNodesUptoSaid : Prop := fnExactClockNodesUptoRow.holds Tryz.pinned (OpenSpec.upto fnExactClockNodesSpec)

/-- 'laws.FnExactClockPinsOf', WHERE WHAT IT READS IS OF BULK AT MOST 1048576: true; the input reads as it did. -/
def fnExactClockPinsOfUptoRow : OpenClaim := { program := "ytiaobghojdehbaagreatdoor", sum := "bd993fd041209126cdac67b5aa134611ff43e1c0f67f04433dcdcc53ee8d66ea", func := "loop.example/g00861/laws.FnExactClockPinsOf", spec := "fnExactClockPinsOf", inPlace := ["internal/bytealg.IndexByteString", "internal/bytealg.IndexString"], unfollowed := true, recurses := true, named := ["unicode/utf8.first", "unicode/utf8.acceptRanges", "internal/bytealg.MaxLen"], apart := false, laid := [("unicode/utf8.acceptRanges", laid_unicode_utf8_acceptRanges), ("unicode/utf8.first", laid_unicode_utf8_first)], narrowed := true }
def FnExactClockPinsOfUptoSaid : Prop := fnExactClockPinsOfUptoRow.holds Tryz.pinned (OpenSpec.upto fnExactClockPinsOfSpec)

/-- 'laws.FnExactCriticalNodes', WHERE WHAT IT READS IS OF BULK AT MOST 1048576: true; the input reads as it did. -/
def fnExactCriticalNodesUptoRow : OpenClaim := { program := "ytiaobghojdehbaagreatdoor", sum := "bd993fd041209126cdac67b5aa134611ff43e1c0f67f04433dcdcc53ee8d66ea", func := "loop.example/g00861/laws.FnExactCriticalNodes", spec := "fnExactCriticalNodes", inPlace := ["internal/bytealg.IndexByteString", "internal/bytealg.IndexString"], unfollowed := true, recurses := true, named := ["unicode/utf8.first", "unicode/utf8.acceptRanges", "internal/bytealg.MaxLen"], apart := false, laid := [("unicode/utf8.acceptRanges", laid_unicode_utf8_acceptRanges), ("unicode/utf8.first", laid_unicode_utf8_first)], narrowed := true }
def FnExactCriticalNodesUptoSaid : Prop := fnExactCriticalNodesUptoRow.holds Tryz.pinned (OpenSpec.upto fnExactCriticalNodesSpec)

/-- 'laws.FnExactGatesOf', WHERE WHAT IT READS IS OF BULK AT MOST 1048576: true; the input reads as it did. -/
def fnExactGatesOfUptoRow : OpenClaim := { program := "ytiaobghojdehbaagreatdoor", sum := "bd993fd041209126cdac67b5aa134611ff43e1c0f67f04433dcdcc53ee8d66ea", func := "loop.example/g00861/laws.FnExactGatesOf", spec := "fnExactGatesOf", inPlace := ["internal/bytealg.IndexByteString", "internal/bytealg.IndexString"], unfollowed := true, recurses := true, named := ["unicode/utf8.first", "unicode/utf8.acceptRanges", "internal/bytealg.MaxLen"], apart := false, laid := [("unicode/utf8.acceptRanges", laid_unicode_utf8_acceptRanges), ("unicode/utf8.first", laid_unicode_utf8_first)], narrowed := true }
def FnExactGatesOfUptoSaid : Prop := fnExactGatesOfUptoRow.holds Tryz.pinned (OpenSpec.upto fnExactGatesOfSpec)

/-- 'laws.FnExactAllChecks', WHERE WHAT IT READS IS OF BULK AT MOST 1048576: true; the input reads as it did. -/
def fnExactAllChecksUptoRow : OpenClaim := { program := "ytiaobghojdehbaagreatdoor", sum := "bd993fd041209126cdac67b5aa134611ff43e1c0f67f04433dcdcc53ee8d66ea", func := "loop.example/g00861/laws.FnExactAllChecks", spec := "fnExactAllChecks", inPlace := ["internal/bytealg.IndexByteString", "internal/bytealg.IndexString"], unfollowed := true, recurses := true, named := ["unicode/utf8.first", "unicode/utf8.acceptRanges", "internal/bytealg.MaxLen"], apart := false, laid := [("unicode/utf8.acceptRanges", laid_unicode_utf8_acceptRanges), ("unicode/utf8.first", laid_unicode_utf8_first)], narrowed := true }
def FnExactAllChecksUptoSaid : Prop := fnExactAllChecksUptoRow.holds Tryz.pinned (OpenSpec.upto fnExactAllChecksSpec)

end Rows
end Go.Proofs.YtiaobghojdehbaaGreatDoor
