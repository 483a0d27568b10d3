/-
  No cell of these rows narrows 'for every input' (looked for: loops, veiled, ifaces, maps, wideKeys, modest, calm, conditions, laid).
  DERIVED. THE GIVEN ROWS OF THIS SEAT. 10 by the template 'for every input the law returns true; each argument reads behind the call as it read before'; 0 by the template 'total and deterministic' (their statements: YtmhmpfckdhiijaaTotals.lean).
  GIVEN WITH THE SEED: the statements are not yours to turn. If you find one false, say at which input.
  Laid BY PROGRAM, IN A SANDBOX (cutbox-rows.mjs): the forced cells as the released guide's own fill.sh prints them over the translation bd9eebdde7037285… (all of the seat's roots in one cut). By AI agents, Wed Nov 11 2026. No macro, syntax, notation, axiom, sorry.
-/
import Derived.Test.YtmhmpfckdhiijaaChecked
import GoSem.Claim
import GoSem.ClaimJoined
import GoSem.ClaimMapViews
import Derived.JoinedTies
import Derived.KernelRfl
namespace Go.Proofs.Ytmhmpfckdhiijaa
/- THE CELL 'sum', in the pinned program and in every row, IS THE sha256 OF THE DUMP (.gsa) THAT YtmhmpfckdhiijaaProg.lean LOADS. Nothing in Lean hashes anything: it is a label: what it is worth is what the hold of that sum in a sandbox is worth. -/
noncomputable def Try.pinned : Pinned := { name := "ytmhmpfckdhiijaa", sum := "bd9eebdde7037285a30c5e5667e87bd3a51c6b7466bc10b85671e3730450e20b", checked := Try.checked }
namespace Rows
def none {H : Type} : Left H := { results := [], args := [] }

/-- 'laws.FnExactWorstCheck': WHATEVER THE INPUT: true; the input reads as it did. -/
def fnExactWorstCheckSpec : ChangeSpec := { name := "fnExactWorstCheck", fn := fun _ => fun
  | [d] => { results := [.lit (.bool true)], args := [d] }
  | _ => none }
def fnExactWorstCheckRow : OpenClaim := { program := "ytmhmpfckdhiijaa", sum := "bd9eebdde7037285a30c5e5667e87bd3a51c6b7466bc10b85671e3730450e20b", func := "loop.example/g00861/laws.FnExactWorstCheck", spec := "fnExactWorstCheck", apart := false }
def FnExactWorstCheckSaid : Prop := fnExactWorstCheckRow.holds Try.pinned (OpenSpec.ofChange fnExactWorstCheckSpec)

/-- ITS FALSE NEIGHBOUR: 'it returns false'. Refute it at one input. -/
def fnExactWorstCheckWrong : ChangeSpec := { name := "fnExactWorstCheck", fn := fun _ => fun
  | [d] => { results := [.lit (.bool false)], args := [d] }
  | _ => none }
def FnExactWorstCheckWrongFalsely : Prop := fnExactWorstCheckRow.holds Try.pinned (OpenSpec.ofChange fnExactWorstCheckWrong)

/-- 'laws.FnExactIsLatchSystem': WHATEVER THE INPUT: true; the input reads as it did. -/
def fnExactIsLatchSystemSpec : ChangeSpec := { name := "fnExactIsLatchSystem", fn := fun _ => fun
  | [d] => { results := [.lit (.bool true)], args := [d] }
  | _ => none }
def fnExactIsLatchSystemRow : OpenClaim := { program := "ytmhmpfckdhiijaa", sum := "bd9eebdde7037285a30c5e5667e87bd3a51c6b7466bc10b85671e3730450e20b", func := "loop.example/g00861/laws.FnExactIsLatchSystem", spec := "fnExactIsLatchSystem", apart := false }
def FnExactIsLatchSystemSaid : Prop := fnExactIsLatchSystemRow.holds Try.pinned (OpenSpec.ofChange fnExactIsLatchSystemSpec)

/-- ITS FALSE NEIGHBOUR: 'it returns false'. Refute it at one input. -/
def fnExactIsLatchSystemWrong : ChangeSpec := { name := "fnExactIsLatchSystem", fn := fun _ => fun
  | [d] => { results := [.lit (.bool false)], args := [d] }
  | _ => none }
def FnExactIsLatchSystemWrongFalsely : Prop := fnExactIsLatchSystemRow.holds Try.pinned (OpenSpec.ofChange fnExactIsLatchSystemWrong)

/-- 'laws.FnBorrowing': WHATEVER THE INPUT: true; the input reads as it did. -/
def fnBorrowingSpec : ChangeSpec := { name := "fnBorrowing", fn := fun _ => fun
  | [d] => { results := [.lit (.bool true)], args := [d] }
  | _ => none }
def fnBorrowingRow : OpenClaim := { program := "ytmhmpfckdhiijaa", sum := "bd9eebdde7037285a30c5e5667e87bd3a51c6b7466bc10b85671e3730450e20b", func := "loop.example/g00861/laws.FnBorrowing", spec := "fnBorrowing", apart := false }
def FnBorrowingSaid : Prop := fnBorrowingRow.holds Try.pinned (OpenSpec.ofChange fnBorrowingSpec)

/-- ITS FALSE NEIGHBOUR: 'it returns false'. Refute it at one input. -/
def fnBorrowingWrong : ChangeSpec := { name := "fnBorrowing", fn := fun _ => fun
  | [d] => { results := [.lit (.bool false)], args := [d] }
  | _ => none }
def FnBorrowingWrongFalsely : Prop := fnBorrowingRow.holds Try.pinned (OpenSpec.ofChange fnBorrowingWrong)

/-- 'laws.FnViolated': WHATEVER THE INPUT: true; the input reads as it did. -/
def fnViolatedSpec : ChangeSpec := { name := "fnViolated", fn := fun _ => fun
  | [d] => { results := [.lit (.bool true)], args := [d] }
  | _ => none }
def fnViolatedRow : OpenClaim := { program := "ytmhmpfckdhiijaa", sum := "bd9eebdde7037285a30c5e5667e87bd3a51c6b7466bc10b85671e3730450e20b", func := "loop.example/g00861/laws.FnViolated", spec := "fnViolated", unfollowed := true, recurses := true, apart := false }
def FnViolatedSaid : Prop := fnViolatedRow.holds Try.pinned (OpenSpec.ofChange fnViolatedSpec)

/-- ITS FALSE NEIGHBOUR: 'it returns false'. Refute it at one input. -/
def fnViolatedWrong : ChangeSpec := { name := "fnViolated", fn := fun _ => fun
  | [d] => { results := [.lit (.bool false)], args := [d] }
  | _ => none }
def FnViolatedWrongFalsely : Prop := fnViolatedRow.holds Try.pinned (OpenSpec.ofChange fnViolatedWrong)

/-- 'laws.FnExactIsDeparture': WHATEVER THE INPUT: true; the input reads as it did. -/
def fnExactIsDepartureSpec : ChangeSpec := { name := "fnExactIsDeparture", fn := fun _ => fun
  | [d1, d2] => { results := [.lit (.bool true)], args := [d1, d2] }
  | _ => none }
def fnExactIsDepartureRow : OpenClaim := { program := "ytmhmpfckdhiijaa", sum := "bd9eebdde7037285a30c5e5667e87bd3a51c6b7466bc10b85671e3730450e20b", func := "loop.example/g00861/laws.FnExactIsDeparture", spec := "fnExactIsDeparture", unfollowed := true, recurses := true, apart := false }
def FnExactIsDepartureSaid : Prop := fnExactIsDepartureRow.holds Try.pinned (OpenSpec.ofChange fnExactIsDepartureSpec)

/-- ITS FALSE NEIGHBOUR: 'it returns false'. Refute it at one input. -/
def fnExactIsDepartureWrong : ChangeSpec := { name := "fnExactIsDeparture", fn := fun _ => fun
  | [d1, d2] => { results := [.lit (.bool false)], args := [d1, d2] }
  | _ => none }
def FnExactIsDepartureWrongFalsely : Prop := fnExactIsDepartureRow.holds Try.pinned (OpenSpec.ofChange fnExactIsDepartureWrong)

/-- 'laws.FnDepartures': WHATEVER THE INPUT: true; the input reads as it did. -/
def fnDeparturesSpec : ChangeSpec := { name := "fnDepartures", fn := fun _ => fun
  | [d] => { results := [.lit (.bool true)], args := [d] }
  | _ => none }
def fnDeparturesRow : OpenClaim := { program := "ytmhmpfckdhiijaa", sum := "bd9eebdde7037285a30c5e5667e87bd3a51c6b7466bc10b85671e3730450e20b", func := "loop.example/g00861/laws.FnDepartures", spec := "fnDepartures", unfollowed := true, recurses := true, apart := false }
def FnDeparturesSaid : Prop := fnDeparturesRow.holds Try.pinned (OpenSpec.ofChange fnDeparturesSpec)

/-- ITS FALSE NEIGHBOUR: 'it returns false'. Refute it at one input. -/
def fnDeparturesWrong : ChangeSpec := { name := "fnDepartures", fn := fun _ => fun
  | [d] => { results := [.lit (.bool false)], args := [d] }
  | _ => none }
def FnDeparturesWrongFalsely : Prop := fnDeparturesRow.holds Try.pinned (OpenSpec.ofChange fnDeparturesWrong)

/-- 'laws.FnExactShiftLinks': WHATEVER THE INPUT: true; the input reads as it did. -/
def fnExactShiftLinksSpec : ChangeSpec := { name := "fnExactShiftLinks", fn := fun _ => fun
  | [d1, d2] => { results := [.lit (.bool true)], args := [d1, d2] }
  | _ => none }
def fnExactShiftLinksRow : OpenClaim := { program := "ytmhmpfckdhiijaa", sum := "bd9eebdde7037285a30c5e5667e87bd3a51c6b7466bc10b85671e3730450e20b", func := "loop.example/g00861/laws.FnExactShiftLinks", spec := "fnExactShiftLinks", apart := false }
def FnExactShiftLinksSaid : Prop := fnExactShiftLinksRow.holds Try.pinned (OpenSpec.ofChange fnExactShiftLinksSpec)

/-- ITS FALSE NEIGHBOUR: 'it returns false'. Refute it at one input. -/
def fnExactShiftLinksWrong : ChangeSpec := { name := "fnExactShiftLinks", fn := fun _ => fun
  | [d1, d2] => { results := [.lit (.bool false)], args := [d1, d2] }
  | _ => none }
def FnExactShiftLinksWrongFalsely : Prop := fnExactShiftLinksRow.holds Try.pinned (OpenSpec.ofChange fnExactShiftLinksWrong)

/-- 'laws.FnExactViolatedChecks': WHATEVER THE INPUT: true; the input reads as it did. -/
def fnExactViolatedChecksSpec : ChangeSpec := { name := "fnExactViolatedChecks", fn := fun _ => fun
  | [d] => { results := [.lit (.bool true)], args := [d] }
  | _ => none }
def fnExactViolatedChecksRow : OpenClaim := { program := "ytmhmpfckdhiijaa", sum := "bd9eebdde7037285a30c5e5667e87bd3a51c6b7466bc10b85671e3730450e20b", func := "loop.example/g00861/laws.FnExactViolatedChecks", spec := "fnExactViolatedChecks", unfollowed := true, recurses := true, apart := false }
def FnExactViolatedChecksSaid : Prop := fnExactViolatedChecksRow.holds Try.pinned (OpenSpec.ofChange fnExactViolatedChecksSpec)

/-- ITS FALSE NEIGHBOUR: 'it returns false'. Refute it at one input. -/
def fnExactViolatedChecksWrong : ChangeSpec := { name := "fnExactViolatedChecks", fn := fun _ => fun
  | [d] => { results := [.lit (.bool false)], args := [d] }
  | _ => none }
def FnExactViolatedChecksWrongFalsely : Prop := fnExactViolatedChecksRow.holds Try.pinned (OpenSpec.ofChange fnExactViolatedChecksWrong)

/-- 'laws.FnExactLatchDepartures': WHATEVER THE INPUT: true; the input reads as it did. -/
def fnExactLatchDeparturesSpec : ChangeSpec := { name := "fnExactLatchDepartures", fn := fun _ => fun
  | [d] => { results := [.lit (.bool true)], args := [d] }
  | _ => none }
def fnExactLatchDeparturesRow : OpenClaim := { program := "ytmhmpfckdhiijaa", sum := "bd9eebdde7037285a30c5e5667e87bd3a51c6b7466bc10b85671e3730450e20b", func := "loop.example/g00861/laws.FnExactLatchDepartures", spec := "fnExactLatchDepartures", apart := false }
def FnExactLatchDeparturesSaid : Prop := fnExactLatchDeparturesRow.holds Try.pinned (OpenSpec.ofChange fnExactLatchDeparturesSpec)

/-- ITS FALSE NEIGHBOUR: 'it returns false'. Refute it at one input. -/
def fnExactLatchDeparturesWrong : ChangeSpec := { name := "fnExactLatchDepartures", fn := fun _ => fun
  | [d] => { results := [.lit (.bool false)], args := [d] }
  | _ => none }
def FnExactLatchDeparturesWrongFalsely : Prop := fnExactLatchDeparturesRow.holds Try.pinned (OpenSpec.ofChange fnExactLatchDeparturesWrong)

/-- 'laws.FnLeastShift': WHATEVER THE INPUT: true; the input reads as it did. -/
def fnLeastShiftSpec : ChangeSpec := { name := "fnLeastShift", fn := fun _ => fun
  | [d] => { results := [.lit (.bool true)], args := [d] }
  | _ => none }
def fnLeastShiftRow : OpenClaim := { program := "ytmhmpfckdhiijaa", sum := "bd9eebdde7037285a30c5e5667e87bd3a51c6b7466bc10b85671e3730450e20b", func := "loop.example/g00861/laws.FnLeastShift", spec := "fnLeastShift", unfollowed := true, recurses := true, apart := false }
def FnLeastShiftSaid : Prop := fnLeastShiftRow.holds Try.pinned (OpenSpec.ofChange fnLeastShiftSpec)

/-- ITS FALSE NEIGHBOUR: 'it returns false'. Refute it at one input. -/
def fnLeastShiftWrong : ChangeSpec := { name := "fnLeastShift", fn := fun _ => fun
  | [d] => { results := [.lit (.bool false)], args := [d] }
  | _ => none }
def FnLeastShiftWrongFalsely : Prop := fnLeastShiftRow.holds Try.pinned (OpenSpec.ofChange fnLeastShiftWrong)

/- THE SECOND FORM. 'bulk': how many values and letters a reading holds, each counted each time it is reached (what is shared counts as often as it is met; a slice's spare places count too). A statement '..UptoSaid' is the law's where the arguments, and the package variables that the reading takes, are together of bulk at most 1048576: NARROWER than '..Said'. Prove '..Said' where nothing that the law and all that it calls make is longer than what came in: it says more and counts as full. Else prove '..UptoSaid'. A law counts once. -/
mutual
def uptoBulk {H : Type} : DataW H → Nat
  | .lit (.string bytes) => bytes.length + 1
  | .lit _ => 1
  | .nil => 1
  | .ptr d => uptoBulk d + 1
  | .slice elems spare => uptoBulkAll elems + uptoBulkAll spare + 1
  | .agg parts => uptoBulkAll parts + 1
  | .iface _ d => uptoBulk d + 1
  | .map entries => uptoBulkEntries entries + 1
  | .held _ => 1
def uptoBulkAll {H : Type} : List (DataW H) → Nat
  | [] => 0
  | d :: r => uptoBulk d + uptoBulkAll r
def uptoBulkEntries {H : Type} : List (Lit × DataW H) → Nat
  | [] => 0
  | x :: r => uptoBulkEntry x + uptoBulkEntries r
def uptoBulkEntry {H : Type} : Lit × DataW H → Nat
  | (.string bytes, d) => bytes.length + uptoBulk d + 1
  | (_, d) => uptoBulk d + 1
 end
def uptoSmall : (H : Type) → List (DataW H) → Bool := fun _ ds => decide (uptoBulkAll ds ≤ 1048576)
def OpenSpec.upto (s : _root_.Go.ChangeSpec) : _root_.Go.OpenSpec := { _root_.Go.OpenSpec.ofChange s with cond := some uptoSmall }

/-- 'laws.FnExactWorstCheck', WHERE WHAT IT READS IS OF BULK AT MOST 1048576: true; the input reads as it did. -/
def fnExactWorstCheckUptoRow : OpenClaim := { program := "ytmhmpfckdhiijaa", sum := "bd9eebdde7037285a30c5e5667e87bd3a51c6b7466bc10b85671e3730450e20b", func := "loop.example/g00861/laws.FnExactWorstCheck", spec := "fnExactWorstCheck", apart := false, narrowed := true }
def FnExactWorstCheckUptoSaid : Prop := fnExactWorstCheckUptoRow.holds Try.pinned (OpenSpec.upto fnExactWorstCheckSpec)

/-- 'laws.FnExactIsLatchSystem', WHERE WHAT IT READS IS OF BULK AT MOST 1048576: true; the input reads as it did. -/
def fnExactIsLatchSystemUptoRow : OpenClaim := { program := "ytmhmpfckdhiijaa", sum := "bd9eebdde7037285a30c5e5667e87bd3a51c6b7466bc10b85671e3730450e20b", func := "loop.example/g00861/laws.FnExactIsLatchSystem", spec := "fnExactIsLatchSystem", apart := false, narrowed := true }
def FnExactIsLatchSystemUptoSaid : Prop := fnExactIsLatchSystemUptoRow.holds Try.pinned (OpenSpec.upto fnExactIsLatchSystemSpec)

/-- 'laws.FnBorrowing', WHERE WHAT IT READS IS OF BULK AT MOST 1048576: true; the input reads as it did. -/
def fnBorrowingUptoRow : OpenClaim := { program := "ytmhmpfckdhiijaa", sum := "bd9eebdde7037285a30c5e5667e87bd3a51c6b7466bc10b85671e3730450e20b", func := "loop.example/g00861/laws.FnBorrowing", spec := "fnBorrowing", apart := false, narrowed := true }
def FnBorrowingUptoSaid : Prop := fnBorrowingUptoRow.holds Try.pinned (OpenSpec.upto fnBorrowingSpec)

/-- 'laws.FnViolated', WHERE WHAT IT READS IS OF BULK AT MOST 1048576: true; the input reads as it did. -/
def fnViolatedUptoRow : OpenClaim := { program := "ytmhmpfckdhiijaa", sum := "bd9eebdde7037285a30c5e5667e87bd3a51c6b7466bc10b85671e3730450e20b", func := "loop.example/g00861/laws.FnViolated", spec := "fnViolated", unfollowed := true, recurses := true, apart := false, narrowed := true }
def FnViolatedUptoSaid : Prop := fnViolatedUptoRow.holds Try.pinned (OpenSpec.upto fnViolatedSpec)

/-- 'laws.FnExactIsDeparture', WHERE WHAT IT READS IS OF BULK AT MOST 1048576: true; the input reads as it did. -/
def fnExactIsDepartureUptoRow : OpenClaim := { program := "ytmhmpfckdhiijaa", sum := "bd9eebdde7037285a30c5e5667e87bd3a51c6b7466bc10b85671e3730450e20b", func := "loop.example/g00861/laws.FnExactIsDeparture", spec := "fnExactIsDeparture", unfollowed := true, recurses := true, apart := false, narrowed := true }
def FnExactIsDepartureUptoSaid : Prop := fnExactIsDepartureUptoRow.holds Try.pinned (OpenSpec.upto fnExactIsDepartureSpec)

/-- 'laws.FnDepartures', WHERE WHAT IT READS IS OF BULK AT MOST 1048576: true; the input reads as it did. -/
def fnDeparturesUptoRow : OpenClaim := { program := "ytmhmpfckdhiijaa", sum := "bd9eebdde7037285a30c5e5667e87bd3a51c6b7466bc10b85671e3730450e20b", func := "loop.example/g00861/laws.FnDepartures", spec := "fnDepartures", unfollowed := true, recurses := true, apart := false, narrowed := true }
def FnDeparturesUptoSaid : Prop := fnDeparturesUptoRow.holds Try.pinned (OpenSpec.upto fnDeparturesSpec)

/-- 'laws.FnExactShiftLinks', WHERE WHAT IT READS IS OF BULK AT MOST 1048576: true; the input reads as it did. -/
def fnExactShiftLinksUptoRow : OpenClaim := { program := "ytmhmpfckdhiijaa", sum := "bd9eebdde7037285a30c5e5667e87bd3a51c6b7466bc10b85671e3730450e20b", func := "loop.example/g00861/laws.FnExactShiftLinks", spec := "fnExactShiftLinks", apart := false, narrowed := true }
def FnExactShiftLinksUptoSaid : Prop := fnExactShiftLinksUptoRow.holds Try.pinned (OpenSpec.upto fnExactShiftLinksSpec)

/-- 'laws.FnExactViolatedChecks', WHERE WHAT IT READS IS OF BULK AT MOST 1048576: true; the input reads as it did. -/
def fnExactViolatedChecksUptoRow : OpenClaim := { program := "ytmhmpfckdhiijaa", sum := "bd9eebdde7037285a30c5e5667e87bd3a51c6b7466bc10b85671e3730450e20b", func := "loop.example/g00861/laws.FnExactViolatedChecks", spec := "fnExactViolatedChecks", unfollowed := true, recurses := true, apart := false, narrowed := true }
def FnExactViolatedChecksUptoSaid : Prop := fnExactViolatedChecksUptoRow.holds Try.pinned (OpenSpec.upto fnExactViolatedChecksSpec)

/-- 'laws.FnExactLatchDepartures', WHERE WHAT IT READS IS OF BULK AT MOST 1048576: true; the input reads as it did. -/
def fnExactLatchDeparturesUptoRow : OpenClaim := { program := "ytmhmpfckdhiijaa", sum := "bd9eebdde7037285a30c5e5667e87bd3a51c6b7466bc10b85671e3730450e20b", func := "loop.example/g00861/laws.FnExactLatchDepartures", spec := "fnExactLatchDepartures", apart := false, narrowed := true }
def FnExactLatchDeparturesUptoSaid : Prop := fnExactLatchDeparturesUptoRow.holds Try.pinned (OpenSpec.upto fnExactLatchDeparturesSpec)

/-- 'laws.FnLeastShift', WHERE WHAT IT READS IS OF BULK AT MOST 1048576: true; the input reads as it did. -/
def fnLeastShiftUptoRow : OpenClaim := { program := "ytmhmpfckdhiijaa", sum := "bd9eebdde7037285a30c5e5667e87bd3a51c6b7466bc10b85671e3730450e20b", func := "loop.example/g00861/laws.FnLeastShift", spec := "fnLeastShift", unfollowed := true, recurses := true, apart := false, narrowed := true }
def FnLeastShiftUptoSaid : Prop := fnLeastShiftUptoRow.holds Try.pinned (OpenSpec.upto fnLeastShiftSpec)

end Rows
end Go.Proofs.Ytmhmpfckdhiijaa
