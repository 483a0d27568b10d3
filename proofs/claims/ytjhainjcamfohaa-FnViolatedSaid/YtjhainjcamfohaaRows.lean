/-
  No cell of these rows narrows 'for every input' (looked for: loops, veiled, ifaces, maps, wideKeys, modest, calm, conditions, laid).
  DERIVED. THE GIVEN ROWS OF THIS SEAT. 2 by the template 'for every input the law returns true; each argument reads behind the call as it read before'; 0 by the template 'total and deterministic' (their statements: YtjhainjcamfohaaTotals.lean).
  GIVEN WITH THE SEED: the statements are not yours to turn. If you find one false, say at which input.
  Laid BY PROGRAM, IN A SANDBOX (cutbox-rows.mjs): the forced cells as the released guide's own fill.sh prints them over the translation 7761bb9dc30eacc5… (all of the seat's roots in one cut). By AI agents, Wed Nov 11 2026. No macro, syntax, notation, axiom, sorry.
-/
import Derived.Test.YtjhainjcamfohaaChecked
import GoSem.Claim
import GoSem.ClaimJoined
import GoSem.ClaimMapViews
import Derived.JoinedTies
import Derived.KernelRfl
namespace Go.Proofs.Ytjhainjcamfohaa
/- THE CELL 'sum', in the pinned program and in every row, IS THE sha256 OF THE DUMP (.gsa) THAT YtjhainjcamfohaaProg.lean LOADS. Nothing in Lean hashes anything: it is a label: what it is worth is what the hold of that sum in a sandbox is worth. -/
noncomputable def Try.pinned : Pinned := { name := "ytjhainjcamfohaa", sum := "7761bb9dc30eacc58f37af36395f7454e2ef5592c122be39c5fe4a21e5536540", checked := Try.checked }
namespace Rows
def none {H : Type} : Left H := { results := [], args := [] }

/-- 'laws.FnViolated': WHATEVER THE INPUT: true; the input reads as it did. -/
def fnViolatedSpec : ChangeSpec := { name := "fnViolated", fn := fun _ => fun
  | [d] => { results := [.lit (.bool true)], args := [d] }
  | _ => none }
def fnViolatedRow : OpenClaim := { program := "ytjhainjcamfohaa", sum := "7761bb9dc30eacc58f37af36395f7454e2ef5592c122be39c5fe4a21e5536540", func := "loop.example/g00861/laws.FnViolated", spec := "fnViolated", unfollowed := true, recurses := true, apart := false }
def FnViolatedSaid : Prop := fnViolatedRow.holds Try.pinned (OpenSpec.ofChange fnViolatedSpec)

/-- ITS FALSE NEIGHBOUR: 'it returns false'. Refute it at one input. -/
def fnViolatedWrong : ChangeSpec := { name := "fnViolated", fn := fun _ => fun
  | [d] => { results := [.lit (.bool false)], args := [d] }
  | _ => none }
def FnViolatedWrongFalsely : Prop := fnViolatedRow.holds Try.pinned (OpenSpec.ofChange fnViolatedWrong)

/-- 'laws.FnExactViolatedChecks': WHATEVER THE INPUT: true; the input reads as it did. -/
def fnExactViolatedChecksSpec : ChangeSpec := { name := "fnExactViolatedChecks", fn := fun _ => fun
  | [d] => { results := [.lit (.bool true)], args := [d] }
  | _ => none }
def fnExactViolatedChecksRow : OpenClaim := { program := "ytjhainjcamfohaa", sum := "7761bb9dc30eacc58f37af36395f7454e2ef5592c122be39c5fe4a21e5536540", func := "loop.example/g00861/laws.FnExactViolatedChecks", spec := "fnExactViolatedChecks", unfollowed := true, recurses := true, apart := false }
def FnExactViolatedChecksSaid : Prop := fnExactViolatedChecksRow.holds Try.pinned (OpenSpec.ofChange fnExactViolatedChecksSpec)

/-- ITS FALSE NEIGHBOUR: 'it returns false'. Refute it at one input. -/
def fnExactViolatedChecksWrong : ChangeSpec := { name := "fnExactViolatedChecks", fn := fun _ => fun
  | [d] => { results := [.lit (.bool false)], args := [d] }
  | _ => none }
def FnExactViolatedChecksWrongFalsely : Prop := fnExactViolatedChecksRow.holds Try.pinned (OpenSpec.ofChange fnExactViolatedChecksWrong)

/- THE SECOND FORM. 'bulk': how many values and letters a reading holds, each counted each time it is reached (what is shared counts as often as it is met; a slice's spare places count too). A statement '..UptoSaid' is the law's where the arguments, and the package variables that the reading takes, are together of bulk at most 1048576: NARROWER than '..Said'. Prove '..Said' where nothing that the law and all that it calls make is longer than what came in: it says more and counts as full. Else prove '..UptoSaid'. A law counts once. -/
mutual
def uptoBulk {H : Type} : DataW H → Nat
  | .lit (.string bytes) => bytes.length + 1
  | .lit _ => 1
  | .nil => 1
  | .ptr d => uptoBulk d + 1
  | .slice elems spare => uptoBulkAll elems + uptoBulkAll spare + 1
  | .agg parts => uptoBulkAll parts + 1
  | .iface _ d => uptoBulk d + 1
  | .map entries => uptoBulkEntries entries + 1
  | .held _ => 1
def uptoBulkAll {H : Type} : List (DataW H) → Nat
  | [] => 0
  | d :: r => uptoBulk d + uptoBulkAll r
def uptoBulkEntries {H : Type} : List (Lit × DataW H) → Nat
  | [] => 0
  | x :: r => uptoBulkEntry x + uptoBulkEntries r
def uptoBulkEntry {H : Type} : Lit × DataW H → Nat
  | (.string bytes, d) => bytes.length + uptoBulk d + 1
  | (_, d) => uptoBulk d + 1
 end
def uptoSmall : (H : Type) → List (DataW H) → Bool := fun _ ds => decide (uptoBulkAll ds ≤ 1048576)
def OpenSpec.upto (s : _root_.Go.ChangeSpec) : _root_.Go.OpenSpec := { _root_.Go.OpenSpec.ofChange s with cond := some uptoSmall }

/-- 'laws.FnViolated', WHERE WHAT IT READS IS OF BULK AT MOST 1048576: true; the input reads as it did. -/
def fnViolatedUptoRow : OpenClaim := { program := "ytjhainjcamfohaa", sum := "7761bb9dc30eacc58f37af36395f7454e2ef5592c122be39c5fe4a21e5536540", func := "loop.example/g00861/laws.FnViolated", spec := "fnViolated", unfollowed := true, recurses := true, apart := false, narrowed := true }
def FnViolatedUptoSaid : Prop := fnViolatedUptoRow.holds Try.pinned (OpenSpec.upto fnViolatedSpec)

/-- 'laws.FnExactViolatedChecks', WHERE WHAT IT READS IS OF BULK AT MOST 1048576: true; the input reads as it did. -/
def fnExactViolatedChecksUptoRow : OpenClaim := { program := "ytjhainjcamfohaa", sum := "7761bb9dc30eacc58f37af36395f7454e2ef5592c122be39c5fe4a21e5536540", func := "loop.example/g00861/laws.FnExactViolatedChecks", spec := "fnExactViolatedChecks", unfollowed := true, recurses := true, apart := false, narrowed := true }
def FnExactViolatedChecksUptoSaid : Prop := fnExactViolatedChecksUptoRow.holds Try.pinned (OpenSpec.upto fnExactViolatedChecksSpec)

end Rows
end Go.Proofs.Ytjhainjcamfohaa
