/- Facts of the program that the row of FnExactEdgePairs names, each computed; no condition. -/
import Derived.Test.YtiaobghojdehbaaDoorRows
import Derived.ProofKit
import Derived.JoinedOf
import Derived.KernelRfl
set_option linter.all false
set_option maxRecDepth 100000
namespace Go.Proofs.YtiaobghojdehbaaDoor
open Go.ChangeShapes Go.WideShapes Go.ChangeAt Go.RowKit
theorem fnExactEdgePairs_j9 : (Rows.fnExactEdgePairsRow.inPlace == Tryd.prog.inPlace 3) = true := by kernel_rfl
theorem fnExactEdgePairs_j10 : (Rows.fnExactEdgePairsRow.unfollowed == Tryd.prog.unfollowed 3) = true := by kernel_rfl
theorem fnExactEdgePairs_j11 : (Rows.fnExactEdgePairsRow.recurses == Tryd.prog.recurses 3) = true := by kernel_rfl
theorem fnExactEdgePairs_j12 : (Rows.fnExactEdgePairsRow.named == Tryd.prog.varsNamed 3) = true := by kernel_rfl
theorem fnExactEdgePairs_j1 : (laidOutB Tryd.prog) = true := by kernel_rfl
end Go.Proofs.YtiaobghojdehbaaDoor
