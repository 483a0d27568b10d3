/- Facts of the program that the row of FnExactCriticalNodes names, each computed; no condition. -/
import Derived.Test.YtiaobghojdehbaaGreatDoorRows
import Derived.ProofKit
import Derived.JoinedOf
import Derived.KernelRfl
set_option linter.all false
set_option maxRecDepth 100000
namespace Go.Proofs.YtiaobghojdehbaaGreatDoor
open Go.ChangeShapes Go.WideShapes Go.ChangeAt Go.RowKit
theorem fnExactCriticalNodes_j9 : (Rows.fnExactCriticalNodesRow.inPlace == Tryz.prog.inPlace 6) = true := by kernel_rfl
theorem fnExactCriticalNodes_j10 : (Rows.fnExactCriticalNodesRow.unfollowed == Tryz.prog.unfollowed 6) = true := by kernel_rfl
theorem fnExactCriticalNodes_j11 : (Rows.fnExactCriticalNodesRow.recurses == Tryz.prog.recurses 6) = true := by kernel_rfl
theorem fnExactCriticalNodes_j12 : (Rows.fnExactCriticalNodesRow.named == Tryz.prog.varsNamed 6) = true := by kernel_rfl
theorem fnExactCriticalNodes_j1 : (laidOutB Tryz.prog) = true := by kernel_rfl
end Go.Proofs.YtiaobghojdehbaaGreatDoor
