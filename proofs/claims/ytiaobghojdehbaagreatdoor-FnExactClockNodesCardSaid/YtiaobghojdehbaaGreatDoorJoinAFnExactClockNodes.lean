/- Facts of the program that the row of FnExactClockNodes names, each computed; no condition. -/
import Derived.Test.YtiaobghojdehbaaGreatDoorRows
import Derived.ProofKit
import Derived.JoinedOf
import Derived.KernelRfl
set_option linter.all false
set_option maxRecDepth 100000
namespace Go.Proofs.YtiaobghojdehbaaGreatDoor
open Go.ChangeShapes Go.WideShapes Go.ChangeAt Go.RowKit
theorem fnExactClockNodes_j9 : (Rows.fnExactClockNodesRow.inPlace == Tryz.prog.inPlace 4) = true := by kernel_rfl
theorem fnExactClockNodes_j10 : (Rows.fnExactClockNodesRow.unfollowed == Tryz.prog.unfollowed 4) = true := by kernel_rfl
theorem fnExactClockNodes_j11 : (Rows.fnExactClockNodesRow.recurses == Tryz.prog.recurses 4) = true := by kernel_rfl
theorem fnExactClockNodes_j12 : (Rows.fnExactClockNodesRow.named == Tryz.prog.varsNamed 4) = true := by kernel_rfl
theorem fnExactClockNodes_j1 : (laidOutB Tryz.prog) = true := by kernel_rfl
end Go.Proofs.YtiaobghojdehbaaGreatDoor
