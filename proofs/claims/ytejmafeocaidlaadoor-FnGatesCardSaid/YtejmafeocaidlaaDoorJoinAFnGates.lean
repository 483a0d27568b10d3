/- Facts of the program that the row of FnGates names, each computed; no condition. -/
import Derived.Test.YtejmafeocaidlaaDoorRows
import Derived.ProofKit
import Derived.JoinedOf
import Derived.KernelRfl
set_option linter.all false
set_option maxRecDepth 100000
namespace Go.Proofs.YtejmafeocaidlaaDoor
open Go.ChangeShapes Go.WideShapes Go.ChangeAt Go.RowKit
theorem fnGates_j9 : (Rows.fnGatesRow.inPlace == Tryd.prog.inPlace 3) = true := by kernel_rfl
theorem fnGates_j10 : (Rows.fnGatesRow.unfollowed == Tryd.prog.unfollowed 3) = true := by kernel_rfl
theorem fnGates_j11 : (Rows.fnGatesRow.recurses == Tryd.prog.recurses 3) = true := by kernel_rfl
theorem fnGates_j12 : (Rows.fnGatesRow.named == Tryd.prog.varsNamed 3) = true := by kernel_rfl
theorem fnGates_j1 : (laidOutB Tryd.prog) = true := by kernel_rfl
end Go.Proofs.YtejmafeocaidlaaDoor
