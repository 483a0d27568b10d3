/- Facts of the program that the row of FnExactNodeNeeds names, each computed; no condition. -/
import Derived.Test.YtaijnchdfgojiaaGreatDoorRows
import Derived.ProofKit
import Derived.JoinedOf
import Derived.KernelRfl
set_option linter.all false
set_option maxRecDepth 100000
namespace Go.Proofs.YtaijnchdfgojiaaGreatDoor
open Go.ChangeShapes Go.WideShapes Go.ChangeAt Go.RowKit
theorem fnExactNodeNeeds_j9 : (Rows.fnExactNodeNeedsRow.inPlace == Tryz.prog.inPlace 3) = true := by kernel_rfl
theorem fnExactNodeNeeds_j10 : (Rows.fnExactNodeNeedsRow.unfollowed == Tryz.prog.unfollowed 3) = true := by kernel_rfl
theorem fnExactNodeNeeds_j11 : (Rows.fnExactNodeNeedsRow.recurses == Tryz.prog.recurses 3) = true := by kernel_rfl
theorem fnExactNodeNeeds_j12 : (Rows.fnExactNodeNeedsRow.named == Tryz.prog.varsNamed 3) = true := by kernel_rfl
theorem fnExactNodeNeeds_j1 : (laidOutB Tryz.prog) = true := by kernel_rfl
end Go.Proofs.YtaijnchdfgojiaaGreatDoor
