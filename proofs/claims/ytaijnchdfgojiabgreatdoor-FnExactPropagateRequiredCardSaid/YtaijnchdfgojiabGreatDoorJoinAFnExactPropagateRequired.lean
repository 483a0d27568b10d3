/- Facts of the program that the row of FnExactPropagateRequired names, each computed; no condition. -/
import Derived.Test.YtaijnchdfgojiabGreatDoorRows
import Derived.ProofKit
import Derived.JoinedOf
import Derived.KernelRfl
set_option linter.all false
set_option maxRecDepth 100000
namespace Go.Proofs.YtaijnchdfgojiabGreatDoor
open Go.ChangeShapes Go.WideShapes Go.ChangeAt Go.RowKit
theorem fnExactPropagateRequired_j9 : (Rows.fnExactPropagateRequiredRow.inPlace == Tryz.prog.inPlace 3) = true := by kernel_rfl
theorem fnExactPropagateRequired_j10 : (Rows.fnExactPropagateRequiredRow.unfollowed == Tryz.prog.unfollowed 3) = true := by kernel_rfl
theorem fnExactPropagateRequired_j11 : (Rows.fnExactPropagateRequiredRow.recurses == Tryz.prog.recurses 3) = true := by kernel_rfl
theorem fnExactPropagateRequired_j12 : (Rows.fnExactPropagateRequiredRow.named == Tryz.prog.varsNamed 3) = true := by kernel_rfl
theorem fnExactPropagateRequired_j1 : (laidOutB Tryz.prog) = true := by kernel_rfl
end Go.Proofs.YtaijnchdfgojiabGreatDoor
