/- Facts of the program that the row of FnNeedsFixed names, each computed; no condition. -/
import Derived.Test.YtpnjglnpdmgghaaGreatDoorRows
import Derived.ProofKit
import Derived.JoinedOf
import Derived.KernelRfl
set_option linter.all false
set_option maxRecDepth 100000
namespace Go.Proofs.YtpnjglnpdmgghaaGreatDoor
open Go.ChangeShapes Go.WideShapes Go.ChangeAt Go.RowKit
theorem fnNeedsFixed_j9 : (Rows.fnNeedsFixedRow.inPlace == Tryz.prog.inPlace 3) = true := by kernel_rfl
theorem fnNeedsFixed_j10 : (Rows.fnNeedsFixedRow.unfollowed == Tryz.prog.unfollowed 3) = true := by kernel_rfl
theorem fnNeedsFixed_j11 : (Rows.fnNeedsFixedRow.recurses == Tryz.prog.recurses 3) = true := by kernel_rfl
theorem fnNeedsFixed_j12 : (Rows.fnNeedsFixedRow.named == Tryz.prog.varsNamed 3) = true := by kernel_rfl
theorem fnNeedsFixed_j1 : (laidOutB Tryz.prog) = true := by kernel_rfl
end Go.Proofs.YtpnjglnpdmgghaaGreatDoor
