/- Facts of the program that the row of FnExactHoldSlack names, each computed; no condition. -/
import Derived.Test.YtjijjanefcaakaaGreatDoorRows
import Derived.ProofKit
import Derived.JoinedOf
import Derived.KernelRfl
set_option linter.all false
set_option maxRecDepth 100000
namespace Go.Proofs.YtjijjanefcaakaaGreatDoor
open Go.ChangeShapes Go.WideShapes Go.ChangeAt Go.RowKit
theorem fnExactHoldSlack_j9 : (Rows.fnExactHoldSlackRow.inPlace == Tryz.prog.inPlace 12) = true := by kernel_rfl
theorem fnExactHoldSlack_j10 : (Rows.fnExactHoldSlackRow.unfollowed == Tryz.prog.unfollowed 12) = true := by kernel_rfl
theorem fnExactHoldSlack_j11 : (Rows.fnExactHoldSlackRow.recurses == Tryz.prog.recurses 12) = true := by kernel_rfl
theorem fnExactHoldSlack_j12 : (Rows.fnExactHoldSlackRow.named == Tryz.prog.varsNamed 12) = true := by kernel_rfl
theorem fnExactHoldSlack_j1 : (laidOutB Tryz.prog) = true := by kernel_rfl
end Go.Proofs.YtjijjanefcaakaaGreatDoor
