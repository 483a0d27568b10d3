/- Facts of the program that the row of FnExactTotalSlack names, each computed; no condition. -/
import Derived.Test.YtjijjanefcaakaaGreatDoorRows
import Derived.ProofKit
import Derived.JoinedOf
import Derived.KernelRfl
set_option linter.all false
set_option maxRecDepth 100000
namespace Go.Proofs.YtjijjanefcaakaaGreatDoor
open Go.ChangeShapes Go.WideShapes Go.ChangeAt Go.RowKit
theorem fnExactTotalSlack_j9 : (Rows.fnExactTotalSlackRow.inPlace == Tryz.prog.inPlace 10) = true := by kernel_rfl
theorem fnExactTotalSlack_j10 : (Rows.fnExactTotalSlackRow.unfollowed == Tryz.prog.unfollowed 10) = true := by kernel_rfl
theorem fnExactTotalSlack_j11 : (Rows.fnExactTotalSlackRow.recurses == Tryz.prog.recurses 10) = true := by kernel_rfl
theorem fnExactTotalSlack_j12 : (Rows.fnExactTotalSlackRow.named == Tryz.prog.varsNamed 10) = true := by kernel_rfl
theorem fnExactTotalSlack_j1 : (laidOutB Tryz.prog) = true := by kernel_rfl
end Go.Proofs.YtjijjanefcaakaaGreatDoor
