/- Facts of the program that the row of FnExactWorstSlack names, each computed; no condition. -/
import Derived.Test.YtjijjanefcaakaaGreatDoorRows
import Derived.ProofKit
import Derived.JoinedOf
import Derived.KernelRfl
set_option linter.all false
set_option maxRecDepth 100000
namespace Go.Proofs.YtjijjanefcaakaaGreatDoor
open Go.ChangeShapes Go.WideShapes Go.ChangeAt Go.RowKit
theorem fnExactWorstSlack_j9 : (Rows.fnExactWorstSlackRow.inPlace == Tryz.prog.inPlace 8) = true := by kernel_rfl
theorem fnExactWorstSlack_j10 : (Rows.fnExactWorstSlackRow.unfollowed == Tryz.prog.unfollowed 8) = true := by kernel_rfl
theorem fnExactWorstSlack_j11 : (Rows.fnExactWorstSlackRow.recurses == Tryz.prog.recurses 8) = true := by kernel_rfl
theorem fnExactWorstSlack_j12 : (Rows.fnExactWorstSlackRow.named == Tryz.prog.varsNamed 8) = true := by kernel_rfl
theorem fnExactWorstSlack_j1 : (laidOutB Tryz.prog) = true := by kernel_rfl
end Go.Proofs.YtjijjanefcaakaaGreatDoor
