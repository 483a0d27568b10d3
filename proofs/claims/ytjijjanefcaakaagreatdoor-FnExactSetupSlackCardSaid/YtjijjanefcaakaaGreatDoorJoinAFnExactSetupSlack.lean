/- Facts of the program that the row of FnExactSetupSlack names, each computed; no condition. -/
import Derived.Test.YtjijjanefcaakaaGreatDoorRows
import Derived.ProofKit
import Derived.JoinedOf
import Derived.KernelRfl
set_option linter.all false
set_option maxRecDepth 100000
namespace Go.Proofs.YtjijjanefcaakaaGreatDoor
open Go.ChangeShapes Go.WideShapes Go.ChangeAt Go.RowKit
theorem fnExactSetupSlack_j9 : (Rows.fnExactSetupSlackRow.inPlace == Tryz.prog.inPlace 13) = true := by kernel_rfl
theorem fnExactSetupSlack_j10 : (Rows.fnExactSetupSlackRow.unfollowed == Tryz.prog.unfollowed 13) = true := by kernel_rfl
theorem fnExactSetupSlack_j11 : (Rows.fnExactSetupSlackRow.recurses == Tryz.prog.recurses 13) = true := by kernel_rfl
theorem fnExactSetupSlack_j12 : (Rows.fnExactSetupSlackRow.named == Tryz.prog.varsNamed 13) = true := by kernel_rfl
theorem fnExactSetupSlack_j1 : (laidOutB Tryz.prog) = true := by kernel_rfl
end Go.Proofs.YtjijjanefcaakaaGreatDoor
