/- Facts of the program that the row of FnExactSlackOf names, each computed; no condition. -/
import Derived.Test.YtjijjanefcaakaaGreatDoorRows
import Derived.ProofKit
import Derived.JoinedOf
import Derived.KernelRfl
set_option linter.all false
set_option maxRecDepth 100000
namespace Go.Proofs.YtjijjanefcaakaaGreatDoor
open Go.ChangeShapes Go.WideShapes Go.ChangeAt Go.RowKit
theorem fnExactSlackOf_j9 : (Rows.fnExactSlackOfRow.inPlace == Tryz.prog.inPlace 7) = true := by kernel_rfl
theorem fnExactSlackOf_j10 : (Rows.fnExactSlackOfRow.unfollowed == Tryz.prog.unfollowed 7) = true := by kernel_rfl
theorem fnExactSlackOf_j11 : (Rows.fnExactSlackOfRow.recurses == Tryz.prog.recurses 7) = true := by kernel_rfl
theorem fnExactSlackOf_j12 : (Rows.fnExactSlackOfRow.named == Tryz.prog.varsNamed 7) = true := by kernel_rfl
theorem fnExactSlackOf_j1 : (laidOutB Tryz.prog) = true := by kernel_rfl
end Go.Proofs.YtjijjanefcaakaaGreatDoor
