/- Facts of the program that the row of FnExactDataSlacks names, each computed; no condition. -/
import Derived.Test.YtjijjanefcaakaaGreatDoorRows
import Derived.ProofKit
import Derived.JoinedOf
import Derived.KernelRfl
set_option linter.all false
set_option maxRecDepth 100000
namespace Go.Proofs.YtjijjanefcaakaaGreatDoor
open Go.ChangeShapes Go.WideShapes Go.ChangeAt Go.RowKit
theorem fnExactDataSlacks_j9 : (Rows.fnExactDataSlacksRow.inPlace == Tryz.prog.inPlace 5) = true := by kernel_rfl
theorem fnExactDataSlacks_j10 : (Rows.fnExactDataSlacksRow.unfollowed == Tryz.prog.unfollowed 5) = true := by kernel_rfl
theorem fnExactDataSlacks_j11 : (Rows.fnExactDataSlacksRow.recurses == Tryz.prog.recurses 5) = true := by kernel_rfl
theorem fnExactDataSlacks_j12 : (Rows.fnExactDataSlacksRow.named == Tryz.prog.varsNamed 5) = true := by kernel_rfl
theorem fnExactDataSlacks_j1 : (laidOutB Tryz.prog) = true := by kernel_rfl
end Go.Proofs.YtjijjanefcaakaaGreatDoor
