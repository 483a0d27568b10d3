/- Facts of the program that the row of FnExactGatingSlacks names, each computed; no condition. -/
import Derived.Test.YtjijjanefcaakaaGreatDoorRows
import Derived.ProofKit
import Derived.JoinedOf
import Derived.KernelRfl
set_option linter.all false
set_option maxRecDepth 100000
namespace Go.Proofs.YtjijjanefcaakaaGreatDoor
open Go.ChangeShapes Go.WideShapes Go.ChangeAt Go.RowKit
theorem fnExactGatingSlacks_j9 : (Rows.fnExactGatingSlacksRow.inPlace == Tryz.prog.inPlace 9) = true := by kernel_rfl
theorem fnExactGatingSlacks_j10 : (Rows.fnExactGatingSlacksRow.unfollowed == Tryz.prog.unfollowed 9) = true := by kernel_rfl
theorem fnExactGatingSlacks_j11 : (Rows.fnExactGatingSlacksRow.recurses == Tryz.prog.recurses 9) = true := by kernel_rfl
theorem fnExactGatingSlacks_j12 : (Rows.fnExactGatingSlacksRow.named == Tryz.prog.varsNamed 9) = true := by kernel_rfl
theorem fnExactGatingSlacks_j1 : (laidOutB Tryz.prog) = true := by kernel_rfl
end Go.Proofs.YtjijjanefcaakaaGreatDoor
