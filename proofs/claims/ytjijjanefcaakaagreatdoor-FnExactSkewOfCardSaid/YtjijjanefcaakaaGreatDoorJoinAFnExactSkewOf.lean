/- Facts of the program that the row of FnExactSkewOf names, each computed; no condition. -/
import Derived.Test.YtjijjanefcaakaaGreatDoorRows
import Derived.ProofKit
import Derived.JoinedOf
import Derived.KernelRfl
set_option linter.all false
set_option maxRecDepth 100000
namespace Go.Proofs.YtjijjanefcaakaaGreatDoor
open Go.ChangeShapes Go.WideShapes Go.ChangeAt Go.RowKit
theorem fnExactSkewOf_j9 : (Rows.fnExactSkewOfRow.inPlace == Tryz.prog.inPlace 6) = true := by kernel_rfl
theorem fnExactSkewOf_j10 : (Rows.fnExactSkewOfRow.unfollowed == Tryz.prog.unfollowed 6) = true := by kernel_rfl
theorem fnExactSkewOf_j11 : (Rows.fnExactSkewOfRow.recurses == Tryz.prog.recurses 6) = true := by kernel_rfl
theorem fnExactSkewOf_j12 : (Rows.fnExactSkewOfRow.named == Tryz.prog.varsNamed 6) = true := by kernel_rfl
theorem fnExactSkewOf_j1 : (laidOutB Tryz.prog) = true := by kernel_rfl
end Go.Proofs.YtjijjanefcaakaaGreatDoor
