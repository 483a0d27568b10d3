/- Facts of the program that the row of FnGatingShift names, each computed; no condition. -/
import Derived.Test.YthojemmmflaicacGreatDoorRows
import Derived.ProofKit
import Derived.JoinedOf
import Derived.KernelRfl
set_option linter.all false
set_option maxRecDepth 100000
namespace Go.Proofs.YthojemmmflaicacGreatDoor
open Go.ChangeShapes Go.WideShapes Go.ChangeAt Go.RowKit
theorem fnGatingShift_j9 : (Rows.fnGatingShiftRow.inPlace == Tryz.prog.inPlace 3) = true := by kernel_rfl
theorem fnGatingShift_j10 : (Rows.fnGatingShiftRow.unfollowed == Tryz.prog.unfollowed 3) = true := by kernel_rfl
theorem fnGatingShift_j11 : (Rows.fnGatingShiftRow.recurses == Tryz.prog.recurses 3) = true := by kernel_rfl
theorem fnGatingShift_j12 : (Rows.fnGatingShiftRow.named == Tryz.prog.varsNamed 3) = true := by kernel_rfl
theorem fnGatingShift_j1 : (laidOutB Tryz.prog) = true := by kernel_rfl
end Go.Proofs.YthojemmmflaicacGreatDoor
