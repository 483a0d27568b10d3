/- Facts of the program that the row of FnTotalSlack names, each computed; no condition. -/
import Derived.Test.YthojemmmflaicabGreatDoorRows
import Derived.ProofKit
import Derived.JoinedOf
import Derived.KernelRfl
set_option linter.all false
set_option maxRecDepth 100000
namespace Go.Proofs.YthojemmmflaicabGreatDoor
open Go.ChangeShapes Go.WideShapes Go.ChangeAt Go.RowKit
theorem fnTotalSlack_j9 : (Rows.fnTotalSlackRow.inPlace == Tryz.prog.inPlace 3) = true := by kernel_rfl
theorem fnTotalSlack_j10 : (Rows.fnTotalSlackRow.unfollowed == Tryz.prog.unfollowed 3) = true := by kernel_rfl
theorem fnTotalSlack_j11 : (Rows.fnTotalSlackRow.recurses == Tryz.prog.recurses 3) = true := by kernel_rfl
theorem fnTotalSlack_j12 : (Rows.fnTotalSlackRow.named == Tryz.prog.varsNamed 3) = true := by kernel_rfl
theorem fnTotalSlack_j1 : (laidOutB Tryz.prog) = true := by kernel_rfl
end Go.Proofs.YthojemmmflaicabGreatDoor
