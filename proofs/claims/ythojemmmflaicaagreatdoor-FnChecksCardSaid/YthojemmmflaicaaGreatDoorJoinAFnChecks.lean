/- Facts of the program that the row of FnChecks names, each computed; no condition. -/
import Derived.Test.YthojemmmflaicaaGreatDoorRows
import Derived.ProofKit
import Derived.JoinedOf
import Derived.KernelRfl
set_option linter.all false
set_option maxRecDepth 100000
namespace Go.Proofs.YthojemmmflaicaaGreatDoor
open Go.ChangeShapes Go.WideShapes Go.ChangeAt Go.RowKit
theorem fnChecks_j9 : (Rows.fnChecksRow.inPlace == Tryz.prog.inPlace 3) = true := by kernel_rfl
theorem fnChecks_j10 : (Rows.fnChecksRow.unfollowed == Tryz.prog.unfollowed 3) = true := by kernel_rfl
theorem fnChecks_j11 : (Rows.fnChecksRow.recurses == Tryz.prog.recurses 3) = true := by kernel_rfl
theorem fnChecks_j12 : (Rows.fnChecksRow.named == Tryz.prog.varsNamed 3) = true := by kernel_rfl
theorem fnChecks_j1 : (laidOutB Tryz.prog) = true := by kernel_rfl
end Go.Proofs.YthojemmmflaicaaGreatDoor
