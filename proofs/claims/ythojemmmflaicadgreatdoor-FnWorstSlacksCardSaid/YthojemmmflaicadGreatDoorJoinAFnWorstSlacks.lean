/- Facts of the program that the row of FnWorstSlacks names, each computed; no condition. -/
import Derived.Test.YthojemmmflaicadGreatDoorRows
import Derived.ProofKit
import Derived.JoinedOf
import Derived.KernelRfl
set_option linter.all false
set_option maxRecDepth 100000
namespace Go.Proofs.YthojemmmflaicadGreatDoor
open Go.ChangeShapes Go.WideShapes Go.ChangeAt Go.RowKit
theorem fnWorstSlacks_j9 : (Rows.fnWorstSlacksRow.inPlace == Tryz.prog.inPlace 3) = true := by kernel_rfl
theorem fnWorstSlacks_j10 : (Rows.fnWorstSlacksRow.unfollowed == Tryz.prog.unfollowed 3) = true := by kernel_rfl
theorem fnWorstSlacks_j11 : (Rows.fnWorstSlacksRow.recurses == Tryz.prog.recurses 3) = true := by kernel_rfl
theorem fnWorstSlacks_j12 : (Rows.fnWorstSlacksRow.named == Tryz.prog.varsNamed 3) = true := by kernel_rfl
theorem fnWorstSlacks_j1 : (laidOutB Tryz.prog) = true := by kernel_rfl
end Go.Proofs.YthojemmmflaicadGreatDoor
