/- Facts of the program that the row of FnGateList names, each computed; no condition. -/
import Derived.Test.YtbcnjcjcdknhhaaGreatDoorRows
import Derived.ProofKit
import Derived.JoinedOf
import Derived.KernelRfl
set_option linter.all false
set_option maxRecDepth 100000
namespace Go.Proofs.YtbcnjcjcdknhhaaGreatDoor
open Go.ChangeShapes Go.WideShapes Go.ChangeAt Go.RowKit
theorem fnGateList_j9 : (Rows.fnGateListRow.inPlace == Tryz.prog.inPlace 4) = true := by kernel_rfl
theorem fnGateList_j10 : (Rows.fnGateListRow.unfollowed == Tryz.prog.unfollowed 4) = true := by kernel_rfl
theorem fnGateList_j11 : (Rows.fnGateListRow.recurses == Tryz.prog.recurses 4) = true := by kernel_rfl
theorem fnGateList_j12 : (Rows.fnGateListRow.named == Tryz.prog.varsNamed 4) = true := by kernel_rfl
theorem fnGateList_j1 : (laidOutB Tryz.prog) = true := by kernel_rfl
end Go.Proofs.YtbcnjcjcdknhhaaGreatDoor
