/- Facts of the program that the row of FnExactCheckTargets names, each computed; no condition. -/
import Derived.Test.YtjpcjanfamdmiaaGreatDoorRows
import Derived.ProofKit
import Derived.JoinedOf
import Derived.KernelRfl
set_option linter.all false
set_option maxRecDepth 100000
namespace Go.Proofs.YtjpcjanfamdmiaaGreatDoor
open Go.ChangeShapes Go.WideShapes Go.ChangeAt Go.RowKit
theorem fnExactCheckTargets_j9 : (Rows.fnExactCheckTargetsRow.inPlace == Tryz.prog.inPlace 3) = true := by kernel_rfl
theorem fnExactCheckTargets_j10 : (Rows.fnExactCheckTargetsRow.unfollowed == Tryz.prog.unfollowed 3) = true := by kernel_rfl
theorem fnExactCheckTargets_j11 : (Rows.fnExactCheckTargetsRow.recurses == Tryz.prog.recurses 3) = true := by kernel_rfl
theorem fnExactCheckTargets_j12 : (Rows.fnExactCheckTargetsRow.named == Tryz.prog.varsNamed 3) = true := by kernel_rfl
theorem fnExactCheckTargets_j1 : (laidOutB Tryz.prog) = true := by kernel_rfl
end Go.Proofs.YtjpcjanfamdmiaaGreatDoor
