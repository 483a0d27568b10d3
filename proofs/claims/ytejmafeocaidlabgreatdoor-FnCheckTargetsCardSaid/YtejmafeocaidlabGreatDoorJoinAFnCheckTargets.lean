/- Facts of the program that the row of FnCheckTargets names, each computed; no condition. -/
import Derived.Test.YtejmafeocaidlabGreatDoorRows
import Derived.ProofKit
import Derived.JoinedOf
import Derived.KernelRfl
set_option linter.all false
set_option maxRecDepth 100000
namespace Go.Proofs.YtejmafeocaidlabGreatDoor
open Go.ChangeShapes Go.WideShapes Go.ChangeAt Go.RowKit
theorem fnCheckTargets_j9 : (Rows.fnCheckTargetsRow.inPlace == Tryz.prog.inPlace 3) = true := by kernel_rfl
theorem fnCheckTargets_j10 : (Rows.fnCheckTargetsRow.unfollowed == Tryz.prog.unfollowed 3) = true := by kernel_rfl
theorem fnCheckTargets_j11 : (Rows.fnCheckTargetsRow.recurses == Tryz.prog.recurses 3) = true := by kernel_rfl
theorem fnCheckTargets_j12 : (Rows.fnCheckTargetsRow.named == Tryz.prog.varsNamed 3) = true := by kernel_rfl
theorem fnCheckTargets_j1 : (laidOutB Tryz.prog) = true := by kernel_rfl
end Go.Proofs.YtejmafeocaidlabGreatDoor
