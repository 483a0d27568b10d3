/- Facts of the program that the row of FnExactAllChecks names, each computed; no condition. -/
import Derived.Test.YtiaobghojdehbaaGreatDoorRows
import Derived.ProofKit
import Derived.JoinedOf
import Derived.KernelRfl
set_option linter.all false
set_option maxRecDepth 100000
namespace Go.Proofs.YtiaobghojdehbaaGreatDoor
open Go.ChangeShapes Go.WideShapes Go.ChangeAt Go.RowKit
theorem fnExactAllChecks_j9 : (Rows.fnExactAllChecksRow.inPlace == Tryz.prog.inPlace 8) = true := by kernel_rfl
theorem fnExactAllChecks_j10 : (Rows.fnExactAllChecksRow.unfollowed == Tryz.prog.unfollowed 8) = true := by kernel_rfl
theorem fnExactAllChecks_j11 : (Rows.fnExactAllChecksRow.recurses == Tryz.prog.recurses 8) = true := by kernel_rfl
theorem fnExactAllChecks_j12 : (Rows.fnExactAllChecksRow.named == Tryz.prog.varsNamed 8) = true := by kernel_rfl
theorem fnExactAllChecks_j1 : (laidOutB Tryz.prog) = true := by kernel_rfl
end Go.Proofs.YtiaobghojdehbaaGreatDoor
