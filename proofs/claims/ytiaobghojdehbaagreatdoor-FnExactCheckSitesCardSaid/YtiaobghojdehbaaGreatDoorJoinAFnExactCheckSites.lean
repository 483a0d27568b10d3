/- Facts of the program that the row of FnExactCheckSites names, each computed; no condition. -/
import Derived.Test.YtiaobghojdehbaaGreatDoorRows
import Derived.ProofKit
import Derived.JoinedOf
import Derived.KernelRfl
set_option linter.all false
set_option maxRecDepth 100000
namespace Go.Proofs.YtiaobghojdehbaaGreatDoor
open Go.ChangeShapes Go.WideShapes Go.ChangeAt Go.RowKit
theorem fnExactCheckSites_j9 : (Rows.fnExactCheckSitesRow.inPlace == Tryz.prog.inPlace 3) = true := by kernel_rfl
theorem fnExactCheckSites_j10 : (Rows.fnExactCheckSitesRow.unfollowed == Tryz.prog.unfollowed 3) = true := by kernel_rfl
theorem fnExactCheckSites_j11 : (Rows.fnExactCheckSitesRow.recurses == Tryz.prog.recurses 3) = true := by kernel_rfl
theorem fnExactCheckSites_j12 : (Rows.fnExactCheckSitesRow.named == Tryz.prog.varsNamed 3) = true := by kernel_rfl
theorem fnExactCheckSites_j1 : (laidOutB Tryz.prog) = true := by kernel_rfl
end Go.Proofs.YtiaobghojdehbaaGreatDoor
