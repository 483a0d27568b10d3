/- Facts of the program that the row of FnExactPulseSlacks names, each computed; no condition. -/
import Derived.Test.YtjijjanefcaakaaGreatDoorRows
import Derived.ProofKit
import Derived.JoinedOf
import Derived.KernelRfl
set_option linter.all false
set_option maxRecDepth 100000
namespace Go.Proofs.YtjijjanefcaakaaGreatDoor
open Go.ChangeShapes Go.WideShapes Go.ChangeAt Go.RowKit
theorem fnExactPulseSlacks_j9 : (Rows.fnExactPulseSlacksRow.inPlace == Tryz.prog.inPlace 11) = true := by kernel_rfl
theorem fnExactPulseSlacks_j10 : (Rows.fnExactPulseSlacksRow.unfollowed == Tryz.prog.unfollowed 11) = true := by kernel_rfl
theorem fnExactPulseSlacks_j11 : (Rows.fnExactPulseSlacksRow.recurses == Tryz.prog.recurses 11) = true := by kernel_rfl
theorem fnExactPulseSlacks_j12 : (Rows.fnExactPulseSlacksRow.named == Tryz.prog.varsNamed 11) = true := by kernel_rfl
theorem fnExactPulseSlacks_j1 : (laidOutB Tryz.prog) = true := by kernel_rfl
end Go.Proofs.YtjijjanefcaakaaGreatDoor
