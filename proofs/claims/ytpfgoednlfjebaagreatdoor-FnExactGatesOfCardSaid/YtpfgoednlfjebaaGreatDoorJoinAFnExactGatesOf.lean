/- Facts of the program that the row of FnExactGatesOf names, each computed; no condition. -/
import Derived.Test.YtpfgoednlfjebaaGreatDoorRows
import Derived.ProofKit
import Derived.JoinedOf
import Derived.KernelRfl
set_option linter.all false
set_option maxRecDepth 100000
namespace Go.Proofs.YtpfgoednlfjebaaGreatDoor
open Go.ChangeShapes Go.WideShapes Go.ChangeAt Go.RowKit
theorem fnExactGatesOf_j9 : (Rows.fnExactGatesOfRow.inPlace == Tryz.prog.inPlace 4) = true := by kernel_rfl
theorem fnExactGatesOf_j10 : (Rows.fnExactGatesOfRow.unfollowed == Tryz.prog.unfollowed 4) = true := by kernel_rfl
theorem fnExactGatesOf_j11 : (Rows.fnExactGatesOfRow.recurses == Tryz.prog.recurses 4) = true := by kernel_rfl
theorem fnExactGatesOf_j12 : (Rows.fnExactGatesOfRow.named == Tryz.prog.varsNamed 4) = true := by kernel_rfl
theorem fnExactGatesOf_j1 : (laidOutB Tryz.prog) = true := by kernel_rfl
end Go.Proofs.YtpfgoednlfjebaaGreatDoor
