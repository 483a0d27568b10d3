/- Facts of the program that the row of FnExactClockPinsOf names, each computed; no condition. -/
import Derived.Test.YtpfgoednlfjebaaGreatDoorRows
import Derived.ProofKit
import Derived.JoinedOf
import Derived.KernelRfl
set_option linter.all false
set_option maxRecDepth 100000
namespace Go.Proofs.YtpfgoednlfjebaaGreatDoor
open Go.ChangeShapes Go.WideShapes Go.ChangeAt Go.RowKit
theorem fnExactClockPinsOf_j9 : (Rows.fnExactClockPinsOfRow.inPlace == Tryz.prog.inPlace 3) = true := by kernel_rfl
theorem fnExactClockPinsOf_j10 : (Rows.fnExactClockPinsOfRow.unfollowed == Tryz.prog.unfollowed 3) = true := by kernel_rfl
theorem fnExactClockPinsOf_j11 : (Rows.fnExactClockPinsOfRow.recurses == Tryz.prog.recurses 3) = true := by kernel_rfl
theorem fnExactClockPinsOf_j12 : (Rows.fnExactClockPinsOfRow.named == Tryz.prog.varsNamed 3) = true := by kernel_rfl
theorem fnExactClockPinsOf_j1 : (laidOutB Tryz.prog) = true := by kernel_rfl
end Go.Proofs.YtpfgoednlfjebaaGreatDoor
