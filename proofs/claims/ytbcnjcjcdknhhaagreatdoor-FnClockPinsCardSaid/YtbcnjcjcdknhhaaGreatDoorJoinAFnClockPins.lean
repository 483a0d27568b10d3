/- Facts of the program that the row of FnClockPins names, each computed; no condition. -/
import Derived.Test.YtbcnjcjcdknhhaaGreatDoorRows
import Derived.ProofKit
import Derived.JoinedOf
import Derived.KernelRfl
set_option linter.all false
set_option maxRecDepth 100000
namespace Go.Proofs.YtbcnjcjcdknhhaaGreatDoor
open Go.ChangeShapes Go.WideShapes Go.ChangeAt Go.RowKit
theorem fnClockPins_j9 : (Rows.fnClockPinsRow.inPlace == Tryz.prog.inPlace 3) = true := by kernel_rfl
theorem fnClockPins_j10 : (Rows.fnClockPinsRow.unfollowed == Tryz.prog.unfollowed 3) = true := by kernel_rfl
theorem fnClockPins_j11 : (Rows.fnClockPinsRow.recurses == Tryz.prog.recurses 3) = true := by kernel_rfl
theorem fnClockPins_j12 : (Rows.fnClockPinsRow.named == Tryz.prog.varsNamed 3) = true := by kernel_rfl
theorem fnClockPins_j1 : (laidOutB Tryz.prog) = true := by kernel_rfl
end Go.Proofs.YtbcnjcjcdknhhaaGreatDoor
