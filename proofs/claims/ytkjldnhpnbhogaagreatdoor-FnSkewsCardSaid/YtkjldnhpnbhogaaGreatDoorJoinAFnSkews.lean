/- Facts of the program that the row of FnSkews names, each computed; no condition. -/
import Derived.Test.YtkjldnhpnbhogaaGreatDoorRows
import Derived.ProofKit
import Derived.JoinedOf
import Derived.KernelRfl
set_option linter.all false
set_option maxRecDepth 100000
namespace Go.Proofs.YtkjldnhpnbhogaaGreatDoor
open Go.ChangeShapes Go.WideShapes Go.ChangeAt Go.RowKit
theorem fnSkews_j9 : (Rows.fnSkewsRow.inPlace == Tryz.prog.inPlace 3) = true := by kernel_rfl
theorem fnSkews_j10 : (Rows.fnSkewsRow.unfollowed == Tryz.prog.unfollowed 3) = true := by kernel_rfl
theorem fnSkews_j11 : (Rows.fnSkewsRow.recurses == Tryz.prog.recurses 3) = true := by kernel_rfl
theorem fnSkews_j12 : (Rows.fnSkewsRow.named == Tryz.prog.varsNamed 3) = true := by kernel_rfl
theorem fnSkews_j1 : (laidOutB Tryz.prog) = true := by kernel_rfl
end Go.Proofs.YtkjldnhpnbhogaaGreatDoor
