/- Facts of the program that the row of FnClockPins names, each computed; no condition. -/
import Derived.Test.YtbcnjcjcdknhhaaGreatDoorRows
import Derived.ProofKit
import Derived.JoinedOf
import Derived.KernelRfl
set_option linter.all false
set_option maxRecDepth 100000
namespace Go.Proofs.YtbcnjcjcdknhhaaGreatDoor
open Go.ChangeShapes Go.WideShapes Go.ChangeAt Go.RowKit
theorem fnClockPins_j0 : (Rows.fnClockPinsRow.wf (OpenSpec.ofChange Rows.fnClockPinsSpec)) = true := by kernel_rfl
theorem fnClockPins_j2 : (mapsRowed Tryz.prog) = true := by kernel_rfl
theorem fnClockPins_j3 : (Tryz.f3.params.all (Tryz.prog.readableRec ·)) = true := by kernel_rfl
theorem fnClockPins_j4 : (namedTie Tryz.prog Rows.fnClockPinsRow.named Rows.fnClockPinsSpec.vars) = true := by kernel_rfl
theorem fnClockPins_j5 : (Rows.fnClockPinsRow.stops == []) = true := by kernel_rfl
theorem fnClockPins_j6 : (Tryz.prog.stops == []) = true := by kernel_rfl
theorem fnClockPins_j7 : (Rows.fnClockPinsRow.knobs == []) = true := by kernel_rfl
theorem fnClockPins_j8 : (Tryz.prog.stopKnobs == []) = true := by kernel_rfl
theorem fnClockPins_j13 : (Rows.fnClockPinsRow.maps == (Tryz.f3.params.toList ++ Rows.fnClockPinsSpec.plain.varTypes Tryz.prog).any (Tryz.prog.mapsRec ·)) = true := by kernel_rfl
theorem fnClockPins_j14 : (Rows.fnClockPinsRow.ifaces == (Tryz.f3.params.toList ++ Rows.fnClockPinsSpec.plain.varTypes Tryz.prog).any (Tryz.prog.ifacesRec ·)) = true := by kernel_rfl
theorem fnClockPins_j15 : (Rows.fnClockPinsRow.mapsOut == Tryz.prog.mapsAmong Tryz.f3.resultTypes.toList) = true := by kernel_rfl
theorem fnClockPins_j16 : (Rows.fnClockPinsRow.loops == (Tryz.f3.params.toList ++ Rows.fnClockPinsSpec.plain.varTypes Tryz.prog).any (Tryz.prog.loopsFrom ·)) = true := by kernel_rfl
theorem fnClockPins_j17 : (Rows.fnClockPinsRow.wideKeys == (Tryz.f3.params.toList ++ Rows.fnClockPinsSpec.plain.varTypes Tryz.prog ++ Tryz.f3.resultTypes.toList).any (Tryz.prog.wideKeysFrom ·)) = true := by kernel_rfl
theorem fnClockPins_j18 : (Rows.fnClockPinsSpec.vars.all (Tryz.prog.varReadable ·)) = true := by kernel_rfl
theorem fnClockPins_j19 : (Tryz.f3.resultTypes.all (fun t => Tryz.prog.readableRec t && decide (t < Tryz.prog.types.size))) = true := by kernel_rfl
theorem fnClockPins_j20 : (Rows.fnClockPinsRow.ifacesOut == Tryz.f3.resultTypes.toList.any (Tryz.prog.ifacesRec ·)) = true := by kernel_rfl
theorem fnClockPins_j21 : (Rows.fnClockPinsRow.loopsOut == Tryz.f3.resultTypes.toList.any (Tryz.prog.loopsFrom ·)) = true := by kernel_rfl
theorem fnClockPins_j22 : (Rows.fnClockPinsRow.plainKeys == Tryz.prog.plainKeys) = true := by kernel_rfl
theorem fnClockPins_j23 : (Rows.fnClockPinsRow.shortTexts.isNone) = true := by kernel_rfl
theorem fnClockPins_j24 : (Tryz.prog.stopsHeard) = true := by kernel_rfl
theorem fnClockPins_j25 : (Tryz.prog.mayEnter) = true := by kernel_rfl
theorem fnClockPins_j26 : (Rows.fnClockPinsRow.lifted == Tryz.prog.liftsFinal) = true := by kernel_rfl
theorem fnClockPins_j27 : (Tryz.prog.make == some Rows.fnClockPinsRow.make) = true := by kernel_rfl
theorem fnClockPins_j28 : (Rows.fnClockPinsRow.kinds == (if Rows.fnClockPinsRow.domain.isEmpty then [] else Tryz.f3.params.toList.map fun t => match Tryz.prog.underlying t with | some (.int k) => some k | _ => none)) = true := by kernel_rfl
theorem fnClockPins_j29 : (Rows.fnClockPinsRow.pinned == Rows.fnClockPinsRow.pinnedBy) = true := by kernel_rfl
theorem fnClockPins_j30 : (Rows.fnClockPinsRow.veiled == (Tryz.f3.params.toList ++ Rows.fnClockPinsSpec.plain.varTypes Tryz.prog ++ Tryz.f3.resultTypes.toList).any (Tryz.prog.veiledRec ·)) = true := by kernel_rfl
theorem fnClockPins_j31 : (Rows.fnClockPinsRow.veiledFits Tryz.prog Tryz.f3.params.toList (Tryz.f3.params.toList ++ Rows.fnClockPinsSpec.plain.varTypes Tryz.prog ++ Tryz.f3.resultTypes.toList)) = true := by kernel_rfl
theorem fnClockPins_fn : Tryz.prog.funcNamed Rows.fnClockPinsRow.func = some 3 := by kernel_rfl
end Go.Proofs.YtbcnjcjcdknhhaaGreatDoor
