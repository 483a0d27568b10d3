/- Facts of the program that the row of FnExactClockPinsOf names, each computed; no condition. -/
import Derived.Test.YtpfgoednlfjebaaGreatDoorRows
import Derived.ProofKit
import Derived.JoinedOf
import Derived.KernelRfl
set_option linter.all false
set_option maxRecDepth 100000
namespace Go.Proofs.YtpfgoednlfjebaaGreatDoor
open Go.ChangeShapes Go.WideShapes Go.ChangeAt Go.RowKit
theorem fnExactClockPinsOf_j0 : (Rows.fnExactClockPinsOfRow.wf (OpenSpec.ofChange Rows.fnExactClockPinsOfSpec)) = true := by kernel_rfl
theorem fnExactClockPinsOf_j2 : (mapsRowed Tryz.prog) = true := by kernel_rfl
theorem fnExactClockPinsOf_j3 : (Tryz.f3.params.all (Tryz.prog.readableRec ·)) = true := by kernel_rfl
theorem fnExactClockPinsOf_j4 : (namedTie Tryz.prog Rows.fnExactClockPinsOfRow.named Rows.fnExactClockPinsOfSpec.vars) = true := by kernel_rfl
theorem fnExactClockPinsOf_j5 : (Rows.fnExactClockPinsOfRow.stops == []) = true := by kernel_rfl
theorem fnExactClockPinsOf_j6 : (Tryz.prog.stops == []) = true := by kernel_rfl
theorem fnExactClockPinsOf_j7 : (Rows.fnExactClockPinsOfRow.knobs == []) = true := by kernel_rfl
theorem fnExactClockPinsOf_j8 : (Tryz.prog.stopKnobs == []) = true := by kernel_rfl
theorem fnExactClockPinsOf_j13 : (Rows.fnExactClockPinsOfRow.maps == (Tryz.f3.params.toList ++ Rows.fnExactClockPinsOfSpec.plain.varTypes Tryz.prog).any (Tryz.prog.mapsRec ·)) = true := by kernel_rfl
theorem fnExactClockPinsOf_j14 : (Rows.fnExactClockPinsOfRow.ifaces == (Tryz.f3.params.toList ++ Rows.fnExactClockPinsOfSpec.plain.varTypes Tryz.prog).any (Tryz.prog.ifacesRec ·)) = true := by kernel_rfl
theorem fnExactClockPinsOf_j15 : (Rows.fnExactClockPinsOfRow.mapsOut == Tryz.prog.mapsAmong Tryz.f3.resultTypes.toList) = true := by kernel_rfl
theorem fnExactClockPinsOf_j16 : (Rows.fnExactClockPinsOfRow.loops == (Tryz.f3.params.toList ++ Rows.fnExactClockPinsOfSpec.plain.varTypes Tryz.prog).any (Tryz.prog.loopsFrom ·)) = true := by kernel_rfl
theorem fnExactClockPinsOf_j17 : (Rows.fnExactClockPinsOfRow.wideKeys == (Tryz.f3.params.toList ++ Rows.fnExactClockPinsOfSpec.plain.varTypes Tryz.prog ++ Tryz.f3.resultTypes.toList).any (Tryz.prog.wideKeysFrom ·)) = true := by kernel_rfl
theorem fnExactClockPinsOf_j18 : (Rows.fnExactClockPinsOfSpec.vars.all (Tryz.prog.varReadable ·)) = true := by kernel_rfl
theorem fnExactClockPinsOf_j19 : (Tryz.f3.resultTypes.all (fun t => Tryz.prog.readableRec t && decide (t < Tryz.prog.types.size))) = true := by kernel_rfl
theorem fnExactClockPinsOf_j20 : (Rows.fnExactClockPinsOfRow.ifacesOut == Tryz.f3.resultTypes.toList.any (Tryz.prog.ifacesRec ·)) = true := by kernel_rfl
theorem fnExactClockPinsOf_j21 : (Rows.fnExactClockPinsOfRow.loopsOut == Tryz.f3.resultTypes.toList.any (Tryz.prog.loopsFrom ·)) = true := by kernel_rfl
theorem fnExactClockPinsOf_j22 : (Rows.fnExactClockPinsOfRow.plainKeys == Tryz.prog.plainKeys) = true := by kernel_rfl
theorem fnExactClockPinsOf_j23 : (Rows.fnExactClockPinsOfRow.shortTexts.isNone) = true := by kernel_rfl
theorem fnExactClockPinsOf_j24 : (Tryz.prog.stopsHeard) = true := by kernel_rfl
theorem fnExactClockPinsOf_j25 : (Tryz.prog.mayEnter) = true := by kernel_rfl
theorem fnExactClockPinsOf_j26 : (Rows.fnExactClockPinsOfRow.lifted == Tryz.prog.liftsFinal) = true := by kernel_rfl
theorem fnExactClockPinsOf_j27 : (Tryz.prog.make == some Rows.fnExactClockPinsOfRow.make) = true := by kernel_rfl
theorem fnExactClockPinsOf_j28 : (Rows.fnExactClockPinsOfRow.kinds == (if Rows.fnExactClockPinsOfRow.domain.isEmpty then [] else Tryz.f3.params.toList.map fun t => match Tryz.prog.underlying t with | some (.int k) => some k | _ => none)) = true := by kernel_rfl
theorem fnExactClockPinsOf_j29 : (Rows.fnExactClockPinsOfRow.pinned == Rows.fnExactClockPinsOfRow.pinnedBy) = true := by kernel_rfl
theorem fnExactClockPinsOf_j30 : (Rows.fnExactClockPinsOfRow.veiled == (Tryz.f3.params.toList ++ Rows.fnExactClockPinsOfSpec.plain.varTypes Tryz.prog ++ Tryz.f3.resultTypes.toList).any (Tryz.prog.veiledRec ·)) = true := by kernel_rfl
theorem fnExactClockPinsOf_j31 : (Rows.fnExactClockPinsOfRow.veiledFits Tryz.prog Tryz.f3.params.toList (Tryz.f3.params.toList ++ Rows.fnExactClockPinsOfSpec.plain.varTypes Tryz.prog ++ Tryz.f3.resultTypes.toList)) = true := by kernel_rfl
theorem fnExactClockPinsOf_fn : Tryz.prog.funcNamed Rows.fnExactClockPinsOfRow.func = some 3 := by kernel_rfl
end Go.Proofs.YtpfgoednlfjebaaGreatDoor
