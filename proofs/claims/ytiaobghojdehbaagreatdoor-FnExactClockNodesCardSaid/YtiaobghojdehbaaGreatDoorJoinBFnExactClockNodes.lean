/- Facts of the program that the row of FnExactClockNodes names, each computed; no condition. -/
import Derived.Test.YtiaobghojdehbaaGreatDoorRows
import Derived.ProofKit
import Derived.JoinedOf
import Derived.KernelRfl
set_option linter.all false
set_option maxRecDepth 100000
namespace Go.Proofs.YtiaobghojdehbaaGreatDoor
open Go.ChangeShapes Go.WideShapes Go.ChangeAt Go.RowKit
theorem fnExactClockNodes_j0 : (Rows.fnExactClockNodesRow.wf (OpenSpec.ofChange Rows.fnExactClockNodesSpec)) = true := by kernel_rfl
theorem fnExactClockNodes_j2 : (mapsRowed Tryz.prog) = true := by kernel_rfl
theorem fnExactClockNodes_j3 : (Tryz.f4.params.all (Tryz.prog.readableRec ·)) = true := by kernel_rfl
theorem fnExactClockNodes_j4 : (namedTie Tryz.prog Rows.fnExactClockNodesRow.named Rows.fnExactClockNodesSpec.vars) = true := by kernel_rfl
theorem fnExactClockNodes_j5 : (Rows.fnExactClockNodesRow.stops == []) = true := by kernel_rfl
theorem fnExactClockNodes_j6 : (Tryz.prog.stops == []) = true := by kernel_rfl
theorem fnExactClockNodes_j7 : (Rows.fnExactClockNodesRow.knobs == []) = true := by kernel_rfl
theorem fnExactClockNodes_j8 : (Tryz.prog.stopKnobs == []) = true := by kernel_rfl
theorem fnExactClockNodes_j13 : (Rows.fnExactClockNodesRow.maps == (Tryz.f4.params.toList ++ Rows.fnExactClockNodesSpec.plain.varTypes Tryz.prog).any (Tryz.prog.mapsRec ·)) = true := by kernel_rfl
theorem fnExactClockNodes_j14 : (Rows.fnExactClockNodesRow.ifaces == (Tryz.f4.params.toList ++ Rows.fnExactClockNodesSpec.plain.varTypes Tryz.prog).any (Tryz.prog.ifacesRec ·)) = true := by kernel_rfl
theorem fnExactClockNodes_j15 : (Rows.fnExactClockNodesRow.mapsOut == Tryz.prog.mapsAmong Tryz.f4.resultTypes.toList) = true := by kernel_rfl
theorem fnExactClockNodes_j16 : (Rows.fnExactClockNodesRow.loops == (Tryz.f4.params.toList ++ Rows.fnExactClockNodesSpec.plain.varTypes Tryz.prog).any (Tryz.prog.loopsFrom ·)) = true := by kernel_rfl
theorem fnExactClockNodes_j17 : (Rows.fnExactClockNodesRow.wideKeys == (Tryz.f4.params.toList ++ Rows.fnExactClockNodesSpec.plain.varTypes Tryz.prog ++ Tryz.f4.resultTypes.toList).any (Tryz.prog.wideKeysFrom ·)) = true := by kernel_rfl
theorem fnExactClockNodes_j18 : (Rows.fnExactClockNodesSpec.vars.all (Tryz.prog.varReadable ·)) = true := by kernel_rfl
theorem fnExactClockNodes_j19 : (Tryz.f4.resultTypes.all (fun t => Tryz.prog.readableRec t && decide (t < Tryz.prog.types.size))) = true := by kernel_rfl
theorem fnExactClockNodes_j20 : (Rows.fnExactClockNodesRow.ifacesOut == Tryz.f4.resultTypes.toList.any (Tryz.prog.ifacesRec ·)) = true := by kernel_rfl
theorem fnExactClockNodes_j21 : (Rows.fnExactClockNodesRow.loopsOut == Tryz.f4.resultTypes.toList.any (Tryz.prog.loopsFrom ·)) = true := by kernel_rfl
theorem fnExactClockNodes_j22 : (Rows.fnExactClockNodesRow.plainKeys == Tryz.prog.plainKeys) = true := by kernel_rfl
theorem fnExactClockNodes_j23 : (Rows.fnExactClockNodesRow.shortTexts.isNone) = true := by kernel_rfl
theorem fnExactClockNodes_j24 : (Tryz.prog.stopsHeard) = true := by kernel_rfl
theorem fnExactClockNodes_j25 : (Tryz.prog.mayEnter) = true := by kernel_rfl
theorem fnExactClockNodes_j26 : (Rows.fnExactClockNodesRow.lifted == Tryz.prog.liftsFinal) = true := by kernel_rfl
theorem fnExactClockNodes_j27 : (Tryz.prog.make == some Rows.fnExactClockNodesRow.make) = true := by kernel_rfl
theorem fnExactClockNodes_j28 : (Rows.fnExactClockNodesRow.kinds == (if Rows.fnExactClockNodesRow.domain.isEmpty then [] else Tryz.f4.params.toList.map fun t => match Tryz.prog.underlying t with | some (.int k) => some k | _ => none)) = true := by kernel_rfl
theorem fnExactClockNodes_j29 : (Rows.fnExactClockNodesRow.pinned == Rows.fnExactClockNodesRow.pinnedBy) = true := by kernel_rfl
theorem fnExactClockNodes_j30 : (Rows.fnExactClockNodesRow.veiled == (Tryz.f4.params.toList ++ Rows.fnExactClockNodesSpec.plain.varTypes Tryz.prog ++ Tryz.f4.resultTypes.toList).any (Tryz.prog.veiledRec ·)) = true := by kernel_rfl
theorem fnExactClockNodes_j31 : (Rows.fnExactClockNodesRow.veiledFits Tryz.prog Tryz.f4.params.toList (Tryz.f4.params.toList ++ Rows.fnExactClockNodesSpec.plain.varTypes Tryz.prog ++ Tryz.f4.resultTypes.toList)) = true := by kernel_rfl
theorem fnExactClockNodes_fn : Tryz.prog.funcNamed Rows.fnExactClockNodesRow.func = some 4 := by kernel_rfl
end Go.Proofs.YtiaobghojdehbaaGreatDoor
