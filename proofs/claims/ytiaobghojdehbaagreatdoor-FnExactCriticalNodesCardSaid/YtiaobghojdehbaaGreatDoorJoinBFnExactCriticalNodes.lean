/- Facts of the program that the row of FnExactCriticalNodes names, each computed; no condition. -/
import Derived.Test.YtiaobghojdehbaaGreatDoorRows
import Derived.ProofKit
import Derived.JoinedOf
import Derived.KernelRfl
set_option linter.all false
set_option maxRecDepth 100000
namespace Go.Proofs.YtiaobghojdehbaaGreatDoor
open Go.ChangeShapes Go.WideShapes Go.ChangeAt Go.RowKit
theorem fnExactCriticalNodes_j0 : (Rows.fnExactCriticalNodesRow.wf (OpenSpec.ofChange Rows.fnExactCriticalNodesSpec)) = true := by kernel_rfl
theorem fnExactCriticalNodes_j2 : (mapsRowed Tryz.prog) = true := by kernel_rfl
theorem fnExactCriticalNodes_j3 : (Tryz.f6.params.all (Tryz.prog.readableRec ·)) = true := by kernel_rfl
theorem fnExactCriticalNodes_j4 : (namedTie Tryz.prog Rows.fnExactCriticalNodesRow.named Rows.fnExactCriticalNodesSpec.vars) = true := by kernel_rfl
theorem fnExactCriticalNodes_j5 : (Rows.fnExactCriticalNodesRow.stops == []) = true := by kernel_rfl
theorem fnExactCriticalNodes_j6 : (Tryz.prog.stops == []) = true := by kernel_rfl
theorem fnExactCriticalNodes_j7 : (Rows.fnExactCriticalNodesRow.knobs == []) = true := by kernel_rfl
theorem fnExactCriticalNodes_j8 : (Tryz.prog.stopKnobs == []) = true := by kernel_rfl
theorem fnExactCriticalNodes_j13 : (Rows.fnExactCriticalNodesRow.maps == (Tryz.f6.params.toList ++ Rows.fnExactCriticalNodesSpec.plain.varTypes Tryz.prog).any (Tryz.prog.mapsRec ·)) = true := by kernel_rfl
theorem fnExactCriticalNodes_j14 : (Rows.fnExactCriticalNodesRow.ifaces == (Tryz.f6.params.toList ++ Rows.fnExactCriticalNodesSpec.plain.varTypes Tryz.prog).any (Tryz.prog.ifacesRec ·)) = true := by kernel_rfl
theorem fnExactCriticalNodes_j15 : (Rows.fnExactCriticalNodesRow.mapsOut == Tryz.prog.mapsAmong Tryz.f6.resultTypes.toList) = true := by kernel_rfl
theorem fnExactCriticalNodes_j16 : (Rows.fnExactCriticalNodesRow.loops == (Tryz.f6.params.toList ++ Rows.fnExactCriticalNodesSpec.plain.varTypes Tryz.prog).any (Tryz.prog.loopsFrom ·)) = true := by kernel_rfl
theorem fnExactCriticalNodes_j17 : (Rows.fnExactCriticalNodesRow.wideKeys == (Tryz.f6.params.toList ++ Rows.fnExactCriticalNodesSpec.plain.varTypes Tryz.prog ++ Tryz.f6.resultTypes.toList).any (Tryz.prog.wideKeysFrom ·)) = true := by kernel_rfl
theorem fnExactCriticalNodes_j18 : (Rows.fnExactCriticalNodesSpec.vars.all (Tryz.prog.varReadable ·)) = true := by kernel_rfl
theorem fnExactCriticalNodes_j19 : (Tryz.f6.resultTypes.all (fun t => Tryz.prog.readableRec t && decide (t < Tryz.prog.types.size))) = true := by kernel_rfl
theorem fnExactCriticalNodes_j20 : (Rows.fnExactCriticalNodesRow.ifacesOut == Tryz.f6.resultTypes.toList.any (Tryz.prog.ifacesRec ·)) = true := by kernel_rfl
theorem fnExactCriticalNodes_j21 : (Rows.fnExactCriticalNodesRow.loopsOut == Tryz.f6.resultTypes.toList.any (Tryz.prog.loopsFrom ·)) = true := by kernel_rfl
theorem fnExactCriticalNodes_j22 : (Rows.fnExactCriticalNodesRow.plainKeys == Tryz.prog.plainKeys) = true := by kernel_rfl
theorem fnExactCriticalNodes_j23 : (Rows.fnExactCriticalNodesRow.shortTexts.isNone) = true := by kernel_rfl
theorem fnExactCriticalNodes_j24 : (Tryz.prog.stopsHeard) = true := by kernel_rfl
theorem fnExactCriticalNodes_j25 : (Tryz.prog.mayEnter) = true := by kernel_rfl
theorem fnExactCriticalNodes_j26 : (Rows.fnExactCriticalNodesRow.lifted == Tryz.prog.liftsFinal) = true := by kernel_rfl
theorem fnExactCriticalNodes_j27 : (Tryz.prog.make == some Rows.fnExactCriticalNodesRow.make) = true := by kernel_rfl
theorem fnExactCriticalNodes_j28 : (Rows.fnExactCriticalNodesRow.kinds == (if Rows.fnExactCriticalNodesRow.domain.isEmpty then [] else Tryz.f6.params.toList.map fun t => match Tryz.prog.underlying t with | some (.int k) => some k | _ => none)) = true := by kernel_rfl
theorem fnExactCriticalNodes_j29 : (Rows.fnExactCriticalNodesRow.pinned == Rows.fnExactCriticalNodesRow.pinnedBy) = true := by kernel_rfl
theorem fnExactCriticalNodes_j30 : (Rows.fnExactCriticalNodesRow.veiled == (Tryz.f6.params.toList ++ Rows.fnExactCriticalNodesSpec.plain.varTypes Tryz.prog ++ Tryz.f6.resultTypes.toList).any (Tryz.prog.veiledRec ·)) = true := by kernel_rfl
theorem fnExactCriticalNodes_j31 : (Rows.fnExactCriticalNodesRow.veiledFits Tryz.prog Tryz.f6.params.toList (Tryz.f6.params.toList ++ Rows.fnExactCriticalNodesSpec.plain.varTypes Tryz.prog ++ Tryz.f6.resultTypes.toList)) = true := by kernel_rfl
theorem fnExactCriticalNodes_fn : Tryz.prog.funcNamed Rows.fnExactCriticalNodesRow.func = some 6 := by kernel_rfl
end Go.Proofs.YtiaobghojdehbaaGreatDoor
