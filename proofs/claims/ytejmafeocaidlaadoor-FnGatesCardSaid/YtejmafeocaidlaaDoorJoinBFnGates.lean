/- Facts of the program that the row of FnGates names, each computed; no condition. -/
import Derived.Test.YtejmafeocaidlaaDoorRows
import Derived.ProofKit
import Derived.JoinedOf
import Derived.KernelRfl
set_option linter.all false
set_option maxRecDepth 100000
namespace Go.Proofs.YtejmafeocaidlaaDoor
open Go.ChangeShapes Go.WideShapes Go.ChangeAt Go.RowKit
theorem fnGates_j0 : (Rows.fnGatesRow.wf (OpenSpec.ofChange Rows.fnGatesSpec)) = true := by kernel_rfl
theorem fnGates_j2 : (mapsRowed Tryd.prog) = true := by kernel_rfl
theorem fnGates_j3 : (Tryd.f3.params.all (Tryd.prog.readableRec ·)) = true := by kernel_rfl
theorem fnGates_j4 : (namedTie Tryd.prog Rows.fnGatesRow.named Rows.fnGatesSpec.vars) = true := by kernel_rfl
theorem fnGates_j5 : (Rows.fnGatesRow.stops == []) = true := by kernel_rfl
theorem fnGates_j6 : (Tryd.prog.stops == []) = true := by kernel_rfl
theorem fnGates_j7 : (Rows.fnGatesRow.knobs == []) = true := by kernel_rfl
theorem fnGates_j8 : (Tryd.prog.stopKnobs == []) = true := by kernel_rfl
theorem fnGates_j13 : (Rows.fnGatesRow.maps == (Tryd.f3.params.toList ++ Rows.fnGatesSpec.plain.varTypes Tryd.prog).any (Tryd.prog.mapsRec ·)) = true := by kernel_rfl
theorem fnGates_j14 : (Rows.fnGatesRow.ifaces == (Tryd.f3.params.toList ++ Rows.fnGatesSpec.plain.varTypes Tryd.prog).any (Tryd.prog.ifacesRec ·)) = true := by kernel_rfl
theorem fnGates_j15 : (Rows.fnGatesRow.mapsOut == Tryd.prog.mapsAmong Tryd.f3.resultTypes.toList) = true := by kernel_rfl
theorem fnGates_j16 : (Rows.fnGatesRow.loops == (Tryd.f3.params.toList ++ Rows.fnGatesSpec.plain.varTypes Tryd.prog).any (Tryd.prog.loopsFrom ·)) = true := by kernel_rfl
theorem fnGates_j17 : (Rows.fnGatesRow.wideKeys == (Tryd.f3.params.toList ++ Rows.fnGatesSpec.plain.varTypes Tryd.prog ++ Tryd.f3.resultTypes.toList).any (Tryd.prog.wideKeysFrom ·)) = true := by kernel_rfl
theorem fnGates_j18 : (Rows.fnGatesSpec.vars.all (Tryd.prog.varReadable ·)) = true := by kernel_rfl
theorem fnGates_j19 : (Tryd.f3.resultTypes.all (fun t => Tryd.prog.readableRec t && decide (t < Tryd.prog.types.size))) = true := by kernel_rfl
theorem fnGates_j20 : (Rows.fnGatesRow.ifacesOut == Tryd.f3.resultTypes.toList.any (Tryd.prog.ifacesRec ·)) = true := by kernel_rfl
theorem fnGates_j21 : (Rows.fnGatesRow.loopsOut == Tryd.f3.resultTypes.toList.any (Tryd.prog.loopsFrom ·)) = true := by kernel_rfl
theorem fnGates_j22 : (Rows.fnGatesRow.plainKeys == Tryd.prog.plainKeys) = true := by kernel_rfl
theorem fnGates_j23 : (Rows.fnGatesRow.shortTexts.isNone) = true := by kernel_rfl
theorem fnGates_j24 : (Tryd.prog.stopsHeard) = true := by kernel_rfl
theorem fnGates_j25 : (Tryd.prog.mayEnter) = true := by kernel_rfl
theorem fnGates_j26 : (Rows.fnGatesRow.lifted == Tryd.prog.liftsFinal) = true := by kernel_rfl
theorem fnGates_j27 : (Tryd.prog.make == some Rows.fnGatesRow.make) = true := by kernel_rfl
theorem fnGates_j28 : (Rows.fnGatesRow.kinds == (if Rows.fnGatesRow.domain.isEmpty then [] else Tryd.f3.params.toList.map fun t => match Tryd.prog.underlying t with | some (.int k) => some k | _ => none)) = true := by kernel_rfl
theorem fnGates_j29 : (Rows.fnGatesRow.pinned == Rows.fnGatesRow.pinnedBy) = true := by kernel_rfl
theorem fnGates_j30 : (Rows.fnGatesRow.veiled == (Tryd.f3.params.toList ++ Rows.fnGatesSpec.plain.varTypes Tryd.prog ++ Tryd.f3.resultTypes.toList).any (Tryd.prog.veiledRec ·)) = true := by kernel_rfl
theorem fnGates_j31 : (Rows.fnGatesRow.veiledFits Tryd.prog Tryd.f3.params.toList (Tryd.f3.params.toList ++ Rows.fnGatesSpec.plain.varTypes Tryd.prog ++ Tryd.f3.resultTypes.toList)) = true := by kernel_rfl
theorem fnGates_fn : Tryd.prog.funcNamed Rows.fnGatesRow.func = some 3 := by kernel_rfl
end Go.Proofs.YtejmafeocaidlaaDoor
