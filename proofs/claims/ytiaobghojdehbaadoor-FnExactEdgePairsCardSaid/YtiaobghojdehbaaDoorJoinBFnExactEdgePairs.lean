/- Facts of the program that the row of FnExactEdgePairs names, each computed; no condition. -/
import Derived.Test.YtiaobghojdehbaaDoorRows
import Derived.ProofKit
import Derived.JoinedOf
import Derived.KernelRfl
set_option linter.all false
set_option maxRecDepth 100000
namespace Go.Proofs.YtiaobghojdehbaaDoor
open Go.ChangeShapes Go.WideShapes Go.ChangeAt Go.RowKit
theorem fnExactEdgePairs_j0 : (Rows.fnExactEdgePairsRow.wf (OpenSpec.ofChange Rows.fnExactEdgePairsSpec)) = true := by kernel_rfl
theorem fnExactEdgePairs_j2 : (mapsRowed Tryd.prog) = true := by kernel_rfl
theorem fnExactEdgePairs_j3 : (Tryd.f3.params.all (Tryd.prog.readableRec ·)) = true := by kernel_rfl
theorem fnExactEdgePairs_j4 : (namedTie Tryd.prog Rows.fnExactEdgePairsRow.named Rows.fnExactEdgePairsSpec.vars) = true := by kernel_rfl
theorem fnExactEdgePairs_j5 : (Rows.fnExactEdgePairsRow.stops == []) = true := by kernel_rfl
theorem fnExactEdgePairs_j6 : (Tryd.prog.stops == []) = true := by kernel_rfl
theorem fnExactEdgePairs_j7 : (Rows.fnExactEdgePairsRow.knobs == []) = true := by kernel_rfl
theorem fnExactEdgePairs_j8 : (Tryd.prog.stopKnobs == []) = true := by kernel_rfl
theorem fnExactEdgePairs_j13 : (Rows.fnExactEdgePairsRow.maps == (Tryd.f3.params.toList ++ Rows.fnExactEdgePairsSpec.plain.varTypes Tryd.prog).any (Tryd.prog.mapsRec ·)) = true := by kernel_rfl
theorem fnExactEdgePairs_j14 : (Rows.fnExactEdgePairsRow.ifaces == (Tryd.f3.params.toList ++ Rows.fnExactEdgePairsSpec.plain.varTypes Tryd.prog).any (Tryd.prog.ifacesRec ·)) = true := by kernel_rfl
theorem fnExactEdgePairs_j15 : (Rows.fnExactEdgePairsRow.mapsOut == Tryd.prog.mapsAmong Tryd.f3.resultTypes.toList) = true := by kernel_rfl
theorem fnExactEdgePairs_j16 : (Rows.fnExactEdgePairsRow.loops == (Tryd.f3.params.toList ++ Rows.fnExactEdgePairsSpec.plain.varTypes Tryd.prog).any (Tryd.prog.loopsFrom ·)) = true := by kernel_rfl
theorem fnExactEdgePairs_j17 : (Rows.fnExactEdgePairsRow.wideKeys == (Tryd.f3.params.toList ++ Rows.fnExactEdgePairsSpec.plain.varTypes Tryd.prog ++ Tryd.f3.resultTypes.toList).any (Tryd.prog.wideKeysFrom ·)) = true := by kernel_rfl
theorem fnExactEdgePairs_j18 : (Rows.fnExactEdgePairsSpec.vars.all (Tryd.prog.varReadable ·)) = true := by kernel_rfl
theorem fnExactEdgePairs_j19 : (Tryd.f3.resultTypes.all (fun t => Tryd.prog.readableRec t && decide (t < Tryd.prog.types.size))) = true := by kernel_rfl
theorem fnExactEdgePairs_j20 : (Rows.fnExactEdgePairsRow.ifacesOut == Tryd.f3.resultTypes.toList.any (Tryd.prog.ifacesRec ·)) = true := by kernel_rfl
theorem fnExactEdgePairs_j21 : (Rows.fnExactEdgePairsRow.loopsOut == Tryd.f3.resultTypes.toList.any (Tryd.prog.loopsFrom ·)) = true := by kernel_rfl
theorem fnExactEdgePairs_j22 : (Rows.fnExactEdgePairsRow.plainKeys == Tryd.prog.plainKeys) = true := by kernel_rfl
theorem fnExactEdgePairs_j23 : (Rows.fnExactEdgePairsRow.shortTexts.isNone) = true := by kernel_rfl
theorem fnExactEdgePairs_j24 : (Tryd.prog.stopsHeard) = true := by kernel_rfl
theorem fnExactEdgePairs_j25 : (Tryd.prog.mayEnter) = true := by kernel_rfl
theorem fnExactEdgePairs_j26 : (Rows.fnExactEdgePairsRow.lifted == Tryd.prog.liftsFinal) = true := by kernel_rfl
theorem fnExactEdgePairs_j27 : (Tryd.prog.make == some Rows.fnExactEdgePairsRow.make) = true := by kernel_rfl
theorem fnExactEdgePairs_j28 : (Rows.fnExactEdgePairsRow.kinds == (if Rows.fnExactEdgePairsRow.domain.isEmpty then [] else Tryd.f3.params.toList.map fun t => match Tryd.prog.underlying t with | some (.int k) => some k | _ => none)) = true := by kernel_rfl
theorem fnExactEdgePairs_j29 : (Rows.fnExactEdgePairsRow.pinned == Rows.fnExactEdgePairsRow.pinnedBy) = true := by kernel_rfl
theorem fnExactEdgePairs_j30 : (Rows.fnExactEdgePairsRow.veiled == (Tryd.f3.params.toList ++ Rows.fnExactEdgePairsSpec.plain.varTypes Tryd.prog ++ Tryd.f3.resultTypes.toList).any (Tryd.prog.veiledRec ·)) = true := by kernel_rfl
theorem fnExactEdgePairs_j31 : (Rows.fnExactEdgePairsRow.veiledFits Tryd.prog Tryd.f3.params.toList (Tryd.f3.params.toList ++ Rows.fnExactEdgePairsSpec.plain.varTypes Tryd.prog ++ Tryd.f3.resultTypes.toList)) = true := by kernel_rfl
theorem fnExactEdgePairs_fn : Tryd.prog.funcNamed Rows.fnExactEdgePairsRow.func = some 3 := by kernel_rfl
end Go.Proofs.YtiaobghojdehbaaDoor
