/- Facts of the program that the row of FnExactNodeNeeds names, each computed; no condition. -/
import Derived.Test.YtaijnchdfgojiaaGreatDoorRows
import Derived.ProofKit
import Derived.JoinedOf
import Derived.KernelRfl
set_option linter.all false
set_option maxRecDepth 100000
namespace Go.Proofs.YtaijnchdfgojiaaGreatDoor
open Go.ChangeShapes Go.WideShapes Go.ChangeAt Go.RowKit
theorem fnExactNodeNeeds_j0 : (Rows.fnExactNodeNeedsRow.wf (OpenSpec.ofChange Rows.fnExactNodeNeedsSpec)) = true := by kernel_rfl
theorem fnExactNodeNeeds_j2 : (mapsRowed Tryz.prog) = true := by kernel_rfl
theorem fnExactNodeNeeds_j3 : (Tryz.f3.params.all (Tryz.prog.readableRec ·)) = true := by kernel_rfl
theorem fnExactNodeNeeds_j4 : (namedTie Tryz.prog Rows.fnExactNodeNeedsRow.named Rows.fnExactNodeNeedsSpec.vars) = true := by kernel_rfl
theorem fnExactNodeNeeds_j5 : (Rows.fnExactNodeNeedsRow.stops == []) = true := by kernel_rfl
theorem fnExactNodeNeeds_j6 : (Tryz.prog.stops == []) = true := by kernel_rfl
theorem fnExactNodeNeeds_j7 : (Rows.fnExactNodeNeedsRow.knobs == []) = true := by kernel_rfl
theorem fnExactNodeNeeds_j8 : (Tryz.prog.stopKnobs == []) = true := by kernel_rfl
theorem fnExactNodeNeeds_j13 : (Rows.fnExactNodeNeedsRow.maps == (Tryz.f3.params.toList ++ Rows.fnExactNodeNeedsSpec.plain.varTypes Tryz.prog).any (Tryz.prog.mapsRec ·)) = true := by kernel_rfl
theorem fnExactNodeNeeds_j14 : (Rows.fnExactNodeNeedsRow.ifaces == (Tryz.f3.params.toList ++ Rows.fnExactNodeNeedsSpec.plain.varTypes Tryz.prog).any (Tryz.prog.ifacesRec ·)) = true := by kernel_rfl
theorem fnExactNodeNeeds_j15 : (Rows.fnExactNodeNeedsRow.mapsOut == Tryz.prog.mapsAmong Tryz.f3.resultTypes.toList) = true := by kernel_rfl
theorem fnExactNodeNeeds_j16 : (Rows.fnExactNodeNeedsRow.loops == (Tryz.f3.params.toList ++ Rows.fnExactNodeNeedsSpec.plain.varTypes Tryz.prog).any (Tryz.prog.loopsFrom ·)) = true := by kernel_rfl
theorem fnExactNodeNeeds_j17 : (Rows.fnExactNodeNeedsRow.wideKeys == (Tryz.f3.params.toList ++ Rows.fnExactNodeNeedsSpec.plain.varTypes Tryz.prog ++ Tryz.f3.resultTypes.toList).any (Tryz.prog.wideKeysFrom ·)) = true := by kernel_rfl
theorem fnExactNodeNeeds_j18 : (Rows.fnExactNodeNeedsSpec.vars.all (Tryz.prog.varReadable ·)) = true := by kernel_rfl
theorem fnExactNodeNeeds_j19 : (Tryz.f3.resultTypes.all (fun t => Tryz.prog.readableRec t && decide (t < Tryz.prog.types.size))) = true := by kernel_rfl
theorem fnExactNodeNeeds_j20 : (Rows.fnExactNodeNeedsRow.ifacesOut == Tryz.f3.resultTypes.toList.any (Tryz.prog.ifacesRec ·)) = true := by kernel_rfl
theorem fnExactNodeNeeds_j21 : (Rows.fnExactNodeNeedsRow.loopsOut == Tryz.f3.resultTypes.toList.any (Tryz.prog.loopsFrom ·)) = true := by kernel_rfl
theorem fnExactNodeNeeds_j22 : (Rows.fnExactNodeNeedsRow.plainKeys == Tryz.prog.plainKeys) = true := by kernel_rfl
theorem fnExactNodeNeeds_j23 : (Rows.fnExactNodeNeedsRow.shortTexts.isNone) = true := by kernel_rfl
theorem fnExactNodeNeeds_j24 : (Tryz.prog.stopsHeard) = true := by kernel_rfl
theorem fnExactNodeNeeds_j25 : (Tryz.prog.mayEnter) = true := by kernel_rfl
theorem fnExactNodeNeeds_j26 : (Rows.fnExactNodeNeedsRow.lifted == Tryz.prog.liftsFinal) = true := by kernel_rfl
theorem fnExactNodeNeeds_j27 : (Tryz.prog.make == some Rows.fnExactNodeNeedsRow.make) = true := by kernel_rfl
theorem fnExactNodeNeeds_j28 : (Rows.fnExactNodeNeedsRow.kinds == (if Rows.fnExactNodeNeedsRow.domain.isEmpty then [] else Tryz.f3.params.toList.map fun t => match Tryz.prog.underlying t with | some (.int k) => some k | _ => none)) = true := by kernel_rfl
theorem fnExactNodeNeeds_j29 : (Rows.fnExactNodeNeedsRow.pinned == Rows.fnExactNodeNeedsRow.pinnedBy) = true := by kernel_rfl
theorem fnExactNodeNeeds_j30 : (Rows.fnExactNodeNeedsRow.veiled == (Tryz.f3.params.toList ++ Rows.fnExactNodeNeedsSpec.plain.varTypes Tryz.prog ++ Tryz.f3.resultTypes.toList).any (Tryz.prog.veiledRec ·)) = true := by kernel_rfl
theorem fnExactNodeNeeds_j31 : (Rows.fnExactNodeNeedsRow.veiledFits Tryz.prog Tryz.f3.params.toList (Tryz.f3.params.toList ++ Rows.fnExactNodeNeedsSpec.plain.varTypes Tryz.prog ++ Tryz.f3.resultTypes.toList)) = true := by kernel_rfl
theorem fnExactNodeNeeds_fn : Tryz.prog.funcNamed Rows.fnExactNodeNeedsRow.func = some 3 := by kernel_rfl
end Go.Proofs.YtaijnchdfgojiaaGreatDoor
