/- Facts of the program that the row of FnExactWorstSlack names, each computed; no condition. -/
import Derived.Test.YtjijjanefcaakaaGreatDoorRows
import Derived.ProofKit
import Derived.JoinedOf
import Derived.KernelRfl
set_option linter.all false
set_option maxRecDepth 100000
namespace Go.Proofs.YtjijjanefcaakaaGreatDoor
open Go.ChangeShapes Go.WideShapes Go.ChangeAt Go.RowKit
theorem fnExactWorstSlack_j0 : (Rows.fnExactWorstSlackRow.wf (OpenSpec.ofChange Rows.fnExactWorstSlackSpec)) = true := by kernel_rfl
theorem fnExactWorstSlack_j2 : (mapsRowed Tryz.prog) = true := by kernel_rfl
theorem fnExactWorstSlack_j3 : (Tryz.f8.params.all (Tryz.prog.readableRec ·)) = true := by kernel_rfl
theorem fnExactWorstSlack_j4 : (namedTie Tryz.prog Rows.fnExactWorstSlackRow.named Rows.fnExactWorstSlackSpec.vars) = true := by kernel_rfl
theorem fnExactWorstSlack_j5 : (Rows.fnExactWorstSlackRow.stops == []) = true := by kernel_rfl
theorem fnExactWorstSlack_j6 : (Tryz.prog.stops == []) = true := by kernel_rfl
theorem fnExactWorstSlack_j7 : (Rows.fnExactWorstSlackRow.knobs == []) = true := by kernel_rfl
theorem fnExactWorstSlack_j8 : (Tryz.prog.stopKnobs == []) = true := by kernel_rfl
theorem fnExactWorstSlack_j13 : (Rows.fnExactWorstSlackRow.maps == (Tryz.f8.params.toList ++ Rows.fnExactWorstSlackSpec.plain.varTypes Tryz.prog).any (Tryz.prog.mapsRec ·)) = true := by kernel_rfl
theorem fnExactWorstSlack_j14 : (Rows.fnExactWorstSlackRow.ifaces == (Tryz.f8.params.toList ++ Rows.fnExactWorstSlackSpec.plain.varTypes Tryz.prog).any (Tryz.prog.ifacesRec ·)) = true := by kernel_rfl
theorem fnExactWorstSlack_j15 : (Rows.fnExactWorstSlackRow.mapsOut == Tryz.prog.mapsAmong Tryz.f8.resultTypes.toList) = true := by kernel_rfl
theorem fnExactWorstSlack_j16 : (Rows.fnExactWorstSlackRow.loops == (Tryz.f8.params.toList ++ Rows.fnExactWorstSlackSpec.plain.varTypes Tryz.prog).any (Tryz.prog.loopsFrom ·)) = true := by kernel_rfl
theorem fnExactWorstSlack_j17 : (Rows.fnExactWorstSlackRow.wideKeys == (Tryz.f8.params.toList ++ Rows.fnExactWorstSlackSpec.plain.varTypes Tryz.prog ++ Tryz.f8.resultTypes.toList).any (Tryz.prog.wideKeysFrom ·)) = true := by kernel_rfl
theorem fnExactWorstSlack_j18 : (Rows.fnExactWorstSlackSpec.vars.all (Tryz.prog.varReadable ·)) = true := by kernel_rfl
theorem fnExactWorstSlack_j19 : (Tryz.f8.resultTypes.all (fun t => Tryz.prog.readableRec t && decide (t < Tryz.prog.types.size))) = true := by kernel_rfl
theorem fnExactWorstSlack_j20 : (Rows.fnExactWorstSlackRow.ifacesOut == Tryz.f8.resultTypes.toList.any (Tryz.prog.ifacesRec ·)) = true := by kernel_rfl
theorem fnExactWorstSlack_j21 : (Rows.fnExactWorstSlackRow.loopsOut == Tryz.f8.resultTypes.toList.any (Tryz.prog.loopsFrom ·)) = true := by kernel_rfl
theorem fnExactWorstSlack_j22 : (Rows.fnExactWorstSlackRow.plainKeys == Tryz.prog.plainKeys) = true := by kernel_rfl
theorem fnExactWorstSlack_j23 : (Rows.fnExactWorstSlackRow.shortTexts.isNone) = true := by kernel_rfl
theorem fnExactWorstSlack_j24 : (Tryz.prog.stopsHeard) = true := by kernel_rfl
theorem fnExactWorstSlack_j25 : (Tryz.prog.mayEnter) = true := by kernel_rfl
theorem fnExactWorstSlack_j26 : (Rows.fnExactWorstSlackRow.lifted == Tryz.prog.liftsFinal) = true := by kernel_rfl
theorem fnExactWorstSlack_j27 : (Tryz.prog.make == some Rows.fnExactWorstSlackRow.make) = true := by kernel_rfl
theorem fnExactWorstSlack_j28 : (Rows.fnExactWorstSlackRow.kinds == (if Rows.fnExactWorstSlackRow.domain.isEmpty then [] else Tryz.f8.params.toList.map fun t => match Tryz.prog.underlying t with | some (.int k) => some k | _ => none)) = true := by kernel_rfl
theorem fnExactWorstSlack_j29 : (Rows.fnExactWorstSlackRow.pinned == Rows.fnExactWorstSlackRow.pinnedBy) = true := by kernel_rfl
theorem fnExactWorstSlack_j30 : (Rows.fnExactWorstSlackRow.veiled == (Tryz.f8.params.toList ++ Rows.fnExactWorstSlackSpec.plain.varTypes Tryz.prog ++ Tryz.f8.resultTypes.toList).any (Tryz.prog.veiledRec ·)) = true := by kernel_rfl
theorem fnExactWorstSlack_j31 : (Rows.fnExactWorstSlackRow.veiledFits Tryz.prog Tryz.f8.params.toList (Tryz.f8.params.toList ++ Rows.fnExactWorstSlackSpec.plain.varTypes Tryz.prog ++ Tryz.f8.resultTypes.toList)) = true := by kernel_rfl
theorem fnExactWorstSlack_fn : Tryz.prog.funcNamed Rows.fnExactWorstSlackRow.func = some 8 := by kernel_rfl
end Go.Proofs.YtjijjanefcaakaaGreatDoor
