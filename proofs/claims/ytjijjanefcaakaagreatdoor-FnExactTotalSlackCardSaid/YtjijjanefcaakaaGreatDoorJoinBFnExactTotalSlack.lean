/- Facts of the program that the row of FnExactTotalSlack names, each computed; no condition. -/
import Derived.Test.YtjijjanefcaakaaGreatDoorRows
import Derived.ProofKit
import Derived.JoinedOf
import Derived.KernelRfl
set_option linter.all false
set_option maxRecDepth 100000
namespace Go.Proofs.YtjijjanefcaakaaGreatDoor
open Go.ChangeShapes Go.WideShapes Go.ChangeAt Go.RowKit
theorem fnExactTotalSlack_j0 : (Rows.fnExactTotalSlackRow.wf (OpenSpec.ofChange Rows.fnExactTotalSlackSpec)) = true := by kernel_rfl
theorem fnExactTotalSlack_j2 : (mapsRowed Tryz.prog) = true := by kernel_rfl
theorem fnExactTotalSlack_j3 : (Tryz.f10.params.all (Tryz.prog.readableRec ·)) = true := by kernel_rfl
theorem fnExactTotalSlack_j4 : (namedTie Tryz.prog Rows.fnExactTotalSlackRow.named Rows.fnExactTotalSlackSpec.vars) = true := by kernel_rfl
theorem fnExactTotalSlack_j5 : (Rows.fnExactTotalSlackRow.stops == []) = true := by kernel_rfl
theorem fnExactTotalSlack_j6 : (Tryz.prog.stops == []) = true := by kernel_rfl
theorem fnExactTotalSlack_j7 : (Rows.fnExactTotalSlackRow.knobs == []) = true := by kernel_rfl
theorem fnExactTotalSlack_j8 : (Tryz.prog.stopKnobs == []) = true := by kernel_rfl
theorem fnExactTotalSlack_j13 : (Rows.fnExactTotalSlackRow.maps == (Tryz.f10.params.toList ++ Rows.fnExactTotalSlackSpec.plain.varTypes Tryz.prog).any (Tryz.prog.mapsRec ·)) = true := by kernel_rfl
theorem fnExactTotalSlack_j14 : (Rows.fnExactTotalSlackRow.ifaces == (Tryz.f10.params.toList ++ Rows.fnExactTotalSlackSpec.plain.varTypes Tryz.prog).any (Tryz.prog.ifacesRec ·)) = true := by kernel_rfl
theorem fnExactTotalSlack_j15 : (Rows.fnExactTotalSlackRow.mapsOut == Tryz.prog.mapsAmong Tryz.f10.resultTypes.toList) = true := by kernel_rfl
theorem fnExactTotalSlack_j16 : (Rows.fnExactTotalSlackRow.loops == (Tryz.f10.params.toList ++ Rows.fnExactTotalSlackSpec.plain.varTypes Tryz.prog).any (Tryz.prog.loopsFrom ·)) = true := by kernel_rfl
theorem fnExactTotalSlack_j17 : (Rows.fnExactTotalSlackRow.wideKeys == (Tryz.f10.params.toList ++ Rows.fnExactTotalSlackSpec.plain.varTypes Tryz.prog ++ Tryz.f10.resultTypes.toList).any (Tryz.prog.wideKeysFrom ·)) = true := by kernel_rfl
theorem fnExactTotalSlack_j18 : (Rows.fnExactTotalSlackSpec.vars.all (Tryz.prog.varReadable ·)) = true := by kernel_rfl
theorem fnExactTotalSlack_j19 : (Tryz.f10.resultTypes.all (fun t => Tryz.prog.readableRec t && decide (t < Tryz.prog.types.size))) = true := by kernel_rfl
theorem fnExactTotalSlack_j20 : (Rows.fnExactTotalSlackRow.ifacesOut == Tryz.f10.resultTypes.toList.any (Tryz.prog.ifacesRec ·)) = true := by kernel_rfl
theorem fnExactTotalSlack_j21 : (Rows.fnExactTotalSlackRow.loopsOut == Tryz.f10.resultTypes.toList.any (Tryz.prog.loopsFrom ·)) = true := by kernel_rfl
theorem fnExactTotalSlack_j22 : (Rows.fnExactTotalSlackRow.plainKeys == Tryz.prog.plainKeys) = true := by kernel_rfl
theorem fnExactTotalSlack_j23 : (Rows.fnExactTotalSlackRow.shortTexts.isNone) = true := by kernel_rfl
theorem fnExactTotalSlack_j24 : (Tryz.prog.stopsHeard) = true := by kernel_rfl
theorem fnExactTotalSlack_j25 : (Tryz.prog.mayEnter) = true := by kernel_rfl
theorem fnExactTotalSlack_j26 : (Rows.fnExactTotalSlackRow.lifted == Tryz.prog.liftsFinal) = true := by kernel_rfl
theorem fnExactTotalSlack_j27 : (Tryz.prog.make == some Rows.fnExactTotalSlackRow.make) = true := by kernel_rfl
theorem fnExactTotalSlack_j28 : (Rows.fnExactTotalSlackRow.kinds == (if Rows.fnExactTotalSlackRow.domain.isEmpty then [] else Tryz.f10.params.toList.map fun t => match Tryz.prog.underlying t with | some (.int k) => some k | _ => none)) = true := by kernel_rfl
theorem fnExactTotalSlack_j29 : (Rows.fnExactTotalSlackRow.pinned == Rows.fnExactTotalSlackRow.pinnedBy) = true := by kernel_rfl
theorem fnExactTotalSlack_j30 : (Rows.fnExactTotalSlackRow.veiled == (Tryz.f10.params.toList ++ Rows.fnExactTotalSlackSpec.plain.varTypes Tryz.prog ++ Tryz.f10.resultTypes.toList).any (Tryz.prog.veiledRec ·)) = true := by kernel_rfl
theorem fnExactTotalSlack_j31 : (Rows.fnExactTotalSlackRow.veiledFits Tryz.prog Tryz.f10.params.toList (Tryz.f10.params.toList ++ Rows.fnExactTotalSlackSpec.plain.varTypes Tryz.prog ++ Tryz.f10.resultTypes.toList)) = true := by kernel_rfl
theorem fnExactTotalSlack_fn : Tryz.prog.funcNamed Rows.fnExactTotalSlackRow.func = some 10 := by kernel_rfl
end Go.Proofs.YtjijjanefcaakaaGreatDoor
