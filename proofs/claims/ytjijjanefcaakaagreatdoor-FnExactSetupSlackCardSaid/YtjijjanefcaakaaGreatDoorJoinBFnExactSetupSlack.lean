/- Facts of the program that the row of FnExactSetupSlack names, each computed; no condition. -/
import Derived.Test.YtjijjanefcaakaaGreatDoorRows
import Derived.ProofKit
import Derived.JoinedOf
import Derived.KernelRfl
set_option linter.all false
set_option maxRecDepth 100000
namespace Go.Proofs.YtjijjanefcaakaaGreatDoor
open Go.ChangeShapes Go.WideShapes Go.ChangeAt Go.RowKit
theorem fnExactSetupSlack_j0 : (Rows.fnExactSetupSlackRow.wf (OpenSpec.ofChange Rows.fnExactSetupSlackSpec)) = true := by kernel_rfl
theorem fnExactSetupSlack_j2 : (mapsRowed Tryz.prog) = true := by kernel_rfl
theorem fnExactSetupSlack_j3 : (Tryz.f13.params.all (Tryz.prog.readableRec ·)) = true := by kernel_rfl
theorem fnExactSetupSlack_j4 : (namedTie Tryz.prog Rows.fnExactSetupSlackRow.named Rows.fnExactSetupSlackSpec.vars) = true := by kernel_rfl
theorem fnExactSetupSlack_j5 : (Rows.fnExactSetupSlackRow.stops == []) = true := by kernel_rfl
theorem fnExactSetupSlack_j6 : (Tryz.prog.stops == []) = true := by kernel_rfl
theorem fnExactSetupSlack_j7 : (Rows.fnExactSetupSlackRow.knobs == []) = true := by kernel_rfl
theorem fnExactSetupSlack_j8 : (Tryz.prog.stopKnobs == []) = true := by kernel_rfl
theorem fnExactSetupSlack_j13 : (Rows.fnExactSetupSlackRow.maps == (Tryz.f13.params.toList ++ Rows.fnExactSetupSlackSpec.plain.varTypes Tryz.prog).any (Tryz.prog.mapsRec ·)) = true := by kernel_rfl
theorem fnExactSetupSlack_j14 : (Rows.fnExactSetupSlackRow.ifaces == (Tryz.f13.params.toList ++ Rows.fnExactSetupSlackSpec.plain.varTypes Tryz.prog).any (Tryz.prog.ifacesRec ·)) = true := by kernel_rfl
theorem fnExactSetupSlack_j15 : (Rows.fnExactSetupSlackRow.mapsOut == Tryz.prog.mapsAmong Tryz.f13.resultTypes.toList) = true := by kernel_rfl
theorem fnExactSetupSlack_j16 : (Rows.fnExactSetupSlackRow.loops == (Tryz.f13.params.toList ++ Rows.fnExactSetupSlackSpec.plain.varTypes Tryz.prog).any (Tryz.prog.loopsFrom ·)) = true := by kernel_rfl
theorem fnExactSetupSlack_j17 : (Rows.fnExactSetupSlackRow.wideKeys == (Tryz.f13.params.toList ++ Rows.fnExactSetupSlackSpec.plain.varTypes Tryz.prog ++ Tryz.f13.resultTypes.toList).any (Tryz.prog.wideKeysFrom ·)) = true := by kernel_rfl
theorem fnExactSetupSlack_j18 : (Rows.fnExactSetupSlackSpec.vars.all (Tryz.prog.varReadable ·)) = true := by kernel_rfl
theorem fnExactSetupSlack_j19 : (Tryz.f13.resultTypes.all (fun t => Tryz.prog.readableRec t && decide (t < Tryz.prog.types.size))) = true := by kernel_rfl
theorem fnExactSetupSlack_j20 : (Rows.fnExactSetupSlackRow.ifacesOut == Tryz.f13.resultTypes.toList.any (Tryz.prog.ifacesRec ·)) = true := by kernel_rfl
theorem fnExactSetupSlack_j21 : (Rows.fnExactSetupSlackRow.loopsOut == Tryz.f13.resultTypes.toList.any (Tryz.prog.loopsFrom ·)) = true := by kernel_rfl
theorem fnExactSetupSlack_j22 : (Rows.fnExactSetupSlackRow.plainKeys == Tryz.prog.plainKeys) = true := by kernel_rfl
theorem fnExactSetupSlack_j23 : (Rows.fnExactSetupSlackRow.shortTexts.isNone) = true := by kernel_rfl
theorem fnExactSetupSlack_j24 : (Tryz.prog.stopsHeard) = true := by kernel_rfl
theorem fnExactSetupSlack_j25 : (Tryz.prog.mayEnter) = true := by kernel_rfl
theorem fnExactSetupSlack_j26 : (Rows.fnExactSetupSlackRow.lifted == Tryz.prog.liftsFinal) = true := by kernel_rfl
theorem fnExactSetupSlack_j27 : (Tryz.prog.make == some Rows.fnExactSetupSlackRow.make) = true := by kernel_rfl
theorem fnExactSetupSlack_j28 : (Rows.fnExactSetupSlackRow.kinds == (if Rows.fnExactSetupSlackRow.domain.isEmpty then [] else Tryz.f13.params.toList.map fun t => match Tryz.prog.underlying t with | some (.int k) => some k | _ => none)) = true := by kernel_rfl
theorem fnExactSetupSlack_j29 : (Rows.fnExactSetupSlackRow.pinned == Rows.fnExactSetupSlackRow.pinnedBy) = true := by kernel_rfl
theorem fnExactSetupSlack_j30 : (Rows.fnExactSetupSlackRow.veiled == (Tryz.f13.params.toList ++ Rows.fnExactSetupSlackSpec.plain.varTypes Tryz.prog ++ Tryz.f13.resultTypes.toList).any (Tryz.prog.veiledRec ·)) = true := by kernel_rfl
theorem fnExactSetupSlack_j31 : (Rows.fnExactSetupSlackRow.veiledFits Tryz.prog Tryz.f13.params.toList (Tryz.f13.params.toList ++ Rows.fnExactSetupSlackSpec.plain.varTypes Tryz.prog ++ Tryz.f13.resultTypes.toList)) = true := by kernel_rfl
theorem fnExactSetupSlack_fn : Tryz.prog.funcNamed Rows.fnExactSetupSlackRow.func = some 13 := by kernel_rfl
end Go.Proofs.YtjijjanefcaakaaGreatDoor
