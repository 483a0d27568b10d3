/- Facts of the program that the row of FnExactHoldSlack names, each computed; no condition. -/
import Derived.Test.YtjijjanefcaakaaGreatDoorRows
import Derived.ProofKit
import Derived.JoinedOf
import Derived.KernelRfl
set_option linter.all false
set_option maxRecDepth 100000
namespace Go.Proofs.YtjijjanefcaakaaGreatDoor
open Go.ChangeShapes Go.WideShapes Go.ChangeAt Go.RowKit
theorem fnExactHoldSlack_j0 : (Rows.fnExactHoldSlackRow.wf (OpenSpec.ofChange Rows.fnExactHoldSlackSpec)) = true := by kernel_rfl
theorem fnExactHoldSlack_j2 : (mapsRowed Tryz.prog) = true := by kernel_rfl
theorem fnExactHoldSlack_j3 : (Tryz.f12.params.all (Tryz.prog.readableRec ·)) = true := by kernel_rfl
theorem fnExactHoldSlack_j4 : (namedTie Tryz.prog Rows.fnExactHoldSlackRow.named Rows.fnExactHoldSlackSpec.vars) = true := by kernel_rfl
theorem fnExactHoldSlack_j5 : (Rows.fnExactHoldSlackRow.stops == []) = true := by kernel_rfl
theorem fnExactHoldSlack_j6 : (Tryz.prog.stops == []) = true := by kernel_rfl
theorem fnExactHoldSlack_j7 : (Rows.fnExactHoldSlackRow.knobs == []) = true := by kernel_rfl
theorem fnExactHoldSlack_j8 : (Tryz.prog.stopKnobs == []) = true := by kernel_rfl
theorem fnExactHoldSlack_j13 : (Rows.fnExactHoldSlackRow.maps == (Tryz.f12.params.toList ++ Rows.fnExactHoldSlackSpec.plain.varTypes Tryz.prog).any (Tryz.prog.mapsRec ·)) = true := by kernel_rfl
theorem fnExactHoldSlack_j14 : (Rows.fnExactHoldSlackRow.ifaces == (Tryz.f12.params.toList ++ Rows.fnExactHoldSlackSpec.plain.varTypes Tryz.prog).any (Tryz.prog.ifacesRec ·)) = true := by kernel_rfl
theorem fnExactHoldSlack_j15 : (Rows.fnExactHoldSlackRow.mapsOut == Tryz.prog.mapsAmong Tryz.f12.resultTypes.toList) = true := by kernel_rfl
theorem fnExactHoldSlack_j16 : (Rows.fnExactHoldSlackRow.loops == (Tryz.f12.params.toList ++ Rows.fnExactHoldSlackSpec.plain.varTypes Tryz.prog).any (Tryz.prog.loopsFrom ·)) = true := by kernel_rfl
theorem fnExactHoldSlack_j17 : (Rows.fnExactHoldSlackRow.wideKeys == (Tryz.f12.params.toList ++ Rows.fnExactHoldSlackSpec.plain.varTypes Tryz.prog ++ Tryz.f12.resultTypes.toList).any (Tryz.prog.wideKeysFrom ·)) = true := by kernel_rfl
theorem fnExactHoldSlack_j18 : (Rows.fnExactHoldSlackSpec.vars.all (Tryz.prog.varReadable ·)) = true := by kernel_rfl
theorem fnExactHoldSlack_j19 : (Tryz.f12.resultTypes.all (fun t => Tryz.prog.readableRec t && decide (t < Tryz.prog.types.size))) = true := by kernel_rfl
theorem fnExactHoldSlack_j20 : (Rows.fnExactHoldSlackRow.ifacesOut == Tryz.f12.resultTypes.toList.any (Tryz.prog.ifacesRec ·)) = true := by kernel_rfl
theorem fnExactHoldSlack_j21 : (Rows.fnExactHoldSlackRow.loopsOut == Tryz.f12.resultTypes.toList.any (Tryz.prog.loopsFrom ·)) = true := by kernel_rfl
theorem fnExactHoldSlack_j22 : (Rows.fnExactHoldSlackRow.plainKeys == Tryz.prog.plainKeys) = true := by kernel_rfl
theorem fnExactHoldSlack_j23 : (Rows.fnExactHoldSlackRow.shortTexts.isNone) = true := by kernel_rfl
theorem fnExactHoldSlack_j24 : (Tryz.prog.stopsHeard) = true := by kernel_rfl
theorem fnExactHoldSlack_j25 : (Tryz.prog.mayEnter) = true := by kernel_rfl
theorem fnExactHoldSlack_j26 : (Rows.fnExactHoldSlackRow.lifted == Tryz.prog.liftsFinal) = true := by kernel_rfl
theorem fnExactHoldSlack_j27 : (Tryz.prog.make == some Rows.fnExactHoldSlackRow.make) = true := by kernel_rfl
theorem fnExactHoldSlack_j28 : (Rows.fnExactHoldSlackRow.kinds == (if Rows.fnExactHoldSlackRow.domain.isEmpty then [] else Tryz.f12.params.toList.map fun t => match Tryz.prog.underlying t with | some (.int k) => some k | _ => none)) = true := by kernel_rfl
theorem fnExactHoldSlack_j29 : (Rows.fnExactHoldSlackRow.pinned == Rows.fnExactHoldSlackRow.pinnedBy) = true := by kernel_rfl
theorem fnExactHoldSlack_j30 : (Rows.fnExactHoldSlackRow.veiled == (Tryz.f12.params.toList ++ Rows.fnExactHoldSlackSpec.plain.varTypes Tryz.prog ++ Tryz.f12.resultTypes.toList).any (Tryz.prog.veiledRec ·)) = true := by kernel_rfl
theorem fnExactHoldSlack_j31 : (Rows.fnExactHoldSlackRow.veiledFits Tryz.prog Tryz.f12.params.toList (Tryz.f12.params.toList ++ Rows.fnExactHoldSlackSpec.plain.varTypes Tryz.prog ++ Tryz.f12.resultTypes.toList)) = true := by kernel_rfl
theorem fnExactHoldSlack_fn : Tryz.prog.funcNamed Rows.fnExactHoldSlackRow.func = some 12 := by kernel_rfl
end Go.Proofs.YtjijjanefcaakaaGreatDoor
