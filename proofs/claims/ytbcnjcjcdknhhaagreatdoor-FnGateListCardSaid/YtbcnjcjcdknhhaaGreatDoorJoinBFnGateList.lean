/- Facts of the program that the row of FnGateList names, each computed; no condition. -/
import Derived.Test.YtbcnjcjcdknhhaaGreatDoorRows
import Derived.ProofKit
import Derived.JoinedOf
import Derived.KernelRfl
set_option linter.all false
set_option maxRecDepth 100000
namespace Go.Proofs.YtbcnjcjcdknhhaaGreatDoor
open Go.ChangeShapes Go.WideShapes Go.ChangeAt Go.RowKit
theorem fnGateList_j0 : (Rows.fnGateListRow.wf (OpenSpec.ofChange Rows.fnGateListSpec)) = true := by kernel_rfl
theorem fnGateList_j2 : (mapsRowed Tryz.prog) = true := by kernel_rfl
theorem fnGateList_j3 : (Tryz.f4.params.all (Tryz.prog.readableRec ·)) = true := by kernel_rfl
theorem fnGateList_j4 : (namedTie Tryz.prog Rows.fnGateListRow.named Rows.fnGateListSpec.vars) = true := by kernel_rfl
theorem fnGateList_j5 : (Rows.fnGateListRow.stops == []) = true := by kernel_rfl
theorem fnGateList_j6 : (Tryz.prog.stops == []) = true := by kernel_rfl
theorem fnGateList_j7 : (Rows.fnGateListRow.knobs == []) = true := by kernel_rfl
theorem fnGateList_j8 : (Tryz.prog.stopKnobs == []) = true := by kernel_rfl
theorem fnGateList_j13 : (Rows.fnGateListRow.maps == (Tryz.f4.params.toList ++ Rows.fnGateListSpec.plain.varTypes Tryz.prog).any (Tryz.prog.mapsRec ·)) = true := by kernel_rfl
theorem fnGateList_j14 : (Rows.fnGateListRow.ifaces == (Tryz.f4.params.toList ++ Rows.fnGateListSpec.plain.varTypes Tryz.prog).any (Tryz.prog.ifacesRec ·)) = true := by kernel_rfl
theorem fnGateList_j15 : (Rows.fnGateListRow.mapsOut == Tryz.prog.mapsAmong Tryz.f4.resultTypes.toList) = true := by kernel_rfl
theorem fnGateList_j16 : (Rows.fnGateListRow.loops == (Tryz.f4.params.toList ++ Rows.fnGateListSpec.plain.varTypes Tryz.prog).any (Tryz.prog.loopsFrom ·)) = true := by kernel_rfl
theorem fnGateList_j17 : (Rows.fnGateListRow.wideKeys == (Tryz.f4.params.toList ++ Rows.fnGateListSpec.plain.varTypes Tryz.prog ++ Tryz.f4.resultTypes.toList).any (Tryz.prog.wideKeysFrom ·)) = true := by kernel_rfl
theorem fnGateList_j18 : (Rows.fnGateListSpec.vars.all (Tryz.prog.varReadable ·)) = true := by kernel_rfl
theorem fnGateList_j19 : (Tryz.f4.resultTypes.all (fun t => Tryz.prog.readableRec t && decide (t < Tryz.prog.types.size))) = true := by kernel_rfl
theorem fnGateList_j20 : (Rows.fnGateListRow.ifacesOut == Tryz.f4.resultTypes.toList.any (Tryz.prog.ifacesRec ·)) = true := by kernel_rfl
theorem fnGateList_j21 : (Rows.fnGateListRow.loopsOut == Tryz.f4.resultTypes.toList.any (Tryz.prog.loopsFrom ·)) = true := by kernel_rfl
theorem fnGateList_j22 : (Rows.fnGateListRow.plainKeys == Tryz.prog.plainKeys) = true := by kernel_rfl
theorem fnGateList_j23 : (Rows.fnGateListRow.shortTexts.isNone) = true := by kernel_rfl
theorem fnGateList_j24 : (Tryz.prog.stopsHeard) = true := by kernel_rfl
theorem fnGateList_j25 : (Tryz.prog.mayEnter) = true := by kernel_rfl
theorem fnGateList_j26 : (Rows.fnGateListRow.lifted == Tryz.prog.liftsFinal) = true := by kernel_rfl
theorem fnGateList_j27 : (Tryz.prog.make == some Rows.fnGateListRow.make) = true := by kernel_rfl
theorem fnGateList_j28 : (Rows.fnGateListRow.kinds == (if Rows.fnGateListRow.domain.isEmpty then [] else Tryz.f4.params.toList.map fun t => match Tryz.prog.underlying t with | some (.int k) => some k | _ => none)) = true := by kernel_rfl
theorem fnGateList_j29 : (Rows.fnGateListRow.pinned == Rows.fnGateListRow.pinnedBy) = true := by kernel_rfl
theorem fnGateList_j30 : (Rows.fnGateListRow.veiled == (Tryz.f4.params.toList ++ Rows.fnGateListSpec.plain.varTypes Tryz.prog ++ Tryz.f4.resultTypes.toList).any (Tryz.prog.veiledRec ·)) = true := by kernel_rfl
theorem fnGateList_j31 : (Rows.fnGateListRow.veiledFits Tryz.prog Tryz.f4.params.toList (Tryz.f4.params.toList ++ Rows.fnGateListSpec.plain.varTypes Tryz.prog ++ Tryz.f4.resultTypes.toList)) = true := by kernel_rfl
theorem fnGateList_fn : Tryz.prog.funcNamed Rows.fnGateListRow.func = some 4 := by kernel_rfl
end Go.Proofs.YtbcnjcjcdknhhaaGreatDoor
