/- Facts of the program that the row of FnGatingShift names, each computed; no condition. -/
import Derived.Test.YthojemmmflaicacGreatDoorRows
import Derived.ProofKit
import Derived.JoinedOf
import Derived.KernelRfl
set_option linter.all false
set_option maxRecDepth 100000
namespace Go.Proofs.YthojemmmflaicacGreatDoor
open Go.ChangeShapes Go.WideShapes Go.ChangeAt Go.RowKit
theorem fnGatingShift_j0 : (Rows.fnGatingShiftRow.wf (OpenSpec.ofChange Rows.fnGatingShiftSpec)) = true := by kernel_rfl
theorem fnGatingShift_j2 : (mapsRowed Tryz.prog) = true := by kernel_rfl
theorem fnGatingShift_j3 : (Tryz.f3.params.all (Tryz.prog.readableRec ·)) = true := by kernel_rfl
theorem fnGatingShift_j4 : (namedTie Tryz.prog Rows.fnGatingShiftRow.named Rows.fnGatingShiftSpec.vars) = true := by kernel_rfl
theorem fnGatingShift_j5 : (Rows.fnGatingShiftRow.stops == []) = true := by kernel_rfl
theorem fnGatingShift_j6 : (Tryz.prog.stops == []) = true := by kernel_rfl
theorem fnGatingShift_j7 : (Rows.fnGatingShiftRow.knobs == []) = true := by kernel_rfl
theorem fnGatingShift_j8 : (Tryz.prog.stopKnobs == []) = true := by kernel_rfl
theorem fnGatingShift_j13 : (Rows.fnGatingShiftRow.maps == (Tryz.f3.params.toList ++ Rows.fnGatingShiftSpec.plain.varTypes Tryz.prog).any (Tryz.prog.mapsRec ·)) = true := by kernel_rfl
theorem fnGatingShift_j14 : (Rows.fnGatingShiftRow.ifaces == (Tryz.f3.params.toList ++ Rows.fnGatingShiftSpec.plain.varTypes Tryz.prog).any (Tryz.prog.ifacesRec ·)) = true := by kernel_rfl
theorem fnGatingShift_j15 : (Rows.fnGatingShiftRow.mapsOut == Tryz.prog.mapsAmong Tryz.f3.resultTypes.toList) = true := by kernel_rfl
theorem fnGatingShift_j16 : (Rows.fnGatingShiftRow.loops == (Tryz.f3.params.toList ++ Rows.fnGatingShiftSpec.plain.varTypes Tryz.prog).any (Tryz.prog.loopsFrom ·)) = true := by kernel_rfl
theorem fnGatingShift_j17 : (Rows.fnGatingShiftRow.wideKeys == (Tryz.f3.params.toList ++ Rows.fnGatingShiftSpec.plain.varTypes Tryz.prog ++ Tryz.f3.resultTypes.toList).any (Tryz.prog.wideKeysFrom ·)) = true := by kernel_rfl
theorem fnGatingShift_j18 : (Rows.fnGatingShiftSpec.vars.all (Tryz.prog.varReadable ·)) = true := by kernel_rfl
theorem fnGatingShift_j19 : (Tryz.f3.resultTypes.all (fun t => Tryz.prog.readableRec t && decide (t < Tryz.prog.types.size))) = true := by kernel_rfl
theorem fnGatingShift_j20 : (Rows.fnGatingShiftRow.ifacesOut == Tryz.f3.resultTypes.toList.any (Tryz.prog.ifacesRec ·)) = true := by kernel_rfl
theorem fnGatingShift_j21 : (Rows.fnGatingShiftRow.loopsOut == Tryz.f3.resultTypes.toList.any (Tryz.prog.loopsFrom ·)) = true := by kernel_rfl
theorem fnGatingShift_j22 : (Rows.fnGatingShiftRow.plainKeys == Tryz.prog.plainKeys) = true := by kernel_rfl
theorem fnGatingShift_j23 : (Rows.fnGatingShiftRow.shortTexts.isNone) = true := by kernel_rfl
theorem fnGatingShift_j24 : (Tryz.prog.stopsHeard) = true := by kernel_rfl
theorem fnGatingShift_j25 : (Tryz.prog.mayEnter) = true := by kernel_rfl
theorem fnGatingShift_j26 : (Rows.fnGatingShiftRow.lifted == Tryz.prog.liftsFinal) = true := by kernel_rfl
theorem fnGatingShift_j27 : (Tryz.prog.make == some Rows.fnGatingShiftRow.make) = true := by kernel_rfl
theorem fnGatingShift_j28 : (Rows.fnGatingShiftRow.kinds == (if Rows.fnGatingShiftRow.domain.isEmpty then [] else Tryz.f3.params.toList.map fun t => match Tryz.prog.underlying t with | some (.int k) => some k | _ => none)) = true := by kernel_rfl
theorem fnGatingShift_j29 : (Rows.fnGatingShiftRow.pinned == Rows.fnGatingShiftRow.pinnedBy) = true := by kernel_rfl
theorem fnGatingShift_j30 : (Rows.fnGatingShiftRow.veiled == (Tryz.f3.params.toList ++ Rows.fnGatingShiftSpec.plain.varTypes Tryz.prog ++ Tryz.f3.resultTypes.toList).any (Tryz.prog.veiledRec ·)) = true := by kernel_rfl
theorem fnGatingShift_j31 : (Rows.fnGatingShiftRow.veiledFits Tryz.prog Tryz.f3.params.toList (Tryz.f3.params.toList ++ Rows.fnGatingShiftSpec.plain.varTypes Tryz.prog ++ Tryz.f3.resultTypes.toList)) = true := by kernel_rfl
theorem fnGatingShift_fn : Tryz.prog.funcNamed Rows.fnGatingShiftRow.func = some 3 := by kernel_rfl
end Go.Proofs.YthojemmmflaicacGreatDoor
