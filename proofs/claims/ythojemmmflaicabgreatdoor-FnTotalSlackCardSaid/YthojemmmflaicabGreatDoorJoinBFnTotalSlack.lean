/- Facts of the program that the row of FnTotalSlack names, each computed; no condition. -/
import Derived.Test.YthojemmmflaicabGreatDoorRows
import Derived.ProofKit
import Derived.JoinedOf
import Derived.KernelRfl
set_option linter.all false
set_option maxRecDepth 100000
namespace Go.Proofs.YthojemmmflaicabGreatDoor
open Go.ChangeShapes Go.WideShapes Go.ChangeAt Go.RowKit
theorem fnTotalSlack_j0 : (Rows.fnTotalSlackRow.wf (OpenSpec.ofChange Rows.fnTotalSlackSpec)) = true := by kernel_rfl
theorem fnTotalSlack_j2 : (mapsRowed Tryz.prog) = true := by kernel_rfl
theorem fnTotalSlack_j3 : (Tryz.f3.params.all (Tryz.prog.readableRec ·)) = true := by kernel_rfl
theorem fnTotalSlack_j4 : (namedTie Tryz.prog Rows.fnTotalSlackRow.named Rows.fnTotalSlackSpec.vars) = true := by kernel_rfl
theorem fnTotalSlack_j5 : (Rows.fnTotalSlackRow.stops == []) = true := by kernel_rfl
theorem fnTotalSlack_j6 : (Tryz.prog.stops == []) = true := by kernel_rfl
theorem fnTotalSlack_j7 : (Rows.fnTotalSlackRow.knobs == []) = true := by kernel_rfl
theorem fnTotalSlack_j8 : (Tryz.prog.stopKnobs == []) = true := by kernel_rfl
theorem fnTotalSlack_j13 : (Rows.fnTotalSlackRow.maps == (Tryz.f3.params.toList ++ Rows.fnTotalSlackSpec.plain.varTypes Tryz.prog).any (Tryz.prog.mapsRec ·)) = true := by kernel_rfl
theorem fnTotalSlack_j14 : (Rows.fnTotalSlackRow.ifaces == (Tryz.f3.params.toList ++ Rows.fnTotalSlackSpec.plain.varTypes Tryz.prog).any (Tryz.prog.ifacesRec ·)) = true := by kernel_rfl
theorem fnTotalSlack_j15 : (Rows.fnTotalSlackRow.mapsOut == Tryz.prog.mapsAmong Tryz.f3.resultTypes.toList) = true := by kernel_rfl
theorem fnTotalSlack_j16 : (Rows.fnTotalSlackRow.loops == (Tryz.f3.params.toList ++ Rows.fnTotalSlackSpec.plain.varTypes Tryz.prog).any (Tryz.prog.loopsFrom ·)) = true := by kernel_rfl
theorem fnTotalSlack_j17 : (Rows.fnTotalSlackRow.wideKeys == (Tryz.f3.params.toList ++ Rows.fnTotalSlackSpec.plain.varTypes Tryz.prog ++ Tryz.f3.resultTypes.toList).any (Tryz.prog.wideKeysFrom ·)) = true := by kernel_rfl
theorem fnTotalSlack_j18 : (Rows.fnTotalSlackSpec.vars.all (Tryz.prog.varReadable ·)) = true := by kernel_rfl
theorem fnTotalSlack_j19 : (Tryz.f3.resultTypes.all (fun t => Tryz.prog.readableRec t && decide (t < Tryz.prog.types.size))) = true := by kernel_rfl
theorem fnTotalSlack_j20 : (Rows.fnTotalSlackRow.ifacesOut == Tryz.f3.resultTypes.toList.any (Tryz.prog.ifacesRec ·)) = true := by kernel_rfl
theorem fnTotalSlack_j21 : (Rows.fnTotalSlackRow.loopsOut == Tryz.f3.resultTypes.toList.any (Tryz.prog.loopsFrom ·)) = true := by kernel_rfl
theorem fnTotalSlack_j22 : (Rows.fnTotalSlackRow.plainKeys == Tryz.prog.plainKeys) = true := by kernel_rfl
theorem fnTotalSlack_j23 : (Rows.fnTotalSlackRow.shortTexts.isNone) = true := by kernel_rfl
theorem fnTotalSlack_j24 : (Tryz.prog.stopsHeard) = true := by kernel_rfl
theorem fnTotalSlack_j25 : (Tryz.prog.mayEnter) = true := by kernel_rfl
theorem fnTotalSlack_j26 : (Rows.fnTotalSlackRow.lifted == Tryz.prog.liftsFinal) = true := by kernel_rfl
theorem fnTotalSlack_j27 : (Tryz.prog.make == some Rows.fnTotalSlackRow.make) = true := by kernel_rfl
theorem fnTotalSlack_j28 : (Rows.fnTotalSlackRow.kinds == (if Rows.fnTotalSlackRow.domain.isEmpty then [] else Tryz.f3.params.toList.map fun t => match Tryz.prog.underlying t with | some (.int k) => some k | _ => none)) = true := by kernel_rfl
theorem fnTotalSlack_j29 : (Rows.fnTotalSlackRow.pinned == Rows.fnTotalSlackRow.pinnedBy) = true := by kernel_rfl
theorem fnTotalSlack_j30 : (Rows.fnTotalSlackRow.veiled == (Tryz.f3.params.toList ++ Rows.fnTotalSlackSpec.plain.varTypes Tryz.prog ++ Tryz.f3.resultTypes.toList).any (Tryz.prog.veiledRec ·)) = true := by kernel_rfl
theorem fnTotalSlack_j31 : (Rows.fnTotalSlackRow.veiledFits Tryz.prog Tryz.f3.params.toList (Tryz.f3.params.toList ++ Rows.fnTotalSlackSpec.plain.varTypes Tryz.prog ++ Tryz.f3.resultTypes.toList)) = true := by kernel_rfl
theorem fnTotalSlack_fn : Tryz.prog.funcNamed Rows.fnTotalSlackRow.func = some 3 := by kernel_rfl
end Go.Proofs.YthojemmmflaicabGreatDoor
