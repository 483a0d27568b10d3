/- Facts of the program that the row of FnChecks names, each computed; no condition. -/
import Derived.Test.YthojemmmflaicaaGreatDoorRows
import Derived.ProofKit
import Derived.JoinedOf
import Derived.KernelRfl
set_option linter.all false
set_option maxRecDepth 100000
namespace Go.Proofs.YthojemmmflaicaaGreatDoor
open Go.ChangeShapes Go.WideShapes Go.ChangeAt Go.RowKit
theorem fnChecks_j0 : (Rows.fnChecksRow.wf (OpenSpec.ofChange Rows.fnChecksSpec)) = true := by kernel_rfl
theorem fnChecks_j2 : (mapsRowed Tryz.prog) = true := by kernel_rfl
theorem fnChecks_j3 : (Tryz.f3.params.all (Tryz.prog.readableRec ·)) = true := by kernel_rfl
theorem fnChecks_j4 : (namedTie Tryz.prog Rows.fnChecksRow.named Rows.fnChecksSpec.vars) = true := by kernel_rfl
theorem fnChecks_j5 : (Rows.fnChecksRow.stops == []) = true := by kernel_rfl
theorem fnChecks_j6 : (Tryz.prog.stops == []) = true := by kernel_rfl
theorem fnChecks_j7 : (Rows.fnChecksRow.knobs == []) = true := by kernel_rfl
theorem fnChecks_j8 : (Tryz.prog.stopKnobs == []) = true := by kernel_rfl
theorem fnChecks_j13 : (Rows.fnChecksRow.maps == (Tryz.f3.params.toList ++ Rows.fnChecksSpec.plain.varTypes Tryz.prog).any (Tryz.prog.mapsRec ·)) = true := by kernel_rfl
theorem fnChecks_j14 : (Rows.fnChecksRow.ifaces == (Tryz.f3.params.toList ++ Rows.fnChecksSpec.plain.varTypes Tryz.prog).any (Tryz.prog.ifacesRec ·)) = true := by kernel_rfl
theorem fnChecks_j15 : (Rows.fnChecksRow.mapsOut == Tryz.prog.mapsAmong Tryz.f3.resultTypes.toList) = true := by kernel_rfl
theorem fnChecks_j16 : (Rows.fnChecksRow.loops == (Tryz.f3.params.toList ++ Rows.fnChecksSpec.plain.varTypes Tryz.prog).any (Tryz.prog.loopsFrom ·)) = true := by kernel_rfl
theorem fnChecks_j17 : (Rows.fnChecksRow.wideKeys == (Tryz.f3.params.toList ++ Rows.fnChecksSpec.plain.varTypes Tryz.prog ++ Tryz.f3.resultTypes.toList).any (Tryz.prog.wideKeysFrom ·)) = true := by kernel_rfl
theorem fnChecks_j18 : (Rows.fnChecksSpec.vars.all (Tryz.prog.varReadable ·)) = true := by kernel_rfl
theorem fnChecks_j19 : (Tryz.f3.resultTypes.all (fun t => Tryz.prog.readableRec t && decide (t < Tryz.prog.types.size))) = true := by kernel_rfl
theorem fnChecks_j20 : (Rows.fnChecksRow.ifacesOut == Tryz.f3.resultTypes.toList.any (Tryz.prog.ifacesRec ·)) = true := by kernel_rfl
theorem fnChecks_j21 : (Rows.fnChecksRow.loopsOut == Tryz.f3.resultTypes.toList.any (Tryz.prog.loopsFrom ·)) = true := by kernel_rfl
theorem fnChecks_j22 : (Rows.fnChecksRow.plainKeys == Tryz.prog.plainKeys) = true := by kernel_rfl
theorem fnChecks_j23 : (Rows.fnChecksRow.shortTexts.isNone) = true := by kernel_rfl
theorem fnChecks_j24 : (Tryz.prog.stopsHeard) = true := by kernel_rfl
theorem fnChecks_j25 : (Tryz.prog.mayEnter) = true := by kernel_rfl
theorem fnChecks_j26 : (Rows.fnChecksRow.lifted == Tryz.prog.liftsFinal) = true := by kernel_rfl
theorem fnChecks_j27 : (Tryz.prog.make == some Rows.fnChecksRow.make) = true := by kernel_rfl
theorem fnChecks_j28 : (Rows.fnChecksRow.kinds == (if Rows.fnChecksRow.domain.isEmpty then [] else Tryz.f3.params.toList.map fun t => match Tryz.prog.underlying t with | some (.int k) => some k | _ => none)) = true := by kernel_rfl
theorem fnChecks_j29 : (Rows.fnChecksRow.pinned == Rows.fnChecksRow.pinnedBy) = true := by kernel_rfl
theorem fnChecks_j30 : (Rows.fnChecksRow.veiled == (Tryz.f3.params.toList ++ Rows.fnChecksSpec.plain.varTypes Tryz.prog ++ Tryz.f3.resultTypes.toList).any (Tryz.prog.veiledRec ·)) = true := by kernel_rfl
theorem fnChecks_j31 : (Rows.fnChecksRow.veiledFits Tryz.prog Tryz.f3.params.toList (Tryz.f3.params.toList ++ Rows.fnChecksSpec.plain.varTypes Tryz.prog ++ Tryz.f3.resultTypes.toList)) = true := by kernel_rfl
theorem fnChecks_fn : Tryz.prog.funcNamed Rows.fnChecksRow.func = some 3 := by kernel_rfl
end Go.Proofs.YthojemmmflaicaaGreatDoor
