/- Facts of the program that the row of FnExactAllChecks names, each computed; no condition. -/
import Derived.Test.YtiaobghojdehbaaGreatDoorRows
import Derived.ProofKit
import Derived.JoinedOf
import Derived.KernelRfl
set_option linter.all false
set_option maxRecDepth 100000
namespace Go.Proofs.YtiaobghojdehbaaGreatDoor
open Go.ChangeShapes Go.WideShapes Go.ChangeAt Go.RowKit
theorem fnExactAllChecks_j0 : (Rows.fnExactAllChecksRow.wf (OpenSpec.ofChange Rows.fnExactAllChecksSpec)) = true := by kernel_rfl
theorem fnExactAllChecks_j2 : (mapsRowed Tryz.prog) = true := by kernel_rfl
theorem fnExactAllChecks_j3 : (Tryz.f8.params.all (Tryz.prog.readableRec ·)) = true := by kernel_rfl
theorem fnExactAllChecks_j4 : (namedTie Tryz.prog Rows.fnExactAllChecksRow.named Rows.fnExactAllChecksSpec.vars) = true := by kernel_rfl
theorem fnExactAllChecks_j5 : (Rows.fnExactAllChecksRow.stops == []) = true := by kernel_rfl
theorem fnExactAllChecks_j6 : (Tryz.prog.stops == []) = true := by kernel_rfl
theorem fnExactAllChecks_j7 : (Rows.fnExactAllChecksRow.knobs == []) = true := by kernel_rfl
theorem fnExactAllChecks_j8 : (Tryz.prog.stopKnobs == []) = true := by kernel_rfl
theorem fnExactAllChecks_j13 : (Rows.fnExactAllChecksRow.maps == (Tryz.f8.params.toList ++ Rows.fnExactAllChecksSpec.plain.varTypes Tryz.prog).any (Tryz.prog.mapsRec ·)) = true := by kernel_rfl
theorem fnExactAllChecks_j14 : (Rows.fnExactAllChecksRow.ifaces == (Tryz.f8.params.toList ++ Rows.fnExactAllChecksSpec.plain.varTypes Tryz.prog).any (Tryz.prog.ifacesRec ·)) = true := by kernel_rfl
theorem fnExactAllChecks_j15 : (Rows.fnExactAllChecksRow.mapsOut == Tryz.prog.mapsAmong Tryz.f8.resultTypes.toList) = true := by kernel_rfl
theorem fnExactAllChecks_j16 : (Rows.fnExactAllChecksRow.loops == (Tryz.f8.params.toList ++ Rows.fnExactAllChecksSpec.plain.varTypes Tryz.prog).any (Tryz.prog.loopsFrom ·)) = true := by kernel_rfl
theorem fnExactAllChecks_j17 : (Rows.fnExactAllChecksRow.wideKeys == (Tryz.f8.params.toList ++ Rows.fnExactAllChecksSpec.plain.varTypes Tryz.prog ++ Tryz.f8.resultTypes.toList).any (Tryz.prog.wideKeysFrom ·)) = true := by kernel_rfl
theorem fnExactAllChecks_j18 : (Rows.fnExactAllChecksSpec.vars.all (Tryz.prog.varReadable ·)) = true := by kernel_rfl
theorem fnExactAllChecks_j19 : (Tryz.f8.resultTypes.all (fun t => Tryz.prog.readableRec t && decide (t < Tryz.prog.types.size))) = true := by kernel_rfl
theorem fnExactAllChecks_j20 : (Rows.fnExactAllChecksRow.ifacesOut == Tryz.f8.resultTypes.toList.any (Tryz.prog.ifacesRec ·)) = true := by kernel_rfl
theorem fnExactAllChecks_j21 : (Rows.fnExactAllChecksRow.loopsOut == Tryz.f8.resultTypes.toList.any (Tryz.prog.loopsFrom ·)) = true := by kernel_rfl
theorem fnExactAllChecks_j22 : (Rows.fnExactAllChecksRow.plainKeys == Tryz.prog.plainKeys) = true := by kernel_rfl
theorem fnExactAllChecks_j23 : (Rows.fnExactAllChecksRow.shortTexts.isNone) = true := by kernel_rfl
theorem fnExactAllChecks_j24 : (Tryz.prog.stopsHeard) = true := by kernel_rfl
theorem fnExactAllChecks_j25 : (Tryz.prog.mayEnter) = true := by kernel_rfl
theorem fnExactAllChecks_j26 : (Rows.fnExactAllChecksRow.lifted == Tryz.prog.liftsFinal) = true := by kernel_rfl
theorem fnExactAllChecks_j27 : (Tryz.prog.make == some Rows.fnExactAllChecksRow.make) = true := by kernel_rfl
theorem fnExactAllChecks_j28 : (Rows.fnExactAllChecksRow.kinds == (if Rows.fnExactAllChecksRow.domain.isEmpty then [] else Tryz.f8.params.toList.map fun t => match Tryz.prog.underlying t with | some (.int k) => some k | _ => none)) = true := by kernel_rfl
theorem fnExactAllChecks_j29 : (Rows.fnExactAllChecksRow.pinned == Rows.fnExactAllChecksRow.pinnedBy) = true := by kernel_rfl
theorem fnExactAllChecks_j30 : (Rows.fnExactAllChecksRow.veiled == (Tryz.f8.params.toList ++ Rows.fnExactAllChecksSpec.plain.varTypes Tryz.prog ++ Tryz.f8.resultTypes.toList).any (Tryz.prog.veiledRec ·)) = true := by kernel_rfl
theorem fnExactAllChecks_j31 : (Rows.fnExactAllChecksRow.veiledFits Tryz.prog Tryz.f8.params.toList (Tryz.f8.params.toList ++ Rows.fnExactAllChecksSpec.plain.varTypes Tryz.prog ++ Tryz.f8.resultTypes.toList)) = true := by kernel_rfl
theorem fnExactAllChecks_fn : Tryz.prog.funcNamed Rows.fnExactAllChecksRow.func = some 8 := by kernel_rfl
end Go.Proofs.YtiaobghojdehbaaGreatDoor
