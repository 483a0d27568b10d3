/- Facts of the program that the row of FnNeedsFixed names, each computed; no condition. -/
import Derived.Test.YtpnjglnpdmgghaaGreatDoorRows
import Derived.ProofKit
import Derived.JoinedOf
import Derived.KernelRfl
set_option linter.all false
set_option maxRecDepth 100000
namespace Go.Proofs.YtpnjglnpdmgghaaGreatDoor
open Go.ChangeShapes Go.WideShapes Go.ChangeAt Go.RowKit
theorem fnNeedsFixed_j0 : (Rows.fnNeedsFixedRow.wf (OpenSpec.ofChange Rows.fnNeedsFixedSpec)) = true := by kernel_rfl
theorem fnNeedsFixed_j2 : (mapsRowed Tryz.prog) = true := by kernel_rfl
theorem fnNeedsFixed_j3 : (Tryz.f3.params.all (Tryz.prog.readableRec ·)) = true := by kernel_rfl
theorem fnNeedsFixed_j4 : (namedTie Tryz.prog Rows.fnNeedsFixedRow.named Rows.fnNeedsFixedSpec.vars) = true := by kernel_rfl
theorem fnNeedsFixed_j5 : (Rows.fnNeedsFixedRow.stops == []) = true := by kernel_rfl
theorem fnNeedsFixed_j6 : (Tryz.prog.stops == []) = true := by kernel_rfl
theorem fnNeedsFixed_j7 : (Rows.fnNeedsFixedRow.knobs == []) = true := by kernel_rfl
theorem fnNeedsFixed_j8 : (Tryz.prog.stopKnobs == []) = true := by kernel_rfl
theorem fnNeedsFixed_j13 : (Rows.fnNeedsFixedRow.maps == (Tryz.f3.params.toList ++ Rows.fnNeedsFixedSpec.plain.varTypes Tryz.prog).any (Tryz.prog.mapsRec ·)) = true := by kernel_rfl
theorem fnNeedsFixed_j14 : (Rows.fnNeedsFixedRow.ifaces == (Tryz.f3.params.toList ++ Rows.fnNeedsFixedSpec.plain.varTypes Tryz.prog).any (Tryz.prog.ifacesRec ·)) = true := by kernel_rfl
theorem fnNeedsFixed_j15 : (Rows.fnNeedsFixedRow.mapsOut == Tryz.prog.mapsAmong Tryz.f3.resultTypes.toList) = true := by kernel_rfl
theorem fnNeedsFixed_j16 : (Rows.fnNeedsFixedRow.loops == (Tryz.f3.params.toList ++ Rows.fnNeedsFixedSpec.plain.varTypes Tryz.prog).any (Tryz.prog.loopsFrom ·)) = true := by kernel_rfl
theorem fnNeedsFixed_j17 : (Rows.fnNeedsFixedRow.wideKeys == (Tryz.f3.params.toList ++ Rows.fnNeedsFixedSpec.plain.varTypes Tryz.prog ++ Tryz.f3.resultTypes.toList).any (Tryz.prog.wideKeysFrom ·)) = true := by kernel_rfl
theorem fnNeedsFixed_j18 : (Rows.fnNeedsFixedSpec.vars.all (Tryz.prog.varReadable ·)) = true := by kernel_rfl
theorem fnNeedsFixed_j19 : (Tryz.f3.resultTypes.all (fun t => Tryz.prog.readableRec t && decide (t < Tryz.prog.types.size))) = true := by kernel_rfl
theorem fnNeedsFixed_j20 : (Rows.fnNeedsFixedRow.ifacesOut == Tryz.f3.resultTypes.toList.any (Tryz.prog.ifacesRec ·)) = true := by kernel_rfl
theorem fnNeedsFixed_j21 : (Rows.fnNeedsFixedRow.loopsOut == Tryz.f3.resultTypes.toList.any (Tryz.prog.loopsFrom ·)) = true := by kernel_rfl
theorem fnNeedsFixed_j22 : (Rows.fnNeedsFixedRow.plainKeys == Tryz.prog.plainKeys) = true := by kernel_rfl
theorem fnNeedsFixed_j23 : (Rows.fnNeedsFixedRow.shortTexts.isNone) = true := by kernel_rfl
theorem fnNeedsFixed_j24 : (Tryz.prog.stopsHeard) = true := by kernel_rfl
theorem fnNeedsFixed_j25 : (Tryz.prog.mayEnter) = true := by kernel_rfl
theorem fnNeedsFixed_j26 : (Rows.fnNeedsFixedRow.lifted == Tryz.prog.liftsFinal) = true := by kernel_rfl
theorem fnNeedsFixed_j27 : (Tryz.prog.make == some Rows.fnNeedsFixedRow.make) = true := by kernel_rfl
theorem fnNeedsFixed_j28 : (Rows.fnNeedsFixedRow.kinds == (if Rows.fnNeedsFixedRow.domain.isEmpty then [] else Tryz.f3.params.toList.map fun t => match Tryz.prog.underlying t with | some (.int k) => some k | _ => none)) = true := by kernel_rfl
theorem fnNeedsFixed_j29 : (Rows.fnNeedsFixedRow.pinned == Rows.fnNeedsFixedRow.pinnedBy) = true := by kernel_rfl
theorem fnNeedsFixed_j30 : (Rows.fnNeedsFixedRow.veiled == (Tryz.f3.params.toList ++ Rows.fnNeedsFixedSpec.plain.varTypes Tryz.prog ++ Tryz.f3.resultTypes.toList).any (Tryz.prog.veiledRec ·)) = true := by kernel_rfl
theorem fnNeedsFixed_j31 : (Rows.fnNeedsFixedRow.veiledFits Tryz.prog Tryz.f3.params.toList (Tryz.f3.params.toList ++ Rows.fnNeedsFixedSpec.plain.varTypes Tryz.prog ++ Tryz.f3.resultTypes.toList)) = true := by kernel_rfl
theorem fnNeedsFixed_fn : Tryz.prog.funcNamed Rows.fnNeedsFixedRow.func = some 3 := by kernel_rfl
end Go.Proofs.YtpnjglnpdmgghaaGreatDoor
