/- Facts of the program that the row of FnExactPropagateRequired names, each computed; no condition. -/
import Derived.Test.YtaijnchdfgojiabGreatDoorRows
import Derived.ProofKit
import Derived.JoinedOf
import Derived.KernelRfl
set_option linter.all false
set_option maxRecDepth 100000
namespace Go.Proofs.YtaijnchdfgojiabGreatDoor
open Go.ChangeShapes Go.WideShapes Go.ChangeAt Go.RowKit
theorem fnExactPropagateRequired_j0 : (Rows.fnExactPropagateRequiredRow.wf (OpenSpec.ofChange Rows.fnExactPropagateRequiredSpec)) = true := by kernel_rfl
theorem fnExactPropagateRequired_j2 : (mapsRowed Tryz.prog) = true := by kernel_rfl
theorem fnExactPropagateRequired_j3 : (Tryz.f3.params.all (Tryz.prog.readableRec ·)) = true := by kernel_rfl
theorem fnExactPropagateRequired_j4 : (namedTie Tryz.prog Rows.fnExactPropagateRequiredRow.named Rows.fnExactPropagateRequiredSpec.vars) = true := by kernel_rfl
theorem fnExactPropagateRequired_j5 : (Rows.fnExactPropagateRequiredRow.stops == []) = true := by kernel_rfl
theorem fnExactPropagateRequired_j6 : (Tryz.prog.stops == []) = true := by kernel_rfl
theorem fnExactPropagateRequired_j7 : (Rows.fnExactPropagateRequiredRow.knobs == []) = true := by kernel_rfl
theorem fnExactPropagateRequired_j8 : (Tryz.prog.stopKnobs == []) = true := by kernel_rfl
theorem fnExactPropagateRequired_j13 : (Rows.fnExactPropagateRequiredRow.maps == (Tryz.f3.params.toList ++ Rows.fnExactPropagateRequiredSpec.plain.varTypes Tryz.prog).any (Tryz.prog.mapsRec ·)) = true := by kernel_rfl
theorem fnExactPropagateRequired_j14 : (Rows.fnExactPropagateRequiredRow.ifaces == (Tryz.f3.params.toList ++ Rows.fnExactPropagateRequiredSpec.plain.varTypes Tryz.prog).any (Tryz.prog.ifacesRec ·)) = true := by kernel_rfl
theorem fnExactPropagateRequired_j15 : (Rows.fnExactPropagateRequiredRow.mapsOut == Tryz.prog.mapsAmong Tryz.f3.resultTypes.toList) = true := by kernel_rfl
theorem fnExactPropagateRequired_j16 : (Rows.fnExactPropagateRequiredRow.loops == (Tryz.f3.params.toList ++ Rows.fnExactPropagateRequiredSpec.plain.varTypes Tryz.prog).any (Tryz.prog.loopsFrom ·)) = true := by kernel_rfl
theorem fnExactPropagateRequired_j17 : (Rows.fnExactPropagateRequiredRow.wideKeys == (Tryz.f3.params.toList ++ Rows.fnExactPropagateRequiredSpec.plain.varTypes Tryz.prog ++ Tryz.f3.resultTypes.toList).any (Tryz.prog.wideKeysFrom ·)) = true := by kernel_rfl
theorem fnExactPropagateRequired_j18 : (Rows.fnExactPropagateRequiredSpec.vars.all (Tryz.prog.varReadable ·)) = true := by kernel_rfl
theorem fnExactPropagateRequired_j19 : (Tryz.f3.resultTypes.all (fun t => Tryz.prog.readableRec t && decide (t < Tryz.prog.types.size))) = true := by kernel_rfl
theorem fnExactPropagateRequired_j20 : (Rows.fnExactPropagateRequiredRow.ifacesOut == Tryz.f3.resultTypes.toList.any (Tryz.prog.ifacesRec ·)) = true := by kernel_rfl
theorem fnExactPropagateRequired_j21 : (Rows.fnExactPropagateRequiredRow.loopsOut == Tryz.f3.resultTypes.toList.any (Tryz.prog.loopsFrom ·)) = true := by kernel_rfl
theorem fnExactPropagateRequired_j22 : (Rows.fnExactPropagateRequiredRow.plainKeys == Tryz.prog.plainKeys) = true := by kernel_rfl
theorem fnExactPropagateRequired_j23 : (Rows.fnExactPropagateRequiredRow.shortTexts.isNone) = true := by kernel_rfl
theorem fnExactPropagateRequired_j24 : (Tryz.prog.stopsHeard) = true := by kernel_rfl
theorem fnExactPropagateRequired_j25 : (Tryz.prog.mayEnter) = true := by kernel_rfl
theorem fnExactPropagateRequired_j26 : (Rows.fnExactPropagateRequiredRow.lifted == Tryz.prog.liftsFinal) = true := by kernel_rfl
theorem fnExactPropagateRequired_j27 : (Tryz.prog.make == some Rows.fnExactPropagateRequiredRow.make) = true := by kernel_rfl
theorem fnExactPropagateRequired_j28 : (Rows.fnExactPropagateRequiredRow.kinds == (if Rows.fnExactPropagateRequiredRow.domain.isEmpty then [] else Tryz.f3.params.toList.map fun t => match Tryz.prog.underlying t with | some (.int k) => some k | _ => none)) = true := by kernel_rfl
theorem fnExactPropagateRequired_j29 : (Rows.fnExactPropagateRequiredRow.pinned == Rows.fnExactPropagateRequiredRow.pinnedBy) = true := by kernel_rfl
theorem fnExactPropagateRequired_j30 : (Rows.fnExactPropagateRequiredRow.veiled == (Tryz.f3.params.toList ++ Rows.fnExactPropagateRequiredSpec.plain.varTypes Tryz.prog ++ Tryz.f3.resultTypes.toList).any (Tryz.prog.veiledRec ·)) = true := by kernel_rfl
theorem fnExactPropagateRequired_j31 : (Rows.fnExactPropagateRequiredRow.veiledFits Tryz.prog Tryz.f3.params.toList (Tryz.f3.params.toList ++ Rows.fnExactPropagateRequiredSpec.plain.varTypes Tryz.prog ++ Tryz.f3.resultTypes.toList)) = true := by kernel_rfl
theorem fnExactPropagateRequired_fn : Tryz.prog.funcNamed Rows.fnExactPropagateRequiredRow.func = some 3 := by kernel_rfl
end Go.Proofs.YtaijnchdfgojiabGreatDoor
