/- Facts of the program that the row of FnExactGatesOf names, each computed; no condition. -/
import Derived.Test.YtpfgoednlfjebaaGreatDoorRows
import Derived.ProofKit
import Derived.JoinedOf
import Derived.KernelRfl
set_option linter.all false
set_option maxRecDepth 100000
namespace Go.Proofs.YtpfgoednlfjebaaGreatDoor
open Go.ChangeShapes Go.WideShapes Go.ChangeAt Go.RowKit
theorem fnExactGatesOf_j0 : (Rows.fnExactGatesOfRow.wf (OpenSpec.ofChange Rows.fnExactGatesOfSpec)) = true := by kernel_rfl
theorem fnExactGatesOf_j2 : (mapsRowed Tryz.prog) = true := by kernel_rfl
theorem fnExactGatesOf_j3 : (Tryz.f4.params.all (Tryz.prog.readableRec ·)) = true := by kernel_rfl
theorem fnExactGatesOf_j4 : (namedTie Tryz.prog Rows.fnExactGatesOfRow.named Rows.fnExactGatesOfSpec.vars) = true := by kernel_rfl
theorem fnExactGatesOf_j5 : (Rows.fnExactGatesOfRow.stops == []) = true := by kernel_rfl
theorem fnExactGatesOf_j6 : (Tryz.prog.stops == []) = true := by kernel_rfl
theorem fnExactGatesOf_j7 : (Rows.fnExactGatesOfRow.knobs == []) = true := by kernel_rfl
theorem fnExactGatesOf_j8 : (Tryz.prog.stopKnobs == []) = true := by kernel_rfl
theorem fnExactGatesOf_j13 : (Rows.fnExactGatesOfRow.maps == (Tryz.f4.params.toList ++ Rows.fnExactGatesOfSpec.plain.varTypes Tryz.prog).any (Tryz.prog.mapsRec ·)) = true := by kernel_rfl
theorem fnExactGatesOf_j14 : (Rows.fnExactGatesOfRow.ifaces == (Tryz.f4.params.toList ++ Rows.fnExactGatesOfSpec.plain.varTypes Tryz.prog).any (Tryz.prog.ifacesRec ·)) = true := by kernel_rfl
theorem fnExactGatesOf_j15 : (Rows.fnExactGatesOfRow.mapsOut == Tryz.prog.mapsAmong Tryz.f4.resultTypes.toList) = true := by kernel_rfl
theorem fnExactGatesOf_j16 : (Rows.fnExactGatesOfRow.loops == (Tryz.f4.params.toList ++ Rows.fnExactGatesOfSpec.plain.varTypes Tryz.prog).any (Tryz.prog.loopsFrom ·)) = true := by kernel_rfl
theorem fnExactGatesOf_j17 : (Rows.fnExactGatesOfRow.wideKeys == (Tryz.f4.params.toList ++ Rows.fnExactGatesOfSpec.plain.varTypes Tryz.prog ++ Tryz.f4.resultTypes.toList).any (Tryz.prog.wideKeysFrom ·)) = true := by kernel_rfl
theorem fnExactGatesOf_j18 : (Rows.fnExactGatesOfSpec.vars.all (Tryz.prog.varReadable ·)) = true := by kernel_rfl
theorem fnExactGatesOf_j19 : (Tryz.f4.resultTypes.all (fun t => Tryz.prog.readableRec t && decide (t < Tryz.prog.types.size))) = true := by kernel_rfl
theorem fnExactGatesOf_j20 : (Rows.fnExactGatesOfRow.ifacesOut == Tryz.f4.resultTypes.toList.any (Tryz.prog.ifacesRec ·)) = true := by kernel_rfl
theorem fnExactGatesOf_j21 : (Rows.fnExactGatesOfRow.loopsOut == Tryz.f4.resultTypes.toList.any (Tryz.prog.loopsFrom ·)) = true := by kernel_rfl
theorem fnExactGatesOf_j22 : (Rows.fnExactGatesOfRow.plainKeys == Tryz.prog.plainKeys) = true := by kernel_rfl
theorem fnExactGatesOf_j23 : (Rows.fnExactGatesOfRow.shortTexts.isNone) = true := by kernel_rfl
theorem fnExactGatesOf_j24 : (Tryz.prog.stopsHeard) = true := by kernel_rfl
theorem fnExactGatesOf_j25 : (Tryz.prog.mayEnter) = true := by kernel_rfl
theorem fnExactGatesOf_j26 : (Rows.fnExactGatesOfRow.lifted == Tryz.prog.liftsFinal) = true := by kernel_rfl
theorem fnExactGatesOf_j27 : (Tryz.prog.make == some Rows.fnExactGatesOfRow.make) = true := by kernel_rfl
theorem fnExactGatesOf_j28 : (Rows.fnExactGatesOfRow.kinds == (if Rows.fnExactGatesOfRow.domain.isEmpty then [] else Tryz.f4.params.toList.map fun t => match Tryz.prog.underlying t with | some (.int k) => some k | _ => none)) = true := by kernel_rfl
theorem fnExactGatesOf_j29 : (Rows.fnExactGatesOfRow.pinned == Rows.fnExactGatesOfRow.pinnedBy) = true := by kernel_rfl
theorem fnExactGatesOf_j30 : (Rows.fnExactGatesOfRow.veiled == (Tryz.f4.params.toList ++ Rows.fnExactGatesOfSpec.plain.varTypes Tryz.prog ++ Tryz.f4.resultTypes.toList).any (Tryz.prog.veiledRec ·)) = true := by kernel_rfl
theorem fnExactGatesOf_j31 : (Rows.fnExactGatesOfRow.veiledFits Tryz.prog Tryz.f4.params.toList (Tryz.f4.params.toList ++ Rows.fnExactGatesOfSpec.plain.varTypes Tryz.prog ++ Tryz.f4.resultTypes.toList)) = true := by kernel_rfl
theorem fnExactGatesOf_fn : Tryz.prog.funcNamed Rows.fnExactGatesOfRow.func = some 4 := by kernel_rfl
end Go.Proofs.YtpfgoednlfjebaaGreatDoor
