/- Facts of the program that the row of FnExactCheckTargets names, each computed; no condition. -/
import Derived.Test.YtjpcjanfamdmiaaGreatDoorRows
import Derived.ProofKit
import Derived.JoinedOf
import Derived.KernelRfl
set_option linter.all false
set_option maxRecDepth 100000
namespace Go.Proofs.YtjpcjanfamdmiaaGreatDoor
open Go.ChangeShapes Go.WideShapes Go.ChangeAt Go.RowKit
theorem fnExactCheckTargets_j0 : (Rows.fnExactCheckTargetsRow.wf (OpenSpec.ofChange Rows.fnExactCheckTargetsSpec)) = true := by kernel_rfl
theorem fnExactCheckTargets_j2 : (mapsRowed Tryz.prog) = true := by kernel_rfl
theorem fnExactCheckTargets_j3 : (Tryz.f3.params.all (Tryz.prog.readableRec ·)) = true := by kernel_rfl
theorem fnExactCheckTargets_j4 : (namedTie Tryz.prog Rows.fnExactCheckTargetsRow.named Rows.fnExactCheckTargetsSpec.vars) = true := by kernel_rfl
theorem fnExactCheckTargets_j5 : (Rows.fnExactCheckTargetsRow.stops == []) = true := by kernel_rfl
theorem fnExactCheckTargets_j6 : (Tryz.prog.stops == []) = true := by kernel_rfl
theorem fnExactCheckTargets_j7 : (Rows.fnExactCheckTargetsRow.knobs == []) = true := by kernel_rfl
theorem fnExactCheckTargets_j8 : (Tryz.prog.stopKnobs == []) = true := by kernel_rfl
theorem fnExactCheckTargets_j13 : (Rows.fnExactCheckTargetsRow.maps == (Tryz.f3.params.toList ++ Rows.fnExactCheckTargetsSpec.plain.varTypes Tryz.prog).any (Tryz.prog.mapsRec ·)) = true := by kernel_rfl
theorem fnExactCheckTargets_j14 : (Rows.fnExactCheckTargetsRow.ifaces == (Tryz.f3.params.toList ++ Rows.fnExactCheckTargetsSpec.plain.varTypes Tryz.prog).any (Tryz.prog.ifacesRec ·)) = true := by kernel_rfl
theorem fnExactCheckTargets_j15 : (Rows.fnExactCheckTargetsRow.mapsOut == Tryz.prog.mapsAmong Tryz.f3.resultTypes.toList) = true := by kernel_rfl
theorem fnExactCheckTargets_j16 : (Rows.fnExactCheckTargetsRow.loops == (Tryz.f3.params.toList ++ Rows.fnExactCheckTargetsSpec.plain.varTypes Tryz.prog).any (Tryz.prog.loopsFrom ·)) = true := by kernel_rfl
theorem fnExactCheckTargets_j17 : (Rows.fnExactCheckTargetsRow.wideKeys == (Tryz.f3.params.toList ++ Rows.fnExactCheckTargetsSpec.plain.varTypes Tryz.prog ++ Tryz.f3.resultTypes.toList).any (Tryz.prog.wideKeysFrom ·)) = true := by kernel_rfl
theorem fnExactCheckTargets_j18 : (Rows.fnExactCheckTargetsSpec.vars.all (Tryz.prog.varReadable ·)) = true := by kernel_rfl
theorem fnExactCheckTargets_j19 : (Tryz.f3.resultTypes.all (fun t => Tryz.prog.readableRec t && decide (t < Tryz.prog.types.size))) = true := by kernel_rfl
theorem fnExactCheckTargets_j20 : (Rows.fnExactCheckTargetsRow.ifacesOut == Tryz.f3.resultTypes.toList.any (Tryz.prog.ifacesRec ·)) = true := by kernel_rfl
theorem fnExactCheckTargets_j21 : (Rows.fnExactCheckTargetsRow.loopsOut == Tryz.f3.resultTypes.toList.any (Tryz.prog.loopsFrom ·)) = true := by kernel_rfl
theorem fnExactCheckTargets_j22 : (Rows.fnExactCheckTargetsRow.plainKeys == Tryz.prog.plainKeys) = true := by kernel_rfl
theorem fnExactCheckTargets_j23 : (Rows.fnExactCheckTargetsRow.shortTexts.isNone) = true := by kernel_rfl
theorem fnExactCheckTargets_j24 : (Tryz.prog.stopsHeard) = true := by kernel_rfl
theorem fnExactCheckTargets_j25 : (Tryz.prog.mayEnter) = true := by kernel_rfl
theorem fnExactCheckTargets_j26 : (Rows.fnExactCheckTargetsRow.lifted == Tryz.prog.liftsFinal) = true := by kernel_rfl
theorem fnExactCheckTargets_j27 : (Tryz.prog.make == some Rows.fnExactCheckTargetsRow.make) = true := by kernel_rfl
theorem fnExactCheckTargets_j28 : (Rows.fnExactCheckTargetsRow.kinds == (if Rows.fnExactCheckTargetsRow.domain.isEmpty then [] else Tryz.f3.params.toList.map fun t => match Tryz.prog.underlying t with | some (.int k) => some k | _ => none)) = true := by kernel_rfl
theorem fnExactCheckTargets_j29 : (Rows.fnExactCheckTargetsRow.pinned == Rows.fnExactCheckTargetsRow.pinnedBy) = true := by kernel_rfl
theorem fnExactCheckTargets_j30 : (Rows.fnExactCheckTargetsRow.veiled == (Tryz.f3.params.toList ++ Rows.fnExactCheckTargetsSpec.plain.varTypes Tryz.prog ++ Tryz.f3.resultTypes.toList).any (Tryz.prog.veiledRec ·)) = true := by kernel_rfl
theorem fnExactCheckTargets_j31 : (Rows.fnExactCheckTargetsRow.veiledFits Tryz.prog Tryz.f3.params.toList (Tryz.f3.params.toList ++ Rows.fnExactCheckTargetsSpec.plain.varTypes Tryz.prog ++ Tryz.f3.resultTypes.toList)) = true := by kernel_rfl
theorem fnExactCheckTargets_fn : Tryz.prog.funcNamed Rows.fnExactCheckTargetsRow.func = some 3 := by kernel_rfl
end Go.Proofs.YtjpcjanfamdmiaaGreatDoor
