/- Facts of the program that the row of FnCheckTargets names, each computed; no condition. -/
import Derived.Test.YtejmafeocaidlabGreatDoorRows
import Derived.ProofKit
import Derived.JoinedOf
import Derived.KernelRfl
set_option linter.all false
set_option maxRecDepth 100000
namespace Go.Proofs.YtejmafeocaidlabGreatDoor
open Go.ChangeShapes Go.WideShapes Go.ChangeAt Go.RowKit
theorem fnCheckTargets_j0 : (Rows.fnCheckTargetsRow.wf (OpenSpec.ofChange Rows.fnCheckTargetsSpec)) = true := by kernel_rfl
theorem fnCheckTargets_j2 : (mapsRowed Tryz.prog) = true := by kernel_rfl
theorem fnCheckTargets_j3 : (Tryz.f3.params.all (Tryz.prog.readableRec ·)) = true := by kernel_rfl
theorem fnCheckTargets_j4 : (namedTie Tryz.prog Rows.fnCheckTargetsRow.named Rows.fnCheckTargetsSpec.vars) = true := by kernel_rfl
theorem fnCheckTargets_j5 : (Rows.fnCheckTargetsRow.stops == []) = true := by kernel_rfl
theorem fnCheckTargets_j6 : (Tryz.prog.stops == []) = true := by kernel_rfl
theorem fnCheckTargets_j7 : (Rows.fnCheckTargetsRow.knobs == []) = true := by kernel_rfl
theorem fnCheckTargets_j8 : (Tryz.prog.stopKnobs == []) = true := by kernel_rfl
theorem fnCheckTargets_j13 : (Rows.fnCheckTargetsRow.maps == (Tryz.f3.params.toList ++ Rows.fnCheckTargetsSpec.plain.varTypes Tryz.prog).any (Tryz.prog.mapsRec ·)) = true := by kernel_rfl
theorem fnCheckTargets_j14 : (Rows.fnCheckTargetsRow.ifaces == (Tryz.f3.params.toList ++ Rows.fnCheckTargetsSpec.plain.varTypes Tryz.prog).any (Tryz.prog.ifacesRec ·)) = true := by kernel_rfl
theorem fnCheckTargets_j15 : (Rows.fnCheckTargetsRow.mapsOut == Tryz.prog.mapsAmong Tryz.f3.resultTypes.toList) = true := by kernel_rfl
theorem fnCheckTargets_j16 : (Rows.fnCheckTargetsRow.loops == (Tryz.f3.params.toList ++ Rows.fnCheckTargetsSpec.plain.varTypes Tryz.prog).any (Tryz.prog.loopsFrom ·)) = true := by kernel_rfl
theorem fnCheckTargets_j17 : (Rows.fnCheckTargetsRow.wideKeys == (Tryz.f3.params.toList ++ Rows.fnCheckTargetsSpec.plain.varTypes Tryz.prog ++ Tryz.f3.resultTypes.toList).any (Tryz.prog.wideKeysFrom ·)) = true := by kernel_rfl
theorem fnCheckTargets_j18 : (Rows.fnCheckTargetsSpec.vars.all (Tryz.prog.varReadable ·)) = true := by kernel_rfl
theorem fnCheckTargets_j19 : (Tryz.f3.resultTypes.all (fun t => Tryz.prog.readableRec t && decide (t < Tryz.prog.types.size))) = true := by kernel_rfl
theorem fnCheckTargets_j20 : (Rows.fnCheckTargetsRow.ifacesOut == Tryz.f3.resultTypes.toList.any (Tryz.prog.ifacesRec ·)) = true := by kernel_rfl
theorem fnCheckTargets_j21 : (Rows.fnCheckTargetsRow.loopsOut == Tryz.f3.resultTypes.toList.any (Tryz.prog.loopsFrom ·)) = true := by kernel_rfl
theorem fnCheckTargets_j22 : (Rows.fnCheckTargetsRow.plainKeys == Tryz.prog.plainKeys) = true := by kernel_rfl
theorem fnCheckTargets_j23 : (Rows.fnCheckTargetsRow.shortTexts.isNone) = true := by kernel_rfl
theorem fnCheckTargets_j24 : (Tryz.prog.stopsHeard) = true := by kernel_rfl
theorem fnCheckTargets_j25 : (Tryz.prog.mayEnter) = true := by kernel_rfl
theorem fnCheckTargets_j26 : (Rows.fnCheckTargetsRow.lifted == Tryz.prog.liftsFinal) = true := by kernel_rfl
theorem fnCheckTargets_j27 : (Tryz.prog.make == some Rows.fnCheckTargetsRow.make) = true := by kernel_rfl
theorem fnCheckTargets_j28 : (Rows.fnCheckTargetsRow.kinds == (if Rows.fnCheckTargetsRow.domain.isEmpty then [] else Tryz.f3.params.toList.map fun t => match Tryz.prog.underlying t with | some (.int k) => some k | _ => none)) = true := by kernel_rfl
theorem fnCheckTargets_j29 : (Rows.fnCheckTargetsRow.pinned == Rows.fnCheckTargetsRow.pinnedBy) = true := by kernel_rfl
theorem fnCheckTargets_j30 : (Rows.fnCheckTargetsRow.veiled == (Tryz.f3.params.toList ++ Rows.fnCheckTargetsSpec.plain.varTypes Tryz.prog ++ Tryz.f3.resultTypes.toList).any (Tryz.prog.veiledRec ·)) = true := by kernel_rfl
theorem fnCheckTargets_j31 : (Rows.fnCheckTargetsRow.veiledFits Tryz.prog Tryz.f3.params.toList (Tryz.f3.params.toList ++ Rows.fnCheckTargetsSpec.plain.varTypes Tryz.prog ++ Tryz.f3.resultTypes.toList)) = true := by kernel_rfl
theorem fnCheckTargets_fn : Tryz.prog.funcNamed Rows.fnCheckTargetsRow.func = some 3 := by kernel_rfl
end Go.Proofs.YtejmafeocaidlabGreatDoor
