/- The facts of the program that the row of FnExactIsTargets names, each computed; no condition. -/
import Derived.Test.YtjijjanefcaakaaGreatDoorRows
import Derived.ProofKit
import Derived.JoinedOf
import Derived.KernelRfl
set_option linter.all false
set_option maxRecDepth 100000
namespace Go.Proofs.YtjijjanefcaakaaGreatDoor
open Go.ChangeShapes Go.WideShapes Go.ChangeAt Go.RowKit
theorem and_tt {a b : Bool} (ha : a = true) (hb : b = true) : (a && b) = true := by rw [ha, hb]; rfl
theorem fnExactIsTargets_j0 : (Rows.fnExactIsTargetsRow.wf (OpenSpec.ofChange Rows.fnExactIsTargetsSpec)) = true := by kernel_rfl
theorem fnExactIsTargets_j1 : (laidOutB Tryz.prog) = true := by kernel_rfl
theorem fnExactIsTargets_j2 : (mapsRowed Tryz.prog) = true := by kernel_rfl
theorem fnExactIsTargets_j3 : (Tryz.f3.params.all (Tryz.prog.readableRec ·)) = true := by kernel_rfl
theorem fnExactIsTargets_j4 : (namedTie Tryz.prog Rows.fnExactIsTargetsRow.named Rows.fnExactIsTargetsSpec.vars) = true := by kernel_rfl
theorem fnExactIsTargets_j5 : (Rows.fnExactIsTargetsRow.stops == []) = true := by kernel_rfl
theorem fnExactIsTargets_j6 : (Tryz.prog.stops == []) = true := by kernel_rfl
theorem fnExactIsTargets_j7 : (Rows.fnExactIsTargetsRow.knobs == []) = true := by kernel_rfl
theorem fnExactIsTargets_j8 : (Tryz.prog.stopKnobs == []) = true := by kernel_rfl
theorem fnExactIsTargets_j9 : (Rows.fnExactIsTargetsRow.inPlace == Tryz.prog.inPlace 3) = true := by kernel_rfl
theorem fnExactIsTargets_j10 : (Rows.fnExactIsTargetsRow.unfollowed == Tryz.prog.unfollowed 3) = true := by kernel_rfl
theorem fnExactIsTargets_j11 : (Rows.fnExactIsTargetsRow.recurses == Tryz.prog.recurses 3) = true := by kernel_rfl
theorem fnExactIsTargets_j12 : (Rows.fnExactIsTargetsRow.named == Tryz.prog.varsNamed 3) = true := by kernel_rfl
theorem fnExactIsTargets_j13 : (Rows.fnExactIsTargetsRow.maps == (Tryz.f3.params.toList ++ Rows.fnExactIsTargetsSpec.plain.varTypes Tryz.prog).any (Tryz.prog.mapsRec ·)) = true := by kernel_rfl
theorem fnExactIsTargets_j14 : (Rows.fnExactIsTargetsRow.ifaces == (Tryz.f3.params.toList ++ Rows.fnExactIsTargetsSpec.plain.varTypes Tryz.prog).any (Tryz.prog.ifacesRec ·)) = true := by kernel_rfl
theorem fnExactIsTargets_j15 : (Rows.fnExactIsTargetsRow.mapsOut == Tryz.prog.mapsAmong Tryz.f3.resultTypes.toList) = true := by kernel_rfl
theorem fnExactIsTargets_j16 : (Rows.fnExactIsTargetsRow.loops == (Tryz.f3.params.toList ++ Rows.fnExactIsTargetsSpec.plain.varTypes Tryz.prog).any (Tryz.prog.loopsFrom ·)) = true := by kernel_rfl
theorem fnExactIsTargets_j17 : (Rows.fnExactIsTargetsRow.wideKeys == (Tryz.f3.params.toList ++ Rows.fnExactIsTargetsSpec.plain.varTypes Tryz.prog ++ Tryz.f3.resultTypes.toList).any (Tryz.prog.wideKeysFrom ·)) = true := by kernel_rfl
theorem fnExactIsTargets_j18 : (Rows.fnExactIsTargetsSpec.vars.all (Tryz.prog.varReadable ·)) = true := by kernel_rfl
theorem fnExactIsTargets_j19 : (Tryz.f3.resultTypes.all (fun t => Tryz.prog.readableRec t && decide (t < Tryz.prog.types.size))) = true := by kernel_rfl
theorem fnExactIsTargets_j20 : (Rows.fnExactIsTargetsRow.ifacesOut == Tryz.f3.resultTypes.toList.any (Tryz.prog.ifacesRec ·)) = true := by kernel_rfl
theorem fnExactIsTargets_j21 : (Rows.fnExactIsTargetsRow.loopsOut == Tryz.f3.resultTypes.toList.any (Tryz.prog.loopsFrom ·)) = true := by kernel_rfl
theorem fnExactIsTargets_j22 : (Rows.fnExactIsTargetsRow.plainKeys == Tryz.prog.plainKeys) = true := by kernel_rfl
theorem fnExactIsTargets_j23 : (Rows.fnExactIsTargetsRow.shortTexts.isNone) = true := by kernel_rfl
theorem fnExactIsTargets_j24 : (Tryz.prog.stopsHeard) = true := by kernel_rfl
theorem fnExactIsTargets_j25 : (Tryz.prog.mayEnter) = true := by kernel_rfl
theorem fnExactIsTargets_j26 : (Rows.fnExactIsTargetsRow.lifted == Tryz.prog.liftsFinal) = true := by kernel_rfl
theorem fnExactIsTargets_j27 : (Tryz.prog.make == some Rows.fnExactIsTargetsRow.make) = true := by kernel_rfl
theorem fnExactIsTargets_j28 : (Rows.fnExactIsTargetsRow.kinds == (if Rows.fnExactIsTargetsRow.domain.isEmpty then [] else Tryz.f3.params.toList.map fun t => match Tryz.prog.underlying t with | some (.int k) => some k | _ => none)) = true := by kernel_rfl
theorem fnExactIsTargets_j29 : (Rows.fnExactIsTargetsRow.pinned == Rows.fnExactIsTargetsRow.pinnedBy) = true := by kernel_rfl
theorem fnExactIsTargets_j30 : (Rows.fnExactIsTargetsRow.veiled == (Tryz.f3.params.toList ++ Rows.fnExactIsTargetsSpec.plain.varTypes Tryz.prog ++ Tryz.f3.resultTypes.toList).any (Tryz.prog.veiledRec ·)) = true := by kernel_rfl
theorem fnExactIsTargets_j31 : (Rows.fnExactIsTargetsRow.veiledFits Tryz.prog Tryz.f3.params.toList (Tryz.f3.params.toList ++ Rows.fnExactIsTargetsSpec.plain.varTypes Tryz.prog ++ Tryz.f3.resultTypes.toList)) = true := by kernel_rfl
theorem fnExactIsTargets_fn : Tryz.prog.funcNamed Rows.fnExactIsTargetsRow.func = some 3 := by kernel_rfl
theorem fnExactIsTargets_joined : joinedFacts Tryz.prog 3 Tryz.f3 Rows.fnExactIsTargetsSpec Rows.fnExactIsTargetsRow = true := by
  unfold joinedFacts
  exact (and_tt (and_tt (and_tt (and_tt (and_tt (and_tt (and_tt (and_tt (and_tt (and_tt (and_tt (and_tt (and_tt (and_tt (and_tt (and_tt (and_tt (and_tt (and_tt (and_tt (and_tt (and_tt (and_tt (and_tt (and_tt (and_tt (and_tt (and_tt (and_tt (and_tt (and_tt fnExactIsTargets_j0 fnExactIsTargets_j1) fnExactIsTargets_j2) fnExactIsTargets_j3) fnExactIsTargets_j4) fnExactIsTargets_j5) fnExactIsTargets_j6) fnExactIsTargets_j7) fnExactIsTargets_j8) fnExactIsTargets_j9) fnExactIsTargets_j10) fnExactIsTargets_j11) fnExactIsTargets_j12) fnExactIsTargets_j13) fnExactIsTargets_j14) fnExactIsTargets_j15) fnExactIsTargets_j16) fnExactIsTargets_j17) fnExactIsTargets_j18) fnExactIsTargets_j19) fnExactIsTargets_j20) fnExactIsTargets_j21) fnExactIsTargets_j22) fnExactIsTargets_j23) fnExactIsTargets_j24) fnExactIsTargets_j25) fnExactIsTargets_j26) fnExactIsTargets_j27) fnExactIsTargets_j28) fnExactIsTargets_j29) fnExactIsTargets_j30) fnExactIsTargets_j31)
end Go.Proofs.YtjijjanefcaakaaGreatDoor
