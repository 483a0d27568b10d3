/- The facts of the program that the row of FnExactIsNeeds names, each computed; no condition. -/
import Derived.Test.YtjijjanefcaakaaGreatDoorRows
import Derived.ProofKit
import Derived.JoinedOf
import Derived.KernelRfl
set_option linter.all false
set_option maxRecDepth 100000
namespace Go.Proofs.YtjijjanefcaakaaGreatDoor
open Go.ChangeShapes Go.WideShapes Go.ChangeAt Go.RowKit
theorem and_tt {a b : Bool} (ha : a = true) (hb : b = true) : (a && b) = true := by rw [ha, hb]; rfl
theorem fnExactIsNeeds_j0 : (Rows.fnExactIsNeedsRow.wf (OpenSpec.ofChange Rows.fnExactIsNeedsSpec)) = true := by kernel_rfl
theorem fnExactIsNeeds_j1 : (laidOutB Tryz.prog) = true := by kernel_rfl
theorem fnExactIsNeeds_j2 : (mapsRowed Tryz.prog) = true := by kernel_rfl
theorem fnExactIsNeeds_j3 : (Tryz.f4.params.all (Tryz.prog.readableRec ·)) = true := by kernel_rfl
theorem fnExactIsNeeds_j4 : (namedTie Tryz.prog Rows.fnExactIsNeedsRow.named Rows.fnExactIsNeedsSpec.vars) = true := by kernel_rfl
theorem fnExactIsNeeds_j5 : (Rows.fnExactIsNeedsRow.stops == []) = true := by kernel_rfl
theorem fnExactIsNeeds_j6 : (Tryz.prog.stops == []) = true := by kernel_rfl
theorem fnExactIsNeeds_j7 : (Rows.fnExactIsNeedsRow.knobs == []) = true := by kernel_rfl
theorem fnExactIsNeeds_j8 : (Tryz.prog.stopKnobs == []) = true := by kernel_rfl
theorem fnExactIsNeeds_j9 : (Rows.fnExactIsNeedsRow.inPlace == Tryz.prog.inPlace 4) = true := by kernel_rfl
theorem fnExactIsNeeds_j10 : (Rows.fnExactIsNeedsRow.unfollowed == Tryz.prog.unfollowed 4) = true := by kernel_rfl
theorem fnExactIsNeeds_j11 : (Rows.fnExactIsNeedsRow.recurses == Tryz.prog.recurses 4) = true := by kernel_rfl
theorem fnExactIsNeeds_j12 : (Rows.fnExactIsNeedsRow.named == Tryz.prog.varsNamed 4) = true := by kernel_rfl
theorem fnExactIsNeeds_j13 : (Rows.fnExactIsNeedsRow.maps == (Tryz.f4.params.toList ++ Rows.fnExactIsNeedsSpec.plain.varTypes Tryz.prog).any (Tryz.prog.mapsRec ·)) = true := by kernel_rfl
theorem fnExactIsNeeds_j14 : (Rows.fnExactIsNeedsRow.ifaces == (Tryz.f4.params.toList ++ Rows.fnExactIsNeedsSpec.plain.varTypes Tryz.prog).any (Tryz.prog.ifacesRec ·)) = true := by kernel_rfl
theorem fnExactIsNeeds_j15 : (Rows.fnExactIsNeedsRow.mapsOut == Tryz.prog.mapsAmong Tryz.f4.resultTypes.toList) = true := by kernel_rfl
theorem fnExactIsNeeds_j16 : (Rows.fnExactIsNeedsRow.loops == (Tryz.f4.params.toList ++ Rows.fnExactIsNeedsSpec.plain.varTypes Tryz.prog).any (Tryz.prog.loopsFrom ·)) = true := by kernel_rfl
theorem fnExactIsNeeds_j17 : (Rows.fnExactIsNeedsRow.wideKeys == (Tryz.f4.params.toList ++ Rows.fnExactIsNeedsSpec.plain.varTypes Tryz.prog ++ Tryz.f4.resultTypes.toList).any (Tryz.prog.wideKeysFrom ·)) = true := by kernel_rfl
theorem fnExactIsNeeds_j18 : (Rows.fnExactIsNeedsSpec.vars.all (Tryz.prog.varReadable ·)) = true := by kernel_rfl
theorem fnExactIsNeeds_j19 : (Tryz.f4.resultTypes.all (fun t => Tryz.prog.readableRec t && decide (t < Tryz.prog.types.size))) = true := by kernel_rfl
theorem fnExactIsNeeds_j20 : (Rows.fnExactIsNeedsRow.ifacesOut == Tryz.f4.resultTypes.toList.any (Tryz.prog.ifacesRec ·)) = true := by kernel_rfl
theorem fnExactIsNeeds_j21 : (Rows.fnExactIsNeedsRow.loopsOut == Tryz.f4.resultTypes.toList.any (Tryz.prog.loopsFrom ·)) = true := by kernel_rfl
theorem fnExactIsNeeds_j22 : (Rows.fnExactIsNeedsRow.plainKeys == Tryz.prog.plainKeys) = true := by kernel_rfl
theorem fnExactIsNeeds_j23 : (Rows.fnExactIsNeedsRow.shortTexts.isNone) = true := by kernel_rfl
theorem fnExactIsNeeds_j24 : (Tryz.prog.stopsHeard) = true := by kernel_rfl
theorem fnExactIsNeeds_j25 : (Tryz.prog.mayEnter) = true := by kernel_rfl
theorem fnExactIsNeeds_j26 : (Rows.fnExactIsNeedsRow.lifted == Tryz.prog.liftsFinal) = true := by kernel_rfl
theorem fnExactIsNeeds_j27 : (Tryz.prog.make == some Rows.fnExactIsNeedsRow.make) = true := by kernel_rfl
theorem fnExactIsNeeds_j28 : (Rows.fnExactIsNeedsRow.kinds == (if Rows.fnExactIsNeedsRow.domain.isEmpty then [] else Tryz.f4.params.toList.map fun t => match Tryz.prog.underlying t with | some (.int k) => some k | _ => none)) = true := by kernel_rfl
theorem fnExactIsNeeds_j29 : (Rows.fnExactIsNeedsRow.pinned == Rows.fnExactIsNeedsRow.pinnedBy) = true := by kernel_rfl
theorem fnExactIsNeeds_j30 : (Rows.fnExactIsNeedsRow.veiled == (Tryz.f4.params.toList ++ Rows.fnExactIsNeedsSpec.plain.varTypes Tryz.prog ++ Tryz.f4.resultTypes.toList).any (Tryz.prog.veiledRec ·)) = true := by kernel_rfl
theorem fnExactIsNeeds_j31 : (Rows.fnExactIsNeedsRow.veiledFits Tryz.prog Tryz.f4.params.toList (Tryz.f4.params.toList ++ Rows.fnExactIsNeedsSpec.plain.varTypes Tryz.prog ++ Tryz.f4.resultTypes.toList)) = true := by kernel_rfl
theorem fnExactIsNeeds_fn : Tryz.prog.funcNamed Rows.fnExactIsNeedsRow.func = some 4 := by kernel_rfl
theorem fnExactIsNeeds_joined : joinedFacts Tryz.prog 4 Tryz.f4 Rows.fnExactIsNeedsSpec Rows.fnExactIsNeedsRow = true := by
  unfold joinedFacts
  exact (and_tt (and_tt (and_tt (and_tt (and_tt (and_tt (and_tt (and_tt (and_tt (and_tt (and_tt (and_tt (and_tt (and_tt (and_tt (and_tt (and_tt (and_tt (and_tt (and_tt (and_tt (and_tt (and_tt (and_tt (and_tt (and_tt (and_tt (and_tt (and_tt (and_tt (and_tt fnExactIsNeeds_j0 fnExactIsNeeds_j1) fnExactIsNeeds_j2) fnExactIsNeeds_j3) fnExactIsNeeds_j4) fnExactIsNeeds_j5) fnExactIsNeeds_j6) fnExactIsNeeds_j7) fnExactIsNeeds_j8) fnExactIsNeeds_j9) fnExactIsNeeds_j10) fnExactIsNeeds_j11) fnExactIsNeeds_j12) fnExactIsNeeds_j13) fnExactIsNeeds_j14) fnExactIsNeeds_j15) fnExactIsNeeds_j16) fnExactIsNeeds_j17) fnExactIsNeeds_j18) fnExactIsNeeds_j19) fnExactIsNeeds_j20) fnExactIsNeeds_j21) fnExactIsNeeds_j22) fnExactIsNeeds_j23) fnExactIsNeeds_j24) fnExactIsNeeds_j25) fnExactIsNeeds_j26) fnExactIsNeeds_j27) fnExactIsNeeds_j28) fnExactIsNeeds_j29) fnExactIsNeeds_j30) fnExactIsNeeds_j31)
end Go.Proofs.YtjijjanefcaakaaGreatDoor
