/- Facts of the program that the row of FnExactCheckSites names, each computed; no condition. -/
import Derived.Test.YtiaobghojdehbaaGreatDoorRows
import Derived.ProofKit
import Derived.JoinedOf
import Derived.KernelRfl
set_option linter.all false
set_option maxRecDepth 100000
namespace Go.Proofs.YtiaobghojdehbaaGreatDoor
open Go.ChangeShapes Go.WideShapes Go.ChangeAt Go.RowKit
theorem fnExactCheckSites_j0 : (Rows.fnExactCheckSitesRow.wf (OpenSpec.ofChange Rows.fnExactCheckSitesSpec)) = true := by kernel_rfl
theorem fnExactCheckSites_j2 : (mapsRowed Tryz.prog) = true := by kernel_rfl
theorem fnExactCheckSites_j3 : (Tryz.f3.params.all (Tryz.prog.readableRec ·)) = true := by kernel_rfl
theorem fnExactCheckSites_j4 : (namedTie Tryz.prog Rows.fnExactCheckSitesRow.named Rows.fnExactCheckSitesSpec.vars) = true := by kernel_rfl
theorem fnExactCheckSites_j5 : (Rows.fnExactCheckSitesRow.stops == []) = true := by kernel_rfl
theorem fnExactCheckSites_j6 : (Tryz.prog.stops == []) = true := by kernel_rfl
theorem fnExactCheckSites_j7 : (Rows.fnExactCheckSitesRow.knobs == []) = true := by kernel_rfl
theorem fnExactCheckSites_j8 : (Tryz.prog.stopKnobs == []) = true := by kernel_rfl
theorem fnExactCheckSites_j13 : (Rows.fnExactCheckSitesRow.maps == (Tryz.f3.params.toList ++ Rows.fnExactCheckSitesSpec.plain.varTypes Tryz.prog).any (Tryz.prog.mapsRec ·)) = true := by kernel_rfl
theorem fnExactCheckSites_j14 : (Rows.fnExactCheckSitesRow.ifaces == (Tryz.f3.params.toList ++ Rows.fnExactCheckSitesSpec.plain.varTypes Tryz.prog).any (Tryz.prog.ifacesRec ·)) = true := by kernel_rfl
theorem fnExactCheckSites_j15 : (Rows.fnExactCheckSitesRow.mapsOut == Tryz.prog.mapsAmong Tryz.f3.resultTypes.toList) = true := by kernel_rfl
theorem fnExactCheckSites_j16 : (Rows.fnExactCheckSitesRow.loops == (Tryz.f3.params.toList ++ Rows.fnExactCheckSitesSpec.plain.varTypes Tryz.prog).any (Tryz.prog.loopsFrom ·)) = true := by kernel_rfl
theorem fnExactCheckSites_j17 : (Rows.fnExactCheckSitesRow.wideKeys == (Tryz.f3.params.toList ++ Rows.fnExactCheckSitesSpec.plain.varTypes Tryz.prog ++ Tryz.f3.resultTypes.toList).any (Tryz.prog.wideKeysFrom ·)) = true := by kernel_rfl
theorem fnExactCheckSites_j18 : (Rows.fnExactCheckSitesSpec.vars.all (Tryz.prog.varReadable ·)) = true := by kernel_rfl
theorem fnExactCheckSites_j19 : (Tryz.f3.resultTypes.all (fun t => Tryz.prog.readableRec t && decide (t < Tryz.prog.types.size))) = true := by kernel_rfl
theorem fnExactCheckSites_j20 : (Rows.fnExactCheckSitesRow.ifacesOut == Tryz.f3.resultTypes.toList.any (Tryz.prog.ifacesRec ·)) = true := by kernel_rfl
theorem fnExactCheckSites_j21 : (Rows.fnExactCheckSitesRow.loopsOut == Tryz.f3.resultTypes.toList.any (Tryz.prog.loopsFrom ·)) = true := by kernel_rfl
theorem fnExactCheckSites_j22 : (Rows.fnExactCheckSitesRow.plainKeys == Tryz.prog.plainKeys) = true := by kernel_rfl
theorem fnExactCheckSites_j23 : (Rows.fnExactCheckSitesRow.shortTexts.isNone) = true := by kernel_rfl
theorem fnExactCheckSites_j24 : (Tryz.prog.stopsHeard) = true := by kernel_rfl
theorem fnExactCheckSites_j25 : (Tryz.prog.mayEnter) = true := by kernel_rfl
theorem fnExactCheckSites_j26 : (Rows.fnExactCheckSitesRow.lifted == Tryz.prog.liftsFinal) = true := by kernel_rfl
theorem fnExactCheckSites_j27 : (Tryz.prog.make == some Rows.fnExactCheckSitesRow.make) = true := by kernel_rfl
theorem fnExactCheckSites_j28 : (Rows.fnExactCheckSitesRow.kinds == (if Rows.fnExactCheckSitesRow.domain.isEmpty then [] else Tryz.f3.params.toList.map fun t => match Tryz.prog.underlying t with | some (.int k) => some k | _ => none)) = true := by kernel_rfl
theorem fnExactCheckSites_j29 : (Rows.fnExactCheckSitesRow.pinned == Rows.fnExactCheckSitesRow.pinnedBy) = true := by kernel_rfl
theorem fnExactCheckSites_j30 : (Rows.fnExactCheckSitesRow.veiled == (Tryz.f3.params.toList ++ Rows.fnExactCheckSitesSpec.plain.varTypes Tryz.prog ++ Tryz.f3.resultTypes.toList).any (Tryz.prog.veiledRec ·)) = true := by kernel_rfl
theorem fnExactCheckSites_j31 : (Rows.fnExactCheckSitesRow.veiledFits Tryz.prog Tryz.f3.params.toList (Tryz.f3.params.toList ++ Rows.fnExactCheckSitesSpec.plain.varTypes Tryz.prog ++ Tryz.f3.resultTypes.toList)) = true := by kernel_rfl
theorem fnExactCheckSites_fn : Tryz.prog.funcNamed Rows.fnExactCheckSitesRow.func = some 3 := by kernel_rfl
end Go.Proofs.YtiaobghojdehbaaGreatDoor
