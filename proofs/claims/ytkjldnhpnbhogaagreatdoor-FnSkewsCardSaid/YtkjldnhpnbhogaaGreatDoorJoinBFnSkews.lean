/- Facts of the program that the row of FnSkews names, each computed; no condition. -/
import Derived.Test.YtkjldnhpnbhogaaGreatDoorRows
import Derived.ProofKit
import Derived.JoinedOf
import Derived.KernelRfl
set_option linter.all false
set_option maxRecDepth 100000
namespace Go.Proofs.YtkjldnhpnbhogaaGreatDoor
open Go.ChangeShapes Go.WideShapes Go.ChangeAt Go.RowKit
theorem fnSkews_j0 : (Rows.fnSkewsRow.wf (OpenSpec.ofChange Rows.fnSkewsSpec)) = true := by kernel_rfl
theorem fnSkews_j2 : (mapsRowed Tryz.prog) = true := by kernel_rfl
theorem fnSkews_j3 : (Tryz.f3.params.all (Tryz.prog.readableRec ·)) = true := by kernel_rfl
theorem fnSkews_j4 : (namedTie Tryz.prog Rows.fnSkewsRow.named Rows.fnSkewsSpec.vars) = true := by kernel_rfl
theorem fnSkews_j5 : (Rows.fnSkewsRow.stops == []) = true := by kernel_rfl
theorem fnSkews_j6 : (Tryz.prog.stops == []) = true := by kernel_rfl
theorem fnSkews_j7 : (Rows.fnSkewsRow.knobs == []) = true := by kernel_rfl
theorem fnSkews_j8 : (Tryz.prog.stopKnobs == []) = true := by kernel_rfl
theorem fnSkews_j13 : (Rows.fnSkewsRow.maps == (Tryz.f3.params.toList ++ Rows.fnSkewsSpec.plain.varTypes Tryz.prog).any (Tryz.prog.mapsRec ·)) = true := by kernel_rfl
theorem fnSkews_j14 : (Rows.fnSkewsRow.ifaces == (Tryz.f3.params.toList ++ Rows.fnSkewsSpec.plain.varTypes Tryz.prog).any (Tryz.prog.ifacesRec ·)) = true := by kernel_rfl
theorem fnSkews_j15 : (Rows.fnSkewsRow.mapsOut == Tryz.prog.mapsAmong Tryz.f3.resultTypes.toList) = true := by kernel_rfl
theorem fnSkews_j16 : (Rows.fnSkewsRow.loops == (Tryz.f3.params.toList ++ Rows.fnSkewsSpec.plain.varTypes Tryz.prog).any (Tryz.prog.loopsFrom ·)) = true := by kernel_rfl
theorem fnSkews_j17 : (Rows.fnSkewsRow.wideKeys == (Tryz.f3.params.toList ++ Rows.fnSkewsSpec.plain.varTypes Tryz.prog ++ Tryz.f3.resultTypes.toList).any (Tryz.prog.wideKeysFrom ·)) = true := by kernel_rfl
theorem fnSkews_j18 : (Rows.fnSkewsSpec.vars.all (Tryz.prog.varReadable ·)) = true := by kernel_rfl
theorem fnSkews_j19 : (Tryz.f3.resultTypes.all (fun t => Tryz.prog.readableRec t && decide (t < Tryz.prog.types.size))) = true := by kernel_rfl
theorem fnSkews_j20 : (Rows.fnSkewsRow.ifacesOut == Tryz.f3.resultTypes.toList.any (Tryz.prog.ifacesRec ·)) = true := by kernel_rfl
theorem fnSkews_j21 : (Rows.fnSkewsRow.loopsOut == Tryz.f3.resultTypes.toList.any (Tryz.prog.loopsFrom ·)) = true := by kernel_rfl
theorem fnSkews_j22 : (Rows.fnSkewsRow.plainKeys == Tryz.prog.plainKeys) = true := by kernel_rfl
theorem fnSkews_j23 : (Rows.fnSkewsRow.shortTexts.isNone) = true := by kernel_rfl
theorem fnSkews_j24 : (Tryz.prog.stopsHeard) = true := by kernel_rfl
theorem fnSkews_j25 : (Tryz.prog.mayEnter) = true := by kernel_rfl
theorem fnSkews_j26 : (Rows.fnSkewsRow.lifted == Tryz.prog.liftsFinal) = true := by kernel_rfl
theorem fnSkews_j27 : (Tryz.prog.make == some Rows.fnSkewsRow.make) = true := by kernel_rfl
theorem fnSkews_j28 : (Rows.fnSkewsRow.kinds == (if Rows.fnSkewsRow.domain.isEmpty then [] else Tryz.f3.params.toList.map fun t => match Tryz.prog.underlying t with | some (.int k) => some k | _ => none)) = true := by kernel_rfl
theorem fnSkews_j29 : (Rows.fnSkewsRow.pinned == Rows.fnSkewsRow.pinnedBy) = true := by kernel_rfl
theorem fnSkews_j30 : (Rows.fnSkewsRow.veiled == (Tryz.f3.params.toList ++ Rows.fnSkewsSpec.plain.varTypes Tryz.prog ++ Tryz.f3.resultTypes.toList).any (Tryz.prog.veiledRec ·)) = true := by kernel_rfl
theorem fnSkews_j31 : (Rows.fnSkewsRow.veiledFits Tryz.prog Tryz.f3.params.toList (Tryz.f3.params.toList ++ Rows.fnSkewsSpec.plain.varTypes Tryz.prog ++ Tryz.f3.resultTypes.toList)) = true := by kernel_rfl
theorem fnSkews_fn : Tryz.prog.funcNamed Rows.fnSkewsRow.func = some 3 := by kernel_rfl
end Go.Proofs.YtkjldnhpnbhogaaGreatDoor
