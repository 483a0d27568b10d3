/- Facts of the program that the row of FnExactSlackOf names, each computed; no condition. -/
import Derived.Test.YtjijjanefcaakaaGreatDoorRows
import Derived.ProofKit
import Derived.JoinedOf
import Derived.KernelRfl
set_option linter.all false
set_option maxRecDepth 100000
namespace Go.Proofs.YtjijjanefcaakaaGreatDoor
open Go.ChangeShapes Go.WideShapes Go.ChangeAt Go.RowKit
theorem fnExactSlackOf_j0 : (Rows.fnExactSlackOfRow.wf (OpenSpec.ofChange Rows.fnExactSlackOfSpec)) = true := by kernel_rfl
theorem fnExactSlackOf_j2 : (mapsRowed Tryz.prog) = true := by kernel_rfl
theorem fnExactSlackOf_j3 : (Tryz.f7.params.all (Tryz.prog.readableRec ·)) = true := by kernel_rfl
theorem fnExactSlackOf_j4 : (namedTie Tryz.prog Rows.fnExactSlackOfRow.named Rows.fnExactSlackOfSpec.vars) = true := by kernel_rfl
theorem fnExactSlackOf_j5 : (Rows.fnExactSlackOfRow.stops == []) = true := by kernel_rfl
theorem fnExactSlackOf_j6 : (Tryz.prog.stops == []) = true := by kernel_rfl
theorem fnExactSlackOf_j7 : (Rows.fnExactSlackOfRow.knobs == []) = true := by kernel_rfl
theorem fnExactSlackOf_j8 : (Tryz.prog.stopKnobs == []) = true := by kernel_rfl
theorem fnExactSlackOf_j13 : (Rows.fnExactSlackOfRow.maps == (Tryz.f7.params.toList ++ Rows.fnExactSlackOfSpec.plain.varTypes Tryz.prog).any (Tryz.prog.mapsRec ·)) = true := by kernel_rfl
theorem fnExactSlackOf_j14 : (Rows.fnExactSlackOfRow.ifaces == (Tryz.f7.params.toList ++ Rows.fnExactSlackOfSpec.plain.varTypes Tryz.prog).any (Tryz.prog.ifacesRec ·)) = true := by kernel_rfl
theorem fnExactSlackOf_j15 : (Rows.fnExactSlackOfRow.mapsOut == Tryz.prog.mapsAmong Tryz.f7.resultTypes.toList) = true := by kernel_rfl
theorem fnExactSlackOf_j16 : (Rows.fnExactSlackOfRow.loops == (Tryz.f7.params.toList ++ Rows.fnExactSlackOfSpec.plain.varTypes Tryz.prog).any (Tryz.prog.loopsFrom ·)) = true := by kernel_rfl
theorem fnExactSlackOf_j17 : (Rows.fnExactSlackOfRow.wideKeys == (Tryz.f7.params.toList ++ Rows.fnExactSlackOfSpec.plain.varTypes Tryz.prog ++ Tryz.f7.resultTypes.toList).any (Tryz.prog.wideKeysFrom ·)) = true := by kernel_rfl
theorem fnExactSlackOf_j18 : (Rows.fnExactSlackOfSpec.vars.all (Tryz.prog.varReadable ·)) = true := by kernel_rfl
theorem fnExactSlackOf_j19 : (Tryz.f7.resultTypes.all (fun t => Tryz.prog.readableRec t && decide (t < Tryz.prog.types.size))) = true := by kernel_rfl
theorem fnExactSlackOf_j20 : (Rows.fnExactSlackOfRow.ifacesOut == Tryz.f7.resultTypes.toList.any (Tryz.prog.ifacesRec ·)) = true := by kernel_rfl
theorem fnExactSlackOf_j21 : (Rows.fnExactSlackOfRow.loopsOut == Tryz.f7.resultTypes.toList.any (Tryz.prog.loopsFrom ·)) = true := by kernel_rfl
theorem fnExactSlackOf_j22 : (Rows.fnExactSlackOfRow.plainKeys == Tryz.prog.plainKeys) = true := by kernel_rfl
theorem fnExactSlackOf_j23 : (Rows.fnExactSlackOfRow.shortTexts.isNone) = true := by kernel_rfl
theorem fnExactSlackOf_j24 : (Tryz.prog.stopsHeard) = true := by kernel_rfl
theorem fnExactSlackOf_j25 : (Tryz.prog.mayEnter) = true := by kernel_rfl
theorem fnExactSlackOf_j26 : (Rows.fnExactSlackOfRow.lifted == Tryz.prog.liftsFinal) = true := by kernel_rfl
theorem fnExactSlackOf_j27 : (Tryz.prog.make == some Rows.fnExactSlackOfRow.make) = true := by kernel_rfl
theorem fnExactSlackOf_j28 : (Rows.fnExactSlackOfRow.kinds == (if Rows.fnExactSlackOfRow.domain.isEmpty then [] else Tryz.f7.params.toList.map fun t => match Tryz.prog.underlying t with | some (.int k) => some k | _ => none)) = true := by kernel_rfl
theorem fnExactSlackOf_j29 : (Rows.fnExactSlackOfRow.pinned == Rows.fnExactSlackOfRow.pinnedBy) = true := by kernel_rfl
theorem fnExactSlackOf_j30 : (Rows.fnExactSlackOfRow.veiled == (Tryz.f7.params.toList ++ Rows.fnExactSlackOfSpec.plain.varTypes Tryz.prog ++ Tryz.f7.resultTypes.toList).any (Tryz.prog.veiledRec ·)) = true := by kernel_rfl
theorem fnExactSlackOf_j31 : (Rows.fnExactSlackOfRow.veiledFits Tryz.prog Tryz.f7.params.toList (Tryz.f7.params.toList ++ Rows.fnExactSlackOfSpec.plain.varTypes Tryz.prog ++ Tryz.f7.resultTypes.toList)) = true := by kernel_rfl
theorem fnExactSlackOf_fn : Tryz.prog.funcNamed Rows.fnExactSlackOfRow.func = some 7 := by kernel_rfl
end Go.Proofs.YtjijjanefcaakaaGreatDoor
