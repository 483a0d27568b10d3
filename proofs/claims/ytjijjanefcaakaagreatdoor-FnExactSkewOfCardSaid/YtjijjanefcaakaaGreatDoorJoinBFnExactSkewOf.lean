/- Facts of the program that the row of FnExactSkewOf names, each computed; no condition. -/
import Derived.Test.YtjijjanefcaakaaGreatDoorRows
import Derived.ProofKit
import Derived.JoinedOf
import Derived.KernelRfl
set_option linter.all false
set_option maxRecDepth 100000
namespace Go.Proofs.YtjijjanefcaakaaGreatDoor
open Go.ChangeShapes Go.WideShapes Go.ChangeAt Go.RowKit
theorem fnExactSkewOf_j0 : (Rows.fnExactSkewOfRow.wf (OpenSpec.ofChange Rows.fnExactSkewOfSpec)) = true := by kernel_rfl
theorem fnExactSkewOf_j2 : (mapsRowed Tryz.prog) = true := by kernel_rfl
theorem fnExactSkewOf_j3 : (Tryz.f6.params.all (Tryz.prog.readableRec ·)) = true := by kernel_rfl
theorem fnExactSkewOf_j4 : (namedTie Tryz.prog Rows.fnExactSkewOfRow.named Rows.fnExactSkewOfSpec.vars) = true := by kernel_rfl
theorem fnExactSkewOf_j5 : (Rows.fnExactSkewOfRow.stops == []) = true := by kernel_rfl
theorem fnExactSkewOf_j6 : (Tryz.prog.stops == []) = true := by kernel_rfl
theorem fnExactSkewOf_j7 : (Rows.fnExactSkewOfRow.knobs == []) = true := by kernel_rfl
theorem fnExactSkewOf_j8 : (Tryz.prog.stopKnobs == []) = true := by kernel_rfl
theorem fnExactSkewOf_j13 : (Rows.fnExactSkewOfRow.maps == (Tryz.f6.params.toList ++ Rows.fnExactSkewOfSpec.plain.varTypes Tryz.prog).any (Tryz.prog.mapsRec ·)) = true := by kernel_rfl
theorem fnExactSkewOf_j14 : (Rows.fnExactSkewOfRow.ifaces == (Tryz.f6.params.toList ++ Rows.fnExactSkewOfSpec.plain.varTypes Tryz.prog).any (Tryz.prog.ifacesRec ·)) = true := by kernel_rfl
theorem fnExactSkewOf_j15 : (Rows.fnExactSkewOfRow.mapsOut == Tryz.prog.mapsAmong Tryz.f6.resultTypes.toList) = true := by kernel_rfl
theorem fnExactSkewOf_j16 : (Rows.fnExactSkewOfRow.loops == (Tryz.f6.params.toList ++ Rows.fnExactSkewOfSpec.plain.varTypes Tryz.prog).any (Tryz.prog.loopsFrom ·)) = true := by kernel_rfl
theorem fnExactSkewOf_j17 : (Rows.fnExactSkewOfRow.wideKeys == (Tryz.f6.params.toList ++ Rows.fnExactSkewOfSpec.plain.varTypes Tryz.prog ++ Tryz.f6.resultTypes.toList).any (Tryz.prog.wideKeysFrom ·)) = true := by kernel_rfl
theorem fnExactSkewOf_j18 : (Rows.fnExactSkewOfSpec.vars.all (Tryz.prog.varReadable ·)) = true := by kernel_rfl
theorem fnExactSkewOf_j19 : (Tryz.f6.resultTypes.all (fun t => Tryz.prog.readableRec t && decide (t < Tryz.prog.types.size))) = true := by kernel_rfl
theorem fnExactSkewOf_j20 : (Rows.fnExactSkewOfRow.ifacesOut == Tryz.f6.resultTypes.toList.any (Tryz.prog.ifacesRec ·)) = true := by kernel_rfl
theorem fnExactSkewOf_j21 : (Rows.fnExactSkewOfRow.loopsOut == Tryz.f6.resultTypes.toList.any (Tryz.prog.loopsFrom ·)) = true := by kernel_rfl
theorem fnExactSkewOf_j22 : (Rows.fnExactSkewOfRow.plainKeys == Tryz.prog.plainKeys) = true := by kernel_rfl
theorem fnExactSkewOf_j23 : (Rows.fnExactSkewOfRow.shortTexts.isNone) = true := by kernel_rfl
theorem fnExactSkewOf_j24 : (Tryz.prog.stopsHeard) = true := by kernel_rfl
theorem fnExactSkewOf_j25 : (Tryz.prog.mayEnter) = true := by kernel_rfl
theorem fnExactSkewOf_j26 : (Rows.fnExactSkewOfRow.lifted == Tryz.prog.liftsFinal) = true := by kernel_rfl
theorem fnExactSkewOf_j27 : (Tryz.prog.make == some Rows.fnExactSkewOfRow.make) = true := by kernel_rfl
theorem fnExactSkewOf_j28 : (Rows.fnExactSkewOfRow.kinds == (if Rows.fnExactSkewOfRow.domain.isEmpty then [] else Tryz.f6.params.toList.map fun t => match Tryz.prog.underlying t with | some (.int k) => some k | _ => none)) = true := by kernel_rfl
theorem fnExactSkewOf_j29 : (Rows.fnExactSkewOfRow.pinned == Rows.fnExactSkewOfRow.pinnedBy) = true := by kernel_rfl
theorem fnExactSkewOf_j30 : (Rows.fnExactSkewOfRow.veiled == (Tryz.f6.params.toList ++ Rows.fnExactSkewOfSpec.plain.varTypes Tryz.prog ++ Tryz.f6.resultTypes.toList).any (Tryz.prog.veiledRec ·)) = true := by kernel_rfl
theorem fnExactSkewOf_j31 : (Rows.fnExactSkewOfRow.veiledFits Tryz.prog Tryz.f6.params.toList (Tryz.f6.params.toList ++ Rows.fnExactSkewOfSpec.plain.varTypes Tryz.prog ++ Tryz.f6.resultTypes.toList)) = true := by kernel_rfl
theorem fnExactSkewOf_fn : Tryz.prog.funcNamed Rows.fnExactSkewOfRow.func = some 6 := by kernel_rfl
end Go.Proofs.YtjijjanefcaakaaGreatDoor
