/- Facts of the program that the row of FnExactDataSlacks names, each computed; no condition. -/
import Derived.Test.YtjijjanefcaakaaGreatDoorRows
import Derived.ProofKit
import Derived.JoinedOf
import Derived.KernelRfl
set_option linter.all false
set_option maxRecDepth 100000
namespace Go.Proofs.YtjijjanefcaakaaGreatDoor
open Go.ChangeShapes Go.WideShapes Go.ChangeAt Go.RowKit
theorem fnExactDataSlacks_j0 : (Rows.fnExactDataSlacksRow.wf (OpenSpec.ofChange Rows.fnExactDataSlacksSpec)) = true := by kernel_rfl
theorem fnExactDataSlacks_j2 : (mapsRowed Tryz.prog) = true := by kernel_rfl
theorem fnExactDataSlacks_j3 : (Tryz.f5.params.all (Tryz.prog.readableRec ·)) = true := by kernel_rfl
theorem fnExactDataSlacks_j4 : (namedTie Tryz.prog Rows.fnExactDataSlacksRow.named Rows.fnExactDataSlacksSpec.vars) = true := by kernel_rfl
theorem fnExactDataSlacks_j5 : (Rows.fnExactDataSlacksRow.stops == []) = true := by kernel_rfl
theorem fnExactDataSlacks_j6 : (Tryz.prog.stops == []) = true := by kernel_rfl
theorem fnExactDataSlacks_j7 : (Rows.fnExactDataSlacksRow.knobs == []) = true := by kernel_rfl
theorem fnExactDataSlacks_j8 : (Tryz.prog.stopKnobs == []) = true := by kernel_rfl
theorem fnExactDataSlacks_j13 : (Rows.fnExactDataSlacksRow.maps == (Tryz.f5.params.toList ++ Rows.fnExactDataSlacksSpec.plain.varTypes Tryz.prog).any (Tryz.prog.mapsRec ·)) = true := by kernel_rfl
theorem fnExactDataSlacks_j14 : (Rows.fnExactDataSlacksRow.ifaces == (Tryz.f5.params.toList ++ Rows.fnExactDataSlacksSpec.plain.varTypes Tryz.prog).any (Tryz.prog.ifacesRec ·)) = true := by kernel_rfl
theorem fnExactDataSlacks_j15 : (Rows.fnExactDataSlacksRow.mapsOut == Tryz.prog.mapsAmong Tryz.f5.resultTypes.toList) = true := by kernel_rfl
theorem fnExactDataSlacks_j16 : (Rows.fnExactDataSlacksRow.loops == (Tryz.f5.params.toList ++ Rows.fnExactDataSlacksSpec.plain.varTypes Tryz.prog).any (Tryz.prog.loopsFrom ·)) = true := by kernel_rfl
theorem fnExactDataSlacks_j17 : (Rows.fnExactDataSlacksRow.wideKeys == (Tryz.f5.params.toList ++ Rows.fnExactDataSlacksSpec.plain.varTypes Tryz.prog ++ Tryz.f5.resultTypes.toList).any (Tryz.prog.wideKeysFrom ·)) = true := by kernel_rfl
theorem fnExactDataSlacks_j18 : (Rows.fnExactDataSlacksSpec.vars.all (Tryz.prog.varReadable ·)) = true := by kernel_rfl
theorem fnExactDataSlacks_j19 : (Tryz.f5.resultTypes.all (fun t => Tryz.prog.readableRec t && decide (t < Tryz.prog.types.size))) = true := by kernel_rfl
theorem fnExactDataSlacks_j20 : (Rows.fnExactDataSlacksRow.ifacesOut == Tryz.f5.resultTypes.toList.any (Tryz.prog.ifacesRec ·)) = true := by kernel_rfl
theorem fnExactDataSlacks_j21 : (Rows.fnExactDataSlacksRow.loopsOut == Tryz.f5.resultTypes.toList.any (Tryz.prog.loopsFrom ·)) = true := by kernel_rfl
theorem fnExactDataSlacks_j22 : (Rows.fnExactDataSlacksRow.plainKeys == Tryz.prog.plainKeys) = true := by kernel_rfl
theorem fnExactDataSlacks_j23 : (Rows.fnExactDataSlacksRow.shortTexts.isNone) = true := by kernel_rfl
theorem fnExactDataSlacks_j24 : (Tryz.prog.stopsHeard) = true := by kernel_rfl
theorem fnExactDataSlacks_j25 : (Tryz.prog.mayEnter) = true := by kernel_rfl
theorem fnExactDataSlacks_j26 : (Rows.fnExactDataSlacksRow.lifted == Tryz.prog.liftsFinal) = true := by kernel_rfl
theorem fnExactDataSlacks_j27 : (Tryz.prog.make == some Rows.fnExactDataSlacksRow.make) = true := by kernel_rfl
theorem fnExactDataSlacks_j28 : (Rows.fnExactDataSlacksRow.kinds == (if Rows.fnExactDataSlacksRow.domain.isEmpty then [] else Tryz.f5.params.toList.map fun t => match Tryz.prog.underlying t with | some (.int k) => some k | _ => none)) = true := by kernel_rfl
theorem fnExactDataSlacks_j29 : (Rows.fnExactDataSlacksRow.pinned == Rows.fnExactDataSlacksRow.pinnedBy) = true := by kernel_rfl
theorem fnExactDataSlacks_j30 : (Rows.fnExactDataSlacksRow.veiled == (Tryz.f5.params.toList ++ Rows.fnExactDataSlacksSpec.plain.varTypes Tryz.prog ++ Tryz.f5.resultTypes.toList).any (Tryz.prog.veiledRec ·)) = true := by kernel_rfl
theorem fnExactDataSlacks_j31 : (Rows.fnExactDataSlacksRow.veiledFits Tryz.prog Tryz.f5.params.toList (Tryz.f5.params.toList ++ Rows.fnExactDataSlacksSpec.plain.varTypes Tryz.prog ++ Tryz.f5.resultTypes.toList)) = true := by kernel_rfl
theorem fnExactDataSlacks_fn : Tryz.prog.funcNamed Rows.fnExactDataSlacksRow.func = some 5 := by kernel_rfl
end Go.Proofs.YtjijjanefcaakaaGreatDoor
