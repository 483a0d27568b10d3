/- Facts of the program that the row of FnWorstSlacks names, each computed; no condition. -/
import Derived.Test.YthojemmmflaicadGreatDoorRows
import Derived.ProofKit
import Derived.JoinedOf
import Derived.KernelRfl
set_option linter.all false
set_option maxRecDepth 100000
namespace Go.Proofs.YthojemmmflaicadGreatDoor
open Go.ChangeShapes Go.WideShapes Go.ChangeAt Go.RowKit
theorem fnWorstSlacks_j0 : (Rows.fnWorstSlacksRow.wf (OpenSpec.ofChange Rows.fnWorstSlacksSpec)) = true := by kernel_rfl
theorem fnWorstSlacks_j2 : (mapsRowed Tryz.prog) = true := by kernel_rfl
theorem fnWorstSlacks_j3 : (Tryz.f3.params.all (Tryz.prog.readableRec ·)) = true := by kernel_rfl
theorem fnWorstSlacks_j4 : (namedTie Tryz.prog Rows.fnWorstSlacksRow.named Rows.fnWorstSlacksSpec.vars) = true := by kernel_rfl
theorem fnWorstSlacks_j5 : (Rows.fnWorstSlacksRow.stops == []) = true := by kernel_rfl
theorem fnWorstSlacks_j6 : (Tryz.prog.stops == []) = true := by kernel_rfl
theorem fnWorstSlacks_j7 : (Rows.fnWorstSlacksRow.knobs == []) = true := by kernel_rfl
theorem fnWorstSlacks_j8 : (Tryz.prog.stopKnobs == []) = true := by kernel_rfl
theorem fnWorstSlacks_j13 : (Rows.fnWorstSlacksRow.maps == (Tryz.f3.params.toList ++ Rows.fnWorstSlacksSpec.plain.varTypes Tryz.prog).any (Tryz.prog.mapsRec ·)) = true := by kernel_rfl
theorem fnWorstSlacks_j14 : (Rows.fnWorstSlacksRow.ifaces == (Tryz.f3.params.toList ++ Rows.fnWorstSlacksSpec.plain.varTypes Tryz.prog).any (Tryz.prog.ifacesRec ·)) = true := by kernel_rfl
theorem fnWorstSlacks_j15 : (Rows.fnWorstSlacksRow.mapsOut == Tryz.prog.mapsAmong Tryz.f3.resultTypes.toList) = true := by kernel_rfl
theorem fnWorstSlacks_j16 : (Rows.fnWorstSlacksRow.loops == (Tryz.f3.params.toList ++ Rows.fnWorstSlacksSpec.plain.varTypes Tryz.prog).any (Tryz.prog.loopsFrom ·)) = true := by kernel_rfl
theorem fnWorstSlacks_j17 : (Rows.fnWorstSlacksRow.wideKeys == (Tryz.f3.params.toList ++ Rows.fnWorstSlacksSpec.plain.varTypes Tryz.prog ++ Tryz.f3.resultTypes.toList).any (Tryz.prog.wideKeysFrom ·)) = true := by kernel_rfl
theorem fnWorstSlacks_j18 : (Rows.fnWorstSlacksSpec.vars.all (Tryz.prog.varReadable ·)) = true := by kernel_rfl
theorem fnWorstSlacks_j19 : (Tryz.f3.resultTypes.all (fun t => Tryz.prog.readableRec t && decide (t < Tryz.prog.types.size))) = true := by kernel_rfl
theorem fnWorstSlacks_j20 : (Rows.fnWorstSlacksRow.ifacesOut == Tryz.f3.resultTypes.toList.any (Tryz.prog.ifacesRec ·)) = true := by kernel_rfl
theorem fnWorstSlacks_j21 : (Rows.fnWorstSlacksRow.loopsOut == Tryz.f3.resultTypes.toList.any (Tryz.prog.loopsFrom ·)) = true := by kernel_rfl
theorem fnWorstSlacks_j22 : (Rows.fnWorstSlacksRow.plainKeys == Tryz.prog.plainKeys) = true := by kernel_rfl
theorem fnWorstSlacks_j23 : (Rows.fnWorstSlacksRow.shortTexts.isNone) = true := by kernel_rfl
theorem fnWorstSlacks_j24 : (Tryz.prog.stopsHeard) = true := by kernel_rfl
theorem fnWorstSlacks_j25 : (Tryz.prog.mayEnter) = true := by kernel_rfl
theorem fnWorstSlacks_j26 : (Rows.fnWorstSlacksRow.lifted == Tryz.prog.liftsFinal) = true := by kernel_rfl
theorem fnWorstSlacks_j27 : (Tryz.prog.make == some Rows.fnWorstSlacksRow.make) = true := by kernel_rfl
theorem fnWorstSlacks_j28 : (Rows.fnWorstSlacksRow.kinds == (if Rows.fnWorstSlacksRow.domain.isEmpty then [] else Tryz.f3.params.toList.map fun t => match Tryz.prog.underlying t with | some (.int k) => some k | _ => none)) = true := by kernel_rfl
theorem fnWorstSlacks_j29 : (Rows.fnWorstSlacksRow.pinned == Rows.fnWorstSlacksRow.pinnedBy) = true := by kernel_rfl
theorem fnWorstSlacks_j30 : (Rows.fnWorstSlacksRow.veiled == (Tryz.f3.params.toList ++ Rows.fnWorstSlacksSpec.plain.varTypes Tryz.prog ++ Tryz.f3.resultTypes.toList).any (Tryz.prog.veiledRec ·)) = true := by kernel_rfl
theorem fnWorstSlacks_j31 : (Rows.fnWorstSlacksRow.veiledFits Tryz.prog Tryz.f3.params.toList (Tryz.f3.params.toList ++ Rows.fnWorstSlacksSpec.plain.varTypes Tryz.prog ++ Tryz.f3.resultTypes.toList)) = true := by kernel_rfl
theorem fnWorstSlacks_fn : Tryz.prog.funcNamed Rows.fnWorstSlacksRow.func = some 3 := by kernel_rfl
end Go.Proofs.YthojemmmflaicadGreatDoor
