/- Facts of the program that the row of FnExactGatingSlacks names, each computed; no condition. -/
import Derived.Test.YtjijjanefcaakaaGreatDoorRows
import Derived.ProofKit
import Derived.JoinedOf
import Derived.KernelRfl
set_option linter.all false
set_option maxRecDepth 100000
namespace Go.Proofs.YtjijjanefcaakaaGreatDoor
open Go.ChangeShapes Go.WideShapes Go.ChangeAt Go.RowKit
theorem fnExactGatingSlacks_j0 : (Rows.fnExactGatingSlacksRow.wf (OpenSpec.ofChange Rows.fnExactGatingSlacksSpec)) = true := by kernel_rfl
theorem fnExactGatingSlacks_j2 : (mapsRowed Tryz.prog) = true := by kernel_rfl
theorem fnExactGatingSlacks_j3 : (Tryz.f9.params.all (Tryz.prog.readableRec ·)) = true := by kernel_rfl
theorem fnExactGatingSlacks_j4 : (namedTie Tryz.prog Rows.fnExactGatingSlacksRow.named Rows.fnExactGatingSlacksSpec.vars) = true := by kernel_rfl
theorem fnExactGatingSlacks_j5 : (Rows.fnExactGatingSlacksRow.stops == []) = true := by kernel_rfl
theorem fnExactGatingSlacks_j6 : (Tryz.prog.stops == []) = true := by kernel_rfl
theorem fnExactGatingSlacks_j7 : (Rows.fnExactGatingSlacksRow.knobs == []) = true := by kernel_rfl
theorem fnExactGatingSlacks_j8 : (Tryz.prog.stopKnobs == []) = true := by kernel_rfl
theorem fnExactGatingSlacks_j13 : (Rows.fnExactGatingSlacksRow.maps == (Tryz.f9.params.toList ++ Rows.fnExactGatingSlacksSpec.plain.varTypes Tryz.prog).any (Tryz.prog.mapsRec ·)) = true := by kernel_rfl
theorem fnExactGatingSlacks_j14 : (Rows.fnExactGatingSlacksRow.ifaces == (Tryz.f9.params.toList ++ Rows.fnExactGatingSlacksSpec.plain.varTypes Tryz.prog).any (Tryz.prog.ifacesRec ·)) = true := by kernel_rfl
theorem fnExactGatingSlacks_j15 : (Rows.fnExactGatingSlacksRow.mapsOut == Tryz.prog.mapsAmong Tryz.f9.resultTypes.toList) = true := by kernel_rfl
theorem fnExactGatingSlacks_j16 : (Rows.fnExactGatingSlacksRow.loops == (Tryz.f9.params.toList ++ Rows.fnExactGatingSlacksSpec.plain.varTypes Tryz.prog).any (Tryz.prog.loopsFrom ·)) = true := by kernel_rfl
theorem fnExactGatingSlacks_j17 : (Rows.fnExactGatingSlacksRow.wideKeys == (Tryz.f9.params.toList ++ Rows.fnExactGatingSlacksSpec.plain.varTypes Tryz.prog ++ Tryz.f9.resultTypes.toList).any (Tryz.prog.wideKeysFrom ·)) = true := by kernel_rfl
theorem fnExactGatingSlacks_j18 : (Rows.fnExactGatingSlacksSpec.vars.all (Tryz.prog.varReadable ·)) = true := by kernel_rfl
theorem fnExactGatingSlacks_j19 : (Tryz.f9.resultTypes.all (fun t => Tryz.prog.readableRec t && decide (t < Tryz.prog.types.size))) = true := by kernel_rfl
theorem fnExactGatingSlacks_j20 : (Rows.fnExactGatingSlacksRow.ifacesOut == Tryz.f9.resultTypes.toList.any (Tryz.prog.ifacesRec ·)) = true := by kernel_rfl
theorem fnExactGatingSlacks_j21 : (Rows.fnExactGatingSlacksRow.loopsOut == Tryz.f9.resultTypes.toList.any (Tryz.prog.loopsFrom ·)) = true := by kernel_rfl
theorem fnExactGatingSlacks_j22 : (Rows.fnExactGatingSlacksRow.plainKeys == Tryz.prog.plainKeys) = true := by kernel_rfl
theorem fnExactGatingSlacks_j23 : (Rows.fnExactGatingSlacksRow.shortTexts.isNone) = true := by kernel_rfl
theorem fnExactGatingSlacks_j24 : (Tryz.prog.stopsHeard) = true := by kernel_rfl
theorem fnExactGatingSlacks_j25 : (Tryz.prog.mayEnter) = true := by kernel_rfl
theorem fnExactGatingSlacks_j26 : (Rows.fnExactGatingSlacksRow.lifted == Tryz.prog.liftsFinal) = true := by kernel_rfl
theorem fnExactGatingSlacks_j27 : (Tryz.prog.make == some Rows.fnExactGatingSlacksRow.make) = true := by kernel_rfl
theorem fnExactGatingSlacks_j28 : (Rows.fnExactGatingSlacksRow.kinds == (if Rows.fnExactGatingSlacksRow.domain.isEmpty then [] else Tryz.f9.params.toList.map fun t => match Tryz.prog.underlying t with | some (.int k) => some k | _ => none)) = true := by kernel_rfl
theorem fnExactGatingSlacks_j29 : (Rows.fnExactGatingSlacksRow.pinned == Rows.fnExactGatingSlacksRow.pinnedBy) = true := by kernel_rfl
theorem fnExactGatingSlacks_j30 : (Rows.fnExactGatingSlacksRow.veiled == (Tryz.f9.params.toList ++ Rows.fnExactGatingSlacksSpec.plain.varTypes Tryz.prog ++ Tryz.f9.resultTypes.toList).any (Tryz.prog.veiledRec ·)) = true := by kernel_rfl
theorem fnExactGatingSlacks_j31 : (Rows.fnExactGatingSlacksRow.veiledFits Tryz.prog Tryz.f9.params.toList (Tryz.f9.params.toList ++ Rows.fnExactGatingSlacksSpec.plain.varTypes Tryz.prog ++ Tryz.f9.resultTypes.toList)) = true := by kernel_rfl
theorem fnExactGatingSlacks_fn : Tryz.prog.funcNamed Rows.fnExactGatingSlacksRow.func = some 9 := by kernel_rfl
end Go.Proofs.YtjijjanefcaakaaGreatDoor
