/- Facts of the program that the row of FnExactPulseSlacks names, each computed; no condition. -/
import Derived.Test.YtjijjanefcaakaaGreatDoorRows
import Derived.ProofKit
import Derived.JoinedOf
import Derived.KernelRfl
set_option linter.all false
set_option maxRecDepth 100000
namespace Go.Proofs.YtjijjanefcaakaaGreatDoor
open Go.ChangeShapes Go.WideShapes Go.ChangeAt Go.RowKit
theorem fnExactPulseSlacks_j0 : (Rows.fnExactPulseSlacksRow.wf (OpenSpec.ofChange Rows.fnExactPulseSlacksSpec)) = true := by kernel_rfl
theorem fnExactPulseSlacks_j2 : (mapsRowed Tryz.prog) = true := by kernel_rfl
theorem fnExactPulseSlacks_j3 : (Tryz.f11.params.all (Tryz.prog.readableRec ·)) = true := by kernel_rfl
theorem fnExactPulseSlacks_j4 : (namedTie Tryz.prog Rows.fnExactPulseSlacksRow.named Rows.fnExactPulseSlacksSpec.vars) = true := by kernel_rfl
theorem fnExactPulseSlacks_j5 : (Rows.fnExactPulseSlacksRow.stops == []) = true := by kernel_rfl
theorem fnExactPulseSlacks_j6 : (Tryz.prog.stops == []) = true := by kernel_rfl
theorem fnExactPulseSlacks_j7 : (Rows.fnExactPulseSlacksRow.knobs == []) = true := by kernel_rfl
theorem fnExactPulseSlacks_j8 : (Tryz.prog.stopKnobs == []) = true := by kernel_rfl
theorem fnExactPulseSlacks_j13 : (Rows.fnExactPulseSlacksRow.maps == (Tryz.f11.params.toList ++ Rows.fnExactPulseSlacksSpec.plain.varTypes Tryz.prog).any (Tryz.prog.mapsRec ·)) = true := by kernel_rfl
theorem fnExactPulseSlacks_j14 : (Rows.fnExactPulseSlacksRow.ifaces == (Tryz.f11.params.toList ++ Rows.fnExactPulseSlacksSpec.plain.varTypes Tryz.prog).any (Tryz.prog.ifacesRec ·)) = true := by kernel_rfl
theorem fnExactPulseSlacks_j15 : (Rows.fnExactPulseSlacksRow.mapsOut == Tryz.prog.mapsAmong Tryz.f11.resultTypes.toList) = true := by kernel_rfl
theorem fnExactPulseSlacks_j16 : (Rows.fnExactPulseSlacksRow.loops == (Tryz.f11.params.toList ++ Rows.fnExactPulseSlacksSpec.plain.varTypes Tryz.prog).any (Tryz.prog.loopsFrom ·)) = true := by kernel_rfl
theorem fnExactPulseSlacks_j17 : (Rows.fnExactPulseSlacksRow.wideKeys == (Tryz.f11.params.toList ++ Rows.fnExactPulseSlacksSpec.plain.varTypes Tryz.prog ++ Tryz.f11.resultTypes.toList).any (Tryz.prog.wideKeysFrom ·)) = true := by kernel_rfl
theorem fnExactPulseSlacks_j18 : (Rows.fnExactPulseSlacksSpec.vars.all (Tryz.prog.varReadable ·)) = true := by kernel_rfl
theorem fnExactPulseSlacks_j19 : (Tryz.f11.resultTypes.all (fun t => Tryz.prog.readableRec t && decide (t < Tryz.prog.types.size))) = true := by kernel_rfl
theorem fnExactPulseSlacks_j20 : (Rows.fnExactPulseSlacksRow.ifacesOut == Tryz.f11.resultTypes.toList.any (Tryz.prog.ifacesRec ·)) = true := by kernel_rfl
theorem fnExactPulseSlacks_j21 : (Rows.fnExactPulseSlacksRow.loopsOut == Tryz.f11.resultTypes.toList.any (Tryz.prog.loopsFrom ·)) = true := by kernel_rfl
theorem fnExactPulseSlacks_j22 : (Rows.fnExactPulseSlacksRow.plainKeys == Tryz.prog.plainKeys) = true := by kernel_rfl
theorem fnExactPulseSlacks_j23 : (Rows.fnExactPulseSlacksRow.shortTexts.isNone) = true := by kernel_rfl
theorem fnExactPulseSlacks_j24 : (Tryz.prog.stopsHeard) = true := by kernel_rfl
theorem fnExactPulseSlacks_j25 : (Tryz.prog.mayEnter) = true := by kernel_rfl
theorem fnExactPulseSlacks_j26 : (Rows.fnExactPulseSlacksRow.lifted == Tryz.prog.liftsFinal) = true := by kernel_rfl
theorem fnExactPulseSlacks_j27 : (Tryz.prog.make == some Rows.fnExactPulseSlacksRow.make) = true := by kernel_rfl
theorem fnExactPulseSlacks_j28 : (Rows.fnExactPulseSlacksRow.kinds == (if Rows.fnExactPulseSlacksRow.domain.isEmpty then [] else Tryz.f11.params.toList.map fun t => match Tryz.prog.underlying t with | some (.int k) => some k | _ => none)) = true := by kernel_rfl
theorem fnExactPulseSlacks_j29 : (Rows.fnExactPulseSlacksRow.pinned == Rows.fnExactPulseSlacksRow.pinnedBy) = true := by kernel_rfl
theorem fnExactPulseSlacks_j30 : (Rows.fnExactPulseSlacksRow.veiled == (Tryz.f11.params.toList ++ Rows.fnExactPulseSlacksSpec.plain.varTypes Tryz.prog ++ Tryz.f11.resultTypes.toList).any (Tryz.prog.veiledRec ·)) = true := by kernel_rfl
theorem fnExactPulseSlacks_j31 : (Rows.fnExactPulseSlacksRow.veiledFits Tryz.prog Tryz.f11.params.toList (Tryz.f11.params.toList ++ Rows.fnExactPulseSlacksSpec.plain.varTypes Tryz.prog ++ Tryz.f11.resultTypes.toList)) = true := by kernel_rfl
theorem fnExactPulseSlacks_fn : Tryz.prog.funcNamed Rows.fnExactPulseSlacksRow.func = some 11 := by kernel_rfl
end Go.Proofs.YtjijjanefcaakaaGreatDoor
