/- PROVED: FnGatingShift returns true for every input, and its arguments read behind the call as before; no condition. -/
import Derived.Test.YthojemmmflaicacGreatDoorRows
import Derived.Test.YthojemmmflaicacGreatDoorLawFnGatingShift
import Derived.ProofKit
import Derived.Test.YthojemmmflaicacGreatDoorCards
import Derived.Test.YthojemmmflaicacGreatDoorTie
import Derived.Lay
import Derived.SevenTiedAt
import Derived.Stop.Joined
import Derived.Test.YthojemmmflaicacGreatDoorJoinAFnGatingShift
import Derived.Test.YthojemmmflaicacGreatDoorJoinBFnGatingShift
set_option linter.all false
namespace Go.Proofs.YthojemmmflaicacGreatDoor
open Go.ChangeShapes Go.WideShapes Go.ChangeAt Go.RowKit Go.Eng
theorem Tryz.own : ownKnob Tryz.prog.godebug = none := by kernel_rfl
theorem Tryz.laidOut : laidOutB Tryz.prog = true := by kernel_rfl
theorem and_tt {a b : Bool} (ha : a = true) (hb : b = true) : (a && b) = true := by rw [ha, hb]; rfl
set_option maxRecDepth 100000 in
theorem fnGatingShift_joined : joinedFacts Tryz.prog 3 Tryz.f3 Rows.fnGatingShiftSpec Rows.fnGatingShiftRow = true := by
  unfold joinedFacts
  exact (and_tt (and_tt (and_tt (and_tt (and_tt (and_tt (and_tt (and_tt (and_tt (and_tt (and_tt (and_tt (and_tt (and_tt (and_tt (and_tt (and_tt (and_tt (and_tt (and_tt (and_tt (and_tt (and_tt (and_tt (and_tt (and_tt (and_tt (and_tt (and_tt (and_tt (and_tt fnGatingShift_j0 fnGatingShift_j1) fnGatingShift_j2) fnGatingShift_j3) fnGatingShift_j4) fnGatingShift_j5) fnGatingShift_j6) fnGatingShift_j7) fnGatingShift_j8) fnGatingShift_j9) fnGatingShift_j10) fnGatingShift_j11) fnGatingShift_j12) fnGatingShift_j13) fnGatingShift_j14) fnGatingShift_j15) fnGatingShift_j16) fnGatingShift_j17) fnGatingShift_j18) fnGatingShift_j19) fnGatingShift_j20) fnGatingShift_j21) fnGatingShift_j22) fnGatingShift_j23) fnGatingShift_j24) fnGatingShift_j25) fnGatingShift_j26) fnGatingShift_j27) fnGatingShift_j28) fnGatingShift_j29) fnGatingShift_j30) fnGatingShift_j31)
set_option maxRecDepth 100000 in
theorem fnGatingShift_lifted (os : Os) (started : os.Started) (H : Type) (enc : TypeId × Value → H) :
    ReturnsInHanded {} Tryz.checked os 3 .any (fun w args => (Rows.fnGatingShiftSpec.pre enc Tryz.prog Tryz.f3 Rows.fnGatingShiftRow.domain false w args ∧ laidMetH Tryz.prog Rows.fnGatingShiftRow.laid w) ∧ sizedMet enc Tryz.prog Tryz.f3 (OpenSpec.ofChange Rows.fnGatingShiftSpec) false w args) (Rows.fnGatingShiftSpec.post enc Tryz.prog Tryz.f3 false true false false) := by
  refine Zs (C := Tryz.checked) (tb := 4) Tryz.own started (by kernel_rfl) Tryz.func3 (ChangeSpec.witness_shaped (enc := enc) (C := Tryz.checked) (os := os) (X := fun w _ => laidMetH Tryz.prog Rows.fnGatingShiftRow.laid w) false (World.laidAll Tryz.prog os Rows.fnGatingShiftRow.laid) #[.slice none 0 0] 8 (World.laidAll_os _ _ _) (World.shaped_of_ZipB (by kernel_rfl) (by kernel_rfl)) (by kernel_rfl) (by kernel_rfl) (by kernel_rfl) (by rw [MakeChecks.laidMetH_plain _ _ _ (by kernel_rfl)]; exact laidMet_laidAll _ (by kernel_rfl) (by kernel_rfl))) Tryz.laidOut rfl
    (fun ds h => by rw [show Tryz.f3.params.toList.length = 1 by kernel_rfl] at h; match ds, h with | [_], _ => rfl) (by kernel_rfl) Tryz.underlying4 (by rw [show Tryz.f3.params.toList = [22] by kernel_rfl]; intro t ht; obtain rfl := List.mem_singleton.1 ht; exact ⟨by kernel_rfl, of_decide_eq_true (by kernel_rfl)⟩) ?_
  intro W base args ds p hval0 hA0 hZ0
  have hval : ∀ (j : Nat) t v, Tryz.f3.params[j]? = some t → args[j]? = some v → Value.okWide Tryz.prog W .any base t v := hval0
  have hA0 : DataW.TrodAll enc Tryz.prog W 0 (fun _ => true) true Tryz.f3.params.toList args.toList ds p := hA0
  clear hval0
  rw [Tryz.params3] at hA0 hval
  obtain ⟨v0, vs0, d0, ds0, p0, q0, ha0, rfl, h0, z0, hA1, hZ1⟩ := aH hA0 hZ0
  obtain ⟨rfl, rfl⟩ := dA hA1
  obtain rfl := kG ha0
  obtain ⟨fu0, h0⟩ := h0
  obtain ⟨y0, hr0, hR0⟩ := qZ _ _ _ _ _ _ _ _ _ h0 z0
  obtain ⟨a0, l0, c0, rfl⟩ := okWide_slice Tryz.underlying22 (hval 0 22 v0 rfl rfl)
  obtain ⟨u0, hv0, hs0⟩ := hr0
  obtain rfl : Value.slice a0 l0 c0 = u0 := by simpa [Value.cells] using hv0
  obtain ⟨n, O, hF⟩ := WE hR0
  exact kN (sD hF (Nat.le_refl _) hs0)
theorem fnGatingShift_inst : Tryz.f3.isInstance Tryz.prog Rows.fnGatingShiftRow.origin Rows.fnGatingShiftRow.targs := of_decide_eq_true (by kernel_rfl)
theorem fnGatingShift_wrap : Tryz.f3.isWrapper Tryz.prog Rows.fnGatingShiftRow.wrapper Rows.fnGatingShiftRow.mainSum := by unfold Func.isWrapper; first | (rw [if_pos (by decide +kernel)]; kernel_rfl) | (rw [if_neg (by decide +kernel)]; exact ⟨rfl, rfl⟩)
theorem fnGatingShift_holds : Rows.FnGatingShiftSaid :=
  OpenClaim.holds_of_wide 3 Tryz.f3 rfl rfl rfl rfl rfl rfl rfl ⟨rfl, rfl, rfl, rfl, rfl⟩ rfl rfl rfl rfl rfl fnGatingShift_fn Tryz.func3 fnGatingShift_joined
    fnGatingShift_inst fnGatingShift_wrap
    (fun os started H enc _ => fnGatingShift_lifted os started H enc)
theorem fnGatingShift_text : Rows.fnGatingShiftRow.wfByText (OpenSpec.ofChange Rows.fnGatingShiftSpec) = true := by kernel_rfl
theorem fnGatingShift_main : Tryz.prog.mainIs = some (Rows.fnGatingShiftCard.stood.harness.1, Rows.fnGatingShiftCard.stood.harness.2.toList) := by kernel_rfl
theorem fnGatingShift_looks : false = Tryz.prog.looks [] := by kernel_rfl
theorem fnGatingShift_stand : ([22].all fun u => !Tryz.prog.wantsStandIn u) = true := by kernel_rfl
theorem fnGatingShift_goes : false = Rows.fnGatingShiftRow.goesBy Tryz.prog := by kernel_rfl
theorem fnGatingShift_card : Rows.FnGatingShiftCardSaid :=
  Claim7.holds_tied_plain_at .later [] Rows.fnGatingShiftCard.laidKinds true Rows.fnGatingShiftCard.stood.harness false fnGatingShift_holds (fun _ h => by cases h) fnGatingShift_text (fun _ h => by cases h) fnGatingShift_row_tie rfl ⟨rfl, rfl⟩ fnGatingShift_main rfl
    (fun f fn hf hfn => by
      obtain rfl : f = 3 := Option.some.inj (fnGatingShift_fn.symm.trans hf) |>.symm
      obtain rfl : fn = Tryz.f3 := (Option.some.inj (Tryz.func3.symm.trans hfn)).symm
      exact ⟨fnGatingShift_looks, fun j t ht => by
        rw [Tryz.params3] at ht
        have hm : t ∈ [22] := by simpa using Array.mem_of_getElem? ht
        exact (show Tryz.prog.wantsStandIn t = false by simpa using List.all_eq_true.1 fnGatingShift_stand t hm)⟩)
    fnGatingShift_goes
end Go.Proofs.YthojemmmflaicacGreatDoor
