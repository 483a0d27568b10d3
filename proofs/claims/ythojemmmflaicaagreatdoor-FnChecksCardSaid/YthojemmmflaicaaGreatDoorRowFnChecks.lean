/- PROVED: FnChecks returns true for every input, and its arguments read behind the call as before; no condition. -/
import Derived.Test.YthojemmmflaicaaGreatDoorRows
import Derived.Test.YthojemmmflaicaaGreatDoorLawFnChecks
import Derived.ProofKit
import Derived.Test.YthojemmmflaicaaGreatDoorCards
import Derived.Test.YthojemmmflaicaaGreatDoorTie
import Derived.Lay
import Derived.SevenTiedAt
import Derived.Stop.Joined
import Derived.Test.YthojemmmflaicaaGreatDoorJoinAFnChecks
import Derived.Test.YthojemmmflaicaaGreatDoorJoinBFnChecks
set_option linter.all false
namespace Go.Proofs.YthojemmmflaicaaGreatDoor
open Go.ChangeShapes Go.WideShapes Go.ChangeAt Go.RowKit Go.Eng
theorem Tryz.own : ownKnob Tryz.prog.godebug = none := by kernel_rfl
theorem Tryz.laidOut : laidOutB Tryz.prog = true := by kernel_rfl
theorem and_tt {a b : Bool} (ha : a = true) (hb : b = true) : (a && b) = true := by rw [ha, hb]; rfl
set_option maxRecDepth 100000 in
theorem fnChecks_joined : joinedFacts Tryz.prog 3 Tryz.f3 Rows.fnChecksSpec Rows.fnChecksRow = true := by
  unfold joinedFacts
  exact (and_tt (and_tt (and_tt (and_tt (and_tt (and_tt (and_tt (and_tt (and_tt (and_tt (and_tt (and_tt (and_tt (and_tt (and_tt (and_tt (and_tt (and_tt (and_tt (and_tt (and_tt (and_tt (and_tt (and_tt (and_tt (and_tt (and_tt (and_tt (and_tt (and_tt (and_tt fnChecks_j0 fnChecks_j1) fnChecks_j2) fnChecks_j3) fnChecks_j4) fnChecks_j5) fnChecks_j6) fnChecks_j7) fnChecks_j8) fnChecks_j9) fnChecks_j10) fnChecks_j11) fnChecks_j12) fnChecks_j13) fnChecks_j14) fnChecks_j15) fnChecks_j16) fnChecks_j17) fnChecks_j18) fnChecks_j19) fnChecks_j20) fnChecks_j21) fnChecks_j22) fnChecks_j23) fnChecks_j24) fnChecks_j25) fnChecks_j26) fnChecks_j27) fnChecks_j28) fnChecks_j29) fnChecks_j30) fnChecks_j31)
set_option maxRecDepth 100000 in
theorem fnChecks_lifted (os : Os) (started : os.Started) (H : Type) (enc : TypeId × Value → H) :
    ReturnsInHanded {} Tryz.checked os 3 .any (fun w args => (Rows.fnChecksSpec.pre enc Tryz.prog Tryz.f3 Rows.fnChecksRow.domain false w args ∧ laidMetH Tryz.prog Rows.fnChecksRow.laid w) ∧ sizedMet enc Tryz.prog Tryz.f3 (OpenSpec.ofChange Rows.fnChecksSpec) false w args) (Rows.fnChecksSpec.post enc Tryz.prog Tryz.f3 false true false false) := by
  refine bJ (C := Tryz.checked) (tb := 4) Tryz.own started (by kernel_rfl) Tryz.func3 (ChangeSpec.witness_shaped (enc := enc) (C := Tryz.checked) (os := os) (X := fun w _ => laidMetH Tryz.prog Rows.fnChecksRow.laid w) false (World.laidAll Tryz.prog os Rows.fnChecksRow.laid) #[.slice none 0 0] 8 (World.laidAll_os _ _ _) (World.shaped_of_ZipB (by kernel_rfl) (by kernel_rfl)) (by kernel_rfl) (by kernel_rfl) (by kernel_rfl) (by rw [MakeChecks.laidMetH_plain _ _ _ (by kernel_rfl)]; exact laidMet_laidAll _ (by kernel_rfl) (by kernel_rfl))) Tryz.laidOut rfl
    (fun ds h => by rw [show Tryz.f3.params.toList.length = 1 by kernel_rfl] at h; match ds, h with | [_], _ => rfl) (by kernel_rfl) Tryz.underlying4 (by rw [show Tryz.f3.params.toList = [22] by kernel_rfl]; intro t ht; obtain rfl := List.mem_singleton.1 ht; exact ⟨by kernel_rfl, of_decide_eq_true (by kernel_rfl)⟩) ?_
  intro W base args ds p hval0 hA0 hZ0
  have hval : ∀ (j : Nat) t v, Tryz.f3.params[j]? = some t → args[j]? = some v → Value.okWide Tryz.prog W .any base t v := hval0
  have hA0 : DataW.TrodAll enc Tryz.prog W 0 (fun _ => true) true Tryz.f3.params.toList args.toList ds p := hA0
  clear hval0
  rw [Tryz.params3] at hA0 hval
  obtain ⟨v0, vs0, d0, ds0, p0, q0, ha0, rfl, h0, z0, hA1, hZ1⟩ := aE hA0 hZ0
  obtain ⟨rfl, rfl⟩ := eP hA1
  obtain rfl := lC ha0
  obtain ⟨fu0, h0⟩ := h0
  obtain ⟨y0, hr0, hR0⟩ := tN _ _ _ _ _ _ _ _ _ h0 z0
  obtain ⟨a0, l0, c0, rfl⟩ := okWide_slice Tryz.underlying22 (hval 0 22 v0 rfl rfl)
  obtain ⟨u0, hv0, hs0⟩ := hr0
  obtain rfl : Value.slice a0 l0 c0 = u0 := by simpa [Value.cells] using hv0
  obtain ⟨n, O, hF⟩ := eC hR0
  exact oE (uC hF (Nat.le_refl _) hs0)
theorem fnChecks_inst : Tryz.f3.isInstance Tryz.prog Rows.fnChecksRow.origin Rows.fnChecksRow.targs := of_decide_eq_true (by kernel_rfl)
theorem fnChecks_wrap : Tryz.f3.isWrapper Tryz.prog Rows.fnChecksRow.wrapper Rows.fnChecksRow.mainSum := by unfold Func.isWrapper; first | (rw [if_pos (by decide +kernel)]; kernel_rfl) | (rw [if_neg (by decide +kernel)]; exact ⟨rfl, rfl⟩)
theorem fnChecks_holds : Rows.FnChecksSaid :=
  OpenClaim.holds_of_wide 3 Tryz.f3 rfl rfl rfl rfl rfl rfl rfl ⟨rfl, rfl, rfl, rfl, rfl⟩ rfl rfl rfl rfl rfl fnChecks_fn Tryz.func3 fnChecks_joined
    fnChecks_inst fnChecks_wrap
    (fun os started H enc _ => fnChecks_lifted os started H enc)
theorem fnChecks_text : Rows.fnChecksRow.wfByText (OpenSpec.ofChange Rows.fnChecksSpec) = true := by kernel_rfl
theorem fnChecks_main : Tryz.prog.mainIs = some (Rows.fnChecksCard.stood.harness.1, Rows.fnChecksCard.stood.harness.2.toList) := by kernel_rfl
theorem fnChecks_looks : false = Tryz.prog.looks [] := by kernel_rfl
theorem fnChecks_stand : ([22].all fun u => !Tryz.prog.wantsStandIn u) = true := by kernel_rfl
theorem fnChecks_goes : false = Rows.fnChecksRow.goesBy Tryz.prog := by kernel_rfl
theorem fnChecks_card : Rows.FnChecksCardSaid :=
  Claim7.holds_tied_plain_at .later [] Rows.fnChecksCard.laidKinds true Rows.fnChecksCard.stood.harness false fnChecks_holds (fun _ h => by cases h) fnChecks_text (fun _ h => by cases h) fnChecks_row_tie rfl ⟨rfl, rfl⟩ fnChecks_main rfl
    (fun f fn hf hfn => by
      obtain rfl : f = 3 := Option.some.inj (fnChecks_fn.symm.trans hf) |>.symm
      obtain rfl : fn = Tryz.f3 := (Option.some.inj (Tryz.func3.symm.trans hfn)).symm
      exact ⟨fnChecks_looks, fun j t ht => by
        rw [Tryz.params3] at ht
        have hm : t ∈ [22] := by simpa using Array.mem_of_getElem? ht
        exact (show Tryz.prog.wantsStandIn t = false by simpa using List.all_eq_true.1 fnChecks_stand t hm)⟩)
    fnChecks_goes
end Go.Proofs.YthojemmmflaicaaGreatDoor
