/- PROVED: FnTotalSlack returns true for every input, and its arguments read behind the call as before; no condition. -/
import Derived.Test.YthojemmmflaicabGreatDoorRows
import Derived.Test.YthojemmmflaicabGreatDoorLawFnTotalSlack
import Derived.ProofKit
import Derived.Test.YthojemmmflaicabGreatDoorCards
import Derived.Test.YthojemmmflaicabGreatDoorTie
import Derived.Lay
import Derived.SevenTiedAt
import Derived.Stop.Joined
import Derived.Test.YthojemmmflaicabGreatDoorJoinAFnTotalSlack
import Derived.Test.YthojemmmflaicabGreatDoorJoinBFnTotalSlack
set_option linter.all false
namespace Go.Proofs.YthojemmmflaicabGreatDoor
open Go.ChangeShapes Go.WideShapes Go.ChangeAt Go.RowKit Go.Eng
theorem Tryz.own : ownKnob Tryz.prog.godebug = none := by kernel_rfl
theorem Tryz.laidOut : laidOutB Tryz.prog = true := by kernel_rfl
theorem and_tt {a b : Bool} (ha : a = true) (hb : b = true) : (a && b) = true := by rw [ha, hb]; rfl
set_option maxRecDepth 100000 in
theorem fnTotalSlack_joined : joinedFacts Tryz.prog 3 Tryz.f3 Rows.fnTotalSlackSpec Rows.fnTotalSlackRow = true := by
  unfold joinedFacts
  exact (and_tt (and_tt (and_tt (and_tt (and_tt (and_tt (and_tt (and_tt (and_tt (and_tt (and_tt (and_tt (and_tt (and_tt (and_tt (and_tt (and_tt (and_tt (and_tt (and_tt (and_tt (and_tt (and_tt (and_tt (and_tt (and_tt (and_tt (and_tt (and_tt (and_tt (and_tt fnTotalSlack_j0 fnTotalSlack_j1) fnTotalSlack_j2) fnTotalSlack_j3) fnTotalSlack_j4) fnTotalSlack_j5) fnTotalSlack_j6) fnTotalSlack_j7) fnTotalSlack_j8) fnTotalSlack_j9) fnTotalSlack_j10) fnTotalSlack_j11) fnTotalSlack_j12) fnTotalSlack_j13) fnTotalSlack_j14) fnTotalSlack_j15) fnTotalSlack_j16) fnTotalSlack_j17) fnTotalSlack_j18) fnTotalSlack_j19) fnTotalSlack_j20) fnTotalSlack_j21) fnTotalSlack_j22) fnTotalSlack_j23) fnTotalSlack_j24) fnTotalSlack_j25) fnTotalSlack_j26) fnTotalSlack_j27) fnTotalSlack_j28) fnTotalSlack_j29) fnTotalSlack_j30) fnTotalSlack_j31)
set_option maxRecDepth 100000 in
theorem fnTotalSlack_lifted (os : Os) (started : os.Started) (H : Type) (enc : TypeId × Value → H) :
    ReturnsInHanded {} Tryz.checked os 3 .any (fun w args => (Rows.fnTotalSlackSpec.pre enc Tryz.prog Tryz.f3 Rows.fnTotalSlackRow.domain false w args ∧ laidMetH Tryz.prog Rows.fnTotalSlackRow.laid w) ∧ sizedMet enc Tryz.prog Tryz.f3 (OpenSpec.ofChange Rows.fnTotalSlackSpec) false w args) (Rows.fnTotalSlackSpec.post enc Tryz.prog Tryz.f3 false true false false) := by
  refine Yw (C := Tryz.checked) (tb := 4) Tryz.own started (by kernel_rfl) Tryz.func3 (ChangeSpec.witness_shaped (enc := enc) (C := Tryz.checked) (os := os) (X := fun w _ => laidMetH Tryz.prog Rows.fnTotalSlackRow.laid w) false (World.laidAll Tryz.prog os Rows.fnTotalSlackRow.laid) #[.slice none 0 0] 8 (World.laidAll_os _ _ _) (World.shaped_of_ZipB (by kernel_rfl) (by kernel_rfl)) (by kernel_rfl) (by kernel_rfl) (by kernel_rfl) (by rw [MakeChecks.laidMetH_plain _ _ _ (by kernel_rfl)]; exact laidMet_laidAll _ (by kernel_rfl) (by kernel_rfl))) Tryz.laidOut rfl
    (fun ds h => by rw [show Tryz.f3.params.toList.length = 1 by kernel_rfl] at h; match ds, h with | [_], _ => rfl) (by kernel_rfl) Tryz.underlying4 (by rw [show Tryz.f3.params.toList = [22] by kernel_rfl]; intro t ht; obtain rfl := List.mem_singleton.1 ht; exact ⟨by kernel_rfl, of_decide_eq_true (by kernel_rfl)⟩) ?_
  intro W base args ds p hval0 hA0 hZ0
  have hval : ∀ (j : Nat) t v, Tryz.f3.params[j]? = some t → args[j]? = some v → Value.okWide Tryz.prog W .any base t v := hval0
  have hA0 : DataW.TrodAll enc Tryz.prog W 0 (fun _ => true) true Tryz.f3.params.toList args.toList ds p := hA0
  clear hval0
  rw [Tryz.params3] at hA0 hval
  obtain ⟨v0, vs0, d0, ds0, p0, q0, ha0, rfl, h0, z0, hA1, hZ1⟩ := ZJ hA0 hZ0
  obtain ⟨rfl, rfl⟩ := bO hA1
  obtain rfl := iT ha0
  obtain ⟨fu0, h0⟩ := h0
  obtain ⟨y0, hr0, hR0⟩ := pL _ _ _ _ _ _ _ _ _ h0 z0
  obtain ⟨a0, l0, c0, rfl⟩ := okWide_slice Tryz.underlying22 (hval 0 22 v0 rfl rfl)
  obtain ⟨u0, hv0, hs0⟩ := hr0
  obtain rfl : Value.slice a0 l0 c0 = u0 := by simpa [Value.cells] using hv0
  obtain ⟨n, O, hF⟩ := Wb hR0
  exact lI (tD hF (Nat.le_refl _) hs0)
theorem fnTotalSlack_inst : Tryz.f3.isInstance Tryz.prog Rows.fnTotalSlackRow.origin Rows.fnTotalSlackRow.targs := of_decide_eq_true (by kernel_rfl)
theorem fnTotalSlack_wrap : Tryz.f3.isWrapper Tryz.prog Rows.fnTotalSlackRow.wrapper Rows.fnTotalSlackRow.mainSum := by unfold Func.isWrapper; first | (rw [if_pos (by decide +kernel)]; kernel_rfl) | (rw [if_neg (by decide +kernel)]; exact ⟨rfl, rfl⟩)
theorem fnTotalSlack_holds : Rows.FnTotalSlackSaid :=
  OpenClaim.holds_of_wide 3 Tryz.f3 rfl rfl rfl rfl rfl rfl rfl ⟨rfl, rfl, rfl, rfl, rfl⟩ rfl rfl rfl rfl rfl fnTotalSlack_fn Tryz.func3 fnTotalSlack_joined
    fnTotalSlack_inst fnTotalSlack_wrap
    (fun os started H enc _ => fnTotalSlack_lifted os started H enc)
theorem fnTotalSlack_text : Rows.fnTotalSlackRow.wfByText (OpenSpec.ofChange Rows.fnTotalSlackSpec) = true := by kernel_rfl
theorem fnTotalSlack_main : Tryz.prog.mainIs = some (Rows.fnTotalSlackCard.stood.harness.1, Rows.fnTotalSlackCard.stood.harness.2.toList) := by kernel_rfl
theorem fnTotalSlack_looks : false = Tryz.prog.looks [] := by kernel_rfl
theorem fnTotalSlack_stand : ([22].all fun u => !Tryz.prog.wantsStandIn u) = true := by kernel_rfl
theorem fnTotalSlack_goes : false = Rows.fnTotalSlackRow.goesBy Tryz.prog := by kernel_rfl
theorem fnTotalSlack_card : Rows.FnTotalSlackCardSaid :=
  Claim7.holds_tied_plain_at .later [] Rows.fnTotalSlackCard.laidKinds true Rows.fnTotalSlackCard.stood.harness false fnTotalSlack_holds (fun _ h => by cases h) fnTotalSlack_text (fun _ h => by cases h) fnTotalSlack_row_tie rfl ⟨rfl, rfl⟩ fnTotalSlack_main rfl
    (fun f fn hf hfn => by
      obtain rfl : f = 3 := Option.some.inj (fnTotalSlack_fn.symm.trans hf) |>.symm
      obtain rfl : fn = Tryz.f3 := (Option.some.inj (Tryz.func3.symm.trans hfn)).symm
      exact ⟨fnTotalSlack_looks, fun j t ht => by
        rw [Tryz.params3] at ht
        have hm : t ∈ [22] := by simpa using Array.mem_of_getElem? ht
        exact (show Tryz.prog.wantsStandIn t = false by simpa using List.all_eq_true.1 fnTotalSlack_stand t hm)⟩)
    fnTotalSlack_goes
end Go.Proofs.YthojemmmflaicabGreatDoor
