/- PROVED: FnCheckTargets returns true for every input, and its arguments read behind the call as before; no condition. -/
import Derived.Test.YtejmafeocaidlabGreatDoorRows
import Derived.Test.YtejmafeocaidlabGreatDoorLawFnCheckTargets
import Derived.ProofKit
import Derived.Test.YtejmafeocaidlabGreatDoorCards
import Derived.Test.YtejmafeocaidlabGreatDoorTie
import Derived.Lay
import Derived.SevenTiedAt
import Derived.Stop.Joined
import Derived.Test.YtejmafeocaidlabGreatDoorJoinAFnCheckTargets
import Derived.Test.YtejmafeocaidlabGreatDoorJoinBFnCheckTargets
set_option linter.all false
namespace Go.Proofs.YtejmafeocaidlabGreatDoor
open Go.ChangeShapes Go.WideShapes Go.ChangeAt Go.RowKit Go.Eng
theorem Tryz.own : ownKnob Tryz.prog.godebug = none := by kernel_rfl
theorem Tryz.laidOut : laidOutB Tryz.prog = true := by kernel_rfl
theorem and_tt {a b : Bool} (ha : a = true) (hb : b = true) : (a && b) = true := by rw [ha, hb]; rfl
set_option maxRecDepth 100000 in
theorem fnCheckTargets_joined : joinedFacts Tryz.prog 3 Tryz.f3 Rows.fnCheckTargetsSpec Rows.fnCheckTargetsRow = true := by
  unfold joinedFacts
  exact (and_tt (and_tt (and_tt (and_tt (and_tt (and_tt (and_tt (and_tt (and_tt (and_tt (and_tt (and_tt (and_tt (and_tt (and_tt (and_tt (and_tt (and_tt (and_tt (and_tt (and_tt (and_tt (and_tt (and_tt (and_tt (and_tt (and_tt (and_tt (and_tt (and_tt (and_tt fnCheckTargets_j0 fnCheckTargets_j1) fnCheckTargets_j2) fnCheckTargets_j3) fnCheckTargets_j4) fnCheckTargets_j5) fnCheckTargets_j6) fnCheckTargets_j7) fnCheckTargets_j8) fnCheckTargets_j9) fnCheckTargets_j10) fnCheckTargets_j11) fnCheckTargets_j12) fnCheckTargets_j13) fnCheckTargets_j14) fnCheckTargets_j15) fnCheckTargets_j16) fnCheckTargets_j17) fnCheckTargets_j18) fnCheckTargets_j19) fnCheckTargets_j20) fnCheckTargets_j21) fnCheckTargets_j22) fnCheckTargets_j23) fnCheckTargets_j24) fnCheckTargets_j25) fnCheckTargets_j26) fnCheckTargets_j27) fnCheckTargets_j28) fnCheckTargets_j29) fnCheckTargets_j30) fnCheckTargets_j31)
set_option maxRecDepth 100000 in
theorem fnCheckTargets_lifted (os : Os) (started : os.Started) (H : Type) (enc : TypeId × Value → H) :
    ReturnsInHanded {} Tryz.checked os 3 .any (fun w args => (Rows.fnCheckTargetsSpec.pre enc Tryz.prog Tryz.f3 Rows.fnCheckTargetsRow.domain false w args ∧ laidMetH Tryz.prog Rows.fnCheckTargetsRow.laid w) ∧ sizedMet enc Tryz.prog Tryz.f3 (OpenSpec.ofChange Rows.fnCheckTargetsSpec) false w args) (Rows.fnCheckTargetsSpec.post enc Tryz.prog Tryz.f3 false true false false) := by
  refine kR (C := Tryz.checked) (tb := 4) Tryz.own started (by kernel_rfl) Tryz.func3 (ChangeSpec.witness_shaped (enc := enc) (C := Tryz.checked) (os := os) (X := fun w _ => laidMetH Tryz.prog Rows.fnCheckTargetsRow.laid w) false (World.laidAll Tryz.prog os Rows.fnCheckTargetsRow.laid) #[.slice none 0 0] 8 (World.laidAll_os _ _ _) (World.shaped_of_ZipB (by kernel_rfl) (by kernel_rfl)) (by kernel_rfl) (by kernel_rfl) (by kernel_rfl) (by rw [MakeChecks.laidMetH_plain _ _ _ (by kernel_rfl)]; exact laidMet_laidAll _ (by kernel_rfl) (by kernel_rfl))) Tryz.laidOut rfl
    (fun ds h => by rw [show Tryz.f3.params.toList.length = 1 by kernel_rfl] at h; match ds, h with | [_], _ => rfl) (by kernel_rfl) Tryz.underlying4 (by rw [show Tryz.f3.params.toList = [22] by kernel_rfl]; intro t ht; obtain rfl := List.mem_singleton.1 ht; exact ⟨by kernel_rfl, of_decide_eq_true (by kernel_rfl)⟩) ?_
  intro W base args ds p hval0 hA0 hZ0
  have hval : ∀ (j : Nat) t v, Tryz.f3.params[j]? = some t → args[j]? = some v → Value.okWide Tryz.prog W .any base t v := hval0
  have hA0 : DataW.TrodAll enc Tryz.prog W 0 (fun _ => true) true Tryz.f3.params.toList args.toList ds p := hA0
  clear hval0
  rw [Tryz.params3] at hA0 hval
  obtain ⟨v0, vs0, d0, ds0, p0, q0, ha0, rfl, h0, z0, hA1, hZ1⟩ := mF hA0 hZ0
  obtain ⟨rfl, rfl⟩ := oR hA1
  obtain rfl := vM ha0
  obtain ⟨fu0, h0⟩ := h0
  obtain ⟨y0, hr0, hR0⟩ := AcN _ _ _ _ _ _ _ _ _ h0 z0
  obtain ⟨a0, l0, c0, rfl⟩ := okWide_slice Tryz.underlying22 (hval 0 22 v0 rfl rfl)
  obtain ⟨u0, hv0, hs0⟩ := hr0
  obtain rfl : Value.slice a0 l0 c0 = u0 := by simpa [Value.cells] using hv0
  obtain ⟨n, O, hF⟩ := Xo hR0
  exact AbI (AcO hF (Nat.le_refl _) hs0)
theorem fnCheckTargets_inst : Tryz.f3.isInstance Tryz.prog Rows.fnCheckTargetsRow.origin Rows.fnCheckTargetsRow.targs := of_decide_eq_true (by kernel_rfl)
theorem fnCheckTargets_wrap : Tryz.f3.isWrapper Tryz.prog Rows.fnCheckTargetsRow.wrapper Rows.fnCheckTargetsRow.mainSum := by unfold Func.isWrapper; first | (rw [if_pos (by decide +kernel)]; kernel_rfl) | (rw [if_neg (by decide +kernel)]; exact ⟨rfl, rfl⟩)
theorem fnCheckTargets_holds : Rows.FnCheckTargetsSaid :=
  OpenClaim.holds_of_wide 3 Tryz.f3 rfl rfl rfl rfl rfl rfl rfl ⟨rfl, rfl, rfl, rfl, rfl⟩ rfl rfl rfl rfl rfl fnCheckTargets_fn Tryz.func3 fnCheckTargets_joined
    fnCheckTargets_inst fnCheckTargets_wrap
    (fun os started H enc _ => fnCheckTargets_lifted os started H enc)
theorem fnCheckTargets_text : Rows.fnCheckTargetsRow.wfByText (OpenSpec.ofChange Rows.fnCheckTargetsSpec) = true := by kernel_rfl
theorem fnCheckTargets_main : Tryz.prog.mainIs = some (Rows.fnCheckTargetsCard.stood.harness.1, Rows.fnCheckTargetsCard.stood.harness.2.toList) := by kernel_rfl
theorem fnCheckTargets_looks : false = Tryz.prog.looks [] := by kernel_rfl
theorem fnCheckTargets_stand : ([22].all fun u => !Tryz.prog.wantsStandIn u) = true := by kernel_rfl
theorem fnCheckTargets_goes : false = Rows.fnCheckTargetsRow.goesBy Tryz.prog := by kernel_rfl
theorem fnCheckTargets_card : Rows.FnCheckTargetsCardSaid :=
  Claim7.holds_tied_plain_at .later [] Rows.fnCheckTargetsCard.laidKinds true Rows.fnCheckTargetsCard.stood.harness false fnCheckTargets_holds (fun _ h => by cases h) fnCheckTargets_text (fun _ h => by cases h) fnCheckTargets_row_tie rfl ⟨rfl, rfl⟩ fnCheckTargets_main rfl
    (fun f fn hf hfn => by
      obtain rfl : f = 3 := Option.some.inj (fnCheckTargets_fn.symm.trans hf) |>.symm
      obtain rfl : fn = Tryz.f3 := (Option.some.inj (Tryz.func3.symm.trans hfn)).symm
      exact ⟨fnCheckTargets_looks, fun j t ht => by
        rw [Tryz.params3] at ht
        have hm : t ∈ [22] := by simpa using Array.mem_of_getElem? ht
        exact (show Tryz.prog.wantsStandIn t = false by simpa using List.all_eq_true.1 fnCheckTargets_stand t hm)⟩)
    fnCheckTargets_goes
end Go.Proofs.YtejmafeocaidlabGreatDoor
