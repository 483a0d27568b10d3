/- PROVED: FnNeedsFixed returns true for every input, and its arguments read behind the call as before; no condition. -/
import Derived.Test.YtpnjglnpdmgghaaGreatDoorRows
import Derived.Test.YtpnjglnpdmgghaaGreatDoorLawFnNeedsFixed
import Derived.ProofKit
import Derived.Test.YtpnjglnpdmgghaaGreatDoorCards
import Derived.Test.YtpnjglnpdmgghaaGreatDoorTie
import Derived.Lay
import Derived.SevenTiedAt
import Derived.Stop.Joined
import Derived.Test.YtpnjglnpdmgghaaGreatDoorJoinAFnNeedsFixed
import Derived.Test.YtpnjglnpdmgghaaGreatDoorJoinBFnNeedsFixed
set_option linter.all false
namespace Go.Proofs.YtpnjglnpdmgghaaGreatDoor
open Go.ChangeShapes Go.WideShapes Go.ChangeAt Go.RowKit Go.Eng
theorem Tryz.own : ownKnob Tryz.prog.godebug = none := by kernel_rfl
theorem Tryz.laidOut : laidOutB Tryz.prog = true := by kernel_rfl
theorem and_tt {a b : Bool} (ha : a = true) (hb : b = true) : (a && b) = true := by rw [ha, hb]; rfl
set_option maxRecDepth 100000 in
theorem fnNeedsFixed_joined : joinedFacts Tryz.prog 3 Tryz.f3 Rows.fnNeedsFixedSpec Rows.fnNeedsFixedRow = true := by
  unfold joinedFacts
  exact (and_tt (and_tt (and_tt (and_tt (and_tt (and_tt (and_tt (and_tt (and_tt (and_tt (and_tt (and_tt (and_tt (and_tt (and_tt (and_tt (and_tt (and_tt (and_tt (and_tt (and_tt (and_tt (and_tt (and_tt (and_tt (and_tt (and_tt (and_tt (and_tt (and_tt (and_tt fnNeedsFixed_j0 fnNeedsFixed_j1) fnNeedsFixed_j2) fnNeedsFixed_j3) fnNeedsFixed_j4) fnNeedsFixed_j5) fnNeedsFixed_j6) fnNeedsFixed_j7) fnNeedsFixed_j8) fnNeedsFixed_j9) fnNeedsFixed_j10) fnNeedsFixed_j11) fnNeedsFixed_j12) fnNeedsFixed_j13) fnNeedsFixed_j14) fnNeedsFixed_j15) fnNeedsFixed_j16) fnNeedsFixed_j17) fnNeedsFixed_j18) fnNeedsFixed_j19) fnNeedsFixed_j20) fnNeedsFixed_j21) fnNeedsFixed_j22) fnNeedsFixed_j23) fnNeedsFixed_j24) fnNeedsFixed_j25) fnNeedsFixed_j26) fnNeedsFixed_j27) fnNeedsFixed_j28) fnNeedsFixed_j29) fnNeedsFixed_j30) fnNeedsFixed_j31)
set_option maxRecDepth 100000 in
theorem fnNeedsFixed_lifted (os : Os) (started : os.Started) (H : Type) (enc : TypeId × Value → H) :
    ReturnsInHanded {} Tryz.checked os 3 .any (fun w args => (Rows.fnNeedsFixedSpec.pre enc Tryz.prog Tryz.f3 Rows.fnNeedsFixedRow.domain false w args ∧ laidMetH Tryz.prog Rows.fnNeedsFixedRow.laid w) ∧ sizedMet enc Tryz.prog Tryz.f3 (OpenSpec.ofChange Rows.fnNeedsFixedSpec) false w args) (Rows.fnNeedsFixedSpec.post enc Tryz.prog Tryz.f3 false true false false) := by
  refine oM (C := Tryz.checked) (tb := 4) Tryz.own started (by kernel_rfl) Tryz.func3 (ChangeSpec.witness_shaped (enc := enc) (C := Tryz.checked) (os := os) (X := fun w _ => laidMetH Tryz.prog Rows.fnNeedsFixedRow.laid w) false (World.laidAll Tryz.prog os Rows.fnNeedsFixedRow.laid) #[.slice none 0 0] 8 (World.laidAll_os _ _ _) (World.shaped_of_ZipB (by kernel_rfl) (by kernel_rfl)) (by kernel_rfl) (by kernel_rfl) (by kernel_rfl) (by rw [MakeChecks.laidMetH_plain _ _ _ (by kernel_rfl)]; exact laidMet_laidAll _ (by kernel_rfl) (by kernel_rfl))) Tryz.laidOut rfl
    (fun ds h => by rw [show Tryz.f3.params.toList.length = 1 by kernel_rfl] at h; match ds, h with | [_], _ => rfl) (by kernel_rfl) Tryz.underlying4 (by rw [show Tryz.f3.params.toList = [22] by kernel_rfl]; intro t ht; obtain rfl := List.mem_singleton.1 ht; exact ⟨by kernel_rfl, of_decide_eq_true (by kernel_rfl)⟩) ?_
  intro W base args ds p hval0 hA0 hZ0
  have hval : ∀ (j : Nat) t v, Tryz.f3.params[j]? = some t → args[j]? = some v → Value.okWide Tryz.prog W .any base t v := hval0
  have hA0 : DataW.TrodAll enc Tryz.prog W 0 (fun _ => true) true Tryz.f3.params.toList args.toList ds p := hA0
  clear hval0
  rw [Tryz.params3] at hA0 hval
  obtain ⟨v0, vs0, d0, ds0, p0, q0, ha0, rfl, h0, z0, hA1, hZ1⟩ := qF hA0 hZ0
  obtain ⟨rfl, rfl⟩ := sT hA1
  obtain rfl := zM ha0
  obtain ⟨fu0, h0⟩ := h0
  obtain ⟨y0, hr0, hR0⟩ := AgC _ _ _ _ _ _ _ _ _ h0 z0
  obtain ⟨a0, l0, c0, rfl⟩ := okWide_slice Tryz.underlying22 (hval 0 22 v0 rfl rfl)
  obtain ⟨u0, hv0, hs0⟩ := hr0
  obtain rfl : Value.slice a0 l0 c0 = u0 := by simpa [Value.cells] using hv0
  obtain ⟨n, O, hF⟩ := gD hR0
  exact AeZ (AgD hF (Nat.le_refl _) hs0)
theorem fnNeedsFixed_inst : Tryz.f3.isInstance Tryz.prog Rows.fnNeedsFixedRow.origin Rows.fnNeedsFixedRow.targs := of_decide_eq_true (by kernel_rfl)
theorem fnNeedsFixed_wrap : Tryz.f3.isWrapper Tryz.prog Rows.fnNeedsFixedRow.wrapper Rows.fnNeedsFixedRow.mainSum := by unfold Func.isWrapper; first | (rw [if_pos (by decide +kernel)]; kernel_rfl) | (rw [if_neg (by decide +kernel)]; exact ⟨rfl, rfl⟩)
theorem fnNeedsFixed_holds : Rows.FnNeedsFixedSaid :=
  OpenClaim.holds_of_wide 3 Tryz.f3 rfl rfl rfl rfl rfl rfl rfl ⟨rfl, rfl, rfl, rfl, rfl⟩ rfl rfl rfl rfl rfl fnNeedsFixed_fn Tryz.func3 fnNeedsFixed_joined
    fnNeedsFixed_inst fnNeedsFixed_wrap
    (fun os started H enc _ => fnNeedsFixed_lifted os started H enc)
theorem fnNeedsFixed_text : Rows.fnNeedsFixedRow.wfByText (OpenSpec.ofChange Rows.fnNeedsFixedSpec) = true := by kernel_rfl
theorem fnNeedsFixed_main : Tryz.prog.mainIs = some (Rows.fnNeedsFixedCard.stood.harness.1, Rows.fnNeedsFixedCard.stood.harness.2.toList) := by kernel_rfl
theorem fnNeedsFixed_looks : false = Tryz.prog.looks [] := by kernel_rfl
theorem fnNeedsFixed_stand : ([22].all fun u => !Tryz.prog.wantsStandIn u) = true := by kernel_rfl
theorem fnNeedsFixed_goes : false = Rows.fnNeedsFixedRow.goesBy Tryz.prog := by kernel_rfl
theorem fnNeedsFixed_card : Rows.FnNeedsFixedCardSaid :=
  Claim7.holds_tied_plain_at .later [] Rows.fnNeedsFixedCard.laidKinds true Rows.fnNeedsFixedCard.stood.harness false fnNeedsFixed_holds (fun _ h => by cases h) fnNeedsFixed_text (fun _ h => by cases h) fnNeedsFixed_row_tie rfl ⟨rfl, rfl⟩ fnNeedsFixed_main rfl
    (fun f fn hf hfn => by
      obtain rfl : f = 3 := Option.some.inj (fnNeedsFixed_fn.symm.trans hf) |>.symm
      obtain rfl : fn = Tryz.f3 := (Option.some.inj (Tryz.func3.symm.trans hfn)).symm
      exact ⟨fnNeedsFixed_looks, fun j t ht => by
        rw [Tryz.params3] at ht
        have hm : t ∈ [22] := by simpa using Array.mem_of_getElem? ht
        exact (show Tryz.prog.wantsStandIn t = false by simpa using List.all_eq_true.1 fnNeedsFixed_stand t hm)⟩)
    fnNeedsFixed_goes
end Go.Proofs.YtpnjglnpdmgghaaGreatDoor
