/- PROVED: FnClockPins returns true for every input, and its arguments read behind the call as before; no condition. -/
import Derived.Test.YtbcnjcjcdknhhaaGreatDoorRows
import Derived.Test.YtbcnjcjcdknhhaaGreatDoorLawFnClockPins
import Derived.ProofKit
import Derived.Test.YtbcnjcjcdknhhaaGreatDoorCards
import Derived.Test.YtbcnjcjcdknhhaaGreatDoorTie
import Derived.Lay
import Derived.SevenTiedAt
import Derived.Stop.Joined
import Derived.Test.YtbcnjcjcdknhhaaGreatDoorJoinAFnClockPins
import Derived.Test.YtbcnjcjcdknhhaaGreatDoorJoinBFnClockPins
set_option linter.all false
namespace Go.Proofs.YtbcnjcjcdknhhaaGreatDoor
open Go.ChangeShapes Go.WideShapes Go.ChangeAt Go.RowKit Go.Eng
theorem Tryz.own : ownKnob Tryz.prog.godebug = none := by kernel_rfl
theorem Tryz.laidOut : laidOutB Tryz.prog = true := by kernel_rfl
theorem and_tt {a b : Bool} (ha : a = true) (hb : b = true) : (a && b) = true := by rw [ha, hb]; rfl
set_option maxRecDepth 100000 in
theorem fnClockPins_joined : joinedFacts Tryz.prog 3 Tryz.f3 Rows.fnClockPinsSpec Rows.fnClockPinsRow = true := by
  unfold joinedFacts
  exact (and_tt (and_tt (and_tt (and_tt (and_tt (and_tt (and_tt (and_tt (and_tt (and_tt (and_tt (and_tt (and_tt (and_tt (and_tt (and_tt (and_tt (and_tt (and_tt (and_tt (and_tt (and_tt (and_tt (and_tt (and_tt (and_tt (and_tt (and_tt (and_tt (and_tt (and_tt fnClockPins_j0 fnClockPins_j1) fnClockPins_j2) fnClockPins_j3) fnClockPins_j4) fnClockPins_j5) fnClockPins_j6) fnClockPins_j7) fnClockPins_j8) fnClockPins_j9) fnClockPins_j10) fnClockPins_j11) fnClockPins_j12) fnClockPins_j13) fnClockPins_j14) fnClockPins_j15) fnClockPins_j16) fnClockPins_j17) fnClockPins_j18) fnClockPins_j19) fnClockPins_j20) fnClockPins_j21) fnClockPins_j22) fnClockPins_j23) fnClockPins_j24) fnClockPins_j25) fnClockPins_j26) fnClockPins_j27) fnClockPins_j28) fnClockPins_j29) fnClockPins_j30) fnClockPins_j31)
set_option maxRecDepth 100000 in
theorem fnClockPins_lifted (os : Os) (started : os.Started) (H : Type) (enc : TypeId × Value → H) :
    ReturnsInHanded {} Tryz.checked os 3 .any (fun w args => (Rows.fnClockPinsSpec.pre enc Tryz.prog Tryz.f3 Rows.fnClockPinsRow.domain false w args ∧ laidMetH Tryz.prog Rows.fnClockPinsRow.laid w) ∧ sizedMet enc Tryz.prog Tryz.f3 (OpenSpec.ofChange Rows.fnClockPinsSpec) false w args) (Rows.fnClockPinsSpec.post enc Tryz.prog Tryz.f3 false true false false) := by
  refine Tm (C := Tryz.checked) (tb := 4) Tryz.own started (by kernel_rfl) Tryz.func3 (ChangeSpec.witness_shaped (enc := enc) (C := Tryz.checked) (os := os) (X := fun w _ => laidMetH Tryz.prog Rows.fnClockPinsRow.laid w) false (World.laidAll Tryz.prog os Rows.fnClockPinsRow.laid) #[.slice none 0 0] 8 (World.laidAll_os _ _ _) (World.shaped_of_ZipB (by kernel_rfl) (by kernel_rfl)) (by kernel_rfl) (by kernel_rfl) (by kernel_rfl) (by rw [MakeChecks.laidMetH_plain _ _ _ (by kernel_rfl)]; exact laidMet_laidAll _ (by kernel_rfl) (by kernel_rfl))) Tryz.laidOut rfl
    (fun ds h => by rw [show Tryz.f3.params.toList.length = 1 by kernel_rfl] at h; match ds, h with | [_], _ => rfl) (by kernel_rfl) Tryz.underlying4 (by rw [show Tryz.f3.params.toList = [22] by kernel_rfl]; intro t ht; obtain rfl := List.mem_singleton.1 ht; exact ⟨by kernel_rfl, of_decide_eq_true (by kernel_rfl)⟩) ?_
  intro W base args ds p hval0 hA0 hZ0
  have hval : ∀ (j : Nat) t v, Tryz.f3.params[j]? = some t → args[j]? = some v → Value.okWide Tryz.prog W .any base t v := hval0
  have hA0 : DataW.TrodAll enc Tryz.prog W 0 (fun _ => true) true Tryz.f3.params.toList args.toList ds p := hA0
  clear hval0
  rw [Tryz.params3] at hA0 hval
  obtain ⟨v0, vs0, d0, ds0, p0, q0, ha0, rfl, h0, z0, hA1, hZ1⟩ := Tv hA0 hZ0
  obtain ⟨rfl, rfl⟩ := VC hA1
  obtain rfl := Xb ha0
  obtain ⟨fu0, h0⟩ := h0
  obtain ⟨y0, hr0, hR0⟩ := aU _ _ _ _ _ _ _ _ _ h0 z0
  obtain ⟨a0, l0, c0, rfl⟩ := okWide_slice Tryz.underlying22 (hval 0 22 v0 rfl rfl)
  obtain ⟨u0, hv0, hs0⟩ := hr0
  obtain rfl : Value.slice a0 l0 c0 = u0 := by simpa [Value.cells] using hv0
  obtain ⟨n, O, hF⟩ := SY hR0
  exact Yy (bL hF (Nat.le_refl _) hs0)
theorem fnClockPins_inst : Tryz.f3.isInstance Tryz.prog Rows.fnClockPinsRow.origin Rows.fnClockPinsRow.targs := of_decide_eq_true (by kernel_rfl)
theorem fnClockPins_wrap : Tryz.f3.isWrapper Tryz.prog Rows.fnClockPinsRow.wrapper Rows.fnClockPinsRow.mainSum := by unfold Func.isWrapper; first | (rw [if_pos (by decide +kernel)]; kernel_rfl) | (rw [if_neg (by decide +kernel)]; exact ⟨rfl, rfl⟩)
theorem fnClockPins_holds : Rows.FnClockPinsSaid :=
  OpenClaim.holds_of_wide 3 Tryz.f3 rfl rfl rfl rfl rfl rfl rfl ⟨rfl, rfl, rfl, rfl, rfl⟩ rfl rfl rfl rfl rfl fnClockPins_fn Tryz.func3 fnClockPins_joined
    fnClockPins_inst fnClockPins_wrap
    (fun os started H enc _ => fnClockPins_lifted os started H enc)
theorem fnClockPins_text : Rows.fnClockPinsRow.wfByText (OpenSpec.ofChange Rows.fnClockPinsSpec) = true := by kernel_rfl
theorem fnClockPins_main : Tryz.prog.mainIs = some (Rows.fnClockPinsCard.stood.harness.1, Rows.fnClockPinsCard.stood.harness.2.toList) := by kernel_rfl
theorem fnClockPins_looks : false = Tryz.prog.looks [] := by kernel_rfl
theorem fnClockPins_stand : ([22].all fun u => !Tryz.prog.wantsStandIn u) = true := by kernel_rfl
theorem fnClockPins_goes : false = Rows.fnClockPinsRow.goesBy Tryz.prog := by kernel_rfl
theorem fnClockPins_card : Rows.FnClockPinsCardSaid :=
  Claim7.holds_tied_plain_at .later [] Rows.fnClockPinsCard.laidKinds true Rows.fnClockPinsCard.stood.harness false fnClockPins_holds (fun _ h => by cases h) fnClockPins_text (fun _ h => by cases h) fnClockPins_row_tie rfl ⟨rfl, rfl⟩ fnClockPins_main rfl
    (fun f fn hf hfn => by
      obtain rfl : f = 3 := Option.some.inj (fnClockPins_fn.symm.trans hf) |>.symm
      obtain rfl : fn = Tryz.f3 := (Option.some.inj (Tryz.func3.symm.trans hfn)).symm
      exact ⟨fnClockPins_looks, fun j t ht => by
        rw [Tryz.params3] at ht
        have hm : t ∈ [22] := by simpa using Array.mem_of_getElem? ht
        exact (show Tryz.prog.wantsStandIn t = false by simpa using List.all_eq_true.1 fnClockPins_stand t hm)⟩)
    fnClockPins_goes
end Go.Proofs.YtbcnjcjcdknhhaaGreatDoor
