/- PROVED: FnSkews returns true for every input, and its arguments read behind the call as before; no condition. -/
import Derived.Test.YtkjldnhpnbhogaaGreatDoorRows
import Derived.Test.YtkjldnhpnbhogaaGreatDoorLawFnSkews
import Derived.ProofKit
import Derived.Test.YtkjldnhpnbhogaaGreatDoorCards
import Derived.Test.YtkjldnhpnbhogaaGreatDoorTie
import Derived.Lay
import Derived.SevenTiedAt
import Derived.Stop.Joined
import Derived.Test.YtkjldnhpnbhogaaGreatDoorJoinAFnSkews
import Derived.Test.YtkjldnhpnbhogaaGreatDoorJoinBFnSkews
set_option linter.all false
namespace Go.Proofs.YtkjldnhpnbhogaaGreatDoor
open Go.ChangeShapes Go.WideShapes Go.ChangeAt Go.RowKit Go.Eng
theorem Tryz.own : ownKnob Tryz.prog.godebug = none := by kernel_rfl
theorem Tryz.laidOut : laidOutB Tryz.prog = true := by kernel_rfl
theorem and_tt {a b : Bool} (ha : a = true) (hb : b = true) : (a && b) = true := by rw [ha, hb]; rfl
set_option maxRecDepth 100000 in
theorem fnSkews_joined : joinedFacts Tryz.prog 3 Tryz.f3 Rows.fnSkewsSpec Rows.fnSkewsRow = true := by
  unfold joinedFacts
  exact (and_tt (and_tt (and_tt (and_tt (and_tt (and_tt (and_tt (and_tt (and_tt (and_tt (and_tt (and_tt (and_tt (and_tt (and_tt (and_tt (and_tt (and_tt (and_tt (and_tt (and_tt (and_tt (and_tt (and_tt (and_tt (and_tt (and_tt (and_tt (and_tt (and_tt (and_tt fnSkews_j0 fnSkews_j1) fnSkews_j2) fnSkews_j3) fnSkews_j4) fnSkews_j5) fnSkews_j6) fnSkews_j7) fnSkews_j8) fnSkews_j9) fnSkews_j10) fnSkews_j11) fnSkews_j12) fnSkews_j13) fnSkews_j14) fnSkews_j15) fnSkews_j16) fnSkews_j17) fnSkews_j18) fnSkews_j19) fnSkews_j20) fnSkews_j21) fnSkews_j22) fnSkews_j23) fnSkews_j24) fnSkews_j25) fnSkews_j26) fnSkews_j27) fnSkews_j28) fnSkews_j29) fnSkews_j30) fnSkews_j31)
set_option maxRecDepth 100000 in
theorem fnSkews_lifted (os : Os) (started : os.Started) (H : Type) (enc : TypeId × Value → H) :
    ReturnsInHanded {} Tryz.checked os 3 .any (fun w args => (Rows.fnSkewsSpec.pre enc Tryz.prog Tryz.f3 Rows.fnSkewsRow.domain false w args ∧ laidMetH Tryz.prog Rows.fnSkewsRow.laid w) ∧ sizedMet enc Tryz.prog Tryz.f3 (OpenSpec.ofChange Rows.fnSkewsSpec) false w args) (Rows.fnSkewsSpec.post enc Tryz.prog Tryz.f3 false true false false) := by
  refine Yn (C := Tryz.checked) (tb := 4) Tryz.own started (by kernel_rfl) Tryz.func3 (ChangeSpec.witness_shaped (enc := enc) (C := Tryz.checked) (os := os) (X := fun w _ => laidMetH Tryz.prog Rows.fnSkewsRow.laid w) false (World.laidAll Tryz.prog os Rows.fnSkewsRow.laid) #[.slice none 0 0] 8 (World.laidAll_os _ _ _) (World.shaped_of_ZipB (by kernel_rfl) (by kernel_rfl)) (by kernel_rfl) (by kernel_rfl) (by kernel_rfl) (by rw [MakeChecks.laidMetH_plain _ _ _ (by kernel_rfl)]; exact laidMet_laidAll _ (by kernel_rfl) (by kernel_rfl))) Tryz.laidOut rfl
    (fun ds h => by rw [show Tryz.f3.params.toList.length = 1 by kernel_rfl] at h; match ds, h with | [_], _ => rfl) (by kernel_rfl) Tryz.underlying4 (by rw [show Tryz.f3.params.toList = [22] by kernel_rfl]; intro t ht; obtain rfl := List.mem_singleton.1 ht; exact ⟨by kernel_rfl, of_decide_eq_true (by kernel_rfl)⟩) ?_
  intro W base args ds p hval0 hA0 hZ0
  have hval : ∀ (j : Nat) t v, Tryz.f3.params[j]? = some t → args[j]? = some v → Value.okWide Tryz.prog W .any base t v := hval0
  have hA0 : DataW.TrodAll enc Tryz.prog W 0 (fun _ => true) true Tryz.f3.params.toList args.toList ds p := hA0
  clear hval0
  rw [Tryz.params3] at hA0 hval
  obtain ⟨v0, vs0, d0, ds0, p0, q0, ha0, rfl, h0, z0, hA1, hZ1⟩ := Xb hA0 hZ0
  obtain ⟨rfl, rfl⟩ := Zi hA1
  obtain rfl := eJ ha0
  obtain ⟨fu0, h0⟩ := h0
  obtain ⟨y0, hr0, hR0⟩ := lU _ _ _ _ _ _ _ _ _ h0 z0
  obtain ⟨a0, l0, c0, rfl⟩ := okWide_slice Tryz.underlying22 (hval 0 22 v0 rfl rfl)
  obtain ⟨u0, hv0, hs0⟩ := hr0
  obtain rfl : Value.slice a0 l0 c0 = u0 := by simpa [Value.cells] using hv0
  obtain ⟨n, O, hF⟩ := bW hR0
  exact eS (mO hF (Nat.le_refl _) hs0)
theorem fnSkews_inst : Tryz.f3.isInstance Tryz.prog Rows.fnSkewsRow.origin Rows.fnSkewsRow.targs := of_decide_eq_true (by kernel_rfl)
theorem fnSkews_wrap : Tryz.f3.isWrapper Tryz.prog Rows.fnSkewsRow.wrapper Rows.fnSkewsRow.mainSum := by unfold Func.isWrapper; first | (rw [if_pos (by decide +kernel)]; kernel_rfl) | (rw [if_neg (by decide +kernel)]; exact ⟨rfl, rfl⟩)
theorem fnSkews_holds : Rows.FnSkewsSaid :=
  OpenClaim.holds_of_wide 3 Tryz.f3 rfl rfl rfl rfl rfl rfl rfl ⟨rfl, rfl, rfl, rfl, rfl⟩ rfl rfl rfl rfl rfl fnSkews_fn Tryz.func3 fnSkews_joined
    fnSkews_inst fnSkews_wrap
    (fun os started H enc _ => fnSkews_lifted os started H enc)
theorem fnSkews_text : Rows.fnSkewsRow.wfByText (OpenSpec.ofChange Rows.fnSkewsSpec) = true := by kernel_rfl
theorem fnSkews_main : Tryz.prog.mainIs = some (Rows.fnSkewsCard.stood.harness.1, Rows.fnSkewsCard.stood.harness.2.toList) := by kernel_rfl
theorem fnSkews_looks : false = Tryz.prog.looks [] := by kernel_rfl
theorem fnSkews_stand : ([22].all fun u => !Tryz.prog.wantsStandIn u) = true := by kernel_rfl
theorem fnSkews_goes : false = Rows.fnSkewsRow.goesBy Tryz.prog := by kernel_rfl
theorem fnSkews_card : Rows.FnSkewsCardSaid :=
  Claim7.holds_tied_plain_at .later [] Rows.fnSkewsCard.laidKinds true Rows.fnSkewsCard.stood.harness false fnSkews_holds (fun _ h => by cases h) fnSkews_text (fun _ h => by cases h) fnSkews_row_tie rfl ⟨rfl, rfl⟩ fnSkews_main rfl
    (fun f fn hf hfn => by
      obtain rfl : f = 3 := Option.some.inj (fnSkews_fn.symm.trans hf) |>.symm
      obtain rfl : fn = Tryz.f3 := (Option.some.inj (Tryz.func3.symm.trans hfn)).symm
      exact ⟨fnSkews_looks, fun j t ht => by
        rw [Tryz.params3] at ht
        have hm : t ∈ [22] := by simpa using Array.mem_of_getElem? ht
        exact (show Tryz.prog.wantsStandIn t = false by simpa using List.all_eq_true.1 fnSkews_stand t hm)⟩)
    fnSkews_goes
end Go.Proofs.YtkjldnhpnbhogaaGreatDoor
