/- PROVED: FnGateList returns true for every input, and its arguments read behind the call as before; no condition. -/
import Derived.Test.YtbcnjcjcdknhhaaGreatDoorRows
import Derived.Test.YtbcnjcjcdknhhaaGreatDoorLawFnGateList
import Derived.ProofKit
import Derived.Test.YtbcnjcjcdknhhaaGreatDoorCards
import Derived.Test.YtbcnjcjcdknhhaaGreatDoorTie
import Derived.Lay
import Derived.SevenTiedAt
import Derived.Stop.Joined
import Derived.Test.YtbcnjcjcdknhhaaGreatDoorJoinAFnGateList
import Derived.Test.YtbcnjcjcdknhhaaGreatDoorJoinBFnGateList
set_option linter.all false
namespace Go.Proofs.YtbcnjcjcdknhhaaGreatDoor
open Go.ChangeShapes Go.WideShapes Go.ChangeAt Go.RowKit Go.Eng
theorem Tryz.own : ownKnob Tryz.prog.godebug = none := by kernel_rfl
theorem Tryz.laidOut : laidOutB Tryz.prog = true := by kernel_rfl
theorem and_tt {a b : Bool} (ha : a = true) (hb : b = true) : (a && b) = true := by rw [ha, hb]; rfl
set_option maxRecDepth 100000 in
theorem fnGateList_joined : joinedFacts Tryz.prog 4 Tryz.f4 Rows.fnGateListSpec Rows.fnGateListRow = true := by
  unfold joinedFacts
  exact (and_tt (and_tt (and_tt (and_tt (and_tt (and_tt (and_tt (and_tt (and_tt (and_tt (and_tt (and_tt (and_tt (and_tt (and_tt (and_tt (and_tt (and_tt (and_tt (and_tt (and_tt (and_tt (and_tt (and_tt (and_tt (and_tt (and_tt (and_tt (and_tt (and_tt (and_tt fnGateList_j0 fnGateList_j1) fnGateList_j2) fnGateList_j3) fnGateList_j4) fnGateList_j5) fnGateList_j6) fnGateList_j7) fnGateList_j8) fnGateList_j9) fnGateList_j10) fnGateList_j11) fnGateList_j12) fnGateList_j13) fnGateList_j14) fnGateList_j15) fnGateList_j16) fnGateList_j17) fnGateList_j18) fnGateList_j19) fnGateList_j20) fnGateList_j21) fnGateList_j22) fnGateList_j23) fnGateList_j24) fnGateList_j25) fnGateList_j26) fnGateList_j27) fnGateList_j28) fnGateList_j29) fnGateList_j30) fnGateList_j31)
set_option maxRecDepth 100000 in
theorem fnGateList_lifted (os : Os) (started : os.Started) (H : Type) (enc : TypeId × Value → H) :
    ReturnsInHanded {} Tryz.checked os 4 .any (fun w args => (Rows.fnGateListSpec.pre enc Tryz.prog Tryz.f4 Rows.fnGateListRow.domain false w args ∧ laidMetH Tryz.prog Rows.fnGateListRow.laid w) ∧ sizedMet enc Tryz.prog Tryz.f4 (OpenSpec.ofChange Rows.fnGateListSpec) false w args) (Rows.fnGateListSpec.post enc Tryz.prog Tryz.f4 false true false false) := by
  refine UY (C := Tryz.checked) (tb := 4) Tryz.own started (by kernel_rfl) Tryz.func4 (ChangeSpec.witness_shaped (enc := enc) (C := Tryz.checked) (os := os) (X := fun w _ => laidMetH Tryz.prog Rows.fnGateListRow.laid w) false (World.laidAll Tryz.prog os Rows.fnGateListRow.laid) #[.slice none 0 0] 8 (World.laidAll_os _ _ _) (World.shaped_of_ZipB (by kernel_rfl) (by kernel_rfl)) (by kernel_rfl) (by kernel_rfl) (by kernel_rfl) (by rw [MakeChecks.laidMetH_plain _ _ _ (by kernel_rfl)]; exact laidMet_laidAll _ (by kernel_rfl) (by kernel_rfl))) Tryz.laidOut rfl
    (fun ds h => by rw [show Tryz.f4.params.toList.length = 1 by kernel_rfl] at h; match ds, h with | [_], _ => rfl) (by kernel_rfl) Tryz.underlying4 (by rw [show Tryz.f4.params.toList = [22] by kernel_rfl]; intro t ht; obtain rfl := List.mem_singleton.1 ht; exact ⟨by kernel_rfl, of_decide_eq_true (by kernel_rfl)⟩) ?_
  intro W base args ds p hval0 hA0 hZ0
  have hval : ∀ (j : Nat) t v, Tryz.f4.params[j]? = some t → args[j]? = some v → Value.okWide Tryz.prog W .any base t v := hval0
  have hA0 : DataW.TrodAll enc Tryz.prog W 0 (fun _ => true) true Tryz.f4.params.toList args.toList ds p := hA0
  clear hval0
  rw [Tryz.params4] at hA0 hval
  obtain ⟨v0, vs0, d0, ds0, p0, q0, ha0, rfl, h0, z0, hA1, hZ1⟩ := Vd hA0 hZ0
  obtain ⟨rfl, rfl⟩ := Vt hA1
  obtain rfl := Yc ha0
  obtain ⟨fu0, h0⟩ := h0
  obtain ⟨y0, hr0, hR0⟩ := dB _ _ _ _ _ _ _ _ _ h0 z0
  obtain ⟨a0, l0, c0, rfl⟩ := okWide_slice Tryz.underlying22 (hval 0 22 v0 rfl rfl)
  obtain ⟨u0, hv0, hs0⟩ := hr0
  obtain rfl : Value.slice a0 l0 c0 = u0 := by simpa [Value.cells] using hv0
  obtain ⟨n, O, hF⟩ := US hR0
  exact aP (dY hF (Nat.le_refl _) hs0)
theorem fnGateList_inst : Tryz.f4.isInstance Tryz.prog Rows.fnGateListRow.origin Rows.fnGateListRow.targs := of_decide_eq_true (by kernel_rfl)
theorem fnGateList_wrap : Tryz.f4.isWrapper Tryz.prog Rows.fnGateListRow.wrapper Rows.fnGateListRow.mainSum := by unfold Func.isWrapper; first | (rw [if_pos (by decide +kernel)]; kernel_rfl) | (rw [if_neg (by decide +kernel)]; exact ⟨rfl, rfl⟩)
theorem fnGateList_holds : Rows.FnGateListSaid :=
  OpenClaim.holds_of_wide 4 Tryz.f4 rfl rfl rfl rfl rfl rfl rfl ⟨rfl, rfl, rfl, rfl, rfl⟩ rfl rfl rfl rfl rfl fnGateList_fn Tryz.func4 fnGateList_joined
    fnGateList_inst fnGateList_wrap
    (fun os started H enc _ => fnGateList_lifted os started H enc)
theorem fnGateList_text : Rows.fnGateListRow.wfByText (OpenSpec.ofChange Rows.fnGateListSpec) = true := by kernel_rfl
theorem fnGateList_main : Tryz.prog.mainIs = some (Rows.fnGateListCard.stood.harness.1, Rows.fnGateListCard.stood.harness.2.toList) := by kernel_rfl
theorem fnGateList_looks : false = Tryz.prog.looks [] := by kernel_rfl
theorem fnGateList_stand : ([22].all fun u => !Tryz.prog.wantsStandIn u) = true := by kernel_rfl
theorem fnGateList_goes : false = Rows.fnGateListRow.goesBy Tryz.prog := by kernel_rfl
theorem fnGateList_card : Rows.FnGateListCardSaid :=
  Claim7.holds_tied_plain_at .later [] Rows.fnGateListCard.laidKinds true Rows.fnGateListCard.stood.harness false fnGateList_holds (fun _ h => by cases h) fnGateList_text (fun _ h => by cases h) fnGateList_row_tie rfl ⟨rfl, rfl⟩ fnGateList_main rfl
    (fun f fn hf hfn => by
      obtain rfl : f = 4 := Option.some.inj (fnGateList_fn.symm.trans hf) |>.symm
      obtain rfl : fn = Tryz.f4 := (Option.some.inj (Tryz.func4.symm.trans hfn)).symm
      exact ⟨fnGateList_looks, fun j t ht => by
        rw [Tryz.params4] at ht
        have hm : t ∈ [22] := by simpa using Array.mem_of_getElem? ht
        exact (show Tryz.prog.wantsStandIn t = false by simpa using List.all_eq_true.1 fnGateList_stand t hm)⟩)
    fnGateList_goes
end Go.Proofs.YtbcnjcjcdknhhaaGreatDoor
