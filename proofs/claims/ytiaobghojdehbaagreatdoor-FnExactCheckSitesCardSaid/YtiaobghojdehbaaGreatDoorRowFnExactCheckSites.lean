/- PROVED: FnExactCheckSites returns true for every input, and its arguments read behind the call as before; no condition. -/
import Derived.Test.YtiaobghojdehbaaGreatDoorRows
import Derived.Test.YtiaobghojdehbaaGreatDoorLawFnExactCheckSites
import Derived.ProofKit
import Derived.Test.YtiaobghojdehbaaGreatDoorCards
import Derived.Test.YtiaobghojdehbaaGreatDoorTie
import Derived.Lay
import Derived.SevenTiedAt
import Derived.Stop.Joined
import Derived.Test.YtiaobghojdehbaaGreatDoorJoinAFnExactCheckSites
import Derived.Test.YtiaobghojdehbaaGreatDoorJoinBFnExactCheckSites
set_option linter.all false
namespace Go.Proofs.YtiaobghojdehbaaGreatDoor
open Go.ChangeShapes Go.WideShapes Go.ChangeAt Go.RowKit Go.Eng
theorem Tryz.own : ownKnob Tryz.prog.godebug = none := by kernel_rfl
theorem Tryz.laidOut : laidOutB Tryz.prog = true := by kernel_rfl
theorem and_tt {a b : Bool} (ha : a = true) (hb : b = true) : (a && b) = true := by rw [ha, hb]; rfl
set_option maxRecDepth 100000 in
theorem fnExactCheckSites_joined : joinedFacts Tryz.prog 3 Tryz.f3 Rows.fnExactCheckSitesSpec Rows.fnExactCheckSitesRow = true := by
  unfold joinedFacts
  exact (and_tt (and_tt (and_tt (and_tt (and_tt (and_tt (and_tt (and_tt (and_tt (and_tt (and_tt (and_tt (and_tt (and_tt (and_tt (and_tt (and_tt (and_tt (and_tt (and_tt (and_tt (and_tt (and_tt (and_tt (and_tt (and_tt (and_tt (and_tt (and_tt (and_tt (and_tt fnExactCheckSites_j0 fnExactCheckSites_j1) fnExactCheckSites_j2) fnExactCheckSites_j3) fnExactCheckSites_j4) fnExactCheckSites_j5) fnExactCheckSites_j6) fnExactCheckSites_j7) fnExactCheckSites_j8) fnExactCheckSites_j9) fnExactCheckSites_j10) fnExactCheckSites_j11) fnExactCheckSites_j12) fnExactCheckSites_j13) fnExactCheckSites_j14) fnExactCheckSites_j15) fnExactCheckSites_j16) fnExactCheckSites_j17) fnExactCheckSites_j18) fnExactCheckSites_j19) fnExactCheckSites_j20) fnExactCheckSites_j21) fnExactCheckSites_j22) fnExactCheckSites_j23) fnExactCheckSites_j24) fnExactCheckSites_j25) fnExactCheckSites_j26) fnExactCheckSites_j27) fnExactCheckSites_j28) fnExactCheckSites_j29) fnExactCheckSites_j30) fnExactCheckSites_j31)
set_option maxRecDepth 100000 in
theorem fnExactCheckSites_lifted (os : Os) (started : os.Started) (H : Type) (enc : TypeId × Value → H) :
    ReturnsInHanded {} Tryz.checked os 3 .any (fun w args => (Rows.fnExactCheckSitesSpec.pre enc Tryz.prog Tryz.f3 Rows.fnExactCheckSitesRow.domain false w args ∧ laidMetH Tryz.prog Rows.fnExactCheckSitesRow.laid w) ∧ sizedMet enc Tryz.prog Tryz.f3 (OpenSpec.ofChange Rows.fnExactCheckSitesSpec) false w args) (Rows.fnExactCheckSitesSpec.post enc Tryz.prog Tryz.f3 false true false false) := by
  refine lifted_ofL (C := Tryz.checked) (tb := 4) Tryz.own started (by kernel_rfl) Tryz.func3 (ChangeSpec.witness_shaped (enc := enc) (C := Tryz.checked) (os := os) (X := fun w _ => laidMetH Tryz.prog Rows.fnExactCheckSitesRow.laid w) false (World.laidAll Tryz.prog os Rows.fnExactCheckSitesRow.laid) #[.agg #[.slice none 0 0, .slice none 0 0, .slice none 0 0, .slice none 0 0, .slice none 0 0]] 8 (World.laidAll_os _ _ _) (World.shaped_of_ZipB (by kernel_rfl) (by kernel_rfl)) (by kernel_rfl) (by kernel_rfl) (by kernel_rfl) (by rw [MakeChecks.laidMetH_plain _ _ _ (by kernel_rfl)]; exact laidMet_laidAll _ (by kernel_rfl) (by kernel_rfl))) Tryz.laidOut rfl
    (fun ds h => by rw [show Tryz.f3.params.toList.length = 1 by kernel_rfl] at h; match ds, h with | [_], _ => rfl) (by kernel_rfl) Tryz.underlying4 (by rw [show Tryz.f3.params.toList = [32] by kernel_rfl]; intro t ht; obtain rfl := List.mem_singleton.1 ht; exact ⟨by kernel_rfl, of_decide_eq_true (by kernel_rfl)⟩) ?_
  intro W base args ds p hval0 hA0 hZ0
  have hval : ∀ (j : Nat) t v, Tryz.f3.params[j]? = some t → args[j]? = some v → Value.okWide Tryz.prog W .any base t v := hval0
  have hA0 : DataW.TrodAll enc Tryz.prog W 0 (fun _ => true) true Tryz.f3.params.toList args.toList ds p := hA0
  clear hval0
  rw [Tryz.params3] at hA0 hval
  obtain ⟨v0, vs0, d0, ds0, p0, q0, ha0, rfl, h0, z0, hA1, hZ1⟩ := trodU_cons hA0 hZ0
  obtain ⟨rfl, rfl⟩ := trodA_nil hA1
  obtain rfl := args_to ha0
  obtain ⟨fu0, h0⟩ := h0
  obtain ⟨y0, hr0, hR0⟩ := Rd_32 _ _ _ _ _ _ _ _ _ h0 z0
  obtain ⟨cs0, rfl, _⟩ := okWide_struct Tryz.underlying32 (hval 0 32 v0 rfl rfl)
  obtain ⟨u0_0, u0_1, u0_2, u0_3, u0_4, hv0, hs0_0, hs0_1, hs0_2, hs0_3, hs0_4⟩ := C_Block_open hr0
  have hv0 : cs0.toList = _ := hv0
  obtain rfl := cells_to hv0
  obtain ⟨n, hF⟩ := PFnExactCheckSites hR0
  exact W_39 hF (Nat.le_refl _) hs0_0 hs0_1 hs0_2 hs0_3 hs0_4
theorem fnExactCheckSites_inst : Tryz.f3.isInstance Tryz.prog Rows.fnExactCheckSitesRow.origin Rows.fnExactCheckSitesRow.targs := of_decide_eq_true (by kernel_rfl)
theorem fnExactCheckSites_wrap : Tryz.f3.isWrapper Tryz.prog Rows.fnExactCheckSitesRow.wrapper Rows.fnExactCheckSitesRow.mainSum := by unfold Func.isWrapper; first | (rw [if_pos (by decide +kernel)]; kernel_rfl) | (rw [if_neg (by decide +kernel)]; exact ⟨rfl, rfl⟩)
theorem fnExactCheckSites_holds : Rows.FnExactCheckSitesSaid :=
  OpenClaim.holds_of_wide 3 Tryz.f3 rfl rfl rfl rfl rfl rfl rfl ⟨rfl, rfl, rfl, rfl, rfl⟩ rfl rfl rfl rfl rfl fnExactCheckSites_fn Tryz.func3 fnExactCheckSites_joined
    fnExactCheckSites_inst fnExactCheckSites_wrap
    (fun os started H enc _ => fnExactCheckSites_lifted os started H enc)
theorem fnExactCheckSites_text : Rows.fnExactCheckSitesRow.wfByText (OpenSpec.ofChange Rows.fnExactCheckSitesSpec) = true := by kernel_rfl
theorem fnExactCheckSites_main : Tryz.prog.mainIs = some (Rows.fnExactCheckSitesCard.stood.harness.1, Rows.fnExactCheckSitesCard.stood.harness.2.toList) := by kernel_rfl
theorem fnExactCheckSites_looks : false = Tryz.prog.looks [] := by kernel_rfl
theorem fnExactCheckSites_stand : ([32].all fun u => !Tryz.prog.wantsStandIn u) = true := by kernel_rfl
theorem fnExactCheckSites_goes : false = Rows.fnExactCheckSitesRow.goesBy Tryz.prog := by kernel_rfl
theorem fnExactCheckSites_card : Rows.FnExactCheckSitesCardSaid :=
  Claim7.holds_tied_plain_at .later [] Rows.fnExactCheckSitesCard.laidKinds true Rows.fnExactCheckSitesCard.stood.harness false fnExactCheckSites_holds (fun _ h => by cases h) fnExactCheckSites_text (fun _ h => by cases h) fnExactCheckSites_row_tie rfl ⟨rfl, rfl⟩ fnExactCheckSites_main rfl
    (fun f fn hf hfn => by
      obtain rfl : f = 3 := Option.some.inj (fnExactCheckSites_fn.symm.trans hf) |>.symm
      obtain rfl : fn = Tryz.f3 := (Option.some.inj (Tryz.func3.symm.trans hfn)).symm
      exact ⟨fnExactCheckSites_looks, fun j t ht => by
        rw [Tryz.params3] at ht
        have hm : t ∈ [32] := by simpa using Array.mem_of_getElem? ht
        exact (show Tryz.prog.wantsStandIn t = false by simpa using List.all_eq_true.1 fnExactCheckSites_stand t hm)⟩)
    fnExactCheckSites_goes
end Go.Proofs.YtiaobghojdehbaaGreatDoor
