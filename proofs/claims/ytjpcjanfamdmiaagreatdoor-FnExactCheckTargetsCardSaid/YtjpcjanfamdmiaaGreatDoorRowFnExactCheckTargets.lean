/- PROVED: FnExactCheckTargets returns true for every input, and its arguments read behind the call as before; no condition. -/
import Derived.Test.YtjpcjanfamdmiaaGreatDoorRows
import Derived.Test.YtjpcjanfamdmiaaGreatDoorLawFnExactCheckTargets
import Derived.ProofKit
import Derived.Test.YtjpcjanfamdmiaaGreatDoorCards
import Derived.Test.YtjpcjanfamdmiaaGreatDoorTie
import Derived.Lay
import Derived.SevenTiedAt
import Derived.Stop.Joined
import Derived.Test.YtjpcjanfamdmiaaGreatDoorJoinAFnExactCheckTargets
import Derived.Test.YtjpcjanfamdmiaaGreatDoorJoinBFnExactCheckTargets
set_option linter.all false
namespace Go.Proofs.YtjpcjanfamdmiaaGreatDoor
open Go.ChangeShapes Go.WideShapes Go.ChangeAt Go.RowKit Go.Eng
theorem Tryz.own : ownKnob Tryz.prog.godebug = none := by kernel_rfl
theorem Tryz.laidOut : laidOutB Tryz.prog = true := by kernel_rfl
theorem and_tt {a b : Bool} (ha : a = true) (hb : b = true) : (a && b) = true := by rw [ha, hb]; rfl
set_option maxRecDepth 100000 in
theorem fnExactCheckTargets_joined : joinedFacts Tryz.prog 3 Tryz.f3 Rows.fnExactCheckTargetsSpec Rows.fnExactCheckTargetsRow = true := by
  unfold joinedFacts
  exact (and_tt (and_tt (and_tt (and_tt (and_tt (and_tt (and_tt (and_tt (and_tt (and_tt (and_tt (and_tt (and_tt (and_tt (and_tt (and_tt (and_tt (and_tt (and_tt (and_tt (and_tt (and_tt (and_tt (and_tt (and_tt (and_tt (and_tt (and_tt (and_tt (and_tt (and_tt fnExactCheckTargets_j0 fnExactCheckTargets_j1) fnExactCheckTargets_j2) fnExactCheckTargets_j3) fnExactCheckTargets_j4) fnExactCheckTargets_j5) fnExactCheckTargets_j6) fnExactCheckTargets_j7) fnExactCheckTargets_j8) fnExactCheckTargets_j9) fnExactCheckTargets_j10) fnExactCheckTargets_j11) fnExactCheckTargets_j12) fnExactCheckTargets_j13) fnExactCheckTargets_j14) fnExactCheckTargets_j15) fnExactCheckTargets_j16) fnExactCheckTargets_j17) fnExactCheckTargets_j18) fnExactCheckTargets_j19) fnExactCheckTargets_j20) fnExactCheckTargets_j21) fnExactCheckTargets_j22) fnExactCheckTargets_j23) fnExactCheckTargets_j24) fnExactCheckTargets_j25) fnExactCheckTargets_j26) fnExactCheckTargets_j27) fnExactCheckTargets_j28) fnExactCheckTargets_j29) fnExactCheckTargets_j30) fnExactCheckTargets_j31)
set_option maxRecDepth 100000 in
theorem fnExactCheckTargets_lifted (os : Os) (started : os.Started) (H : Type) (enc : TypeId × Value → H) :
    ReturnsInHanded {} Tryz.checked os 3 .any (fun w args => (Rows.fnExactCheckTargetsSpec.pre enc Tryz.prog Tryz.f3 Rows.fnExactCheckTargetsRow.domain false w args ∧ laidMetH Tryz.prog Rows.fnExactCheckTargetsRow.laid w) ∧ sizedMet enc Tryz.prog Tryz.f3 (OpenSpec.ofChange Rows.fnExactCheckTargetsSpec) false w args) (Rows.fnExactCheckTargetsSpec.post enc Tryz.prog Tryz.f3 false true false false) := by
  refine iV (C := Tryz.checked) (tb := 4) Tryz.own started (by kernel_rfl) Tryz.func3 (ChangeSpec.witness_shaped (enc := enc) (C := Tryz.checked) (os := os) (X := fun w _ => laidMetH Tryz.prog Rows.fnExactCheckTargetsRow.laid w) false (World.laidAll Tryz.prog os Rows.fnExactCheckTargetsRow.laid) #[.agg #[.slice none 0 0, .slice none 0 0, .slice none 0 0, .slice none 0 0, .slice none 0 0], .agg #[.slice none 0 0, .slice none 0 0, .slice none 0 0], .agg #[.int .i64 0, .int .i64 0, .int .i64 0]] 8 (World.laidAll_os _ _ _) (World.shaped_of_ZipB (by kernel_rfl) (by kernel_rfl)) (by kernel_rfl) (by kernel_rfl) (by kernel_rfl) (by rw [MakeChecks.laidMetH_plain _ _ _ (by kernel_rfl)]; exact laidMet_laidAll _ (by kernel_rfl) (by kernel_rfl))) Tryz.laidOut rfl
    (fun ds h => by rw [show Tryz.f3.params.toList.length = 3 by kernel_rfl] at h; match ds, h with | [_, _, _], _ => rfl) (by kernel_rfl) Tryz.underlying4 (by rw [show Tryz.f3.params.toList = [32, 36, 38] by kernel_rfl]; simp only [List.forall_mem_cons, List.not_mem_nil, false_imp_iff, implies_true, and_true]; exact ⟨⟨by kernel_rfl, of_decide_eq_true (by kernel_rfl)⟩, ⟨by kernel_rfl, of_decide_eq_true (by kernel_rfl)⟩, ⟨by kernel_rfl, of_decide_eq_true (by kernel_rfl)⟩⟩) ?_
  intro W base args ds p hval0 hA0 hZ0
  have hval : ∀ (j : Nat) t v, Tryz.f3.params[j]? = some t → args[j]? = some v → Value.okWide Tryz.prog W .any base t v := hval0
  have hA0 : DataW.TrodAll enc Tryz.prog W 0 (fun _ => true) true Tryz.f3.params.toList args.toList ds p := hA0
  clear hval0
  rw [Tryz.params3] at hA0 hval
  obtain ⟨v0, vs0, d0, ds0, p0, q0, ha0, rfl, h0, z0, hA1, hZ1⟩ := lD hA0 hZ0
  obtain ⟨v1, vs1, d1, ds1, p1, q1, rfl, rfl, h1, z1, hA2, hZ2⟩ := lD hA1 hZ1
  obtain ⟨v2, vs2, d2, ds2, p2, q2, rfl, rfl, h2, z2, hA3, hZ3⟩ := lD hA2 hZ2
  obtain ⟨rfl, rfl⟩ := oJ hA3
  obtain rfl := vD ha0
  obtain ⟨fu0, h0⟩ := h0
  obtain ⟨y0, hr0, hR0⟩ := AcT _ _ _ _ _ _ _ _ _ h0 z0
  obtain ⟨cs0, rfl, _⟩ := okWide_struct Tryz.underlying32 (hval 0 32 v0 rfl rfl)
  obtain ⟨u0_0, u0_1, u0_2, u0_3, u0_4, hv0, hs0_0, hs0_1, hs0_2, hs0_3, hs0_4⟩ := cG hr0
  have hv0 : cs0.toList = _ := hv0
  obtain rfl := rF hv0
  obtain ⟨fu1, h1⟩ := h1
  obtain ⟨y1, hr1, hR1⟩ := AcS _ _ _ _ _ _ _ _ _ h1 z1
  obtain ⟨cs1, rfl, _⟩ := okWide_struct Tryz.underlying36 (hval 1 36 v1 rfl rfl)
  obtain ⟨u1_0, u1_1, u1_2, hv1, hs1_0, hs1_1, hs1_2⟩ := Zy hr1
  have hv1 : cs1.toList = _ := hv1
  obtain rfl := rF hv1
  obtain ⟨fu2, h2⟩ := h2
  obtain ⟨y2, hr2, hR2⟩ := AcU _ _ _ _ _ _ _ _ _ h2 z2
  obtain ⟨cs2, rfl, _⟩ := okWide_struct Tryz.underlying38 (hval 2 38 v2 rfl rfl)
  have hv2 := VZ hr2
  have hv2 : cs2.toList = _ := hv2
  obtain rfl := rF hv2
  obtain ⟨n, hF⟩ := RS hR0 hR1 hR2
  exact AcV hF (Nat.le_refl _) hs0_0 hs0_1 hs0_2 hs0_3 hs0_4 hs1_0 hs1_1 hs1_2
theorem fnExactCheckTargets_inst : Tryz.f3.isInstance Tryz.prog Rows.fnExactCheckTargetsRow.origin Rows.fnExactCheckTargetsRow.targs := of_decide_eq_true (by kernel_rfl)
theorem fnExactCheckTargets_wrap : Tryz.f3.isWrapper Tryz.prog Rows.fnExactCheckTargetsRow.wrapper Rows.fnExactCheckTargetsRow.mainSum := by unfold Func.isWrapper; first | (rw [if_pos (by decide +kernel)]; kernel_rfl) | (rw [if_neg (by decide +kernel)]; exact ⟨rfl, rfl⟩)
theorem fnExactCheckTargets_holds : Rows.FnExactCheckTargetsSaid :=
  OpenClaim.holds_of_wide 3 Tryz.f3 rfl rfl rfl rfl rfl rfl rfl ⟨rfl, rfl, rfl, rfl, rfl⟩ rfl rfl rfl rfl rfl fnExactCheckTargets_fn Tryz.func3 fnExactCheckTargets_joined
    fnExactCheckTargets_inst fnExactCheckTargets_wrap
    (fun os started H enc _ => fnExactCheckTargets_lifted os started H enc)
theorem fnExactCheckTargets_text : Rows.fnExactCheckTargetsRow.wfByText (OpenSpec.ofChange Rows.fnExactCheckTargetsSpec) = true := by kernel_rfl
theorem fnExactCheckTargets_main : Tryz.prog.mainIs = some (Rows.fnExactCheckTargetsCard.stood.harness.1, Rows.fnExactCheckTargetsCard.stood.harness.2.toList) := by kernel_rfl
theorem fnExactCheckTargets_looks : false = Tryz.prog.looks [] := by kernel_rfl
theorem fnExactCheckTargets_stand : ([32, 36, 38].all fun u => !Tryz.prog.wantsStandIn u) = true := by kernel_rfl
theorem fnExactCheckTargets_goes : false = Rows.fnExactCheckTargetsRow.goesBy Tryz.prog := by kernel_rfl
theorem fnExactCheckTargets_card : Rows.FnExactCheckTargetsCardSaid :=
  Claim7.holds_tied_plain_at .later [] Rows.fnExactCheckTargetsCard.laidKinds true Rows.fnExactCheckTargetsCard.stood.harness false fnExactCheckTargets_holds (fun _ h => by cases h) fnExactCheckTargets_text (fun _ h => by cases h) fnExactCheckTargets_row_tie rfl ⟨rfl, rfl⟩ fnExactCheckTargets_main rfl
    (fun f fn hf hfn => by
      obtain rfl : f = 3 := Option.some.inj (fnExactCheckTargets_fn.symm.trans hf) |>.symm
      obtain rfl : fn = Tryz.f3 := (Option.some.inj (Tryz.func3.symm.trans hfn)).symm
      exact ⟨fnExactCheckTargets_looks, fun j t ht => by
        rw [Tryz.params3] at ht
        have hm : t ∈ [32, 36, 38] := by simpa using Array.mem_of_getElem? ht
        exact (show Tryz.prog.wantsStandIn t = false by simpa using List.all_eq_true.1 fnExactCheckTargets_stand t hm)⟩)
    fnExactCheckTargets_goes
end Go.Proofs.YtjpcjanfamdmiaaGreatDoor
