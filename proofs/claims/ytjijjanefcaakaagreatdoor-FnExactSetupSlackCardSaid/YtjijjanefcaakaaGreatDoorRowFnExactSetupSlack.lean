/- PROVED: FnExactSetupSlack returns true for every input, and its arguments read behind the call as before; no condition. -/
import Derived.Test.YtjijjanefcaakaaGreatDoorRows
import Derived.Test.YtjijjanefcaakaaGreatDoorLawFnExactSetupSlack
import Derived.ProofKit
import Derived.Test.YtjijjanefcaakaaGreatDoorCards
import Derived.Test.YtjijjanefcaakaaGreatDoorTie
import Derived.Lay
import Derived.SevenTiedAt
import Derived.Stop.Joined
import Derived.Test.YtjijjanefcaakaaGreatDoorJoinAFnExactSetupSlack
import Derived.Test.YtjijjanefcaakaaGreatDoorJoinBFnExactSetupSlack
set_option linter.all false
namespace Go.Proofs.YtjijjanefcaakaaGreatDoor
open Go.ChangeShapes Go.WideShapes Go.ChangeAt Go.RowKit Go.Eng
theorem Tryz.own : ownKnob Tryz.prog.godebug = none := by kernel_rfl
theorem Tryz.laidOut : laidOutB Tryz.prog = true := by kernel_rfl
theorem and_tt {a b : Bool} (ha : a = true) (hb : b = true) : (a && b) = true := by rw [ha, hb]; rfl
set_option maxRecDepth 100000 in
theorem fnExactSetupSlack_joined : joinedFacts Tryz.prog 13 Tryz.f13 Rows.fnExactSetupSlackSpec Rows.fnExactSetupSlackRow = true := by
  unfold joinedFacts
  exact (and_tt (and_tt (and_tt (and_tt (and_tt (and_tt (and_tt (and_tt (and_tt (and_tt (and_tt (and_tt (and_tt (and_tt (and_tt (and_tt (and_tt (and_tt (and_tt (and_tt (and_tt (and_tt (and_tt (and_tt (and_tt (and_tt (and_tt (and_tt (and_tt (and_tt (and_tt fnExactSetupSlack_j0 fnExactSetupSlack_j1) fnExactSetupSlack_j2) fnExactSetupSlack_j3) fnExactSetupSlack_j4) fnExactSetupSlack_j5) fnExactSetupSlack_j6) fnExactSetupSlack_j7) fnExactSetupSlack_j8) fnExactSetupSlack_j9) fnExactSetupSlack_j10) fnExactSetupSlack_j11) fnExactSetupSlack_j12) fnExactSetupSlack_j13) fnExactSetupSlack_j14) fnExactSetupSlack_j15) fnExactSetupSlack_j16) fnExactSetupSlack_j17) fnExactSetupSlack_j18) fnExactSetupSlack_j19) fnExactSetupSlack_j20) fnExactSetupSlack_j21) fnExactSetupSlack_j22) fnExactSetupSlack_j23) fnExactSetupSlack_j24) fnExactSetupSlack_j25) fnExactSetupSlack_j26) fnExactSetupSlack_j27) fnExactSetupSlack_j28) fnExactSetupSlack_j29) fnExactSetupSlack_j30) fnExactSetupSlack_j31)
set_option maxRecDepth 100000 in
theorem fnExactSetupSlack_lifted (os : Os) (started : os.Started) (H : Type) (enc : TypeId × Value → H) :
    ReturnsInHanded {} Tryz.checked os 13 .any (fun w args => (Rows.fnExactSetupSlackSpec.pre enc Tryz.prog Tryz.f13 Rows.fnExactSetupSlackRow.domain false w args ∧ laidMetH Tryz.prog Rows.fnExactSetupSlackRow.laid w) ∧ sizedMet enc Tryz.prog Tryz.f13 (OpenSpec.ofChange Rows.fnExactSetupSlackSpec) false w args) (Rows.fnExactSetupSlackSpec.post enc Tryz.prog Tryz.f13 false true false false) := by
  refine lifted_ofL (C := Tryz.checked) (tb := 4) Tryz.own started (by kernel_rfl) Tryz.func13 (ChangeSpec.witness_shaped (enc := enc) (C := Tryz.checked) (os := os) (X := fun w _ => laidMetH Tryz.prog Rows.fnExactSetupSlackRow.laid w) false (World.laidAll Tryz.prog os Rows.fnExactSetupSlackRow.laid) #[.agg #[.slice none 0 0, .slice none 0 0, .slice none 0 0, .slice none 0 0, .slice none 0 0], .agg #[.slice none 0 0, .slice none 0 0, .slice none 0 0], .agg #[.int .i64 0, .int .i64 0, .int .i64 0], .int .i64 0, .int .i64 0, .int .i64 0] 8 (World.laidAll_os _ _ _) (World.shaped_of_ZipB (by kernel_rfl) (by kernel_rfl)) (by kernel_rfl) (by kernel_rfl) (by kernel_rfl) (by rw [MakeChecks.laidMetH_plain _ _ _ (by kernel_rfl)]; exact laidMet_laidAll _ (by kernel_rfl) (by kernel_rfl))) Tryz.laidOut rfl
    (fun ds h => by rw [show Tryz.f13.params.toList.length = 6 by kernel_rfl] at h; match ds, h with | [_, _, _, _, _, _], _ => rfl) (by kernel_rfl) Tryz.underlying4 (by rw [show Tryz.f13.params.toList = [32, 66, 88, 2, 2, 2] by kernel_rfl]; simp only [List.forall_mem_cons, List.not_mem_nil, false_imp_iff, implies_true, and_true]; exact ⟨⟨by kernel_rfl, of_decide_eq_true (by kernel_rfl)⟩, ⟨by kernel_rfl, of_decide_eq_true (by kernel_rfl)⟩, ⟨by kernel_rfl, of_decide_eq_true (by kernel_rfl)⟩, ⟨by kernel_rfl, of_decide_eq_true (by kernel_rfl)⟩, ⟨by kernel_rfl, of_decide_eq_true (by kernel_rfl)⟩, ⟨by kernel_rfl, of_decide_eq_true (by kernel_rfl)⟩⟩) ?_
  intro W base args ds p hval0 hA0
  have hval : ∀ (j : Nat) t v, Tryz.f13.params[j]? = some t → args[j]? = some v → Value.okWide Tryz.prog W .any base t v := hval0
  have hA : DataW.TrodAll enc Tryz.prog W 0 (fun _ => true) true Tryz.f13.params.toList args.toList ds p := hA0
  clear hval0 hA0
  rw [Tryz.params13] at hA hval
  obtain ⟨v0, vs0, d0, ds0, p0, q0, ha0, rfl, h0, hA1⟩ := trodA_cons hA
  obtain ⟨v1, vs1, d1, ds1, p1, q1, rfl, rfl, h1, hA2⟩ := trodA_cons hA1
  obtain ⟨v2, vs2, d2, ds2, p2, q2, rfl, rfl, h2, hA3⟩ := trodA_cons hA2
  obtain ⟨v3, vs3, d3, ds3, p3, q3, rfl, rfl, h3, hA4⟩ := trodA_cons hA3
  obtain ⟨v4, vs4, d4, ds4, p4, q4, rfl, rfl, h4, hA5⟩ := trodA_cons hA4
  obtain ⟨v5, vs5, d5, ds5, p5, q5, rfl, rfl, h5, hA6⟩ := trodA_cons hA5
  obtain ⟨rfl, rfl⟩ := trodA_nil hA6
  obtain rfl := args_to ha0
  obtain ⟨fu0, h0⟩ := h0
  obtain ⟨y0, hr0, hR0⟩ := Rd_32 _ _ _ _ _ _ _ _ _ h0
  obtain ⟨cs0, rfl, _⟩ := okWide_struct Tryz.underlying32 (hval 0 32 v0 rfl rfl)
  obtain ⟨u0_0, u0_1, u0_2, u0_3, u0_4, hv0, hs0_0, hs0_1, hs0_2, hs0_3, hs0_4⟩ := C_Block_open hr0
  have hv0 : cs0.toList = _ := hv0
  obtain rfl := cells_to hv0
  obtain ⟨fu1, h1⟩ := h1
  obtain ⟨y1, hr1, hR1⟩ := Rd_66 _ _ _ _ _ _ _ _ _ h1
  obtain ⟨cs1, rfl, _⟩ := okWide_struct Tryz.underlying66 (hval 1 66 v1 rfl rfl)
  obtain ⟨u1_0, u1_1, u1_2, hv1, hs1_0, hs1_1, hs1_2⟩ := C_Timing_open hr1
  have hv1 : cs1.toList = _ := hv1
  obtain rfl := cells_to hv1
  obtain ⟨fu2, h2⟩ := h2
  obtain ⟨y2, hr2, hR2⟩ := Rd_88 _ _ _ _ _ _ _ _ _ h2
  obtain ⟨cs2, rfl, _⟩ := okWide_struct Tryz.underlying88 (hval 2 88 v2 rfl rfl)
  have hv2 := C_Relation_open hr2
  have hv2 : cs2.toList = _ := hv2
  obtain rfl := cells_to hv2
  obtain ⟨fu3, h3⟩ := h3
  obtain ⟨y3, hr3, hR3⟩ := Rd_2 _ _ _ _ _ _ _ _ _ h3
  obtain ⟨m3, rfl⟩ := okWide_int Tryz.underlying2 (hval 3 2 v3 rfl rfl)
  have hr3 : [Value.int .i64 m3] = [Value.int .i64 y3] := hr3
  simp only [List.cons.injEq, Value.int.injEq, true_and, and_true] at hr3; subst hr3
  obtain ⟨fu4, h4⟩ := h4
  obtain ⟨y4, hr4, hR4⟩ := Rd_2 _ _ _ _ _ _ _ _ _ h4
  obtain ⟨m4, rfl⟩ := okWide_int Tryz.underlying2 (hval 4 2 v4 rfl rfl)
  have hr4 : [Value.int .i64 m4] = [Value.int .i64 y4] := hr4
  simp only [List.cons.injEq, Value.int.injEq, true_and, and_true] at hr4; subst hr4
  obtain ⟨fu5, h5⟩ := h5
  obtain ⟨y5, hr5, hR5⟩ := Rd_2 _ _ _ _ _ _ _ _ _ h5
  obtain ⟨m5, rfl⟩ := okWide_int Tryz.underlying2 (hval 5 2 v5 rfl rfl)
  have hr5 : [Value.int .i64 m5] = [Value.int .i64 y5] := hr5
  simp only [List.cons.injEq, Value.int.injEq, true_and, and_true] at hr5; subst hr5
  obtain ⟨n, hF⟩ := PFnExactSetupSlack hR0 hR1 hR2 hR3 hR4 hR5
  exact W_laws_FnExactSetupSlack hF (Nat.le_refl _) hs0_0 hs0_1 hs0_2 hs0_3 hs0_4 hs1_0 hs1_1 hs1_2
theorem fnExactSetupSlack_inst : Tryz.f13.isInstance Tryz.prog Rows.fnExactSetupSlackRow.origin Rows.fnExactSetupSlackRow.targs := of_decide_eq_true (by kernel_rfl)
theorem fnExactSetupSlack_wrap : Tryz.f13.isWrapper Tryz.prog Rows.fnExactSetupSlackRow.wrapper Rows.fnExactSetupSlackRow.mainSum := by unfold Func.isWrapper; first | (rw [if_pos (by decide +kernel)]; kernel_rfl) | (rw [if_neg (by decide +kernel)]; exact ⟨rfl, rfl⟩)
theorem fnExactSetupSlack_holds : Rows.FnExactSetupSlackSaid :=
  OpenClaim.holds_of_wide 13 Tryz.f13 rfl rfl rfl rfl rfl rfl rfl ⟨rfl, rfl, rfl, rfl, rfl⟩ rfl rfl rfl rfl rfl fnExactSetupSlack_fn Tryz.func13 fnExactSetupSlack_joined
    fnExactSetupSlack_inst fnExactSetupSlack_wrap
    (fun os started H enc _ => fnExactSetupSlack_lifted os started H enc)
theorem fnExactSetupSlack_text : Rows.fnExactSetupSlackRow.wfByText (OpenSpec.ofChange Rows.fnExactSetupSlackSpec) = true := by kernel_rfl
theorem fnExactSetupSlack_main : Tryz.prog.mainIs = some (Rows.fnExactSetupSlackCard.stood.harness.1, Rows.fnExactSetupSlackCard.stood.harness.2.toList) := by kernel_rfl
theorem fnExactSetupSlack_looks : false = Tryz.prog.looks [] := by kernel_rfl
theorem fnExactSetupSlack_stand : ([32, 66, 88, 2, 2, 2].all fun u => !Tryz.prog.wantsStandIn u) = true := by kernel_rfl
theorem fnExactSetupSlack_goes : false = Rows.fnExactSetupSlackRow.goesBy Tryz.prog := by kernel_rfl
theorem fnExactSetupSlack_card : Rows.FnExactSetupSlackCardSaid :=
  Claim7.holds_tied_plain_at .later [] Rows.fnExactSetupSlackCard.laidKinds true Rows.fnExactSetupSlackCard.stood.harness false fnExactSetupSlack_holds (fun _ h => by cases h) fnExactSetupSlack_text (fun _ h => by cases h) fnExactSetupSlack_row_tie rfl ⟨rfl, rfl⟩ fnExactSetupSlack_main rfl
    (fun f fn hf hfn => by
      obtain rfl : f = 13 := Option.some.inj (fnExactSetupSlack_fn.symm.trans hf) |>.symm
      obtain rfl : fn = Tryz.f13 := (Option.some.inj (Tryz.func13.symm.trans hfn)).symm
      exact ⟨fnExactSetupSlack_looks, fun j t ht => by
        rw [Tryz.params13] at ht
        have hm : t ∈ [32, 66, 88, 2, 2, 2] := by simpa using Array.mem_of_getElem? ht
        exact (show Tryz.prog.wantsStandIn t = false by simpa using List.all_eq_true.1 fnExactSetupSlack_stand t hm)⟩)
    fnExactSetupSlack_goes
end Go.Proofs.YtjijjanefcaakaaGreatDoor
