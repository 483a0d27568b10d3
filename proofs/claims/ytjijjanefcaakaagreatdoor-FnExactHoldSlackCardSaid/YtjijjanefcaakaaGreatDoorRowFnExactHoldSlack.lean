/- PROVED: FnExactHoldSlack returns true for every input, and its arguments read behind the call as before; no condition. -/
import Derived.Test.YtjijjanefcaakaaGreatDoorRows
import Derived.Test.YtjijjanefcaakaaGreatDoorLawFnExactHoldSlack
import Derived.ProofKit
import Derived.Test.YtjijjanefcaakaaGreatDoorCards
import Derived.Test.YtjijjanefcaakaaGreatDoorTie
import Derived.Lay
import Derived.SevenTiedAt
import Derived.Stop.Joined
import Derived.Test.YtjijjanefcaakaaGreatDoorJoinAFnExactHoldSlack
import Derived.Test.YtjijjanefcaakaaGreatDoorJoinBFnExactHoldSlack
set_option linter.all false
namespace Go.Proofs.YtjijjanefcaakaaGreatDoor
open Go.ChangeShapes Go.WideShapes Go.ChangeAt Go.RowKit Go.Eng
theorem Tryz.own : ownKnob Tryz.prog.godebug = none := by kernel_rfl
theorem Tryz.laidOut : laidOutB Tryz.prog = true := by kernel_rfl
theorem and_tt {a b : Bool} (ha : a = true) (hb : b = true) : (a && b) = true := by rw [ha, hb]; rfl
set_option maxRecDepth 100000 in
theorem fnExactHoldSlack_joined : joinedFacts Tryz.prog 12 Tryz.f12 Rows.fnExactHoldSlackSpec Rows.fnExactHoldSlackRow = true := by
  unfold joinedFacts
  exact (and_tt (and_tt (and_tt (and_tt (and_tt (and_tt (and_tt (and_tt (and_tt (and_tt (and_tt (and_tt (and_tt (and_tt (and_tt (and_tt (and_tt (and_tt (and_tt (and_tt (and_tt (and_tt (and_tt (and_tt (and_tt (and_tt (and_tt (and_tt (and_tt (and_tt (and_tt fnExactHoldSlack_j0 fnExactHoldSlack_j1) fnExactHoldSlack_j2) fnExactHoldSlack_j3) fnExactHoldSlack_j4) fnExactHoldSlack_j5) fnExactHoldSlack_j6) fnExactHoldSlack_j7) fnExactHoldSlack_j8) fnExactHoldSlack_j9) fnExactHoldSlack_j10) fnExactHoldSlack_j11) fnExactHoldSlack_j12) fnExactHoldSlack_j13) fnExactHoldSlack_j14) fnExactHoldSlack_j15) fnExactHoldSlack_j16) fnExactHoldSlack_j17) fnExactHoldSlack_j18) fnExactHoldSlack_j19) fnExactHoldSlack_j20) fnExactHoldSlack_j21) fnExactHoldSlack_j22) fnExactHoldSlack_j23) fnExactHoldSlack_j24) fnExactHoldSlack_j25) fnExactHoldSlack_j26) fnExactHoldSlack_j27) fnExactHoldSlack_j28) fnExactHoldSlack_j29) fnExactHoldSlack_j30) fnExactHoldSlack_j31)
set_option maxRecDepth 100000 in
theorem fnExactHoldSlack_lifted (os : Os) (started : os.Started) (H : Type) (enc : TypeId × Value → H) :
    ReturnsInHanded {} Tryz.checked os 12 .any (fun w args => (Rows.fnExactHoldSlackSpec.pre enc Tryz.prog Tryz.f12 Rows.fnExactHoldSlackRow.domain false w args ∧ laidMetH Tryz.prog Rows.fnExactHoldSlackRow.laid w) ∧ sizedMet enc Tryz.prog Tryz.f12 (OpenSpec.ofChange Rows.fnExactHoldSlackSpec) false w args) (Rows.fnExactHoldSlackSpec.post enc Tryz.prog Tryz.f12 false true false false) := by
  refine lifted_ofL (C := Tryz.checked) (tb := 4) Tryz.own started (by kernel_rfl) Tryz.func12 (ChangeSpec.witness_shaped (enc := enc) (C := Tryz.checked) (os := os) (X := fun w _ => laidMetH Tryz.prog Rows.fnExactHoldSlackRow.laid w) false (World.laidAll Tryz.prog os Rows.fnExactHoldSlackRow.laid) #[.agg #[.slice none 0 0, .slice none 0 0, .slice none 0 0, .slice none 0 0, .slice none 0 0], .agg #[.slice none 0 0, .slice none 0 0, .slice none 0 0], .agg #[.int .i64 0, .int .i64 0, .int .i64 0], .int .i64 0, .int .i64 0, .int .i64 0] 8 (World.laidAll_os _ _ _) (World.shaped_of_ZipB (by kernel_rfl) (by kernel_rfl)) (by kernel_rfl) (by kernel_rfl) (by kernel_rfl) (by rw [MakeChecks.laidMetH_plain _ _ _ (by kernel_rfl)]; exact laidMet_laidAll _ (by kernel_rfl) (by kernel_rfl))) Tryz.laidOut rfl
    (fun ds h => by rw [show Tryz.f12.params.toList.length = 6 by kernel_rfl] at h; match ds, h with | [_, _, _, _, _, _], _ => rfl) (by kernel_rfl) Tryz.underlying4 (by rw [show Tryz.f12.params.toList = [32, 66, 88, 2, 2, 2] by kernel_rfl]; simp only [List.forall_mem_cons, List.not_mem_nil, false_imp_iff, implies_true, and_true]; exact ⟨⟨by kernel_rfl, of_decide_eq_true (by kernel_rfl)⟩, ⟨by kernel_rfl, of_decide_eq_true (by kernel_rfl)⟩, ⟨by kernel_rfl, of_decide_eq_true (by kernel_rfl)⟩, ⟨by kernel_rfl, of_decide_eq_true (by kernel_rfl)⟩, ⟨by kernel_rfl, of_decide_eq_true (by kernel_rfl)⟩, ⟨by kernel_rfl, of_decide_eq_true (by kernel_rfl)⟩⟩) ?_
  intro W base args ds p hval0 hA0
  have hval : ∀ (j : Nat) t v, Tryz.f12.params[j]? = some t → args[j]? = some v → Value.okWide Tryz.prog W .any base t v := hval0
  have hA : DataW.TrodAll enc Tryz.prog W 0 (fun _ => true) true Tryz.f12.params.toList args.toList ds p := hA0
  clear hval0 hA0
  rw [Tryz.params12] at hA hval
  obtain ⟨v0, vs0, d0, ds0, p0, q0, ha0, rfl, h0, hA1⟩ := trodA_cons hA
  obtain ⟨v1, vs1, d1, ds1, p1, q1, rfl, rfl, h1, hA2⟩ := trodA_cons hA1
  obtain ⟨v2, vs2, d2, ds2, p2, q2, rfl, rfl, h2, hA3⟩ := trodA_cons hA2
  obtain ⟨v3, vs3, d3, ds3, p3, q3, rfl, rfl, h3, hA4⟩ := trodA_cons hA3
  obtain ⟨v4, vs4, d4, ds4, p4, q4, rfl, rfl, h4, hA5⟩ := trodA_cons hA4
  obtain ⟨v5, vs5, d5, ds5, p5, q5, rfl, rfl, h5, hA6⟩ := trodA_cons hA5
  obtain ⟨rfl, rfl⟩ := trodA_nil hA6
  obtain rfl := args_to ha0
  obtain ⟨fu0, h0⟩ := h0
  obtain ⟨y0, hr0, hR0⟩ := Rd_32 _ _ _ _ _ _ _ _ _ h0
  obtain ⟨cs0, rfl, _⟩ := okWide_struct Tryz.underlying32 (hval 0 32 v0 rfl rfl)
  obtain ⟨u0_0, u0_1, u0_2, u0_3, u0_4, hv0, hs0_0, hs0_1, hs0_2, hs0_3, hs0_4⟩ := C_Block_open hr0
  have hv0 : cs0.toList = _ := hv0
  obtain rfl := cells_to hv0
  obtain ⟨fu1, h1⟩ := h1
  obtain ⟨y1, hr1, hR1⟩ := Rd_66 _ _ _ _ _ _ _ _ _ h1
  obtain ⟨cs1, rfl, _⟩ := okWide_struct Tryz.underlying66 (hval 1 66 v1 rfl rfl)
  obtain ⟨u1_0, u1_1, u1_2, hv1, hs1_0, hs1_1, hs1_2⟩ := C_Timing_open hr1
  have hv1 : cs1.toList = _ := hv1
  obtain rfl := cells_to hv1
  obtain ⟨fu2, h2⟩ := h2
  obtain ⟨y2, hr2, hR2⟩ := Rd_88 _ _ _ _ _ _ _ _ _ h2
  obtain ⟨cs2, rfl, _⟩ := okWide_struct Tryz.underlying88 (hval 2 88 v2 rfl rfl)
  have hv2 := C_Relation_open hr2
  have hv2 : cs2.toList = _ := hv2
  obtain rfl := cells_to hv2
  obtain ⟨fu3, h3⟩ := h3
  obtain ⟨y3, hr3, hR3⟩ := Rd_2 _ _ _ _ _ _ _ _ _ h3
  obtain ⟨m3, rfl⟩ := okWide_int Tryz.underlying2 (hval 3 2 v3 rfl rfl)
  have hr3 : [Value.int .i64 m3] = [Value.int .i64 y3] := hr3
  simp only [List.cons.injEq, Value.int.injEq, true_and, and_true] at hr3; subst hr3
  obtain ⟨fu4, h4⟩ := h4
  obtain ⟨y4, hr4, hR4⟩ := Rd_2 _ _ _ _ _ _ _ _ _ h4
  obtain ⟨m4, rfl⟩ := okWide_int Tryz.underlying2 (hval 4 2 v4 rfl rfl)
  have hr4 : [Value.int .i64 m4] = [Value.int .i64 y4] := hr4
  simp only [List.cons.injEq, Value.int.injEq, true_and, and_true] at hr4; subst hr4
  obtain ⟨fu5, h5⟩ := h5
  obtain ⟨y5, hr5, hR5⟩ := Rd_2 _ _ _ _ _ _ _ _ _ h5
  obtain ⟨m5, rfl⟩ := okWide_int Tryz.underlying2 (hval 5 2 v5 rfl rfl)
  have hr5 : [Value.int .i64 m5] = [Value.int .i64 y5] := hr5
  simp only [List.cons.injEq, Value.int.injEq, true_and, and_true] at hr5; subst hr5
  obtain ⟨n, hF⟩ := PFnExactHoldSlack hR0 hR1 hR2 hR3 hR4 hR5
  exact W_laws_FnExactHoldSlack hF (Nat.le_refl _) hs0_0 hs0_1 hs0_2 hs0_3 hs0_4 hs1_0 hs1_1 hs1_2
theorem fnExactHoldSlack_inst : Tryz.f12.isInstance Tryz.prog Rows.fnExactHoldSlackRow.origin Rows.fnExactHoldSlackRow.targs := of_decide_eq_true (by kernel_rfl)
theorem fnExactHoldSlack_wrap : Tryz.f12.isWrapper Tryz.prog Rows.fnExactHoldSlackRow.wrapper Rows.fnExactHoldSlackRow.mainSum := by unfold Func.isWrapper; first | (rw [if_pos (by decide +kernel)]; kernel_rfl) | (rw [if_neg (by decide +kernel)]; exact ⟨rfl, rfl⟩)
theorem fnExactHoldSlack_holds : Rows.FnExactHoldSlackSaid :=
  OpenClaim.holds_of_wide 12 Tryz.f12 rfl rfl rfl rfl rfl rfl rfl ⟨rfl, rfl, rfl, rfl, rfl⟩ rfl rfl rfl rfl rfl fnExactHoldSlack_fn Tryz.func12 fnExactHoldSlack_joined
    fnExactHoldSlack_inst fnExactHoldSlack_wrap
    (fun os started H enc _ => fnExactHoldSlack_lifted os started H enc)
theorem fnExactHoldSlack_text : Rows.fnExactHoldSlackRow.wfByText (OpenSpec.ofChange Rows.fnExactHoldSlackSpec) = true := by kernel_rfl
theorem fnExactHoldSlack_main : Tryz.prog.mainIs = some (Rows.fnExactHoldSlackCard.stood.harness.1, Rows.fnExactHoldSlackCard.stood.harness.2.toList) := by kernel_rfl
theorem fnExactHoldSlack_looks : false = Tryz.prog.looks [] := by kernel_rfl
theorem fnExactHoldSlack_stand : ([32, 66, 88, 2, 2, 2].all fun u => !Tryz.prog.wantsStandIn u) = true := by kernel_rfl
theorem fnExactHoldSlack_goes : false = Rows.fnExactHoldSlackRow.goesBy Tryz.prog := by kernel_rfl
theorem fnExactHoldSlack_card : Rows.FnExactHoldSlackCardSaid :=
  Claim7.holds_tied_plain_at .later [] Rows.fnExactHoldSlackCard.laidKinds true Rows.fnExactHoldSlackCard.stood.harness false fnExactHoldSlack_holds (fun _ h => by cases h) fnExactHoldSlack_text (fun _ h => by cases h) fnExactHoldSlack_row_tie rfl ⟨rfl, rfl⟩ fnExactHoldSlack_main rfl
    (fun f fn hf hfn => by
      obtain rfl : f = 12 := Option.some.inj (fnExactHoldSlack_fn.symm.trans hf) |>.symm
      obtain rfl : fn = Tryz.f12 := (Option.some.inj (Tryz.func12.symm.trans hfn)).symm
      exact ⟨fnExactHoldSlack_looks, fun j t ht => by
        rw [Tryz.params12] at ht
        have hm : t ∈ [32, 66, 88, 2, 2, 2] := by simpa using Array.mem_of_getElem? ht
        exact (show Tryz.prog.wantsStandIn t = false by simpa using List.all_eq_true.1 fnExactHoldSlack_stand t hm)⟩)
    fnExactHoldSlack_goes
end Go.Proofs.YtjijjanefcaakaaGreatDoor
