/- PROVED: FnExactTotalSlack returns true for every input, and its arguments read behind the call as before; no condition. -/
import Derived.Test.YtjijjanefcaakaaGreatDoorRows
import Derived.Test.YtjijjanefcaakaaGreatDoorLawFnExactTotalSlack
import Derived.ProofKit
import Derived.Test.YtjijjanefcaakaaGreatDoorCards
import Derived.Test.YtjijjanefcaakaaGreatDoorTie
import Derived.Lay
import Derived.SevenTiedAt
import Derived.Stop.Joined
import Derived.Test.YtjijjanefcaakaaGreatDoorJoinAFnExactTotalSlack
import Derived.Test.YtjijjanefcaakaaGreatDoorJoinBFnExactTotalSlack
set_option linter.all false
namespace Go.Proofs.YtjijjanefcaakaaGreatDoor
open Go.ChangeShapes Go.WideShapes Go.ChangeAt Go.RowKit Go.Eng
theorem Tryz.own : ownKnob Tryz.prog.godebug = none := by kernel_rfl
theorem Tryz.laidOut : laidOutB Tryz.prog = true := by kernel_rfl
theorem and_tt {a b : Bool} (ha : a = true) (hb : b = true) : (a && b) = true := by rw [ha, hb]; rfl
set_option maxRecDepth 100000 in
theorem fnExactTotalSlack_joined : joinedFacts Tryz.prog 10 Tryz.f10 Rows.fnExactTotalSlackSpec Rows.fnExactTotalSlackRow = true := by
  unfold joinedFacts
  exact (and_tt (and_tt (and_tt (and_tt (and_tt (and_tt (and_tt (and_tt (and_tt (and_tt (and_tt (and_tt (and_tt (and_tt (and_tt (and_tt (and_tt (and_tt (and_tt (and_tt (and_tt (and_tt (and_tt (and_tt (and_tt (and_tt (and_tt (and_tt (and_tt (and_tt (and_tt fnExactTotalSlack_j0 fnExactTotalSlack_j1) fnExactTotalSlack_j2) fnExactTotalSlack_j3) fnExactTotalSlack_j4) fnExactTotalSlack_j5) fnExactTotalSlack_j6) fnExactTotalSlack_j7) fnExactTotalSlack_j8) fnExactTotalSlack_j9) fnExactTotalSlack_j10) fnExactTotalSlack_j11) fnExactTotalSlack_j12) fnExactTotalSlack_j13) fnExactTotalSlack_j14) fnExactTotalSlack_j15) fnExactTotalSlack_j16) fnExactTotalSlack_j17) fnExactTotalSlack_j18) fnExactTotalSlack_j19) fnExactTotalSlack_j20) fnExactTotalSlack_j21) fnExactTotalSlack_j22) fnExactTotalSlack_j23) fnExactTotalSlack_j24) fnExactTotalSlack_j25) fnExactTotalSlack_j26) fnExactTotalSlack_j27) fnExactTotalSlack_j28) fnExactTotalSlack_j29) fnExactTotalSlack_j30) fnExactTotalSlack_j31)
set_option maxRecDepth 100000 in
theorem fnExactTotalSlack_lifted (os : Os) (started : os.Started) (H : Type) (enc : TypeId × Value → H) :
    ReturnsInHanded {} Tryz.checked os 10 .any (fun w args => (Rows.fnExactTotalSlackSpec.pre enc Tryz.prog Tryz.f10 Rows.fnExactTotalSlackRow.domain false w args ∧ laidMetH Tryz.prog Rows.fnExactTotalSlackRow.laid w) ∧ sizedMet enc Tryz.prog Tryz.f10 (OpenSpec.ofChange Rows.fnExactTotalSlackSpec) false w args) (Rows.fnExactTotalSlackSpec.post enc Tryz.prog Tryz.f10 false true false false) := by
  refine lifted_ofL (C := Tryz.checked) (tb := 4) Tryz.own started (by kernel_rfl) Tryz.func10 (ChangeSpec.witness_shaped (enc := enc) (C := Tryz.checked) (os := os) (X := fun w _ => laidMetH Tryz.prog Rows.fnExactTotalSlackRow.laid w) false (World.laidAll Tryz.prog os Rows.fnExactTotalSlackRow.laid) #[.agg #[.slice none 0 0, .slice none 0 0, .slice none 0 0, .slice none 0 0, .slice none 0 0], .agg #[.slice none 0 0, .slice none 0 0, .slice none 0 0], .agg #[.slice none 0 0, .slice none 0 0], .slice none 0 0, .int .i64 0] 8 (World.laidAll_os _ _ _) (World.shaped_of_ZipB (by kernel_rfl) (by kernel_rfl)) (by kernel_rfl) (by kernel_rfl) (by kernel_rfl) (by rw [MakeChecks.laidMetH_plain _ _ _ (by kernel_rfl)]; exact laidMet_laidAll _ (by kernel_rfl) (by kernel_rfl))) Tryz.laidOut rfl
    (fun ds h => by rw [show Tryz.f10.params.toList.length = 5 by kernel_rfl] at h; match ds, h with | [_, _, _, _, _], _ => rfl) (by kernel_rfl) Tryz.underlying4 (by rw [show Tryz.f10.params.toList = [32, 66, 56, 33, 2] by kernel_rfl]; simp only [List.forall_mem_cons, List.not_mem_nil, false_imp_iff, implies_true, and_true]; exact ⟨⟨by kernel_rfl, of_decide_eq_true (by kernel_rfl)⟩, ⟨by kernel_rfl, of_decide_eq_true (by kernel_rfl)⟩, ⟨by kernel_rfl, of_decide_eq_true (by kernel_rfl)⟩, ⟨by kernel_rfl, of_decide_eq_true (by kernel_rfl)⟩, ⟨by kernel_rfl, of_decide_eq_true (by kernel_rfl)⟩⟩) ?_
  intro W base args ds p hval0 hA0
  have hval : ∀ (j : Nat) t v, Tryz.f10.params[j]? = some t → args[j]? = some v → Value.okWide Tryz.prog W .any base t v := hval0
  have hA : DataW.TrodAll enc Tryz.prog W 0 (fun _ => true) true Tryz.f10.params.toList args.toList ds p := hA0
  clear hval0 hA0
  rw [Tryz.params10] at hA hval
  obtain ⟨v0, vs0, d0, ds0, p0, q0, ha0, rfl, h0, hA1⟩ := trodA_cons hA
  obtain ⟨v1, vs1, d1, ds1, p1, q1, rfl, rfl, h1, hA2⟩ := trodA_cons hA1
  obtain ⟨v2, vs2, d2, ds2, p2, q2, rfl, rfl, h2, hA3⟩ := trodA_cons hA2
  obtain ⟨v3, vs3, d3, ds3, p3, q3, rfl, rfl, h3, hA4⟩ := trodA_cons hA3
  obtain ⟨v4, vs4, d4, ds4, p4, q4, rfl, rfl, h4, hA5⟩ := trodA_cons hA4
  obtain ⟨rfl, rfl⟩ := trodA_nil hA5
  obtain rfl := args_to ha0
  obtain ⟨fu0, h0⟩ := h0
  obtain ⟨y0, hr0, hR0⟩ := Rd_32 _ _ _ _ _ _ _ _ _ h0
  obtain ⟨cs0, rfl, _⟩ := okWide_struct Tryz.underlying32 (hval 0 32 v0 rfl rfl)
  obtain ⟨u0_0, u0_1, u0_2, u0_3, u0_4, hv0, hs0_0, hs0_1, hs0_2, hs0_3, hs0_4⟩ := C_Block_open hr0
  have hv0 : cs0.toList = _ := hv0
  obtain rfl := cells_to hv0
  obtain ⟨fu1, h1⟩ := h1
  obtain ⟨y1, hr1, hR1⟩ := Rd_66 _ _ _ _ _ _ _ _ _ h1
  obtain ⟨cs1, rfl, _⟩ := okWide_struct Tryz.underlying66 (hval 1 66 v1 rfl rfl)
  obtain ⟨u1_0, u1_1, u1_2, hv1, hs1_0, hs1_1, hs1_2⟩ := C_Timing_open hr1
  have hv1 : cs1.toList = _ := hv1
  obtain rfl := cells_to hv1
  obtain ⟨fu2, h2⟩ := h2
  obtain ⟨y2, hr2, hR2⟩ := Rd_56 _ _ _ _ _ _ _ _ _ h2
  obtain ⟨cs2, rfl, _⟩ := okWide_struct Tryz.underlying56 (hval 2 56 v2 rfl rfl)
  obtain ⟨u2_0, u2_1, hv2, hs2_0, hs2_1⟩ := C_Needs_open hr2
  have hv2 : cs2.toList = _ := hv2
  obtain rfl := cells_to hv2
  obtain ⟨fu3, h3⟩ := h3
  obtain ⟨y3, hr3, hR3⟩ := Rd_33 _ _ _ _ _ _ _ _ _ h3
  obtain ⟨a3, l3, c3, rfl⟩ := okWide_slice Tryz.underlying33 (hval 3 33 v3 rfl rfl)
  obtain ⟨u3, hv3, hs3⟩ := hr3
  obtain rfl : Value.slice a3 l3 c3 = u3 := by simpa [Value.cells] using hv3
  obtain ⟨fu4, h4⟩ := h4
  obtain ⟨y4, hr4, hR4⟩ := Rd_2 _ _ _ _ _ _ _ _ _ h4
  obtain ⟨m4, rfl⟩ := okWide_int Tryz.underlying2 (hval 4 2 v4 rfl rfl)
  have hr4 : [Value.int .i64 m4] = [Value.int .i64 y4] := hr4
  simp only [List.cons.injEq, Value.int.injEq, true_and, and_true] at hr4; subst hr4
  obtain ⟨n, hF⟩ := PFnExactTotalSlack hR0 hR1 hR2 hR3 hR4
  exact W_laws_FnExactTotalSlack hF (Nat.le_refl _) hs0_0 hs0_1 hs0_2 hs0_3 hs0_4 hs1_0 hs1_1 hs1_2 hs2_0 hs2_1 hs3
theorem fnExactTotalSlack_inst : Tryz.f10.isInstance Tryz.prog Rows.fnExactTotalSlackRow.origin Rows.fnExactTotalSlackRow.targs := of_decide_eq_true (by kernel_rfl)
theorem fnExactTotalSlack_wrap : Tryz.f10.isWrapper Tryz.prog Rows.fnExactTotalSlackRow.wrapper Rows.fnExactTotalSlackRow.mainSum := by unfold Func.isWrapper; first | (rw [if_pos (by decide +kernel)]; kernel_rfl) | (rw [if_neg (by decide +kernel)]; exact ⟨rfl, rfl⟩)
theorem fnExactTotalSlack_holds : Rows.FnExactTotalSlackSaid :=
  OpenClaim.holds_of_wide 10 Tryz.f10 rfl rfl rfl rfl rfl rfl rfl ⟨rfl, rfl, rfl, rfl, rfl⟩ rfl rfl rfl rfl rfl fnExactTotalSlack_fn Tryz.func10 fnExactTotalSlack_joined
    fnExactTotalSlack_inst fnExactTotalSlack_wrap
    (fun os started H enc _ => fnExactTotalSlack_lifted os started H enc)
theorem fnExactTotalSlack_text : Rows.fnExactTotalSlackRow.wfByText (OpenSpec.ofChange Rows.fnExactTotalSlackSpec) = true := by kernel_rfl
theorem fnExactTotalSlack_main : Tryz.prog.mainIs = some (Rows.fnExactTotalSlackCard.stood.harness.1, Rows.fnExactTotalSlackCard.stood.harness.2.toList) := by kernel_rfl
theorem fnExactTotalSlack_looks : false = Tryz.prog.looks [] := by kernel_rfl
theorem fnExactTotalSlack_stand : ([32, 66, 56, 33, 2].all fun u => !Tryz.prog.wantsStandIn u) = true := by kernel_rfl
theorem fnExactTotalSlack_goes : false = Rows.fnExactTotalSlackRow.goesBy Tryz.prog := by kernel_rfl
theorem fnExactTotalSlack_card : Rows.FnExactTotalSlackCardSaid :=
  Claim7.holds_tied_plain_at .later [] Rows.fnExactTotalSlackCard.laidKinds true Rows.fnExactTotalSlackCard.stood.harness false fnExactTotalSlack_holds (fun _ h => by cases h) fnExactTotalSlack_text (fun _ h => by cases h) fnExactTotalSlack_row_tie rfl ⟨rfl, rfl⟩ fnExactTotalSlack_main rfl
    (fun f fn hf hfn => by
      obtain rfl : f = 10 := Option.some.inj (fnExactTotalSlack_fn.symm.trans hf) |>.symm
      obtain rfl : fn = Tryz.f10 := (Option.some.inj (Tryz.func10.symm.trans hfn)).symm
      exact ⟨fnExactTotalSlack_looks, fun j t ht => by
        rw [Tryz.params10] at ht
        have hm : t ∈ [32, 66, 56, 33, 2] := by simpa using Array.mem_of_getElem? ht
        exact (show Tryz.prog.wantsStandIn t = false by simpa using List.all_eq_true.1 fnExactTotalSlack_stand t hm)⟩)
    fnExactTotalSlack_goes
end Go.Proofs.YtjijjanefcaakaaGreatDoor
