/- PROVED: FnExactDataSlacks returns true for every input, and its arguments read behind the call as before; no condition. -/
import Derived.Test.YtjijjanefcaakaaGreatDoorRows
import Derived.Test.YtjijjanefcaakaaGreatDoorLawFnExactDataSlacks
import Derived.ProofKit
import Derived.Test.YtjijjanefcaakaaGreatDoorCards
import Derived.Test.YtjijjanefcaakaaGreatDoorTie
import Derived.Lay
import Derived.SevenTiedAt
import Derived.Stop.Joined
import Derived.Test.YtjijjanefcaakaaGreatDoorJoinAFnExactDataSlacks
import Derived.Test.YtjijjanefcaakaaGreatDoorJoinBFnExactDataSlacks
set_option linter.all false
namespace Go.Proofs.YtjijjanefcaakaaGreatDoor
open Go.ChangeShapes Go.WideShapes Go.ChangeAt Go.RowKit Go.Eng
theorem Tryz.own : ownKnob Tryz.prog.godebug = none := by kernel_rfl
theorem Tryz.laidOut : laidOutB Tryz.prog = true := by kernel_rfl
theorem and_tt {a b : Bool} (ha : a = true) (hb : b = true) : (a && b) = true := by rw [ha, hb]; rfl
set_option maxRecDepth 100000 in
theorem fnExactDataSlacks_joined : joinedFacts Tryz.prog 5 Tryz.f5 Rows.fnExactDataSlacksSpec Rows.fnExactDataSlacksRow = true := by
  unfold joinedFacts
  exact (and_tt (and_tt (and_tt (and_tt (and_tt (and_tt (and_tt (and_tt (and_tt (and_tt (and_tt (and_tt (and_tt (and_tt (and_tt (and_tt (and_tt (and_tt (and_tt (and_tt (and_tt (and_tt (and_tt (and_tt (and_tt (and_tt (and_tt (and_tt (and_tt (and_tt (and_tt fnExactDataSlacks_j0 fnExactDataSlacks_j1) fnExactDataSlacks_j2) fnExactDataSlacks_j3) fnExactDataSlacks_j4) fnExactDataSlacks_j5) fnExactDataSlacks_j6) fnExactDataSlacks_j7) fnExactDataSlacks_j8) fnExactDataSlacks_j9) fnExactDataSlacks_j10) fnExactDataSlacks_j11) fnExactDataSlacks_j12) fnExactDataSlacks_j13) fnExactDataSlacks_j14) fnExactDataSlacks_j15) fnExactDataSlacks_j16) fnExactDataSlacks_j17) fnExactDataSlacks_j18) fnExactDataSlacks_j19) fnExactDataSlacks_j20) fnExactDataSlacks_j21) fnExactDataSlacks_j22) fnExactDataSlacks_j23) fnExactDataSlacks_j24) fnExactDataSlacks_j25) fnExactDataSlacks_j26) fnExactDataSlacks_j27) fnExactDataSlacks_j28) fnExactDataSlacks_j29) fnExactDataSlacks_j30) fnExactDataSlacks_j31)
set_option maxRecDepth 100000 in
theorem fnExactDataSlacks_lifted (os : Os) (started : os.Started) (H : Type) (enc : TypeId × Value → H) :
    ReturnsInHanded {} Tryz.checked os 5 .any (fun w args => (Rows.fnExactDataSlacksSpec.pre enc Tryz.prog Tryz.f5 Rows.fnExactDataSlacksRow.domain false w args ∧ laidMetH Tryz.prog Rows.fnExactDataSlacksRow.laid w) ∧ sizedMet enc Tryz.prog Tryz.f5 (OpenSpec.ofChange Rows.fnExactDataSlacksSpec) false w args) (Rows.fnExactDataSlacksSpec.post enc Tryz.prog Tryz.f5 false true false false) := by
  refine lifted_ofL (C := Tryz.checked) (tb := 4) Tryz.own started (by kernel_rfl) Tryz.func5 (ChangeSpec.witness_shaped (enc := enc) (C := Tryz.checked) (os := os) (X := fun w _ => laidMetH Tryz.prog Rows.fnExactDataSlacksRow.laid w) false (World.laidAll Tryz.prog os Rows.fnExactDataSlacksRow.laid) #[.agg #[.slice none 0 0, .slice none 0 0, .slice none 0 0, .slice none 0 0, .slice none 0 0], .agg #[.slice none 0 0, .slice none 0 0, .slice none 0 0], .int .i64 0, .int .i64 0, .int .i64 0] 8 (World.laidAll_os _ _ _) (World.shaped_of_ZipB (by kernel_rfl) (by kernel_rfl)) (by kernel_rfl) (by kernel_rfl) (by kernel_rfl) (by rw [MakeChecks.laidMetH_plain _ _ _ (by kernel_rfl)]; exact laidMet_laidAll _ (by kernel_rfl) (by kernel_rfl))) Tryz.laidOut rfl
    (fun ds h => by rw [show Tryz.f5.params.toList.length = 5 by kernel_rfl] at h; match ds, h with | [_, _, _, _, _], _ => rfl) (by kernel_rfl) Tryz.underlying4 (by rw [show Tryz.f5.params.toList = [32, 66, 2, 2, 2] by kernel_rfl]; simp only [List.forall_mem_cons, List.not_mem_nil, false_imp_iff, implies_true, and_true]; exact ⟨⟨by kernel_rfl, of_decide_eq_true (by kernel_rfl)⟩, ⟨by kernel_rfl, of_decide_eq_true (by kernel_rfl)⟩, ⟨by kernel_rfl, of_decide_eq_true (by kernel_rfl)⟩, ⟨by kernel_rfl, of_decide_eq_true (by kernel_rfl)⟩, ⟨by kernel_rfl, of_decide_eq_true (by kernel_rfl)⟩⟩) ?_
  intro W base args ds p hval0 hA0
  have hval : ∀ (j : Nat) t v, Tryz.f5.params[j]? = some t → args[j]? = some v → Value.okWide Tryz.prog W .any base t v := hval0
  have hA : DataW.TrodAll enc Tryz.prog W 0 (fun _ => true) true Tryz.f5.params.toList args.toList ds p := hA0
  clear hval0 hA0
  rw [Tryz.params5] at hA hval
  obtain ⟨v0, vs0, d0, ds0, p0, q0, ha0, rfl, h0, hA1⟩ := trodA_cons hA
  obtain ⟨v1, vs1, d1, ds1, p1, q1, rfl, rfl, h1, hA2⟩ := trodA_cons hA1
  obtain ⟨v2, vs2, d2, ds2, p2, q2, rfl, rfl, h2, hA3⟩ := trodA_cons hA2
  obtain ⟨v3, vs3, d3, ds3, p3, q3, rfl, rfl, h3, hA4⟩ := trodA_cons hA3
  obtain ⟨v4, vs4, d4, ds4, p4, q4, rfl, rfl, h4, hA5⟩ := trodA_cons hA4
  obtain ⟨rfl, rfl⟩ := trodA_nil hA5
  obtain rfl := args_to ha0
  obtain ⟨fu0, h0⟩ := h0
  obtain ⟨y0, hr0, hR0⟩ := Rd_32 _ _ _ _ _ _ _ _ _ h0
  obtain ⟨cs0, rfl, _⟩ := okWide_struct Tryz.underlying32 (hval 0 32 v0 rfl rfl)
  obtain ⟨u0_0, u0_1, u0_2, u0_3, u0_4, hv0, hs0_0, hs0_1, hs0_2, hs0_3, hs0_4⟩ := C_Block_open hr0
  have hv0 : cs0.toList = _ := hv0
  obtain rfl := cells_to hv0
  obtain ⟨fu1, h1⟩ := h1
  obtain ⟨y1, hr1, hR1⟩ := Rd_66 _ _ _ _ _ _ _ _ _ h1
  obtain ⟨cs1, rfl, _⟩ := okWide_struct Tryz.underlying66 (hval 1 66 v1 rfl rfl)
  obtain ⟨u1_0, u1_1, u1_2, hv1, hs1_0, hs1_1, hs1_2⟩ := C_Timing_open hr1
  have hv1 : cs1.toList = _ := hv1
  obtain rfl := cells_to hv1
  obtain ⟨fu2, h2⟩ := h2
  obtain ⟨y2, hr2, hR2⟩ := Rd_2 _ _ _ _ _ _ _ _ _ h2
  obtain ⟨m2, rfl⟩ := okWide_int Tryz.underlying2 (hval 2 2 v2 rfl rfl)
  have hr2 : [Value.int .i64 m2] = [Value.int .i64 y2] := hr2
  simp only [List.cons.injEq, Value.int.injEq, true_and, and_true] at hr2; subst hr2
  obtain ⟨fu3, h3⟩ := h3
  obtain ⟨y3, hr3, hR3⟩ := Rd_2 _ _ _ _ _ _ _ _ _ h3
  obtain ⟨m3, rfl⟩ := okWide_int Tryz.underlying2 (hval 3 2 v3 rfl rfl)
  have hr3 : [Value.int .i64 m3] = [Value.int .i64 y3] := hr3
  simp only [List.cons.injEq, Value.int.injEq, true_and, and_true] at hr3; subst hr3
  obtain ⟨fu4, h4⟩ := h4
  obtain ⟨y4, hr4, hR4⟩ := Rd_2 _ _ _ _ _ _ _ _ _ h4
  obtain ⟨m4, rfl⟩ := okWide_int Tryz.underlying2 (hval 4 2 v4 rfl rfl)
  have hr4 : [Value.int .i64 m4] = [Value.int .i64 y4] := hr4
  simp only [List.cons.injEq, Value.int.injEq, true_and, and_true] at hr4; subst hr4
  obtain ⟨n, hF⟩ := PFnExactDataSlacks hR0 hR1 hR2 hR3 hR4
  exact W_laws_FnExactDataSlacks hF (Nat.le_refl _) hs0_0 hs0_1 hs0_2 hs0_3 hs0_4 hs1_0 hs1_1 hs1_2
theorem fnExactDataSlacks_inst : Tryz.f5.isInstance Tryz.prog Rows.fnExactDataSlacksRow.origin Rows.fnExactDataSlacksRow.targs := of_decide_eq_true (by kernel_rfl)
theorem fnExactDataSlacks_wrap : Tryz.f5.isWrapper Tryz.prog Rows.fnExactDataSlacksRow.wrapper Rows.fnExactDataSlacksRow.mainSum := by unfold Func.isWrapper; first | (rw [if_pos (by decide +kernel)]; kernel_rfl) | (rw [if_neg (by decide +kernel)]; exact ⟨rfl, rfl⟩)
theorem fnExactDataSlacks_holds : Rows.FnExactDataSlacksSaid :=
  OpenClaim.holds_of_wide 5 Tryz.f5 rfl rfl rfl rfl rfl rfl rfl ⟨rfl, rfl, rfl, rfl, rfl⟩ rfl rfl rfl rfl rfl fnExactDataSlacks_fn Tryz.func5 fnExactDataSlacks_joined
    fnExactDataSlacks_inst fnExactDataSlacks_wrap
    (fun os started H enc _ => fnExactDataSlacks_lifted os started H enc)
theorem fnExactDataSlacks_text : Rows.fnExactDataSlacksRow.wfByText (OpenSpec.ofChange Rows.fnExactDataSlacksSpec) = true := by kernel_rfl
theorem fnExactDataSlacks_main : Tryz.prog.mainIs = some (Rows.fnExactDataSlacksCard.stood.harness.1, Rows.fnExactDataSlacksCard.stood.harness.2.toList) := by kernel_rfl
theorem fnExactDataSlacks_looks : false = Tryz.prog.looks [] := by kernel_rfl
theorem fnExactDataSlacks_stand : ([32, 66, 2, 2, 2].all fun u => !Tryz.prog.wantsStandIn u) = true := by kernel_rfl
theorem fnExactDataSlacks_goes : false = Rows.fnExactDataSlacksRow.goesBy Tryz.prog := by kernel_rfl
theorem fnExactDataSlacks_card : Rows.FnExactDataSlacksCardSaid :=
  Claim7.holds_tied_plain_at .later [] Rows.fnExactDataSlacksCard.laidKinds true Rows.fnExactDataSlacksCard.stood.harness false fnExactDataSlacks_holds (fun _ h => by cases h) fnExactDataSlacks_text (fun _ h => by cases h) fnExactDataSlacks_row_tie rfl ⟨rfl, rfl⟩ fnExactDataSlacks_main rfl
    (fun f fn hf hfn => by
      obtain rfl : f = 5 := Option.some.inj (fnExactDataSlacks_fn.symm.trans hf) |>.symm
      obtain rfl : fn = Tryz.f5 := (Option.some.inj (Tryz.func5.symm.trans hfn)).symm
      exact ⟨fnExactDataSlacks_looks, fun j t ht => by
        rw [Tryz.params5] at ht
        have hm : t ∈ [32, 66, 2, 2, 2] := by simpa using Array.mem_of_getElem? ht
        exact (show Tryz.prog.wantsStandIn t = false by simpa using List.all_eq_true.1 fnExactDataSlacks_stand t hm)⟩)
    fnExactDataSlacks_goes
end Go.Proofs.YtjijjanefcaakaaGreatDoor
