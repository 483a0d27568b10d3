/- PROVED: FnExactSlackOf returns true for every input, and its arguments read behind the call as before; no condition. -/
import Derived.Test.YtjijjanefcaakaaGreatDoorRows
import Derived.Test.YtjijjanefcaakaaGreatDoorLawFnExactSlackOf
import Derived.ProofKit
import Derived.Test.YtjijjanefcaakaaGreatDoorCards
import Derived.Test.YtjijjanefcaakaaGreatDoorTie
import Derived.Lay
import Derived.SevenTiedAt
import Derived.Stop.Joined
import Derived.Test.YtjijjanefcaakaaGreatDoorJoinAFnExactSlackOf
import Derived.Test.YtjijjanefcaakaaGreatDoorJoinBFnExactSlackOf
set_option linter.all false
namespace Go.Proofs.YtjijjanefcaakaaGreatDoor
open Go.ChangeShapes Go.WideShapes Go.ChangeAt Go.RowKit Go.Eng
theorem Tryz.own : ownKnob Tryz.prog.godebug = none := by kernel_rfl
theorem Tryz.laidOut : laidOutB Tryz.prog = true := by kernel_rfl
theorem and_tt {a b : Bool} (ha : a = true) (hb : b = true) : (a && b) = true := by rw [ha, hb]; rfl
set_option maxRecDepth 100000 in
theorem fnExactSlackOf_joined : joinedFacts Tryz.prog 7 Tryz.f7 Rows.fnExactSlackOfSpec Rows.fnExactSlackOfRow = true := by
  unfold joinedFacts
  exact (and_tt (and_tt (and_tt (and_tt (and_tt (and_tt (and_tt (and_tt (and_tt (and_tt (and_tt (and_tt (and_tt (and_tt (and_tt (and_tt (and_tt (and_tt (and_tt (and_tt (and_tt (and_tt (and_tt (and_tt (and_tt (and_tt (and_tt (and_tt (and_tt (and_tt (and_tt fnExactSlackOf_j0 fnExactSlackOf_j1) fnExactSlackOf_j2) fnExactSlackOf_j3) fnExactSlackOf_j4) fnExactSlackOf_j5) fnExactSlackOf_j6) fnExactSlackOf_j7) fnExactSlackOf_j8) fnExactSlackOf_j9) fnExactSlackOf_j10) fnExactSlackOf_j11) fnExactSlackOf_j12) fnExactSlackOf_j13) fnExactSlackOf_j14) fnExactSlackOf_j15) fnExactSlackOf_j16) fnExactSlackOf_j17) fnExactSlackOf_j18) fnExactSlackOf_j19) fnExactSlackOf_j20) fnExactSlackOf_j21) fnExactSlackOf_j22) fnExactSlackOf_j23) fnExactSlackOf_j24) fnExactSlackOf_j25) fnExactSlackOf_j26) fnExactSlackOf_j27) fnExactSlackOf_j28) fnExactSlackOf_j29) fnExactSlackOf_j30) fnExactSlackOf_j31)
set_option maxRecDepth 100000 in
theorem fnExactSlackOf_lifted (os : Os) (started : os.Started) (H : Type) (enc : TypeId × Value → H) :
    ReturnsInHanded {} Tryz.checked os 7 .any (fun w args => (Rows.fnExactSlackOfSpec.pre enc Tryz.prog Tryz.f7 Rows.fnExactSlackOfRow.domain false w args ∧ laidMetH Tryz.prog Rows.fnExactSlackOfRow.laid w) ∧ sizedMet enc Tryz.prog Tryz.f7 (OpenSpec.ofChange Rows.fnExactSlackOfSpec) false w args) (Rows.fnExactSlackOfSpec.post enc Tryz.prog Tryz.f7 false true false false) := by
  refine lifted_ofL (C := Tryz.checked) (tb := 4) Tryz.own started (by kernel_rfl) Tryz.func7 (ChangeSpec.witness_shaped (enc := enc) (C := Tryz.checked) (os := os) (X := fun w _ => laidMetH Tryz.prog Rows.fnExactSlackOfRow.laid w) false (World.laidAll Tryz.prog os Rows.fnExactSlackOfRow.laid) #[.agg #[.slice none 0 0, .slice none 0 0, .slice none 0 0, .slice none 0 0, .slice none 0 0], .agg #[.slice none 0 0, .slice none 0 0, .slice none 0 0], .agg #[.slice none 0 0, .slice none 0 0], .int .i64 0, .int .i64 0] 8 (World.laidAll_os _ _ _) (World.shaped_of_ZipB (by kernel_rfl) (by kernel_rfl)) (by kernel_rfl) (by kernel_rfl) (by kernel_rfl) (by rw [MakeChecks.laidMetH_plain _ _ _ (by kernel_rfl)]; exact laidMet_laidAll _ (by kernel_rfl) (by kernel_rfl))) Tryz.laidOut rfl
    (fun ds h => by rw [show Tryz.f7.params.toList.length = 5 by kernel_rfl] at h; match ds, h with | [_, _, _, _, _], _ => rfl) (by kernel_rfl) Tryz.underlying4 (by rw [show Tryz.f7.params.toList = [32, 66, 56, 2, 2] by kernel_rfl]; simp only [List.forall_mem_cons, List.not_mem_nil, false_imp_iff, implies_true, and_true]; exact ⟨⟨by kernel_rfl, of_decide_eq_true (by kernel_rfl)⟩, ⟨by kernel_rfl, of_decide_eq_true (by kernel_rfl)⟩, ⟨by kernel_rfl, of_decide_eq_true (by kernel_rfl)⟩, ⟨by kernel_rfl, of_decide_eq_true (by kernel_rfl)⟩, ⟨by kernel_rfl, of_decide_eq_true (by kernel_rfl)⟩⟩) ?_
  intro W base args ds p hval0 hA0
  have hval : ∀ (j : Nat) t v, Tryz.f7.params[j]? = some t → args[j]? = some v → Value.okWide Tryz.prog W .any base t v := hval0
  have hA : DataW.TrodAll enc Tryz.prog W 0 (fun _ => true) true Tryz.f7.params.toList args.toList ds p := hA0
  clear hval0 hA0
  rw [Tryz.params7] at hA hval
  obtain ⟨v0, vs0, d0, ds0, p0, q0, ha0, rfl, h0, hA1⟩ := trodA_cons hA
  obtain ⟨v1, vs1, d1, ds1, p1, q1, rfl, rfl, h1, hA2⟩ := trodA_cons hA1
  obtain ⟨v2, vs2, d2, ds2, p2, q2, rfl, rfl, h2, hA3⟩ := trodA_cons hA2
  obtain ⟨v3, vs3, d3, ds3, p3, q3, rfl, rfl, h3, hA4⟩ := trodA_cons hA3
  obtain ⟨v4, vs4, d4, ds4, p4, q4, rfl, rfl, h4, hA5⟩ := trodA_cons hA4
  obtain ⟨rfl, rfl⟩ := trodA_nil hA5
  obtain rfl := args_to ha0
  obtain ⟨fu0, h0⟩ := h0
  obtain ⟨y0, hr0, hR0⟩ := Rd_32 _ _ _ _ _ _ _ _ _ h0
  obtain ⟨cs0, rfl, _⟩ := okWide_struct Tryz.underlying32 (hval 0 32 v0 rfl rfl)
  obtain ⟨u0_0, u0_1, u0_2, u0_3, u0_4, hv0, hs0_0, hs0_1, hs0_2, hs0_3, hs0_4⟩ := C_Block_open hr0
  have hv0 : cs0.toList = _ := hv0
  obtain rfl := cells_to hv0
  obtain ⟨fu1, h1⟩ := h1
  obtain ⟨y1, hr1, hR1⟩ := Rd_66 _ _ _ _ _ _ _ _ _ h1
  obtain ⟨cs1, rfl, _⟩ := okWide_struct Tryz.underlying66 (hval 1 66 v1 rfl rfl)
  obtain ⟨u1_0, u1_1, u1_2, hv1, hs1_0, hs1_1, hs1_2⟩ := C_Timing_open hr1
  have hv1 : cs1.toList = _ := hv1
  obtain rfl := cells_to hv1
  obtain ⟨fu2, h2⟩ := h2
  obtain ⟨y2, hr2, hR2⟩ := Rd_56 _ _ _ _ _ _ _ _ _ h2
  obtain ⟨cs2, rfl, _⟩ := okWide_struct Tryz.underlying56 (hval 2 56 v2 rfl rfl)
  obtain ⟨u2_0, u2_1, hv2, hs2_0, hs2_1⟩ := C_Needs_open hr2
  have hv2 : cs2.toList = _ := hv2
  obtain rfl := cells_to hv2
  obtain ⟨fu3, h3⟩ := h3
  obtain ⟨y3, hr3, hR3⟩ := Rd_2 _ _ _ _ _ _ _ _ _ h3
  obtain ⟨m3, rfl⟩ := okWide_int Tryz.underlying2 (hval 3 2 v3 rfl rfl)
  have hr3 : [Value.int .i64 m3] = [Value.int .i64 y3] := hr3
  simp only [List.cons.injEq, Value.int.injEq, true_and, and_true] at hr3; subst hr3
  obtain ⟨fu4, h4⟩ := h4
  obtain ⟨y4, hr4, hR4⟩ := Rd_2 _ _ _ _ _ _ _ _ _ h4
  obtain ⟨m4, rfl⟩ := okWide_int Tryz.underlying2 (hval 4 2 v4 rfl rfl)
  have hr4 : [Value.int .i64 m4] = [Value.int .i64 y4] := hr4
  simp only [List.cons.injEq, Value.int.injEq, true_and, and_true] at hr4; subst hr4
  obtain ⟨n, hF⟩ := PFnExactSlackOf hR0 hR1 hR2 hR3 hR4
  exact W_laws_FnExactSlackOf hF (Nat.le_refl _) hs0_0 hs0_1 hs0_2 hs0_3 hs0_4 hs1_0 hs1_1 hs1_2 hs2_0 hs2_1
theorem fnExactSlackOf_inst : Tryz.f7.isInstance Tryz.prog Rows.fnExactSlackOfRow.origin Rows.fnExactSlackOfRow.targs := of_decide_eq_true (by kernel_rfl)
theorem fnExactSlackOf_wrap : Tryz.f7.isWrapper Tryz.prog Rows.fnExactSlackOfRow.wrapper Rows.fnExactSlackOfRow.mainSum := by unfold Func.isWrapper; first | (rw [if_pos (by decide +kernel)]; kernel_rfl) | (rw [if_neg (by decide +kernel)]; exact ⟨rfl, rfl⟩)
theorem fnExactSlackOf_holds : Rows.FnExactSlackOfSaid :=
  OpenClaim.holds_of_wide 7 Tryz.f7 rfl rfl rfl rfl rfl rfl rfl ⟨rfl, rfl, rfl, rfl, rfl⟩ rfl rfl rfl rfl rfl fnExactSlackOf_fn Tryz.func7 fnExactSlackOf_joined
    fnExactSlackOf_inst fnExactSlackOf_wrap
    (fun os started H enc _ => fnExactSlackOf_lifted os started H enc)
theorem fnExactSlackOf_text : Rows.fnExactSlackOfRow.wfByText (OpenSpec.ofChange Rows.fnExactSlackOfSpec) = true := by kernel_rfl
theorem fnExactSlackOf_main : Tryz.prog.mainIs = some (Rows.fnExactSlackOfCard.stood.harness.1, Rows.fnExactSlackOfCard.stood.harness.2.toList) := by kernel_rfl
theorem fnExactSlackOf_looks : false = Tryz.prog.looks [] := by kernel_rfl
theorem fnExactSlackOf_stand : ([32, 66, 56, 2, 2].all fun u => !Tryz.prog.wantsStandIn u) = true := by kernel_rfl
theorem fnExactSlackOf_goes : false = Rows.fnExactSlackOfRow.goesBy Tryz.prog := by kernel_rfl
theorem fnExactSlackOf_card : Rows.FnExactSlackOfCardSaid :=
  Claim7.holds_tied_plain_at .later [] Rows.fnExactSlackOfCard.laidKinds true Rows.fnExactSlackOfCard.stood.harness false fnExactSlackOf_holds (fun _ h => by cases h) fnExactSlackOf_text (fun _ h => by cases h) fnExactSlackOf_row_tie rfl ⟨rfl, rfl⟩ fnExactSlackOf_main rfl
    (fun f fn hf hfn => by
      obtain rfl : f = 7 := Option.some.inj (fnExactSlackOf_fn.symm.trans hf) |>.symm
      obtain rfl : fn = Tryz.f7 := (Option.some.inj (Tryz.func7.symm.trans hfn)).symm
      exact ⟨fnExactSlackOf_looks, fun j t ht => by
        rw [Tryz.params7] at ht
        have hm : t ∈ [32, 66, 56, 2, 2] := by simpa using Array.mem_of_getElem? ht
        exact (show Tryz.prog.wantsStandIn t = false by simpa using List.all_eq_true.1 fnExactSlackOf_stand t hm)⟩)
    fnExactSlackOf_goes
end Go.Proofs.YtjijjanefcaakaaGreatDoor
