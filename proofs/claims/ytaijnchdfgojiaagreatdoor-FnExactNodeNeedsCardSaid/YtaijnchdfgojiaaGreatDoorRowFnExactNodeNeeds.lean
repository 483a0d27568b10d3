/- PROVED: FnExactNodeNeeds returns true for every input, and its arguments read behind the call as before; no condition. -/
import Derived.Test.YtaijnchdfgojiaaGreatDoorRows
import Derived.Test.YtaijnchdfgojiaaGreatDoorLawFnExactNodeNeeds
import Derived.ProofKit
import Derived.Test.YtaijnchdfgojiaaGreatDoorCards
import Derived.Test.YtaijnchdfgojiaaGreatDoorTie
import Derived.Lay
import Derived.SevenTiedAt
import Derived.Stop.Joined
import Derived.Test.YtaijnchdfgojiaaGreatDoorJoinAFnExactNodeNeeds
import Derived.Test.YtaijnchdfgojiaaGreatDoorJoinBFnExactNodeNeeds
set_option linter.all false
namespace Go.Proofs.YtaijnchdfgojiaaGreatDoor
open Go.ChangeShapes Go.WideShapes Go.ChangeAt Go.RowKit Go.Eng
theorem Tryz.own : ownKnob Tryz.prog.godebug = none := by kernel_rfl
theorem Tryz.laidOut : laidOutB Tryz.prog = true := by kernel_rfl
theorem and_tt {a b : Bool} (ha : a = true) (hb : b = true) : (a && b) = true := by rw [ha, hb]; rfl
set_option maxRecDepth 100000 in
theorem fnExactNodeNeeds_joined : joinedFacts Tryz.prog 3 Tryz.f3 Rows.fnExactNodeNeedsSpec Rows.fnExactNodeNeedsRow = true := by
  unfold joinedFacts
  exact (and_tt (and_tt (and_tt (and_tt (and_tt (and_tt (and_tt (and_tt (and_tt (and_tt (and_tt (and_tt (and_tt (and_tt (and_tt (and_tt (and_tt (and_tt (and_tt (and_tt (and_tt (and_tt (and_tt (and_tt (and_tt (and_tt (and_tt (and_tt (and_tt (and_tt (and_tt fnExactNodeNeeds_j0 fnExactNodeNeeds_j1) fnExactNodeNeeds_j2) fnExactNodeNeeds_j3) fnExactNodeNeeds_j4) fnExactNodeNeeds_j5) fnExactNodeNeeds_j6) fnExactNodeNeeds_j7) fnExactNodeNeeds_j8) fnExactNodeNeeds_j9) fnExactNodeNeeds_j10) fnExactNodeNeeds_j11) fnExactNodeNeeds_j12) fnExactNodeNeeds_j13) fnExactNodeNeeds_j14) fnExactNodeNeeds_j15) fnExactNodeNeeds_j16) fnExactNodeNeeds_j17) fnExactNodeNeeds_j18) fnExactNodeNeeds_j19) fnExactNodeNeeds_j20) fnExactNodeNeeds_j21) fnExactNodeNeeds_j22) fnExactNodeNeeds_j23) fnExactNodeNeeds_j24) fnExactNodeNeeds_j25) fnExactNodeNeeds_j26) fnExactNodeNeeds_j27) fnExactNodeNeeds_j28) fnExactNodeNeeds_j29) fnExactNodeNeeds_j30) fnExactNodeNeeds_j31)
set_option maxRecDepth 100000 in
theorem fnExactNodeNeeds_lifted (os : Os) (started : os.Started) (H : Type) (enc : TypeId × Value → H) :
    ReturnsInHanded {} Tryz.checked os 3 .any (fun w args => (Rows.fnExactNodeNeedsSpec.pre enc Tryz.prog Tryz.f3 Rows.fnExactNodeNeedsRow.domain false w args ∧ laidMetH Tryz.prog Rows.fnExactNodeNeedsRow.laid w) ∧ sizedMet enc Tryz.prog Tryz.f3 (OpenSpec.ofChange Rows.fnExactNodeNeedsSpec) false w args) (Rows.fnExactNodeNeedsSpec.post enc Tryz.prog Tryz.f3 false true false false) := by
  refine mR (C := Tryz.checked) (tb := 4) Tryz.own started (by kernel_rfl) Tryz.func3 (ChangeSpec.witness_shaped (enc := enc) (C := Tryz.checked) (os := os) (X := fun w _ => laidMetH Tryz.prog Rows.fnExactNodeNeedsRow.laid w) false (World.laidAll Tryz.prog os Rows.fnExactNodeNeedsRow.laid) #[.agg #[.slice none 0 0, .slice none 0 0, .slice none 0 0, .slice none 0 0, .slice none 0 0], .agg #[.string ⟨#[]⟩, .int .i64 0, .int .i64 0, .int .i64 0, .int .i64 0], .slice none 0 0, .agg #[.slice none 0 0, .slice none 0 0, .slice none 0 0], .slice none 0 0, .agg #[.slice none 0 0, .slice none 0 0], .int .i64 0] 8 (World.laidAll_os _ _ _) (World.shaped_of_ZipB (by kernel_rfl) (by kernel_rfl)) (by kernel_rfl) (by kernel_rfl) (by kernel_rfl) (by rw [MakeChecks.laidMetH_plain _ _ _ (by kernel_rfl)]; exact laidMet_laidAll _ (by kernel_rfl) (by kernel_rfl))) Tryz.laidOut rfl
    (fun ds h => by rw [show Tryz.f3.params.toList.length = 7 by kernel_rfl] at h; match ds, h with | [_, _, _, _, _, _, _], _ => rfl) (by kernel_rfl) Tryz.underlying4 (by rw [show Tryz.f3.params.toList = [32, 34, 35, 39, 40, 42, 2] by kernel_rfl]; simp only [List.forall_mem_cons, List.not_mem_nil, false_imp_iff, implies_true, and_true]; exact ⟨⟨by kernel_rfl, of_decide_eq_true (by kernel_rfl)⟩, ⟨by kernel_rfl, of_decide_eq_true (by kernel_rfl)⟩, ⟨by kernel_rfl, of_decide_eq_true (by kernel_rfl)⟩, ⟨by kernel_rfl, of_decide_eq_true (by kernel_rfl)⟩, ⟨by kernel_rfl, of_decide_eq_true (by kernel_rfl)⟩, ⟨by kernel_rfl, of_decide_eq_true (by kernel_rfl)⟩, ⟨by kernel_rfl, of_decide_eq_true (by kernel_rfl)⟩⟩) ?_
  intro W base args ds p hval0 hA0 hZ0
  have hval : ∀ (j : Nat) t v, Tryz.f3.params[j]? = some t → args[j]? = some v → Value.okWide Tryz.prog W .any base t v := hval0
  have hA0 : DataW.TrodAll enc Tryz.prog W 0 (fun _ => true) true Tryz.f3.params.toList args.toList ds p := hA0
  clear hval0
  rw [Tryz.params3] at hA0 hval
  obtain ⟨v0, vs0, d0, ds0, p0, q0, ha0, rfl, h0, z0, hA1, hZ1⟩ := pA hA0 hZ0
  obtain ⟨v1, vs1, d1, ds1, p1, q1, rfl, rfl, h1, z1, hA2, hZ2⟩ := pA hA1 hZ1
  obtain ⟨v2, vs2, d2, ds2, p2, q2, rfl, rfl, h2, z2, hA3, hZ3⟩ := pA hA2 hZ2
  obtain ⟨v3, vs3, d3, ds3, p3, q3, rfl, rfl, h3, z3, hA4, hZ4⟩ := pA hA3 hZ3
  obtain ⟨v4, vs4, d4, ds4, p4, q4, rfl, rfl, h4, z4, hA5, hZ5⟩ := pA hA4 hZ4
  obtain ⟨v5, vs5, d5, ds5, p5, q5, rfl, rfl, h5, z5, hA6, hZ6⟩ := pA hA5 hZ5
  obtain ⟨v6, vs6, d6, ds6, p6, q6, rfl, rfl, h6, z6, hA7, hZ7⟩ := pA hA6 hZ6
  obtain ⟨rfl, rfl⟩ := sM hA7
  obtain rfl := zC ha0
  obtain ⟨fu0, h0⟩ := h0
  obtain ⟨y0, hr0, hR0⟩ := AgY _ _ _ _ _ _ _ _ _ h0 z0
  obtain ⟨cs0, rfl, _⟩ := okWide_struct Tryz.underlying32 (hval 0 32 v0 rfl rfl)
  obtain ⟨u0_0, u0_1, u0_2, u0_3, u0_4, hv0, hs0_0, hs0_1, hs0_2, hs0_3, hs0_4⟩ := gF hr0
  have hv0 : cs0.toList = _ := hv0
  obtain rfl := uZ hv0
  obtain ⟨fu1, h1⟩ := h1
  obtain ⟨y1, hr1, hR1⟩ := AgZ _ _ _ _ _ _ _ _ _ h1 z1
  obtain ⟨cs1, rfl, _⟩ := okWide_struct Tryz.underlying34 (hval 1 34 v1 rfl rfl)
  have hv1 := eG hr1
  have hv1 : cs1.toList = _ := hv1
  obtain rfl := uZ hv1
  obtain ⟨fu2, h2⟩ := h2
  obtain ⟨y2, hr2, hR2⟩ := MV _ _ _ _ _ _ _ _ _ h2 z2
  obtain ⟨a2, l2, c2, rfl⟩ := okWide_slice Tryz.underlying35 (hval 2 35 v2 rfl rfl)
  obtain ⟨u2, hv2, hs2⟩ := hr2
  obtain rfl : Value.slice a2 l2 c2 = u2 := by simpa [Value.cells] using hv2
  obtain ⟨fu3, h3⟩ := h3
  obtain ⟨y3, hr3, hR3⟩ := AhA _ _ _ _ _ _ _ _ _ h3 z3
  obtain ⟨cs3, rfl, _⟩ := okWide_struct Tryz.underlying39 (hval 3 39 v3 rfl rfl)
  obtain ⟨u3_0, u3_1, u3_2, hv3, hs3_0, hs3_1, hs3_2⟩ := eC hr3
  have hv3 : cs3.toList = _ := hv3
  obtain rfl := uZ hv3
  obtain ⟨fu4, h4⟩ := h4
  obtain ⟨y4, hr4, hR4⟩ := AgW _ _ _ _ _ _ _ _ _ h4 z4
  obtain ⟨a4, l4, c4, rfl⟩ := okWide_slice Tryz.underlying40 (hval 4 40 v4 rfl rfl)
  obtain ⟨u4, hv4, hs4⟩ := hr4
  obtain rfl : Value.slice a4 l4 c4 = u4 := by simpa [Value.cells] using hv4
  obtain ⟨fu5, h5⟩ := h5
  obtain ⟨y5, hr5, hR5⟩ := AgX _ _ _ _ _ _ _ _ _ h5 z5
  obtain ⟨cs5, rfl, _⟩ := okWide_struct Tryz.underlying42 (hval 5 42 v5 rfl rfl)
  obtain ⟨u5_0, u5_1, hv5, hs5_0, hs5_1⟩ := gE hr5
  have hv5 : cs5.toList = _ := hv5
  obtain rfl := uZ hv5
  obtain ⟨fu6, h6⟩ := h6
  obtain ⟨y6, hr6, hR6⟩ := Ho _ _ _ _ _ _ _ _ _ h6 z6
  obtain ⟨m6, rfl⟩ := okWide_int Tryz.underlying2 (hval 6 2 v6 rfl rfl)
  have hr6 : [Value.int .i64 m6] = [Value.int .i64 y6] := hr6
  simp only [List.cons.injEq, Value.int.injEq, true_and, and_true] at hr6; subst hr6
  obtain ⟨n, hF⟩ := Uj hR0 hR1 hR2 hR3 hR4 hR5 hR6
  exact AhB hF (Nat.le_refl _) hs0_0 hs0_1 hs0_2 hs0_3 hs0_4 hs2 hs3_0 hs3_1 hs3_2 hs4 hs5_0 hs5_1
theorem fnExactNodeNeeds_inst : Tryz.f3.isInstance Tryz.prog Rows.fnExactNodeNeedsRow.origin Rows.fnExactNodeNeedsRow.targs := of_decide_eq_true (by kernel_rfl)
theorem fnExactNodeNeeds_wrap : Tryz.f3.isWrapper Tryz.prog Rows.fnExactNodeNeedsRow.wrapper Rows.fnExactNodeNeedsRow.mainSum := by unfold Func.isWrapper; first | (rw [if_pos (by decide +kernel)]; kernel_rfl) | (rw [if_neg (by decide +kernel)]; exact ⟨rfl, rfl⟩)
theorem fnExactNodeNeeds_holds : Rows.FnExactNodeNeedsSaid :=
  OpenClaim.holds_of_wide 3 Tryz.f3 rfl rfl rfl rfl rfl rfl rfl ⟨rfl, rfl, rfl, rfl, rfl⟩ rfl rfl rfl rfl rfl fnExactNodeNeeds_fn Tryz.func3 fnExactNodeNeeds_joined
    fnExactNodeNeeds_inst fnExactNodeNeeds_wrap
    (fun os started H enc _ => fnExactNodeNeeds_lifted os started H enc)
theorem fnExactNodeNeeds_text : Rows.fnExactNodeNeedsRow.wfByText (OpenSpec.ofChange Rows.fnExactNodeNeedsSpec) = true := by kernel_rfl
theorem fnExactNodeNeeds_main : Tryz.prog.mainIs = some (Rows.fnExactNodeNeedsCard.stood.harness.1, Rows.fnExactNodeNeedsCard.stood.harness.2.toList) := by kernel_rfl
theorem fnExactNodeNeeds_looks : false = Tryz.prog.looks [] := by kernel_rfl
theorem fnExactNodeNeeds_stand : ([32, 34, 35, 39, 40, 42, 2].all fun u => !Tryz.prog.wantsStandIn u) = true := by kernel_rfl
theorem fnExactNodeNeeds_goes : false = Rows.fnExactNodeNeedsRow.goesBy Tryz.prog := by kernel_rfl
theorem fnExactNodeNeeds_card : Rows.FnExactNodeNeedsCardSaid :=
  Claim7.holds_tied_plain_at .later [] Rows.fnExactNodeNeedsCard.laidKinds true Rows.fnExactNodeNeedsCard.stood.harness false fnExactNodeNeeds_holds (fun _ h => by cases h) fnExactNodeNeeds_text (fun _ h => by cases h) fnExactNodeNeeds_row_tie rfl ⟨rfl, rfl⟩ fnExactNodeNeeds_main rfl
    (fun f fn hf hfn => by
      obtain rfl : f = 3 := Option.some.inj (fnExactNodeNeeds_fn.symm.trans hf) |>.symm
      obtain rfl : fn = Tryz.f3 := (Option.some.inj (Tryz.func3.symm.trans hfn)).symm
      exact ⟨fnExactNodeNeeds_looks, fun j t ht => by
        rw [Tryz.params3] at ht
        have hm : t ∈ [32, 34, 35, 39, 40, 42, 2] := by simpa using Array.mem_of_getElem? ht
        exact (show Tryz.prog.wantsStandIn t = false by simpa using List.all_eq_true.1 fnExactNodeNeeds_stand t hm)⟩)
    fnExactNodeNeeds_goes
end Go.Proofs.YtaijnchdfgojiaaGreatDoor
