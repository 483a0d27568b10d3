/- PROVED: FnExactPropagateRequired returns true for every input, and its arguments read behind the call as before; no condition. -/
import Derived.Test.YtaijnchdfgojiabGreatDoorRows
import Derived.Test.YtaijnchdfgojiabGreatDoorLawFnExactPropagateRequired
import Derived.ProofKit
import Derived.Test.YtaijnchdfgojiabGreatDoorCards
import Derived.Test.YtaijnchdfgojiabGreatDoorTie
import Derived.Lay
import Derived.SevenTiedAt
import Derived.Stop.Joined
import Derived.Test.YtaijnchdfgojiabGreatDoorJoinAFnExactPropagateRequired
import Derived.Test.YtaijnchdfgojiabGreatDoorJoinBFnExactPropagateRequired
set_option linter.all false
namespace Go.Proofs.YtaijnchdfgojiabGreatDoor
open Go.ChangeShapes Go.WideShapes Go.ChangeAt Go.RowKit Go.Eng
theorem Tryz.own : ownKnob Tryz.prog.godebug = none := by kernel_rfl
theorem Tryz.laidOut : laidOutB Tryz.prog = true := by kernel_rfl
theorem and_tt {a b : Bool} (ha : a = true) (hb : b = true) : (a && b) = true := by rw [ha, hb]; rfl
set_option maxRecDepth 100000 in
theorem fnExactPropagateRequired_joined : joinedFacts Tryz.prog 3 Tryz.f3 Rows.fnExactPropagateRequiredSpec Rows.fnExactPropagateRequiredRow = true := by
  unfold joinedFacts
  exact (and_tt (and_tt (and_tt (and_tt (and_tt (and_tt (and_tt (and_tt (and_tt (and_tt (and_tt (and_tt (and_tt (and_tt (and_tt (and_tt (and_tt (and_tt (and_tt (and_tt (and_tt (and_tt (and_tt (and_tt (and_tt (and_tt (and_tt (and_tt (and_tt (and_tt (and_tt fnExactPropagateRequired_j0 fnExactPropagateRequired_j1) fnExactPropagateRequired_j2) fnExactPropagateRequired_j3) fnExactPropagateRequired_j4) fnExactPropagateRequired_j5) fnExactPropagateRequired_j6) fnExactPropagateRequired_j7) fnExactPropagateRequired_j8) fnExactPropagateRequired_j9) fnExactPropagateRequired_j10) fnExactPropagateRequired_j11) fnExactPropagateRequired_j12) fnExactPropagateRequired_j13) fnExactPropagateRequired_j14) fnExactPropagateRequired_j15) fnExactPropagateRequired_j16) fnExactPropagateRequired_j17) fnExactPropagateRequired_j18) fnExactPropagateRequired_j19) fnExactPropagateRequired_j20) fnExactPropagateRequired_j21) fnExactPropagateRequired_j22) fnExactPropagateRequired_j23) fnExactPropagateRequired_j24) fnExactPropagateRequired_j25) fnExactPropagateRequired_j26) fnExactPropagateRequired_j27) fnExactPropagateRequired_j28) fnExactPropagateRequired_j29) fnExactPropagateRequired_j30) fnExactPropagateRequired_j31)
set_option maxRecDepth 100000 in
theorem fnExactPropagateRequired_lifted (os : Os) (started : os.Started) (H : Type) (enc : TypeId × Value → H) :
    ReturnsInHanded {} Tryz.checked os 3 .any (fun w args => (Rows.fnExactPropagateRequiredSpec.pre enc Tryz.prog Tryz.f3 Rows.fnExactPropagateRequiredRow.domain false w args ∧ laidMetH Tryz.prog Rows.fnExactPropagateRequiredRow.laid w) ∧ sizedMet enc Tryz.prog Tryz.f3 (OpenSpec.ofChange Rows.fnExactPropagateRequiredSpec) false w args) (Rows.fnExactPropagateRequiredSpec.post enc Tryz.prog Tryz.f3 false true false false) := by
  refine qE (C := Tryz.checked) (tb := 4) Tryz.own started (by kernel_rfl) Tryz.func3 (ChangeSpec.witness_shaped (enc := enc) (C := Tryz.checked) (os := os) (X := fun w _ => laidMetH Tryz.prog Rows.fnExactPropagateRequiredRow.laid w) false (World.laidAll Tryz.prog os Rows.fnExactPropagateRequiredRow.laid) #[.agg #[.slice none 0 0, .slice none 0 0, .slice none 0 0, .slice none 0 0, .slice none 0 0], .agg #[.string ⟨#[]⟩, .int .i64 0, .int .i64 0, .int .i64 0, .int .i64 0], .slice none 0 0, .agg #[.slice none 0 0, .slice none 0 0, .slice none 0 0], .slice none 0 0] 8 (World.laidAll_os _ _ _) (World.shaped_of_ZipB (by kernel_rfl) (by kernel_rfl)) (by kernel_rfl) (by kernel_rfl) (by kernel_rfl) (by rw [MakeChecks.laidMetH_plain _ _ _ (by kernel_rfl)]; exact laidMet_laidAll _ (by kernel_rfl) (by kernel_rfl))) Tryz.laidOut rfl
    (fun ds h => by rw [show Tryz.f3.params.toList.length = 5 by kernel_rfl] at h; match ds, h with | [_, _, _, _, _], _ => rfl) (by kernel_rfl) Tryz.underlying4 (by rw [show Tryz.f3.params.toList = [32, 34, 35, 39, 40] by kernel_rfl]; simp only [List.forall_mem_cons, List.not_mem_nil, false_imp_iff, implies_true, and_true]; exact ⟨⟨by kernel_rfl, of_decide_eq_true (by kernel_rfl)⟩, ⟨by kernel_rfl, of_decide_eq_true (by kernel_rfl)⟩, ⟨by kernel_rfl, of_decide_eq_true (by kernel_rfl)⟩, ⟨by kernel_rfl, of_decide_eq_true (by kernel_rfl)⟩, ⟨by kernel_rfl, of_decide_eq_true (by kernel_rfl)⟩⟩) ?_
  intro W base args ds p hval0 hA0 hZ0
  have hval : ∀ (j : Nat) t v, Tryz.f3.params[j]? = some t → args[j]? = some v → Value.okWide Tryz.prog W .any base t v := hval0
  have hA0 : DataW.TrodAll enc Tryz.prog W 0 (fun _ => true) true Tryz.f3.params.toList args.toList ds p := hA0
  clear hval0
  rw [Tryz.params3] at hA0 hval
  obtain ⟨v0, vs0, d0, ds0, p0, q0, ha0, rfl, h0, z0, hA1, hZ1⟩ := rO hA0 hZ0
  obtain ⟨v1, vs1, d1, ds1, p1, q1, rfl, rfl, h1, z1, hA2, hZ2⟩ := rO hA1 hZ1
  obtain ⟨v2, vs2, d2, ds2, p2, q2, rfl, rfl, h2, z2, hA3, hZ3⟩ := rO hA2 hZ2
  obtain ⟨v3, vs3, d3, ds3, p3, q3, rfl, rfl, h3, z3, hA4, hZ4⟩ := rO hA3 hZ3
  obtain ⟨v4, vs4, d4, ds4, p4, q4, rfl, rfl, h4, z4, hA5, hZ5⟩ := rO hA4 hZ4
  obtain ⟨rfl, rfl⟩ := xD hA5
  obtain rfl := AdK ha0
  obtain ⟨fu0, h0⟩ := h0
  obtain ⟨y0, hr0, hR0⟩ := AlW _ _ _ _ _ _ _ _ _ h0 z0
  obtain ⟨cs0, rfl, _⟩ := okWide_struct Tryz.underlying32 (hval 0 32 v0 rfl rfl)
  obtain ⟨u0_0, u0_1, u0_2, u0_3, u0_4, hv0, hs0_0, hs0_1, hs0_2, hs0_3, hs0_4⟩ := mK hr0
  have hv0 : cs0.toList = _ := hv0
  obtain rfl := AbL hv0
  obtain ⟨fu1, h1⟩ := h1
  obtain ⟨y1, hr1, hR1⟩ := AlV _ _ _ _ _ _ _ _ _ h1 z1
  obtain ⟨cs1, rfl, _⟩ := okWide_struct Tryz.underlying34 (hval 1 34 v1 rfl rfl)
  have hv1 := iL hr1
  have hv1 : cs1.toList = _ := hv1
  obtain rfl := AbL hv1
  obtain ⟨fu2, h2⟩ := h2
  obtain ⟨y2, hr2, hR2⟩ := Na _ _ _ _ _ _ _ _ _ h2 z2
  obtain ⟨a2, l2, c2, rfl⟩ := okWide_slice Tryz.underlying35 (hval 2 35 v2 rfl rfl)
  obtain ⟨u2, hv2, hs2⟩ := hr2
  obtain rfl : Value.slice a2 l2 c2 = u2 := by simpa [Value.cells] using hv2
  obtain ⟨fu3, h3⟩ := h3
  obtain ⟨y3, hr3, hR3⟩ := AlZ _ _ _ _ _ _ _ _ _ h3 z3
  obtain ⟨cs3, rfl, _⟩ := okWide_struct Tryz.underlying39 (hval 3 39 v3 rfl rfl)
  obtain ⟨u3_0, u3_1, u3_2, hv3, hs3_0, hs3_1, hs3_2⟩ := iO hr3
  have hv3 : cs3.toList = _ := hv3
  obtain rfl := AbL hv3
  obtain ⟨fu4, h4⟩ := h4
  obtain ⟨y4, hr4, hR4⟩ := AlY _ _ _ _ _ _ _ _ _ h4 z4
  obtain ⟨a4, l4, c4, rfl⟩ := okWide_slice Tryz.underlying40 (hval 4 40 v4 rfl rfl)
  obtain ⟨u4, hv4, hs4⟩ := hr4
  obtain rfl : Value.slice a4 l4 c4 = u4 := by simpa [Value.cells] using hv4
  obtain ⟨n, hF⟩ := Pt hR0 hR1 hR2 hR3 hR4
  exact AmA hF (Nat.le_refl _) hs0_0 hs0_1 hs0_2 hs0_3 hs0_4 hs2 hs3_0 hs3_1 hs3_2 hs4
theorem fnExactPropagateRequired_inst : Tryz.f3.isInstance Tryz.prog Rows.fnExactPropagateRequiredRow.origin Rows.fnExactPropagateRequiredRow.targs := of_decide_eq_true (by kernel_rfl)
theorem fnExactPropagateRequired_wrap : Tryz.f3.isWrapper Tryz.prog Rows.fnExactPropagateRequiredRow.wrapper Rows.fnExactPropagateRequiredRow.mainSum := by unfold Func.isWrapper; first | (rw [if_pos (by decide +kernel)]; kernel_rfl) | (rw [if_neg (by decide +kernel)]; exact ⟨rfl, rfl⟩)
theorem fnExactPropagateRequired_holds : Rows.FnExactPropagateRequiredSaid :=
  OpenClaim.holds_of_wide 3 Tryz.f3 rfl rfl rfl rfl rfl rfl rfl ⟨rfl, rfl, rfl, rfl, rfl⟩ rfl rfl rfl rfl rfl fnExactPropagateRequired_fn Tryz.func3 fnExactPropagateRequired_joined
    fnExactPropagateRequired_inst fnExactPropagateRequired_wrap
    (fun os started H enc _ => fnExactPropagateRequired_lifted os started H enc)
theorem fnExactPropagateRequired_text : Rows.fnExactPropagateRequiredRow.wfByText (OpenSpec.ofChange Rows.fnExactPropagateRequiredSpec) = true := by kernel_rfl
theorem fnExactPropagateRequired_main : Tryz.prog.mainIs = some (Rows.fnExactPropagateRequiredCard.stood.harness.1, Rows.fnExactPropagateRequiredCard.stood.harness.2.toList) := by kernel_rfl
theorem fnExactPropagateRequired_looks : false = Tryz.prog.looks [] := by kernel_rfl
theorem fnExactPropagateRequired_stand : ([32, 34, 35, 39, 40].all fun u => !Tryz.prog.wantsStandIn u) = true := by kernel_rfl
theorem fnExactPropagateRequired_goes : false = Rows.fnExactPropagateRequiredRow.goesBy Tryz.prog := by kernel_rfl
theorem fnExactPropagateRequired_card : Rows.FnExactPropagateRequiredCardSaid :=
  Claim7.holds_tied_plain_at .later [] Rows.fnExactPropagateRequiredCard.laidKinds true Rows.fnExactPropagateRequiredCard.stood.harness false fnExactPropagateRequired_holds (fun _ h => by cases h) fnExactPropagateRequired_text (fun _ h => by cases h) fnExactPropagateRequired_row_tie rfl ⟨rfl, rfl⟩ fnExactPropagateRequired_main rfl
    (fun f fn hf hfn => by
      obtain rfl : f = 3 := Option.some.inj (fnExactPropagateRequired_fn.symm.trans hf) |>.symm
      obtain rfl : fn = Tryz.f3 := (Option.some.inj (Tryz.func3.symm.trans hfn)).symm
      exact ⟨fnExactPropagateRequired_looks, fun j t ht => by
        rw [Tryz.params3] at ht
        have hm : t ∈ [32, 34, 35, 39, 40] := by simpa using Array.mem_of_getElem? ht
        exact (show Tryz.prog.wantsStandIn t = false by simpa using List.all_eq_true.1 fnExactPropagateRequired_stand t hm)⟩)
    fnExactPropagateRequired_goes
end Go.Proofs.YtaijnchdfgojiabGreatDoor
