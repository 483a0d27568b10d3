/- PROVED: FnExactCriticalNodes returns true for every input, and its arguments read behind the call as before; no condition. -/
import Derived.Test.YtiaobghojdehbaaGreatDoorRows
import Derived.Test.YtiaobghojdehbaaGreatDoorLawFnExactCriticalNodes
import Derived.ProofKit
import Derived.Test.YtiaobghojdehbaaGreatDoorCards
import Derived.Test.YtiaobghojdehbaaGreatDoorTie
import Derived.Lay
import Derived.SevenTiedAt
import Derived.Stop.Joined
import Derived.Test.YtiaobghojdehbaaGreatDoorJoinAFnExactCriticalNodes
import Derived.Test.YtiaobghojdehbaaGreatDoorJoinBFnExactCriticalNodes
set_option linter.all false
namespace Go.Proofs.YtiaobghojdehbaaGreatDoor
open Go.ChangeShapes Go.WideShapes Go.ChangeAt Go.RowKit Go.Eng
theorem Tryz.own : ownKnob Tryz.prog.godebug = none := by kernel_rfl
theorem Tryz.laidOut : laidOutB Tryz.prog = true := by kernel_rfl
theorem and_tt {a b : Bool} (ha : a = true) (hb : b = true) : (a && b) = true := by rw [ha, hb]; rfl
set_option maxRecDepth 100000 in
theorem fnExactCriticalNodes_joined : joinedFacts Tryz.prog 6 Tryz.f6 Rows.fnExactCriticalNodesSpec Rows.fnExactCriticalNodesRow = true := by
  unfold joinedFacts
  exact (and_tt (and_tt (and_tt (and_tt (and_tt (and_tt (and_tt (and_tt (and_tt (and_tt (and_tt (and_tt (and_tt (and_tt (and_tt (and_tt (and_tt (and_tt (and_tt (and_tt (and_tt (and_tt (and_tt (and_tt (and_tt (and_tt (and_tt (and_tt (and_tt (and_tt (and_tt fnExactCriticalNodes_j0 fnExactCriticalNodes_j1) fnExactCriticalNodes_j2) fnExactCriticalNodes_j3) fnExactCriticalNodes_j4) fnExactCriticalNodes_j5) fnExactCriticalNodes_j6) fnExactCriticalNodes_j7) fnExactCriticalNodes_j8) fnExactCriticalNodes_j9) fnExactCriticalNodes_j10) fnExactCriticalNodes_j11) fnExactCriticalNodes_j12) fnExactCriticalNodes_j13) fnExactCriticalNodes_j14) fnExactCriticalNodes_j15) fnExactCriticalNodes_j16) fnExactCriticalNodes_j17) fnExactCriticalNodes_j18) fnExactCriticalNodes_j19) fnExactCriticalNodes_j20) fnExactCriticalNodes_j21) fnExactCriticalNodes_j22) fnExactCriticalNodes_j23) fnExactCriticalNodes_j24) fnExactCriticalNodes_j25) fnExactCriticalNodes_j26) fnExactCriticalNodes_j27) fnExactCriticalNodes_j28) fnExactCriticalNodes_j29) fnExactCriticalNodes_j30) fnExactCriticalNodes_j31)
set_option maxRecDepth 100000 in
theorem fnExactCriticalNodes_lifted (os : Os) (started : os.Started) (H : Type) (enc : TypeId × Value → H) :
    ReturnsInHanded {} Tryz.checked os 6 .any (fun w args => (Rows.fnExactCriticalNodesSpec.pre enc Tryz.prog Tryz.f6 Rows.fnExactCriticalNodesRow.domain false w args ∧ laidMetH Tryz.prog Rows.fnExactCriticalNodesRow.laid w) ∧ sizedMet enc Tryz.prog Tryz.f6 (OpenSpec.ofChange Rows.fnExactCriticalNodesSpec) false w args) (Rows.fnExactCriticalNodesSpec.post enc Tryz.prog Tryz.f6 false true false false) := by
  refine lifted_ofL (C := Tryz.checked) (tb := 4) Tryz.own started (by kernel_rfl) Tryz.func6 (ChangeSpec.witness_shaped (enc := enc) (C := Tryz.checked) (os := os) (X := fun w _ => laidMetH Tryz.prog Rows.fnExactCriticalNodesRow.laid w) false (World.laidAll Tryz.prog os Rows.fnExactCriticalNodesRow.laid) #[.agg #[.slice none 0 0, .slice none 0 0, .slice none 0 0, .slice none 0 0, .slice none 0 0], .agg #[.slice none 0 0, .slice none 0 0, .slice none 0 0], .agg #[.slice none 0 0, .slice none 0 0], .int .i64 0, .int .i64 0] 8 (World.laidAll_os _ _ _) (World.shaped_of_ZipB (by kernel_rfl) (by kernel_rfl)) (by kernel_rfl) (by kernel_rfl) (by kernel_rfl) (by rw [MakeChecks.laidMetH_plain _ _ _ (by kernel_rfl)]; exact laidMet_laidAll _ (by kernel_rfl) (by kernel_rfl))) Tryz.laidOut rfl
    (fun ds h => by rw [show Tryz.f6.params.toList.length = 5 by kernel_rfl] at h; match ds, h with | [_, _, _, _, _], _ => rfl) (by kernel_rfl) Tryz.underlying4 (by rw [show Tryz.f6.params.toList = [32, 63, 65, 2, 2] by kernel_rfl]; simp only [List.forall_mem_cons, List.not_mem_nil, false_imp_iff, implies_true, and_true]; exact ⟨⟨by kernel_rfl, of_decide_eq_true (by kernel_rfl)⟩, ⟨by kernel_rfl, of_decide_eq_true (by kernel_rfl)⟩, ⟨by kernel_rfl, of_decide_eq_true (by kernel_rfl)⟩, ⟨by kernel_rfl, of_decide_eq_true (by kernel_rfl)⟩, ⟨by kernel_rfl, of_decide_eq_true (by kernel_rfl)⟩⟩) ?_
  intro W base args ds p hval0 hA0 hZ0
  have hval : ∀ (j : Nat) t v, Tryz.f6.params[j]? = some t → args[j]? = some v → Value.okWide Tryz.prog W .any base t v := hval0
  have hA0 : DataW.TrodAll enc Tryz.prog W 0 (fun _ => true) true Tryz.f6.params.toList args.toList ds p := hA0
  clear hval0
  rw [Tryz.params6] at hA0 hval
  obtain ⟨v0, vs0, d0, ds0, p0, q0, ha0, rfl, h0, z0, hA1, hZ1⟩ := trodU_cons hA0 hZ0
  obtain ⟨v1, vs1, d1, ds1, p1, q1, rfl, rfl, h1, z1, hA2, hZ2⟩ := trodU_cons hA1 hZ1
  obtain ⟨v2, vs2, d2, ds2, p2, q2, rfl, rfl, h2, z2, hA3, hZ3⟩ := trodU_cons hA2 hZ2
  obtain ⟨v3, vs3, d3, ds3, p3, q3, rfl, rfl, h3, z3, hA4, hZ4⟩ := trodU_cons hA3 hZ3
  obtain ⟨v4, vs4, d4, ds4, p4, q4, rfl, rfl, h4, z4, hA5, hZ5⟩ := trodU_cons hA4 hZ4
  obtain ⟨rfl, rfl⟩ := trodA_nil hA5
  obtain rfl := args_to ha0
  obtain ⟨fu0, h0⟩ := h0
  obtain ⟨y0, hr0, hR0⟩ := Rd_32 _ _ _ _ _ _ _ _ _ h0 z0
  obtain ⟨cs0, rfl, _⟩ := okWide_struct Tryz.underlying32 (hval 0 32 v0 rfl rfl)
  obtain ⟨u0_0, u0_1, u0_2, u0_3, u0_4, hv0, hs0_0, hs0_1, hs0_2, hs0_3, hs0_4⟩ := C_Block_open hr0
  have hv0 : cs0.toList = _ := hv0
  obtain rfl := cells_to hv0
  obtain ⟨fu1, h1⟩ := h1
  obtain ⟨y1, hr1, hR1⟩ := Rd_63 _ _ _ _ _ _ _ _ _ h1 z1
  obtain ⟨cs1, rfl, _⟩ := okWide_struct Tryz.underlying63 (hval 1 63 v1 rfl rfl)
  obtain ⟨u1_0, u1_1, u1_2, hv1, hs1_0, hs1_1, hs1_2⟩ := C_Timing_open hr1
  have hv1 : cs1.toList = _ := hv1
  obtain rfl := cells_to hv1
  obtain ⟨fu2, h2⟩ := h2
  obtain ⟨y2, hr2, hR2⟩ := Rd_65 _ _ _ _ _ _ _ _ _ h2 z2
  obtain ⟨cs2, rfl, _⟩ := okWide_struct Tryz.underlying65 (hval 2 65 v2 rfl rfl)
  obtain ⟨u2_0, u2_1, hv2, hs2_0, hs2_1⟩ := C_Needs_open hr2
  have hv2 : cs2.toList = _ := hv2
  obtain rfl := cells_to hv2
  obtain ⟨fu3, h3⟩ := h3
  obtain ⟨y3, hr3, hR3⟩ := Rd_2 _ _ _ _ _ _ _ _ _ h3 z3
  obtain ⟨m3, rfl⟩ := okWide_int Tryz.underlying2 (hval 3 2 v3 rfl rfl)
  have hr3 : [Value.int .i64 m3] = [Value.int .i64 y3] := hr3
  simp only [List.cons.injEq, Value.int.injEq, true_and, and_true] at hr3; subst hr3
  obtain ⟨fu4, h4⟩ := h4
  obtain ⟨y4, hr4, hR4⟩ := Rd_2 _ _ _ _ _ _ _ _ _ h4 z4
  obtain ⟨m4, rfl⟩ := okWide_int Tryz.underlying2 (hval 4 2 v4 rfl rfl)
  have hr4 : [Value.int .i64 m4] = [Value.int .i64 y4] := hr4
  simp only [List.cons.injEq, Value.int.injEq, true_and, and_true] at hr4; subst hr4
  obtain ⟨n, hF⟩ := PFnExactCriticalNodes hR0 hR1 hR2 hR3 hR4
  exact W_4j hF (Nat.le_refl _) hs0_0 hs0_1 hs0_2 hs0_3 hs0_4 hs1_0 hs1_1 hs1_2 hs2_0 hs2_1
theorem fnExactCriticalNodes_inst : Tryz.f6.isInstance Tryz.prog Rows.fnExactCriticalNodesRow.origin Rows.fnExactCriticalNodesRow.targs := of_decide_eq_true (by kernel_rfl)
theorem fnExactCriticalNodes_wrap : Tryz.f6.isWrapper Tryz.prog Rows.fnExactCriticalNodesRow.wrapper Rows.fnExactCriticalNodesRow.mainSum := by unfold Func.isWrapper; first | (rw [if_pos (by decide +kernel)]; kernel_rfl) | (rw [if_neg (by decide +kernel)]; exact ⟨rfl, rfl⟩)
theorem fnExactCriticalNodes_holds : Rows.FnExactCriticalNodesSaid :=
  OpenClaim.holds_of_wide 6 Tryz.f6 rfl rfl rfl rfl rfl rfl rfl ⟨rfl, rfl, rfl, rfl, rfl⟩ rfl rfl rfl rfl rfl fnExactCriticalNodes_fn Tryz.func6 fnExactCriticalNodes_joined
    fnExactCriticalNodes_inst fnExactCriticalNodes_wrap
    (fun os started H enc _ => fnExactCriticalNodes_lifted os started H enc)
theorem fnExactCriticalNodes_text : Rows.fnExactCriticalNodesRow.wfByText (OpenSpec.ofChange Rows.fnExactCriticalNodesSpec) = true := by kernel_rfl
theorem fnExactCriticalNodes_main : Tryz.prog.mainIs = some (Rows.fnExactCriticalNodesCard.stood.harness.1, Rows.fnExactCriticalNodesCard.stood.harness.2.toList) := by kernel_rfl
theorem fnExactCriticalNodes_looks : false = Tryz.prog.looks [] := by kernel_rfl
theorem fnExactCriticalNodes_stand : ([32, 63, 65, 2, 2].all fun u => !Tryz.prog.wantsStandIn u) = true := by kernel_rfl
theorem fnExactCriticalNodes_goes : false = Rows.fnExactCriticalNodesRow.goesBy Tryz.prog := by kernel_rfl
theorem fnExactCriticalNodes_card : Rows.FnExactCriticalNodesCardSaid :=
  Claim7.holds_tied_plain_at .later [] Rows.fnExactCriticalNodesCard.laidKinds true Rows.fnExactCriticalNodesCard.stood.harness false fnExactCriticalNodes_holds (fun _ h => by cases h) fnExactCriticalNodes_text (fun _ h => by cases h) fnExactCriticalNodes_row_tie rfl ⟨rfl, rfl⟩ fnExactCriticalNodes_main rfl
    (fun f fn hf hfn => by
      obtain rfl : f = 6 := Option.some.inj (fnExactCriticalNodes_fn.symm.trans hf) |>.symm
      obtain rfl : fn = Tryz.f6 := (Option.some.inj (Tryz.func6.symm.trans hfn)).symm
      exact ⟨fnExactCriticalNodes_looks, fun j t ht => by
        rw [Tryz.params6] at ht
        have hm : t ∈ [32, 63, 65, 2, 2] := by simpa using Array.mem_of_getElem? ht
        exact (show Tryz.prog.wantsStandIn t = false by simpa using List.all_eq_true.1 fnExactCriticalNodes_stand t hm)⟩)
    fnExactCriticalNodes_goes
end Go.Proofs.YtiaobghojdehbaaGreatDoor
