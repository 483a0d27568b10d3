/- PROVED: FnExactEdgePairs returns true for every input, and its arguments read behind the call as before; no condition. -/
import Derived.Test.YtiaobghojdehbaaDoorRows
import Derived.Test.YtiaobghojdehbaaDoorLawFnExactEdgePairs
import Derived.ProofKit
import Derived.Test.YtiaobghojdehbaaDoorCards
import Derived.Test.YtiaobghojdehbaaDoorTie
import Derived.Lay
import Derived.SevenTiedAt
import Derived.Stop.Joined
import Derived.Test.YtiaobghojdehbaaDoorJoinAFnExactEdgePairs
import Derived.Test.YtiaobghojdehbaaDoorJoinBFnExactEdgePairs
set_option linter.all false
namespace Go.Proofs.YtiaobghojdehbaaDoor
open Go.ChangeShapes Go.WideShapes Go.ChangeAt Go.RowKit Go.Eng
theorem Tryd.own : ownKnob Tryd.prog.godebug = none := by kernel_rfl
theorem Tryd.laidOut : laidOutB Tryd.prog = true := by kernel_rfl
theorem and_tt {a b : Bool} (ha : a = true) (hb : b = true) : (a && b) = true := by rw [ha, hb]; rfl
set_option maxRecDepth 100000 in
theorem fnExactEdgePairs_joined : joinedFacts Tryd.prog 3 Tryd.f3 Rows.fnExactEdgePairsSpec Rows.fnExactEdgePairsRow = true := by
  unfold joinedFacts
  exact (and_tt (and_tt (and_tt (and_tt (and_tt (and_tt (and_tt (and_tt (and_tt (and_tt (and_tt (and_tt (and_tt (and_tt (and_tt (and_tt (and_tt (and_tt (and_tt (and_tt (and_tt (and_tt (and_tt (and_tt (and_tt (and_tt (and_tt (and_tt (and_tt (and_tt (and_tt fnExactEdgePairs_j0 fnExactEdgePairs_j1) fnExactEdgePairs_j2) fnExactEdgePairs_j3) fnExactEdgePairs_j4) fnExactEdgePairs_j5) fnExactEdgePairs_j6) fnExactEdgePairs_j7) fnExactEdgePairs_j8) fnExactEdgePairs_j9) fnExactEdgePairs_j10) fnExactEdgePairs_j11) fnExactEdgePairs_j12) fnExactEdgePairs_j13) fnExactEdgePairs_j14) fnExactEdgePairs_j15) fnExactEdgePairs_j16) fnExactEdgePairs_j17) fnExactEdgePairs_j18) fnExactEdgePairs_j19) fnExactEdgePairs_j20) fnExactEdgePairs_j21) fnExactEdgePairs_j22) fnExactEdgePairs_j23) fnExactEdgePairs_j24) fnExactEdgePairs_j25) fnExactEdgePairs_j26) fnExactEdgePairs_j27) fnExactEdgePairs_j28) fnExactEdgePairs_j29) fnExactEdgePairs_j30) fnExactEdgePairs_j31)
set_option maxRecDepth 100000 in
theorem fnExactEdgePairs_lifted (os : Os) (started : os.Started) (H : Type) (enc : TypeId × Value → H) :
    ReturnsInHanded {} Tryd.checked os 3 .any (fun w args => (Rows.fnExactEdgePairsSpec.pre enc Tryd.prog Tryd.f3 Rows.fnExactEdgePairsRow.domain false w args ∧ laidMetH Tryd.prog Rows.fnExactEdgePairsRow.laid w) ∧ sizedMet enc Tryd.prog Tryd.f3 (OpenSpec.ofChange Rows.fnExactEdgePairsSpec) false w args) (Rows.fnExactEdgePairsSpec.post enc Tryd.prog Tryd.f3 false true false false) := by
  refine lifted_ofL (C := Tryd.checked) (tb := 4) Tryd.own started (by kernel_rfl) Tryd.func3 (ChangeSpec.witness_shaped (enc := enc) (C := Tryd.checked) (os := os) (X := fun w _ => laidMetH Tryd.prog Rows.fnExactEdgePairsRow.laid w) false (World.laidAll Tryd.prog os Rows.fnExactEdgePairsRow.laid) #[.slice none 0 0, .int .i64 0, .int .i64 0, .int .i64 0, .int .i64 0] 8 (World.laidAll_os _ _ _) (World.shaped_of_ZipB (by kernel_rfl) (by kernel_rfl)) (by kernel_rfl) (by kernel_rfl) (by kernel_rfl) (by rw [MakeChecks.laidMetH_plain _ _ _ (by kernel_rfl)]; exact laidMet_laidAll _ (by kernel_rfl) (by kernel_rfl))) Tryd.laidOut rfl
    (fun ds h => by rw [show Tryd.f3.params.toList.length = 5 by kernel_rfl] at h; match ds, h with | [_, _, _, _, _], _ => rfl) (by kernel_rfl) Tryd.underlying4 (by rw [show Tryd.f3.params.toList = [22, 2, 2, 2, 2] by kernel_rfl]; simp only [List.forall_mem_cons, List.not_mem_nil, false_imp_iff, implies_true, and_true]; exact ⟨⟨by kernel_rfl, of_decide_eq_true (by kernel_rfl)⟩, ⟨by kernel_rfl, of_decide_eq_true (by kernel_rfl)⟩, ⟨by kernel_rfl, of_decide_eq_true (by kernel_rfl)⟩, ⟨by kernel_rfl, of_decide_eq_true (by kernel_rfl)⟩, ⟨by kernel_rfl, of_decide_eq_true (by kernel_rfl)⟩⟩) ?_
  intro W base args ds p hval0 hA0 hZ0
  have hval : ∀ (j : Nat) t v, Tryd.f3.params[j]? = some t → args[j]? = some v → Value.okWide Tryd.prog W .any base t v := hval0
  have hA0 : DataW.TrodAll enc Tryd.prog W 0 (fun _ => true) true Tryd.f3.params.toList args.toList ds p := hA0
  clear hval0
  rw [Tryd.params3] at hA0 hval
  obtain ⟨v0, vs0, d0, ds0, p0, q0, ha0, rfl, h0, z0, hA1, hZ1⟩ := trodU_cons hA0 hZ0
  obtain ⟨v1, vs1, d1, ds1, p1, q1, rfl, rfl, h1, z1, hA2, hZ2⟩ := trodU_cons hA1 hZ1
  obtain ⟨v2, vs2, d2, ds2, p2, q2, rfl, rfl, h2, z2, hA3, hZ3⟩ := trodU_cons hA2 hZ2
  obtain ⟨v3, vs3, d3, ds3, p3, q3, rfl, rfl, h3, z3, hA4, hZ4⟩ := trodU_cons hA3 hZ3
  obtain ⟨v4, vs4, d4, ds4, p4, q4, rfl, rfl, h4, z4, hA5, hZ5⟩ := trodU_cons hA4 hZ4
  obtain ⟨rfl, rfl⟩ := trodA_nil hA5
  obtain rfl := args_to ha0
  obtain ⟨fu0, h0⟩ := h0
  obtain ⟨y0, hr0, hR0⟩ := Rd_22 _ _ _ _ _ _ _ _ _ h0 z0
  obtain ⟨a0, l0, c0, rfl⟩ := okWide_slice Tryd.underlying22 (hval 0 22 v0 rfl rfl)
  obtain ⟨u0, hv0, hs0⟩ := hr0
  obtain rfl : Value.slice a0 l0 c0 = u0 := by simpa [Value.cells] using hv0
  obtain ⟨fu1, h1⟩ := h1
  obtain ⟨y1, hr1, hR1⟩ := Rd_2 _ _ _ _ _ _ _ _ _ h1 z1
  obtain ⟨m1, rfl⟩ := okWide_int Tryd.underlying2 (hval 1 2 v1 rfl rfl)
  have hr1 : [Value.int .i64 m1] = [Value.int .i64 y1] := hr1
  simp only [List.cons.injEq, Value.int.injEq, true_and, and_true] at hr1; subst hr1
  obtain ⟨fu2, h2⟩ := h2
  obtain ⟨y2, hr2, hR2⟩ := Rd_2 _ _ _ _ _ _ _ _ _ h2 z2
  obtain ⟨m2, rfl⟩ := okWide_int Tryd.underlying2 (hval 2 2 v2 rfl rfl)
  have hr2 : [Value.int .i64 m2] = [Value.int .i64 y2] := hr2
  simp only [List.cons.injEq, Value.int.injEq, true_and, and_true] at hr2; subst hr2
  obtain ⟨fu3, h3⟩ := h3
  obtain ⟨y3, hr3, hR3⟩ := Rd_2 _ _ _ _ _ _ _ _ _ h3 z3
  obtain ⟨m3, rfl⟩ := okWide_int Tryd.underlying2 (hval 3 2 v3 rfl rfl)
  have hr3 : [Value.int .i64 m3] = [Value.int .i64 y3] := hr3
  simp only [List.cons.injEq, Value.int.injEq, true_and, and_true] at hr3; subst hr3
  obtain ⟨fu4, h4⟩ := h4
  obtain ⟨y4, hr4, hR4⟩ := Rd_2 _ _ _ _ _ _ _ _ _ h4 z4
  obtain ⟨m4, rfl⟩ := okWide_int Tryd.underlying2 (hval 4 2 v4 rfl rfl)
  have hr4 : [Value.int .i64 m4] = [Value.int .i64 y4] := hr4
  simp only [List.cons.injEq, Value.int.injEq, true_and, and_true] at hr4; subst hr4
  obtain ⟨n, hF⟩ := PFnExactEdgePairs hR0 hR1 hR2 hR3 hR4
  exact W_0j hF (Nat.le_refl _) hs0
theorem fnExactEdgePairs_inst : Tryd.f3.isInstance Tryd.prog Rows.fnExactEdgePairsRow.origin Rows.fnExactEdgePairsRow.targs := of_decide_eq_true (by kernel_rfl)
theorem fnExactEdgePairs_wrap : Tryd.f3.isWrapper Tryd.prog Rows.fnExactEdgePairsRow.wrapper Rows.fnExactEdgePairsRow.mainSum := by unfold Func.isWrapper; first | (rw [if_pos (by decide +kernel)]; kernel_rfl) | (rw [if_neg (by decide +kernel)]; exact ⟨rfl, rfl⟩)
theorem fnExactEdgePairs_holds : Rows.FnExactEdgePairsSaid :=
  OpenClaim.holds_of_wide 3 Tryd.f3 rfl rfl rfl rfl rfl rfl rfl ⟨rfl, rfl, rfl, rfl, rfl⟩ rfl rfl rfl rfl rfl fnExactEdgePairs_fn Tryd.func3 fnExactEdgePairs_joined
    fnExactEdgePairs_inst fnExactEdgePairs_wrap
    (fun os started H enc _ => fnExactEdgePairs_lifted os started H enc)
theorem fnExactEdgePairs_text : Rows.fnExactEdgePairsRow.wfByText (OpenSpec.ofChange Rows.fnExactEdgePairsSpec) = true := by kernel_rfl
theorem fnExactEdgePairs_main : Tryd.prog.mainIs = some (Rows.fnExactEdgePairsCard.stood.harness.1, Rows.fnExactEdgePairsCard.stood.harness.2.toList) := by kernel_rfl
theorem fnExactEdgePairs_looks : false = Tryd.prog.looks [] := by kernel_rfl
theorem fnExactEdgePairs_stand : ([22, 2, 2, 2, 2].all fun u => !Tryd.prog.wantsStandIn u) = true := by kernel_rfl
theorem fnExactEdgePairs_goes : false = Rows.fnExactEdgePairsRow.goesBy Tryd.prog := by kernel_rfl
theorem fnExactEdgePairs_card : Rows.FnExactEdgePairsCardSaid :=
  Claim7.holds_tied_plain_at .later [] Rows.fnExactEdgePairsCard.laidKinds true Rows.fnExactEdgePairsCard.stood.harness false fnExactEdgePairs_holds (fun _ h => by cases h) fnExactEdgePairs_text (fun _ h => by cases h) fnExactEdgePairs_row_tie rfl ⟨rfl, rfl⟩ fnExactEdgePairs_main rfl
    (fun f fn hf hfn => by
      obtain rfl : f = 3 := Option.some.inj (fnExactEdgePairs_fn.symm.trans hf) |>.symm
      obtain rfl : fn = Tryd.f3 := (Option.some.inj (Tryd.func3.symm.trans hfn)).symm
      exact ⟨fnExactEdgePairs_looks, fun j t ht => by
        rw [Tryd.params3] at ht
        have hm : t ∈ [22, 2, 2, 2, 2] := by simpa using Array.mem_of_getElem? ht
        exact (show Tryd.prog.wantsStandIn t = false by simpa using List.all_eq_true.1 fnExactEdgePairs_stand t hm)⟩)
    fnExactEdgePairs_goes
end Go.Proofs.YtiaobghojdehbaaDoor
