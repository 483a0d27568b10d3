/- PROVED: FnExactMulticycleHold returns true for every input, and its arguments read behind the call as before; no condition. -/
import Derived.Test.YthjagnioabgceabDoorRows
import Derived.Test.YthjagnioabgceabDoorLawFnExactMulticycleHold
import Derived.ProofKit
import Derived.Test.YthjagnioabgceabDoorCards
import Derived.Test.YthjagnioabgceabDoorTie
import Derived.Lay
import Derived.SevenTiedAt
import Derived.Stop.Joined
set_option linter.all false
namespace Go.Proofs.YthjagnioabgceabDoor
open Go.ChangeShapes Go.WideShapes Go.ChangeAt Go.RowKit Go.Eng
theorem Tryd.own : ownKnob Tryd.prog.godebug = none := by kernel_rfl
theorem Tryd.laidOut : laidOutB Tryd.prog = true := by kernel_rfl
set_option maxRecDepth 100000 in
theorem fnExactMulticycleHold_lifted (os : Os) (started : os.Started) (H : Type) (enc : TypeId × Value → H) :
    ReturnsInHanded {} Tryd.checked os 6 .any (fun w args => (Rows.fnExactMulticycleHoldSpec.pre enc Tryd.prog Tryd.f6 Rows.fnExactMulticycleHoldRow.domain false w args ∧ laidMetH Tryd.prog Rows.fnExactMulticycleHoldRow.laid w) ∧ sizedMet enc Tryd.prog Tryd.f6 (OpenSpec.ofChange Rows.fnExactMulticycleHoldSpec) false w args) (Rows.fnExactMulticycleHoldSpec.post enc Tryd.prog Tryd.f6 false true false false) := by
  refine lifted_ofL (C := Tryd.checked) (tb := 4) Tryd.own started (by kernel_rfl) Tryd.func6 (ChangeSpec.witness_shaped (enc := enc) (C := Tryd.checked) (os := os) (X := fun w _ => laidMetH Tryd.prog Rows.fnExactMulticycleHoldRow.laid w) false (World.laidAll Tryd.prog os Rows.fnExactMulticycleHoldRow.laid) #[.slice none 0 0, .int .i64 0, .int .i64 0, .int .i64 0, .int .i64 0, .int .i64 0, .int .i64 0] 8 (World.laidAll_os _ _ _) (World.shaped_of_ZipB (by kernel_rfl) (by kernel_rfl)) (by kernel_rfl) (by kernel_rfl) (by kernel_rfl) (by rw [MakeChecks.laidMetH_plain _ _ _ (by kernel_rfl)]; exact laidMet_laidAll _ (by kernel_rfl) (by kernel_rfl))) Tryd.laidOut rfl
    (fun ds h => by rw [show Tryd.f6.params.toList.length = 7 by kernel_rfl] at h; match ds, h with | [_, _, _, _, _, _, _], _ => rfl) (by kernel_rfl) Tryd.underlying4 (by rw [show Tryd.f6.params.toList = [22, 2, 2, 2, 2, 2, 2] by kernel_rfl]; simp only [List.forall_mem_cons, List.not_mem_nil, false_imp_iff, implies_true, and_true]; exact ⟨⟨by kernel_rfl, of_decide_eq_true (by kernel_rfl)⟩, ⟨by kernel_rfl, of_decide_eq_true (by kernel_rfl)⟩, ⟨by kernel_rfl, of_decide_eq_true (by kernel_rfl)⟩, ⟨by kernel_rfl, of_decide_eq_true (by kernel_rfl)⟩, ⟨by kernel_rfl, of_decide_eq_true (by kernel_rfl)⟩, ⟨by kernel_rfl, of_decide_eq_true (by kernel_rfl)⟩, ⟨by kernel_rfl, of_decide_eq_true (by kernel_rfl)⟩⟩) ?_
  intro W base args ds p hval0 hA0
  have hval : ∀ (j : Nat) t v, Tryd.f6.params[j]? = some t → args[j]? = some v → Value.okWide Tryd.prog W .any base t v := hval0
  have hA : DataW.TrodAll enc Tryd.prog W 0 (fun _ => true) true Tryd.f6.params.toList args.toList ds p := hA0
  clear hval0 hA0
  rw [Tryd.params6] at hA hval
  obtain ⟨v0, vs0, d0, ds0, p0, q0, ha0, rfl, h0, hA1⟩ := trodA_cons hA
  obtain ⟨v1, vs1, d1, ds1, p1, q1, rfl, rfl, h1, hA2⟩ := trodA_cons hA1
  obtain ⟨v2, vs2, d2, ds2, p2, q2, rfl, rfl, h2, hA3⟩ := trodA_cons hA2
  obtain ⟨v3, vs3, d3, ds3, p3, q3, rfl, rfl, h3, hA4⟩ := trodA_cons hA3
  obtain ⟨v4, vs4, d4, ds4, p4, q4, rfl, rfl, h4, hA5⟩ := trodA_cons hA4
  obtain ⟨v5, vs5, d5, ds5, p5, q5, rfl, rfl, h5, hA6⟩ := trodA_cons hA5
  obtain ⟨v6, vs6, d6, ds6, p6, q6, rfl, rfl, h6, hA7⟩ := trodA_cons hA6
  obtain ⟨rfl, rfl⟩ := trodA_nil hA7
  obtain rfl := args_to ha0
  obtain ⟨fu0, h0⟩ := h0
  obtain ⟨y0, hr0, hR0⟩ := Rd_22 _ _ _ _ _ _ _ _ _ h0
  obtain ⟨a0, l0, c0, rfl⟩ := okWide_slice Tryd.underlying22 (hval 0 22 v0 rfl rfl)
  obtain ⟨u0, hv0, hs0⟩ := hr0
  obtain rfl : Value.slice a0 l0 c0 = u0 := by simpa [Value.cells] using hv0
  obtain ⟨fu1, h1⟩ := h1
  obtain ⟨y1, hr1, hR1⟩ := Rd_2 _ _ _ _ _ _ _ _ _ h1
  obtain ⟨m1, rfl⟩ := okWide_int Tryd.underlying2 (hval 1 2 v1 rfl rfl)
  have hr1 : [Value.int .i64 m1] = [Value.int .i64 y1] := hr1
  simp only [List.cons.injEq, Value.int.injEq, true_and, and_true] at hr1; subst hr1
  obtain ⟨fu2, h2⟩ := h2
  obtain ⟨y2, hr2, hR2⟩ := Rd_2 _ _ _ _ _ _ _ _ _ h2
  obtain ⟨m2, rfl⟩ := okWide_int Tryd.underlying2 (hval 2 2 v2 rfl rfl)
  have hr2 : [Value.int .i64 m2] = [Value.int .i64 y2] := hr2
  simp only [List.cons.injEq, Value.int.injEq, true_and, and_true] at hr2; subst hr2
  obtain ⟨fu3, h3⟩ := h3
  obtain ⟨y3, hr3, hR3⟩ := Rd_2 _ _ _ _ _ _ _ _ _ h3
  obtain ⟨m3, rfl⟩ := okWide_int Tryd.underlying2 (hval 3 2 v3 rfl rfl)
  have hr3 : [Value.int .i64 m3] = [Value.int .i64 y3] := hr3
  simp only [List.cons.injEq, Value.int.injEq, true_and, and_true] at hr3; subst hr3
  obtain ⟨fu4, h4⟩ := h4
  obtain ⟨y4, hr4, hR4⟩ := Rd_2 _ _ _ _ _ _ _ _ _ h4
  obtain ⟨m4, rfl⟩ := okWide_int Tryd.underlying2 (hval 4 2 v4 rfl rfl)
  have hr4 : [Value.int .i64 m4] = [Value.int .i64 y4] := hr4
  simp only [List.cons.injEq, Value.int.injEq, true_and, and_true] at hr4; subst hr4
  obtain ⟨fu5, h5⟩ := h5
  obtain ⟨y5, hr5, hR5⟩ := Rd_2 _ _ _ _ _ _ _ _ _ h5
  obtain ⟨m5, rfl⟩ := okWide_int Tryd.underlying2 (hval 5 2 v5 rfl rfl)
  have hr5 : [Value.int .i64 m5] = [Value.int .i64 y5] := hr5
  simp only [List.cons.injEq, Value.int.injEq, true_and, and_true] at hr5; subst hr5
  obtain ⟨fu6, h6⟩ := h6
  obtain ⟨y6, hr6, hR6⟩ := Rd_2 _ _ _ _ _ _ _ _ _ h6
  obtain ⟨m6, rfl⟩ := okWide_int Tryd.underlying2 (hval 6 2 v6 rfl rfl)
  have hr6 : [Value.int .i64 m6] = [Value.int .i64 y6] := hr6
  simp only [List.cons.injEq, Value.int.injEq, true_and, and_true] at hr6; subst hr6
  obtain ⟨n, hF⟩ := PFnExactMulticycleHold hR0 hR1 hR2 hR3 hR4 hR5 hR6
  exact W_laws_FnExactMulticycleHold hF hs0
theorem fnExactMulticycleHold_holds : Rows.FnExactMulticycleHoldSaid :=
  OpenClaim.holds_of_wide 6 Tryd.f6 rfl rfl rfl rfl rfl rfl rfl ⟨rfl, rfl, rfl, rfl, rfl⟩ rfl rfl rfl rfl rfl (by kernel_rfl) Tryd.func6 (by kernel_rfl)
    (of_decide_eq_true (by kernel_rfl)) (by unfold Func.isWrapper; first | (rw [if_pos (by decide +kernel)]; kernel_rfl) | (rw [if_neg (by decide +kernel)]; exact ⟨rfl, rfl⟩))
    (fun os started H enc _ => fnExactMulticycleHold_lifted os started H enc)
theorem fnExactMulticycleHold_card : Rows.FnExactMulticycleHoldCardSaid :=
  Claim7.holds_tied_plain_at .later [] Rows.fnExactMulticycleHoldCard.laidKinds true Rows.fnExactMulticycleHoldCard.stood.harness false fnExactMulticycleHold_holds (fun _ h => by cases h) (by kernel_rfl) (fun _ h => by cases h) fnExactMulticycleHold_row_tie rfl ⟨rfl, rfl⟩ (by kernel_rfl) rfl
    (fun f fn hf hfn => by
      obtain rfl : f = 6 := Option.some.inj ((show Tryd.prog.funcNamed Rows.fnExactMulticycleHoldRow.func = some 6 by kernel_rfl).symm.trans hf) |>.symm
      obtain rfl : fn = Tryd.f6 := (Option.some.inj (Tryd.func6.symm.trans hfn)).symm
      exact ⟨by kernel_rfl, fun j t ht => by
        rw [Tryd.params6] at ht
        have hm : t ∈ [22, 2, 2, 2, 2, 2, 2] := by simpa using Array.mem_of_getElem? ht
        have hall : ([22, 2, 2, 2, 2, 2, 2].all fun u => !Tryd.prog.wantsStandIn u) = true := by kernel_rfl
        exact (show Tryd.prog.wantsStandIn t = false by simpa using List.all_eq_true.1 hall t hm)⟩)
    (by kernel_rfl)
end Go.Proofs.YthjagnioabgceabDoor
