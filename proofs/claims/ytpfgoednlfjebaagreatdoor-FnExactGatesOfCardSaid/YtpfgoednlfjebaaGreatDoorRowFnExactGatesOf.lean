/- PROVED: FnExactGatesOf returns true for every input, and its arguments read behind the call as before; no condition. -/
import Derived.Test.YtpfgoednlfjebaaGreatDoorRows
import Derived.Test.YtpfgoednlfjebaaGreatDoorLawFnExactGatesOf
import Derived.ProofKit
import Derived.Test.YtpfgoednlfjebaaGreatDoorCards
import Derived.Test.YtpfgoednlfjebaaGreatDoorTie
import Derived.Lay
import Derived.SevenTiedAt
import Derived.Stop.Joined
import Derived.Test.YtpfgoednlfjebaaGreatDoorJoinAFnExactGatesOf
import Derived.Test.YtpfgoednlfjebaaGreatDoorJoinBFnExactGatesOf
set_option linter.all false
namespace Go.Proofs.YtpfgoednlfjebaaGreatDoor
open Go.ChangeShapes Go.WideShapes Go.ChangeAt Go.RowKit Go.Eng
theorem Tryz.own : ownKnob Tryz.prog.godebug = none := by kernel_rfl
theorem Tryz.laidOut : laidOutB Tryz.prog = true := by kernel_rfl
theorem and_tt {a b : Bool} (ha : a = true) (hb : b = true) : (a && b) = true := by rw [ha, hb]; rfl
set_option maxRecDepth 100000 in
theorem fnExactGatesOf_joined : joinedFacts Tryz.prog 4 Tryz.f4 Rows.fnExactGatesOfSpec Rows.fnExactGatesOfRow = true := by
  unfold joinedFacts
  exact (and_tt (and_tt (and_tt (and_tt (and_tt (and_tt (and_tt (and_tt (and_tt (and_tt (and_tt (and_tt (and_tt (and_tt (and_tt (and_tt (and_tt (and_tt (and_tt (and_tt (and_tt (and_tt (and_tt (and_tt (and_tt (and_tt (and_tt (and_tt (and_tt (and_tt (and_tt fnExactGatesOf_j0 fnExactGatesOf_j1) fnExactGatesOf_j2) fnExactGatesOf_j3) fnExactGatesOf_j4) fnExactGatesOf_j5) fnExactGatesOf_j6) fnExactGatesOf_j7) fnExactGatesOf_j8) fnExactGatesOf_j9) fnExactGatesOf_j10) fnExactGatesOf_j11) fnExactGatesOf_j12) fnExactGatesOf_j13) fnExactGatesOf_j14) fnExactGatesOf_j15) fnExactGatesOf_j16) fnExactGatesOf_j17) fnExactGatesOf_j18) fnExactGatesOf_j19) fnExactGatesOf_j20) fnExactGatesOf_j21) fnExactGatesOf_j22) fnExactGatesOf_j23) fnExactGatesOf_j24) fnExactGatesOf_j25) fnExactGatesOf_j26) fnExactGatesOf_j27) fnExactGatesOf_j28) fnExactGatesOf_j29) fnExactGatesOf_j30) fnExactGatesOf_j31)
set_option maxRecDepth 100000 in
theorem fnExactGatesOf_lifted (os : Os) (started : os.Started) (H : Type) (enc : TypeId × Value → H) :
    ReturnsInHanded {} Tryz.checked os 4 .any (fun w args => (Rows.fnExactGatesOfSpec.pre enc Tryz.prog Tryz.f4 Rows.fnExactGatesOfRow.domain false w args ∧ laidMetH Tryz.prog Rows.fnExactGatesOfRow.laid w) ∧ sizedMet enc Tryz.prog Tryz.f4 (OpenSpec.ofChange Rows.fnExactGatesOfSpec) false w args) (Rows.fnExactGatesOfSpec.post enc Tryz.prog Tryz.f4 false true false false) := by
  refine lifted_ofL (C := Tryz.checked) (tb := 4) Tryz.own started (by kernel_rfl) Tryz.func4 (ChangeSpec.witness_shaped (enc := enc) (C := Tryz.checked) (os := os) (X := fun w _ => laidMetH Tryz.prog Rows.fnExactGatesOfRow.laid w) false (World.laidAll Tryz.prog os Rows.fnExactGatesOfRow.laid) #[.agg #[.slice none 0 0, .slice none 0 0, .slice none 0 0, .slice none 0 0, .slice none 0 0], .slice none 0 0, .int .i64 0] 8 (World.laidAll_os _ _ _) (World.shaped_of_ZipB (by kernel_rfl) (by kernel_rfl)) (by kernel_rfl) (by kernel_rfl) (by kernel_rfl) (by rw [MakeChecks.laidMetH_plain _ _ _ (by kernel_rfl)]; exact laidMet_laidAll _ (by kernel_rfl) (by kernel_rfl))) Tryz.laidOut rfl
    (fun ds h => by rw [show Tryz.f4.params.toList.length = 3 by kernel_rfl] at h; match ds, h with | [_, _, _], _ => rfl) (by kernel_rfl) Tryz.underlying4 (by rw [show Tryz.f4.params.toList = [32, 33, 2] by kernel_rfl]; simp only [List.forall_mem_cons, List.not_mem_nil, false_imp_iff, implies_true, and_true]; exact ⟨⟨by kernel_rfl, of_decide_eq_true (by kernel_rfl)⟩, ⟨by kernel_rfl, of_decide_eq_true (by kernel_rfl)⟩, ⟨by kernel_rfl, of_decide_eq_true (by kernel_rfl)⟩⟩) ?_
  intro W base args ds p hval0 hA0 hZ0
  have hval : ∀ (j : Nat) t v, Tryz.f4.params[j]? = some t → args[j]? = some v → Value.okWide Tryz.prog W .any base t v := hval0
  have hA0 : DataW.TrodAll enc Tryz.prog W 0 (fun _ => true) true Tryz.f4.params.toList args.toList ds p := hA0
  clear hval0
  rw [Tryz.params4] at hA0 hval
  obtain ⟨v0, vs0, d0, ds0, p0, q0, ha0, rfl, h0, z0, hA1, hZ1⟩ := trodU_cons hA0 hZ0
  obtain ⟨v1, vs1, d1, ds1, p1, q1, rfl, rfl, h1, z1, hA2, hZ2⟩ := trodU_cons hA1 hZ1
  obtain ⟨v2, vs2, d2, ds2, p2, q2, rfl, rfl, h2, z2, hA3, hZ3⟩ := trodU_cons hA2 hZ2
  obtain ⟨rfl, rfl⟩ := trodA_nil hA3
  obtain rfl := args_to ha0
  obtain ⟨fu0, h0⟩ := h0
  obtain ⟨y0, hr0, hR0⟩ := Rd_32 _ _ _ _ _ _ _ _ _ h0 z0
  obtain ⟨cs0, rfl, _⟩ := okWide_struct Tryz.underlying32 (hval 0 32 v0 rfl rfl)
  obtain ⟨u0_0, u0_1, u0_2, u0_3, u0_4, hv0, hs0_0, hs0_1, hs0_2, hs0_3, hs0_4⟩ := C_Block_open hr0
  have hv0 : cs0.toList = _ := hv0
  obtain rfl := cells_to hv0
  obtain ⟨fu1, h1⟩ := h1
  obtain ⟨y1, hr1, hR1⟩ := Rd_33 _ _ _ _ _ _ _ _ _ h1 z1
  obtain ⟨a1, l1, c1, rfl⟩ := okWide_slice Tryz.underlying33 (hval 1 33 v1 rfl rfl)
  obtain ⟨u1, hv1, hs1⟩ := hr1
  obtain rfl : Value.slice a1 l1 c1 = u1 := by simpa [Value.cells] using hv1
  obtain ⟨fu2, h2⟩ := h2
  obtain ⟨y2, hr2, hR2⟩ := Rd_2 _ _ _ _ _ _ _ _ _ h2 z2
  obtain ⟨m2, rfl⟩ := okWide_int Tryz.underlying2 (hval 2 2 v2 rfl rfl)
  have hr2 : [Value.int .i64 m2] = [Value.int .i64 y2] := hr2
  simp only [List.cons.injEq, Value.int.injEq, true_and, and_true] at hr2; subst hr2
  obtain ⟨n, hF⟩ := PFnExactGatesOf hR0 hR1 hR2
  exact W_4f hF (Nat.le_refl _) hs0_0 hs0_1 hs0_2 hs0_3 hs0_4 hs1
theorem fnExactGatesOf_inst : Tryz.f4.isInstance Tryz.prog Rows.fnExactGatesOfRow.origin Rows.fnExactGatesOfRow.targs := of_decide_eq_true (by kernel_rfl)
theorem fnExactGatesOf_wrap : Tryz.f4.isWrapper Tryz.prog Rows.fnExactGatesOfRow.wrapper Rows.fnExactGatesOfRow.mainSum := by unfold Func.isWrapper; first | (rw [if_pos (by decide +kernel)]; kernel_rfl) | (rw [if_neg (by decide +kernel)]; exact ⟨rfl, rfl⟩)
theorem fnExactGatesOf_holds : Rows.FnExactGatesOfSaid :=
  OpenClaim.holds_of_wide 4 Tryz.f4 rfl rfl rfl rfl rfl rfl rfl ⟨rfl, rfl, rfl, rfl, rfl⟩ rfl rfl rfl rfl rfl fnExactGatesOf_fn Tryz.func4 fnExactGatesOf_joined
    fnExactGatesOf_inst fnExactGatesOf_wrap
    (fun os started H enc _ => fnExactGatesOf_lifted os started H enc)
theorem fnExactGatesOf_text : Rows.fnExactGatesOfRow.wfByText (OpenSpec.ofChange Rows.fnExactGatesOfSpec) = true := by kernel_rfl
theorem fnExactGatesOf_main : Tryz.prog.mainIs = some (Rows.fnExactGatesOfCard.stood.harness.1, Rows.fnExactGatesOfCard.stood.harness.2.toList) := by kernel_rfl
theorem fnExactGatesOf_looks : false = Tryz.prog.looks [] := by kernel_rfl
theorem fnExactGatesOf_stand : ([32, 33, 2].all fun u => !Tryz.prog.wantsStandIn u) = true := by kernel_rfl
theorem fnExactGatesOf_goes : false = Rows.fnExactGatesOfRow.goesBy Tryz.prog := by kernel_rfl
theorem fnExactGatesOf_card : Rows.FnExactGatesOfCardSaid :=
  Claim7.holds_tied_plain_at .later [] Rows.fnExactGatesOfCard.laidKinds true Rows.fnExactGatesOfCard.stood.harness false fnExactGatesOf_holds (fun _ h => by cases h) fnExactGatesOf_text (fun _ h => by cases h) fnExactGatesOf_row_tie rfl ⟨rfl, rfl⟩ fnExactGatesOf_main rfl
    (fun f fn hf hfn => by
      obtain rfl : f = 4 := Option.some.inj (fnExactGatesOf_fn.symm.trans hf) |>.symm
      obtain rfl : fn = Tryz.f4 := (Option.some.inj (Tryz.func4.symm.trans hfn)).symm
      exact ⟨fnExactGatesOf_looks, fun j t ht => by
        rw [Tryz.params4] at ht
        have hm : t ∈ [32, 33, 2] := by simpa using Array.mem_of_getElem? ht
        exact (show Tryz.prog.wantsStandIn t = false by simpa using List.all_eq_true.1 fnExactGatesOf_stand t hm)⟩)
    fnExactGatesOf_goes
end Go.Proofs.YtpfgoednlfjebaaGreatDoor
