/- PROVED: FnExactClockPinsOf returns true for every input, and its arguments read behind the call as before; no condition. -/
import Derived.Test.YtpfgoednlfjebaaGreatDoorRows
import Derived.Test.YtpfgoednlfjebaaGreatDoorLawFnExactClockPinsOf
import Derived.ProofKit
import Derived.Test.YtpfgoednlfjebaaGreatDoorCards
import Derived.Test.YtpfgoednlfjebaaGreatDoorTie
import Derived.Lay
import Derived.SevenTiedAt
import Derived.Stop.Joined
import Derived.Test.YtpfgoednlfjebaaGreatDoorJoinAFnExactClockPinsOf
import Derived.Test.YtpfgoednlfjebaaGreatDoorJoinBFnExactClockPinsOf
set_option linter.all false
namespace Go.Proofs.YtpfgoednlfjebaaGreatDoor
open Go.ChangeShapes Go.WideShapes Go.ChangeAt Go.RowKit Go.Eng
theorem Tryz.own : ownKnob Tryz.prog.godebug = none := by kernel_rfl
theorem Tryz.laidOut : laidOutB Tryz.prog = true := by kernel_rfl
theorem and_tt {a b : Bool} (ha : a = true) (hb : b = true) : (a && b) = true := by rw [ha, hb]; rfl
set_option maxRecDepth 100000 in
theorem fnExactClockPinsOf_joined : joinedFacts Tryz.prog 3 Tryz.f3 Rows.fnExactClockPinsOfSpec Rows.fnExactClockPinsOfRow = true := by
  unfold joinedFacts
  exact (and_tt (and_tt (and_tt (and_tt (and_tt (and_tt (and_tt (and_tt (and_tt (and_tt (and_tt (and_tt (and_tt (and_tt (and_tt (and_tt (and_tt (and_tt (and_tt (and_tt (and_tt (and_tt (and_tt (and_tt (and_tt (and_tt (and_tt (and_tt (and_tt (and_tt (and_tt fnExactClockPinsOf_j0 fnExactClockPinsOf_j1) fnExactClockPinsOf_j2) fnExactClockPinsOf_j3) fnExactClockPinsOf_j4) fnExactClockPinsOf_j5) fnExactClockPinsOf_j6) fnExactClockPinsOf_j7) fnExactClockPinsOf_j8) fnExactClockPinsOf_j9) fnExactClockPinsOf_j10) fnExactClockPinsOf_j11) fnExactClockPinsOf_j12) fnExactClockPinsOf_j13) fnExactClockPinsOf_j14) fnExactClockPinsOf_j15) fnExactClockPinsOf_j16) fnExactClockPinsOf_j17) fnExactClockPinsOf_j18) fnExactClockPinsOf_j19) fnExactClockPinsOf_j20) fnExactClockPinsOf_j21) fnExactClockPinsOf_j22) fnExactClockPinsOf_j23) fnExactClockPinsOf_j24) fnExactClockPinsOf_j25) fnExactClockPinsOf_j26) fnExactClockPinsOf_j27) fnExactClockPinsOf_j28) fnExactClockPinsOf_j29) fnExactClockPinsOf_j30) fnExactClockPinsOf_j31)
set_option maxRecDepth 100000 in
theorem fnExactClockPinsOf_lifted (os : Os) (started : os.Started) (H : Type) (enc : TypeId × Value → H) :
    ReturnsInHanded {} Tryz.checked os 3 .any (fun w args => (Rows.fnExactClockPinsOfSpec.pre enc Tryz.prog Tryz.f3 Rows.fnExactClockPinsOfRow.domain false w args ∧ laidMetH Tryz.prog Rows.fnExactClockPinsOfRow.laid w) ∧ sizedMet enc Tryz.prog Tryz.f3 (OpenSpec.ofChange Rows.fnExactClockPinsOfSpec) false w args) (Rows.fnExactClockPinsOfSpec.post enc Tryz.prog Tryz.f3 false true false false) := by
  refine lifted_ofL (C := Tryz.checked) (tb := 4) Tryz.own started (by kernel_rfl) Tryz.func3 (ChangeSpec.witness_shaped (enc := enc) (C := Tryz.checked) (os := os) (X := fun w _ => laidMetH Tryz.prog Rows.fnExactClockPinsOfRow.laid w) false (World.laidAll Tryz.prog os Rows.fnExactClockPinsOfRow.laid) #[.agg #[.slice none 0 0, .slice none 0 0, .slice none 0 0, .slice none 0 0, .slice none 0 0], .slice none 0 0, .int .i64 0] 8 (World.laidAll_os _ _ _) (World.shaped_of_ZipB (by kernel_rfl) (by kernel_rfl)) (by kernel_rfl) (by kernel_rfl) (by kernel_rfl) (by rw [MakeChecks.laidMetH_plain _ _ _ (by kernel_rfl)]; exact laidMet_laidAll _ (by kernel_rfl) (by kernel_rfl))) Tryz.laidOut rfl
    (fun ds h => by rw [show Tryz.f3.params.toList.length = 3 by kernel_rfl] at h; match ds, h with | [_, _, _], _ => rfl) (by kernel_rfl) Tryz.underlying4 (by rw [show Tryz.f3.params.toList = [32, 33, 2] by kernel_rfl]; simp only [List.forall_mem_cons, List.not_mem_nil, false_imp_iff, implies_true, and_true]; exact ⟨⟨by kernel_rfl, of_decide_eq_true (by kernel_rfl)⟩, ⟨by kernel_rfl, of_decide_eq_true (by kernel_rfl)⟩, ⟨by kernel_rfl, of_decide_eq_true (by kernel_rfl)⟩⟩) ?_
  intro W base args ds p hval0 hA0 hZ0
  have hval : ∀ (j : Nat) t v, Tryz.f3.params[j]? = some t → args[j]? = some v → Value.okWide Tryz.prog W .any base t v := hval0
  have hA0 : DataW.TrodAll enc Tryz.prog W 0 (fun _ => true) true Tryz.f3.params.toList args.toList ds p := hA0
  clear hval0
  rw [Tryz.params3] at hA0 hval
  obtain ⟨v0, vs0, d0, ds0, p0, q0, ha0, rfl, h0, z0, hA1, hZ1⟩ := trodU_cons hA0 hZ0
  obtain ⟨v1, vs1, d1, ds1, p1, q1, rfl, rfl, h1, z1, hA2, hZ2⟩ := trodU_cons hA1 hZ1
  obtain ⟨v2, vs2, d2, ds2, p2, q2, rfl, rfl, h2, z2, hA3, hZ3⟩ := trodU_cons hA2 hZ2
  obtain ⟨rfl, rfl⟩ := trodA_nil hA3
  obtain rfl := args_to ha0
  obtain ⟨fu0, h0⟩ := h0
  obtain ⟨y0, hr0, hR0⟩ := Rd_32 _ _ _ _ _ _ _ _ _ h0 z0
  obtain ⟨cs0, rfl, _⟩ := okWide_struct Tryz.underlying32 (hval 0 32 v0 rfl rfl)
  obtain ⟨u0_0, u0_1, u0_2, u0_3, u0_4, hv0, hs0_0, hs0_1, hs0_2, hs0_3, hs0_4⟩ := C_Block_open hr0
  have hv0 : cs0.toList = _ := hv0
  obtain rfl := cells_to hv0
  obtain ⟨fu1, h1⟩ := h1
  obtain ⟨y1, hr1, hR1⟩ := Rd_33 _ _ _ _ _ _ _ _ _ h1 z1
  obtain ⟨a1, l1, c1, rfl⟩ := okWide_slice Tryz.underlying33 (hval 1 33 v1 rfl rfl)
  obtain ⟨u1, hv1, hs1⟩ := hr1
  obtain rfl : Value.slice a1 l1 c1 = u1 := by simpa [Value.cells] using hv1
  obtain ⟨fu2, h2⟩ := h2
  obtain ⟨y2, hr2, hR2⟩ := Rd_2 _ _ _ _ _ _ _ _ _ h2 z2
  obtain ⟨m2, rfl⟩ := okWide_int Tryz.underlying2 (hval 2 2 v2 rfl rfl)
  have hr2 : [Value.int .i64 m2] = [Value.int .i64 y2] := hr2
  simp only [List.cons.injEq, Value.int.injEq, true_and, and_true] at hr2; subst hr2
  obtain ⟨n, hF⟩ := PFnExactClockPinsOf hR0 hR1 hR2
  exact W_47 hF (Nat.le_refl _) hs0_0 hs0_1 hs0_2 hs0_3 hs0_4 hs1
theorem fnExactClockPinsOf_inst : Tryz.f3.isInstance Tryz.prog Rows.fnExactClockPinsOfRow.origin Rows.fnExactClockPinsOfRow.targs := of_decide_eq_true (by kernel_rfl)
theorem fnExactClockPinsOf_wrap : Tryz.f3.isWrapper Tryz.prog Rows.fnExactClockPinsOfRow.wrapper Rows.fnExactClockPinsOfRow.mainSum := by unfold Func.isWrapper; first | (rw [if_pos (by decide +kernel)]; kernel_rfl) | (rw [if_neg (by decide +kernel)]; exact ⟨rfl, rfl⟩)
theorem fnExactClockPinsOf_holds : Rows.FnExactClockPinsOfSaid :=
  OpenClaim.holds_of_wide 3 Tryz.f3 rfl rfl rfl rfl rfl rfl rfl ⟨rfl, rfl, rfl, rfl, rfl⟩ rfl rfl rfl rfl rfl fnExactClockPinsOf_fn Tryz.func3 fnExactClockPinsOf_joined
    fnExactClockPinsOf_inst fnExactClockPinsOf_wrap
    (fun os started H enc _ => fnExactClockPinsOf_lifted os started H enc)
theorem fnExactClockPinsOf_text : Rows.fnExactClockPinsOfRow.wfByText (OpenSpec.ofChange Rows.fnExactClockPinsOfSpec) = true := by kernel_rfl
theorem fnExactClockPinsOf_main : Tryz.prog.mainIs = some (Rows.fnExactClockPinsOfCard.stood.harness.1, Rows.fnExactClockPinsOfCard.stood.harness.2.toList) := by kernel_rfl
theorem fnExactClockPinsOf_looks : false = Tryz.prog.looks [] := by kernel_rfl
theorem fnExactClockPinsOf_stand : ([32, 33, 2].all fun u => !Tryz.prog.wantsStandIn u) = true := by kernel_rfl
theorem fnExactClockPinsOf_goes : false = Rows.fnExactClockPinsOfRow.goesBy Tryz.prog := by kernel_rfl
theorem fnExactClockPinsOf_card : Rows.FnExactClockPinsOfCardSaid :=
  Claim7.holds_tied_plain_at .later [] Rows.fnExactClockPinsOfCard.laidKinds true Rows.fnExactClockPinsOfCard.stood.harness false fnExactClockPinsOf_holds (fun _ h => by cases h) fnExactClockPinsOf_text (fun _ h => by cases h) fnExactClockPinsOf_row_tie rfl ⟨rfl, rfl⟩ fnExactClockPinsOf_main rfl
    (fun f fn hf hfn => by
      obtain rfl : f = 3 := Option.some.inj (fnExactClockPinsOf_fn.symm.trans hf) |>.symm
      obtain rfl : fn = Tryz.f3 := (Option.some.inj (Tryz.func3.symm.trans hfn)).symm
      exact ⟨fnExactClockPinsOf_looks, fun j t ht => by
        rw [Tryz.params3] at ht
        have hm : t ∈ [32, 33, 2] := by simpa using Array.mem_of_getElem? ht
        exact (show Tryz.prog.wantsStandIn t = false by simpa using List.all_eq_true.1 fnExactClockPinsOf_stand t hm)⟩)
    fnExactClockPinsOf_goes
end Go.Proofs.YtpfgoednlfjebaaGreatDoor
