/- PROVED: FnExactAllChecks returns true for every input, and its arguments read behind the call as before; no condition. -/
import Derived.Test.YtiaobghojdehbaaGreatDoorRows
import Derived.Test.YtiaobghojdehbaaGreatDoorLawFnExactAllChecks
import Derived.ProofKit
import Derived.Test.YtiaobghojdehbaaGreatDoorCards
import Derived.Test.YtiaobghojdehbaaGreatDoorTie
import Derived.Lay
import Derived.SevenTiedAt
import Derived.Stop.Joined
import Derived.Test.YtiaobghojdehbaaGreatDoorJoinAFnExactAllChecks
import Derived.Test.YtiaobghojdehbaaGreatDoorJoinBFnExactAllChecks
set_option linter.all false
namespace Go.Proofs.YtiaobghojdehbaaGreatDoor
open Go.ChangeShapes Go.WideShapes Go.ChangeAt Go.RowKit Go.Eng
theorem Tryz.own : ownKnob Tryz.prog.godebug = none := by kernel_rfl
theorem Tryz.laidOut : laidOutB Tryz.prog = true := by kernel_rfl
theorem and_tt {a b : Bool} (ha : a = true) (hb : b = true) : (a && b) = true := by rw [ha, hb]; rfl
set_option maxRecDepth 100000 in
theorem fnExactAllChecks_joined : joinedFacts Tryz.prog 8 Tryz.f8 Rows.fnExactAllChecksSpec Rows.fnExactAllChecksRow = true := by
  unfold joinedFacts
  exact (and_tt (and_tt (and_tt (and_tt (and_tt (and_tt (and_tt (and_tt (and_tt (and_tt (and_tt (and_tt (and_tt (and_tt (and_tt (and_tt (and_tt (and_tt (and_tt (and_tt (and_tt (and_tt (and_tt (and_tt (and_tt (and_tt (and_tt (and_tt (and_tt (and_tt (and_tt fnExactAllChecks_j0 fnExactAllChecks_j1) fnExactAllChecks_j2) fnExactAllChecks_j3) fnExactAllChecks_j4) fnExactAllChecks_j5) fnExactAllChecks_j6) fnExactAllChecks_j7) fnExactAllChecks_j8) fnExactAllChecks_j9) fnExactAllChecks_j10) fnExactAllChecks_j11) fnExactAllChecks_j12) fnExactAllChecks_j13) fnExactAllChecks_j14) fnExactAllChecks_j15) fnExactAllChecks_j16) fnExactAllChecks_j17) fnExactAllChecks_j18) fnExactAllChecks_j19) fnExactAllChecks_j20) fnExactAllChecks_j21) fnExactAllChecks_j22) fnExactAllChecks_j23) fnExactAllChecks_j24) fnExactAllChecks_j25) fnExactAllChecks_j26) fnExactAllChecks_j27) fnExactAllChecks_j28) fnExactAllChecks_j29) fnExactAllChecks_j30) fnExactAllChecks_j31)
set_option maxRecDepth 100000 in
theorem fnExactAllChecks_lifted (os : Os) (started : os.Started) (H : Type) (enc : TypeId × Value → H) :
    ReturnsInHanded {} Tryz.checked os 8 .any (fun w args => (Rows.fnExactAllChecksSpec.pre enc Tryz.prog Tryz.f8 Rows.fnExactAllChecksRow.domain false w args ∧ laidMetH Tryz.prog Rows.fnExactAllChecksRow.laid w) ∧ sizedMet enc Tryz.prog Tryz.f8 (OpenSpec.ofChange Rows.fnExactAllChecksSpec) false w args) (Rows.fnExactAllChecksSpec.post enc Tryz.prog Tryz.f8 false true false false) := by
  refine lifted_ofL (C := Tryz.checked) (tb := 4) Tryz.own started (by kernel_rfl) Tryz.func8 (ChangeSpec.witness_shaped (enc := enc) (C := Tryz.checked) (os := os) (X := fun w _ => laidMetH Tryz.prog Rows.fnExactAllChecksRow.laid w) false (World.laidAll Tryz.prog os Rows.fnExactAllChecksRow.laid) #[.agg #[.slice none 0 0, .slice none 0 0, .slice none 0 0, .slice none 0 0, .slice none 0 0], .agg #[.slice none 0 0, .slice none 0 0, .slice none 0 0], .agg #[.int .i64 0, .int .i64 0, .int .i64 0]] 8 (World.laidAll_os _ _ _) (World.shaped_of_ZipB (by kernel_rfl) (by kernel_rfl)) (by kernel_rfl) (by kernel_rfl) (by kernel_rfl) (by rw [MakeChecks.laidMetH_plain _ _ _ (by kernel_rfl)]; exact laidMet_laidAll _ (by kernel_rfl) (by kernel_rfl))) Tryz.laidOut rfl
    (fun ds h => by rw [show Tryz.f8.params.toList.length = 3 by kernel_rfl] at h; match ds, h with | [_, _, _], _ => rfl) (by kernel_rfl) Tryz.underlying4 (by rw [show Tryz.f8.params.toList = [32, 63, 87] by kernel_rfl]; simp only [List.forall_mem_cons, List.not_mem_nil, false_imp_iff, implies_true, and_true]; exact ⟨⟨by kernel_rfl, of_decide_eq_true (by kernel_rfl)⟩, ⟨by kernel_rfl, of_decide_eq_true (by kernel_rfl)⟩, ⟨by kernel_rfl, of_decide_eq_true (by kernel_rfl)⟩⟩) ?_
  intro W base args ds p hval0 hA0 hZ0
  have hval : ∀ (j : Nat) t v, Tryz.f8.params[j]? = some t → args[j]? = some v → Value.okWide Tryz.prog W .any base t v := hval0
  have hA0 : DataW.TrodAll enc Tryz.prog W 0 (fun _ => true) true Tryz.f8.params.toList args.toList ds p := hA0
  clear hval0
  rw [Tryz.params8] at hA0 hval
  obtain ⟨v0, vs0, d0, ds0, p0, q0, ha0, rfl, h0, z0, hA1, hZ1⟩ := trodU_cons hA0 hZ0
  obtain ⟨v1, vs1, d1, ds1, p1, q1, rfl, rfl, h1, z1, hA2, hZ2⟩ := trodU_cons hA1 hZ1
  obtain ⟨v2, vs2, d2, ds2, p2, q2, rfl, rfl, h2, z2, hA3, hZ3⟩ := trodU_cons hA2 hZ2
  obtain ⟨rfl, rfl⟩ := trodA_nil hA3
  obtain rfl := args_to ha0
  obtain ⟨fu0, h0⟩ := h0
  obtain ⟨y0, hr0, hR0⟩ := Rd_32 _ _ _ _ _ _ _ _ _ h0 z0
  obtain ⟨cs0, rfl, _⟩ := okWide_struct Tryz.underlying32 (hval 0 32 v0 rfl rfl)
  obtain ⟨u0_0, u0_1, u0_2, u0_3, u0_4, hv0, hs0_0, hs0_1, hs0_2, hs0_3, hs0_4⟩ := C_Block_open hr0
  have hv0 : cs0.toList = _ := hv0
  obtain rfl := cells_to hv0
  obtain ⟨fu1, h1⟩ := h1
  obtain ⟨y1, hr1, hR1⟩ := Rd_63 _ _ _ _ _ _ _ _ _ h1 z1
  obtain ⟨cs1, rfl, _⟩ := okWide_struct Tryz.underlying63 (hval 1 63 v1 rfl rfl)
  obtain ⟨u1_0, u1_1, u1_2, hv1, hs1_0, hs1_1, hs1_2⟩ := C_Timing_open hr1
  have hv1 : cs1.toList = _ := hv1
  obtain rfl := cells_to hv1
  obtain ⟨fu2, h2⟩ := h2
  obtain ⟨y2, hr2, hR2⟩ := Rd_87 _ _ _ _ _ _ _ _ _ h2 z2
  obtain ⟨cs2, rfl, _⟩ := okWide_struct Tryz.underlying87 (hval 2 87 v2 rfl rfl)
  have hv2 := C_Relation_open hr2
  have hv2 : cs2.toList = _ := hv2
  obtain rfl := cells_to hv2
  obtain ⟨n, hF⟩ := PFnExactAllChecks hR0 hR1 hR2
  exact W_54 hF (Nat.le_refl _) hs0_0 hs0_1 hs0_2 hs0_3 hs0_4 hs1_0 hs1_1 hs1_2
theorem fnExactAllChecks_inst : Tryz.f8.isInstance Tryz.prog Rows.fnExactAllChecksRow.origin Rows.fnExactAllChecksRow.targs := of_decide_eq_true (by kernel_rfl)
theorem fnExactAllChecks_wrap : Tryz.f8.isWrapper Tryz.prog Rows.fnExactAllChecksRow.wrapper Rows.fnExactAllChecksRow.mainSum := by unfold Func.isWrapper; first | (rw [if_pos (by decide +kernel)]; kernel_rfl) | (rw [if_neg (by decide +kernel)]; exact ⟨rfl, rfl⟩)
theorem fnExactAllChecks_holds : Rows.FnExactAllChecksSaid :=
  OpenClaim.holds_of_wide 8 Tryz.f8 rfl rfl rfl rfl rfl rfl rfl ⟨rfl, rfl, rfl, rfl, rfl⟩ rfl rfl rfl rfl rfl fnExactAllChecks_fn Tryz.func8 fnExactAllChecks_joined
    fnExactAllChecks_inst fnExactAllChecks_wrap
    (fun os started H enc _ => fnExactAllChecks_lifted os started H enc)
theorem fnExactAllChecks_text : Rows.fnExactAllChecksRow.wfByText (OpenSpec.ofChange Rows.fnExactAllChecksSpec) = true := by kernel_rfl
theorem fnExactAllChecks_main : Tryz.prog.mainIs = some (Rows.fnExactAllChecksCard.stood.harness.1, Rows.fnExactAllChecksCard.stood.harness.2.toList) := by kernel_rfl
theorem fnExactAllChecks_looks : false = Tryz.prog.looks [] := by kernel_rfl
theorem fnExactAllChecks_stand : ([32, 63, 87].all fun u => !Tryz.prog.wantsStandIn u) = true := by kernel_rfl
theorem fnExactAllChecks_goes : false = Rows.fnExactAllChecksRow.goesBy Tryz.prog := by kernel_rfl
theorem fnExactAllChecks_card : Rows.FnExactAllChecksCardSaid :=
  Claim7.holds_tied_plain_at .later [] Rows.fnExactAllChecksCard.laidKinds true Rows.fnExactAllChecksCard.stood.harness false fnExactAllChecks_holds (fun _ h => by cases h) fnExactAllChecks_text (fun _ h => by cases h) fnExactAllChecks_row_tie rfl ⟨rfl, rfl⟩ fnExactAllChecks_main rfl
    (fun f fn hf hfn => by
      obtain rfl : f = 8 := Option.some.inj (fnExactAllChecks_fn.symm.trans hf) |>.symm
      obtain rfl : fn = Tryz.f8 := (Option.some.inj (Tryz.func8.symm.trans hfn)).symm
      exact ⟨fnExactAllChecks_looks, fun j t ht => by
        rw [Tryz.params8] at ht
        have hm : t ∈ [32, 63, 87] := by simpa using Array.mem_of_getElem? ht
        exact (show Tryz.prog.wantsStandIn t = false by simpa using List.all_eq_true.1 fnExactAllChecks_stand t hm)⟩)
    fnExactAllChecks_goes
end Go.Proofs.YtiaobghojdehbaaGreatDoor
