/- PROVED: FnExactSkewOf returns true for every input, and its arguments read behind the call as before; no condition. -/
import Derived.Test.YtjijjanefcaakaaGreatDoorRows
import Derived.Test.YtjijjanefcaakaaGreatDoorLawFnExactSkewOf
import Derived.ProofKit
import Derived.Test.YtjijjanefcaakaaGreatDoorCards
import Derived.Test.YtjijjanefcaakaaGreatDoorTie
import Derived.Lay
import Derived.SevenTiedAt
import Derived.Stop.Joined
import Derived.Test.YtjijjanefcaakaaGreatDoorJoinAFnExactSkewOf
import Derived.Test.YtjijjanefcaakaaGreatDoorJoinBFnExactSkewOf
set_option linter.all false
namespace Go.Proofs.YtjijjanefcaakaaGreatDoor
open Go.ChangeShapes Go.WideShapes Go.ChangeAt Go.RowKit Go.Eng
theorem Tryz.own : ownKnob Tryz.prog.godebug = none := by kernel_rfl
theorem Tryz.laidOut : laidOutB Tryz.prog = true := by kernel_rfl
theorem and_tt {a b : Bool} (ha : a = true) (hb : b = true) : (a && b) = true := by rw [ha, hb]; rfl
set_option maxRecDepth 100000 in
theorem fnExactSkewOf_joined : joinedFacts Tryz.prog 6 Tryz.f6 Rows.fnExactSkewOfSpec Rows.fnExactSkewOfRow = true := by
  unfold joinedFacts
  exact (and_tt (and_tt (and_tt (and_tt (and_tt (and_tt (and_tt (and_tt (and_tt (and_tt (and_tt (and_tt (and_tt (and_tt (and_tt (and_tt (and_tt (and_tt (and_tt (and_tt (and_tt (and_tt (and_tt (and_tt (and_tt (and_tt (and_tt (and_tt (and_tt (and_tt (and_tt fnExactSkewOf_j0 fnExactSkewOf_j1) fnExactSkewOf_j2) fnExactSkewOf_j3) fnExactSkewOf_j4) fnExactSkewOf_j5) fnExactSkewOf_j6) fnExactSkewOf_j7) fnExactSkewOf_j8) fnExactSkewOf_j9) fnExactSkewOf_j10) fnExactSkewOf_j11) fnExactSkewOf_j12) fnExactSkewOf_j13) fnExactSkewOf_j14) fnExactSkewOf_j15) fnExactSkewOf_j16) fnExactSkewOf_j17) fnExactSkewOf_j18) fnExactSkewOf_j19) fnExactSkewOf_j20) fnExactSkewOf_j21) fnExactSkewOf_j22) fnExactSkewOf_j23) fnExactSkewOf_j24) fnExactSkewOf_j25) fnExactSkewOf_j26) fnExactSkewOf_j27) fnExactSkewOf_j28) fnExactSkewOf_j29) fnExactSkewOf_j30) fnExactSkewOf_j31)
set_option maxRecDepth 100000 in
theorem fnExactSkewOf_lifted (os : Os) (started : os.Started) (H : Type) (enc : TypeId × Value → H) :
    ReturnsInHanded {} Tryz.checked os 6 .any (fun w args => (Rows.fnExactSkewOfSpec.pre enc Tryz.prog Tryz.f6 Rows.fnExactSkewOfRow.domain false w args ∧ laidMetH Tryz.prog Rows.fnExactSkewOfRow.laid w) ∧ sizedMet enc Tryz.prog Tryz.f6 (OpenSpec.ofChange Rows.fnExactSkewOfSpec) false w args) (Rows.fnExactSkewOfSpec.post enc Tryz.prog Tryz.f6 false true false false) := by
  refine lifted_ofL (C := Tryz.checked) (tb := 4) Tryz.own started (by kernel_rfl) Tryz.func6 (ChangeSpec.witness_shaped (enc := enc) (C := Tryz.checked) (os := os) (X := fun w _ => laidMetH Tryz.prog Rows.fnExactSkewOfRow.laid w) false (World.laidAll Tryz.prog os Rows.fnExactSkewOfRow.laid) #[.agg #[.slice none 0 0, .slice none 0 0, .slice none 0 0, .slice none 0 0, .slice none 0 0], .agg #[.slice none 0 0, .slice none 0 0, .slice none 0 0], .slice none 0 0] 8 (World.laidAll_os _ _ _) (World.shaped_of_ZipB (by kernel_rfl) (by kernel_rfl)) (by kernel_rfl) (by kernel_rfl) (by kernel_rfl) (by rw [MakeChecks.laidMetH_plain _ _ _ (by kernel_rfl)]; exact laidMet_laidAll _ (by kernel_rfl) (by kernel_rfl))) Tryz.laidOut rfl
    (fun ds h => by rw [show Tryz.f6.params.toList.length = 3 by kernel_rfl] at h; match ds, h with | [_, _, _], _ => rfl) (by kernel_rfl) Tryz.underlying4 (by rw [show Tryz.f6.params.toList = [32, 66, 75] by kernel_rfl]; simp only [List.forall_mem_cons, List.not_mem_nil, false_imp_iff, implies_true, and_true]; exact ⟨⟨by kernel_rfl, of_decide_eq_true (by kernel_rfl)⟩, ⟨by kernel_rfl, of_decide_eq_true (by kernel_rfl)⟩, ⟨by kernel_rfl, of_decide_eq_true (by kernel_rfl)⟩⟩) ?_
  intro W base args ds p hval0 hA0
  have hval : ∀ (j : Nat) t v, Tryz.f6.params[j]? = some t → args[j]? = some v → Value.okWide Tryz.prog W .any base t v := hval0
  have hA : DataW.TrodAll enc Tryz.prog W 0 (fun _ => true) true Tryz.f6.params.toList args.toList ds p := hA0
  clear hval0 hA0
  rw [Tryz.params6] at hA hval
  obtain ⟨v0, vs0, d0, ds0, p0, q0, ha0, rfl, h0, hA1⟩ := trodA_cons hA
  obtain ⟨v1, vs1, d1, ds1, p1, q1, rfl, rfl, h1, hA2⟩ := trodA_cons hA1
  obtain ⟨v2, vs2, d2, ds2, p2, q2, rfl, rfl, h2, hA3⟩ := trodA_cons hA2
  obtain ⟨rfl, rfl⟩ := trodA_nil hA3
  obtain rfl := args_to ha0
  obtain ⟨fu0, h0⟩ := h0
  obtain ⟨y0, hr0, hR0⟩ := Rd_32 _ _ _ _ _ _ _ _ _ h0
  obtain ⟨cs0, rfl, _⟩ := okWide_struct Tryz.underlying32 (hval 0 32 v0 rfl rfl)
  obtain ⟨u0_0, u0_1, u0_2, u0_3, u0_4, hv0, hs0_0, hs0_1, hs0_2, hs0_3, hs0_4⟩ := C_Block_open hr0
  have hv0 : cs0.toList = _ := hv0
  obtain rfl := cells_to hv0
  obtain ⟨fu1, h1⟩ := h1
  obtain ⟨y1, hr1, hR1⟩ := Rd_66 _ _ _ _ _ _ _ _ _ h1
  obtain ⟨cs1, rfl, _⟩ := okWide_struct Tryz.underlying66 (hval 1 66 v1 rfl rfl)
  obtain ⟨u1_0, u1_1, u1_2, hv1, hs1_0, hs1_1, hs1_2⟩ := C_Timing_open hr1
  have hv1 : cs1.toList = _ := hv1
  obtain rfl := cells_to hv1
  obtain ⟨fu2, h2⟩ := h2
  obtain ⟨y2, hr2, hR2⟩ := Rd_75 _ _ _ _ _ _ _ _ _ h2
  obtain ⟨a2, l2, c2, rfl⟩ := okWide_slice Tryz.underlying75 (hval 2 75 v2 rfl rfl)
  obtain ⟨u2, hv2, hs2⟩ := hr2
  obtain rfl : Value.slice a2 l2 c2 = u2 := by simpa [Value.cells] using hv2
  obtain ⟨n, hF⟩ := PFnExactSkewOf hR0 hR1 hR2
  exact W_laws_FnExactSkewOf hF (Nat.le_refl _) hs0_0 hs0_1 hs0_2 hs0_3 hs0_4 hs1_0 hs1_1 hs1_2 hs2
theorem fnExactSkewOf_inst : Tryz.f6.isInstance Tryz.prog Rows.fnExactSkewOfRow.origin Rows.fnExactSkewOfRow.targs := of_decide_eq_true (by kernel_rfl)
theorem fnExactSkewOf_wrap : Tryz.f6.isWrapper Tryz.prog Rows.fnExactSkewOfRow.wrapper Rows.fnExactSkewOfRow.mainSum := by unfold Func.isWrapper; first | (rw [if_pos (by decide +kernel)]; kernel_rfl) | (rw [if_neg (by decide +kernel)]; exact ⟨rfl, rfl⟩)
theorem fnExactSkewOf_holds : Rows.FnExactSkewOfSaid :=
  OpenClaim.holds_of_wide 6 Tryz.f6 rfl rfl rfl rfl rfl rfl rfl ⟨rfl, rfl, rfl, rfl, rfl⟩ rfl rfl rfl rfl rfl fnExactSkewOf_fn Tryz.func6 fnExactSkewOf_joined
    fnExactSkewOf_inst fnExactSkewOf_wrap
    (fun os started H enc _ => fnExactSkewOf_lifted os started H enc)
theorem fnExactSkewOf_text : Rows.fnExactSkewOfRow.wfByText (OpenSpec.ofChange Rows.fnExactSkewOfSpec) = true := by kernel_rfl
theorem fnExactSkewOf_main : Tryz.prog.mainIs = some (Rows.fnExactSkewOfCard.stood.harness.1, Rows.fnExactSkewOfCard.stood.harness.2.toList) := by kernel_rfl
theorem fnExactSkewOf_looks : false = Tryz.prog.looks [] := by kernel_rfl
theorem fnExactSkewOf_stand : ([32, 66, 75].all fun u => !Tryz.prog.wantsStandIn u) = true := by kernel_rfl
theorem fnExactSkewOf_goes : false = Rows.fnExactSkewOfRow.goesBy Tryz.prog := by kernel_rfl
theorem fnExactSkewOf_card : Rows.FnExactSkewOfCardSaid :=
  Claim7.holds_tied_plain_at .later [] Rows.fnExactSkewOfCard.laidKinds true Rows.fnExactSkewOfCard.stood.harness false fnExactSkewOf_holds (fun _ h => by cases h) fnExactSkewOf_text (fun _ h => by cases h) fnExactSkewOf_row_tie rfl ⟨rfl, rfl⟩ fnExactSkewOf_main rfl
    (fun f fn hf hfn => by
      obtain rfl : f = 6 := Option.some.inj (fnExactSkewOf_fn.symm.trans hf) |>.symm
      obtain rfl : fn = Tryz.f6 := (Option.some.inj (Tryz.func6.symm.trans hfn)).symm
      exact ⟨fnExactSkewOf_looks, fun j t ht => by
        rw [Tryz.params6] at ht
        have hm : t ∈ [32, 66, 75] := by simpa using Array.mem_of_getElem? ht
        exact (show Tryz.prog.wantsStandIn t = false by simpa using List.all_eq_true.1 fnExactSkewOf_stand t hm)⟩)
    fnExactSkewOf_goes
end Go.Proofs.YtjijjanefcaakaaGreatDoor
