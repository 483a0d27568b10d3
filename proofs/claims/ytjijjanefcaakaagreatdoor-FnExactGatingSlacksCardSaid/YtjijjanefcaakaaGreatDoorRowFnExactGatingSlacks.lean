/- PROVED: FnExactGatingSlacks returns true for every input, and its arguments read behind the call as before; no condition. -/
import Derived.Test.YtjijjanefcaakaaGreatDoorRows
import Derived.Test.YtjijjanefcaakaaGreatDoorLawFnExactGatingSlacks
import Derived.ProofKit
import Derived.Test.YtjijjanefcaakaaGreatDoorCards
import Derived.Test.YtjijjanefcaakaaGreatDoorTie
import Derived.Lay
import Derived.SevenTiedAt
import Derived.Stop.Joined
import Derived.Test.YtjijjanefcaakaaGreatDoorJoinAFnExactGatingSlacks
import Derived.Test.YtjijjanefcaakaaGreatDoorJoinBFnExactGatingSlacks
set_option linter.all false
namespace Go.Proofs.YtjijjanefcaakaaGreatDoor
open Go.ChangeShapes Go.WideShapes Go.ChangeAt Go.RowKit Go.Eng
theorem Tryz.own : ownKnob Tryz.prog.godebug = none := by kernel_rfl
theorem Tryz.laidOut : laidOutB Tryz.prog = true := by kernel_rfl
theorem and_tt {a b : Bool} (ha : a = true) (hb : b = true) : (a && b) = true := by rw [ha, hb]; rfl
set_option maxRecDepth 100000 in
theorem fnExactGatingSlacks_joined : joinedFacts Tryz.prog 9 Tryz.f9 Rows.fnExactGatingSlacksSpec Rows.fnExactGatingSlacksRow = true := by
  unfold joinedFacts
  exact (and_tt (and_tt (and_tt (and_tt (and_tt (and_tt (and_tt (and_tt (and_tt (and_tt (and_tt (and_tt (and_tt (and_tt (and_tt (and_tt (and_tt (and_tt (and_tt (and_tt (and_tt (and_tt (and_tt (and_tt (and_tt (and_tt (and_tt (and_tt (and_tt (and_tt (and_tt fnExactGatingSlacks_j0 fnExactGatingSlacks_j1) fnExactGatingSlacks_j2) fnExactGatingSlacks_j3) fnExactGatingSlacks_j4) fnExactGatingSlacks_j5) fnExactGatingSlacks_j6) fnExactGatingSlacks_j7) fnExactGatingSlacks_j8) fnExactGatingSlacks_j9) fnExactGatingSlacks_j10) fnExactGatingSlacks_j11) fnExactGatingSlacks_j12) fnExactGatingSlacks_j13) fnExactGatingSlacks_j14) fnExactGatingSlacks_j15) fnExactGatingSlacks_j16) fnExactGatingSlacks_j17) fnExactGatingSlacks_j18) fnExactGatingSlacks_j19) fnExactGatingSlacks_j20) fnExactGatingSlacks_j21) fnExactGatingSlacks_j22) fnExactGatingSlacks_j23) fnExactGatingSlacks_j24) fnExactGatingSlacks_j25) fnExactGatingSlacks_j26) fnExactGatingSlacks_j27) fnExactGatingSlacks_j28) fnExactGatingSlacks_j29) fnExactGatingSlacks_j30) fnExactGatingSlacks_j31)
set_option maxRecDepth 100000 in
theorem fnExactGatingSlacks_lifted (os : Os) (started : os.Started) (H : Type) (enc : TypeId × Value → H) :
    ReturnsInHanded {} Tryz.checked os 9 .any (fun w args => (Rows.fnExactGatingSlacksSpec.pre enc Tryz.prog Tryz.f9 Rows.fnExactGatingSlacksRow.domain false w args ∧ laidMetH Tryz.prog Rows.fnExactGatingSlacksRow.laid w) ∧ sizedMet enc Tryz.prog Tryz.f9 (OpenSpec.ofChange Rows.fnExactGatingSlacksSpec) false w args) (Rows.fnExactGatingSlacksSpec.post enc Tryz.prog Tryz.f9 false true false false) := by
  refine lifted_ofL (C := Tryz.checked) (tb := 4) Tryz.own started (by kernel_rfl) Tryz.func9 (ChangeSpec.witness_shaped (enc := enc) (C := Tryz.checked) (os := os) (X := fun w _ => laidMetH Tryz.prog Rows.fnExactGatingSlacksRow.laid w) false (World.laidAll Tryz.prog os Rows.fnExactGatingSlacksRow.laid) #[.agg #[.slice none 0 0, .slice none 0 0, .slice none 0 0, .slice none 0 0, .slice none 0 0], .agg #[.slice none 0 0, .slice none 0 0, .slice none 0 0], .agg #[.int .i64 0, .int .i64 0, .int .i64 0, .int .i64 0], .agg #[.int .i64 0, .int .i64 0, .int .i64 0]] 8 (World.laidAll_os _ _ _) (World.shaped_of_ZipB (by kernel_rfl) (by kernel_rfl)) (by kernel_rfl) (by kernel_rfl) (by kernel_rfl) (by rw [MakeChecks.laidMetH_plain _ _ _ (by kernel_rfl)]; exact laidMet_laidAll _ (by kernel_rfl) (by kernel_rfl))) Tryz.laidOut rfl
    (fun ds h => by rw [show Tryz.f9.params.toList.length = 4 by kernel_rfl] at h; match ds, h with | [_, _, _, _], _ => rfl) (by kernel_rfl) Tryz.underlying4 (by rw [show Tryz.f9.params.toList = [32, 66, 86, 88] by kernel_rfl]; simp only [List.forall_mem_cons, List.not_mem_nil, false_imp_iff, implies_true, and_true]; exact ⟨⟨by kernel_rfl, of_decide_eq_true (by kernel_rfl)⟩, ⟨by kernel_rfl, of_decide_eq_true (by kernel_rfl)⟩, ⟨by kernel_rfl, of_decide_eq_true (by kernel_rfl)⟩, ⟨by kernel_rfl, of_decide_eq_true (by kernel_rfl)⟩⟩) ?_
  intro W base args ds p hval0 hA0
  have hval : ∀ (j : Nat) t v, Tryz.f9.params[j]? = some t → args[j]? = some v → Value.okWide Tryz.prog W .any base t v := hval0
  have hA : DataW.TrodAll enc Tryz.prog W 0 (fun _ => true) true Tryz.f9.params.toList args.toList ds p := hA0
  clear hval0 hA0
  rw [Tryz.params9] at hA hval
  obtain ⟨v0, vs0, d0, ds0, p0, q0, ha0, rfl, h0, hA1⟩ := trodA_cons hA
  obtain ⟨v1, vs1, d1, ds1, p1, q1, rfl, rfl, h1, hA2⟩ := trodA_cons hA1
  obtain ⟨v2, vs2, d2, ds2, p2, q2, rfl, rfl, h2, hA3⟩ := trodA_cons hA2
  obtain ⟨v3, vs3, d3, ds3, p3, q3, rfl, rfl, h3, hA4⟩ := trodA_cons hA3
  obtain ⟨rfl, rfl⟩ := trodA_nil hA4
  obtain rfl := args_to ha0
  obtain ⟨fu0, h0⟩ := h0
  obtain ⟨y0, hr0, hR0⟩ := Rd_32 _ _ _ _ _ _ _ _ _ h0
  obtain ⟨cs0, rfl, _⟩ := okWide_struct Tryz.underlying32 (hval 0 32 v0 rfl rfl)
  obtain ⟨u0_0, u0_1, u0_2, u0_3, u0_4, hv0, hs0_0, hs0_1, hs0_2, hs0_3, hs0_4⟩ := C_Block_open hr0
  have hv0 : cs0.toList = _ := hv0
  obtain rfl := cells_to hv0
  obtain ⟨fu1, h1⟩ := h1
  obtain ⟨y1, hr1, hR1⟩ := Rd_66 _ _ _ _ _ _ _ _ _ h1
  obtain ⟨cs1, rfl, _⟩ := okWide_struct Tryz.underlying66 (hval 1 66 v1 rfl rfl)
  obtain ⟨u1_0, u1_1, u1_2, hv1, hs1_0, hs1_1, hs1_2⟩ := C_Timing_open hr1
  have hv1 : cs1.toList = _ := hv1
  obtain rfl := cells_to hv1
  obtain ⟨fu2, h2⟩ := h2
  obtain ⟨y2, hr2, hR2⟩ := Rd_86 _ _ _ _ _ _ _ _ _ h2
  obtain ⟨cs2, rfl, _⟩ := okWide_struct Tryz.underlying86 (hval 2 86 v2 rfl rfl)
  have hv2 := C_Gate_open hr2
  have hv2 : cs2.toList = _ := hv2
  obtain rfl := cells_to hv2
  obtain ⟨fu3, h3⟩ := h3
  obtain ⟨y3, hr3, hR3⟩ := Rd_88 _ _ _ _ _ _ _ _ _ h3
  obtain ⟨cs3, rfl, _⟩ := okWide_struct Tryz.underlying88 (hval 3 88 v3 rfl rfl)
  have hv3 := C_Relation_open hr3
  have hv3 : cs3.toList = _ := hv3
  obtain rfl := cells_to hv3
  obtain ⟨n, hF⟩ := PFnExactGatingSlacks hR0 hR1 hR2 hR3
  exact W_laws_FnExactGatingSlacks hF (Nat.le_refl _) hs0_0 hs0_1 hs0_2 hs0_3 hs0_4 hs1_0 hs1_1 hs1_2
theorem fnExactGatingSlacks_inst : Tryz.f9.isInstance Tryz.prog Rows.fnExactGatingSlacksRow.origin Rows.fnExactGatingSlacksRow.targs := of_decide_eq_true (by kernel_rfl)
theorem fnExactGatingSlacks_wrap : Tryz.f9.isWrapper Tryz.prog Rows.fnExactGatingSlacksRow.wrapper Rows.fnExactGatingSlacksRow.mainSum := by unfold Func.isWrapper; first | (rw [if_pos (by decide +kernel)]; kernel_rfl) | (rw [if_neg (by decide +kernel)]; exact ⟨rfl, rfl⟩)
theorem fnExactGatingSlacks_holds : Rows.FnExactGatingSlacksSaid :=
  OpenClaim.holds_of_wide 9 Tryz.f9 rfl rfl rfl rfl rfl rfl rfl ⟨rfl, rfl, rfl, rfl, rfl⟩ rfl rfl rfl rfl rfl fnExactGatingSlacks_fn Tryz.func9 fnExactGatingSlacks_joined
    fnExactGatingSlacks_inst fnExactGatingSlacks_wrap
    (fun os started H enc _ => fnExactGatingSlacks_lifted os started H enc)
theorem fnExactGatingSlacks_text : Rows.fnExactGatingSlacksRow.wfByText (OpenSpec.ofChange Rows.fnExactGatingSlacksSpec) = true := by kernel_rfl
theorem fnExactGatingSlacks_main : Tryz.prog.mainIs = some (Rows.fnExactGatingSlacksCard.stood.harness.1, Rows.fnExactGatingSlacksCard.stood.harness.2.toList) := by kernel_rfl
theorem fnExactGatingSlacks_looks : false = Tryz.prog.looks [] := by kernel_rfl
theorem fnExactGatingSlacks_stand : ([32, 66, 86, 88].all fun u => !Tryz.prog.wantsStandIn u) = true := by kernel_rfl
theorem fnExactGatingSlacks_goes : false = Rows.fnExactGatingSlacksRow.goesBy Tryz.prog := by kernel_rfl
theorem fnExactGatingSlacks_card : Rows.FnExactGatingSlacksCardSaid :=
  Claim7.holds_tied_plain_at .later [] Rows.fnExactGatingSlacksCard.laidKinds true Rows.fnExactGatingSlacksCard.stood.harness false fnExactGatingSlacks_holds (fun _ h => by cases h) fnExactGatingSlacks_text (fun _ h => by cases h) fnExactGatingSlacks_row_tie rfl ⟨rfl, rfl⟩ fnExactGatingSlacks_main rfl
    (fun f fn hf hfn => by
      obtain rfl : f = 9 := Option.some.inj (fnExactGatingSlacks_fn.symm.trans hf) |>.symm
      obtain rfl : fn = Tryz.f9 := (Option.some.inj (Tryz.func9.symm.trans hfn)).symm
      exact ⟨fnExactGatingSlacks_looks, fun j t ht => by
        rw [Tryz.params9] at ht
        have hm : t ∈ [32, 66, 86, 88] := by simpa using Array.mem_of_getElem? ht
        exact (show Tryz.prog.wantsStandIn t = false by simpa using List.all_eq_true.1 fnExactGatingSlacks_stand t hm)⟩)
    fnExactGatingSlacks_goes
end Go.Proofs.YtjijjanefcaakaaGreatDoor
