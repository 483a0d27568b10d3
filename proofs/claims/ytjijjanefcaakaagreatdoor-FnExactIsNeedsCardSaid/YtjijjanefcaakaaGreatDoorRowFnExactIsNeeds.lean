/- PROVED: FnExactIsNeeds returns true for every input, and its arguments read behind the call as before; no condition. -/
import Derived.Test.YtjijjanefcaakaaGreatDoorRows
import Derived.Test.YtjijjanefcaakaaGreatDoorLawFnExactIsNeeds
import Derived.ProofKit
import Derived.Test.YtjijjanefcaakaaGreatDoorCards
import Derived.Test.YtjijjanefcaakaaGreatDoorTie
import Derived.Lay
import Derived.SevenTiedAt
import Derived.Stop.Joined
import Derived.Test.YtjijjanefcaakaaGreatDoorJoinFnExactIsNeeds
set_option linter.all false
namespace Go.Proofs.YtjijjanefcaakaaGreatDoor
open Go.ChangeShapes Go.WideShapes Go.ChangeAt Go.RowKit Go.Eng
theorem Tryz.own : ownKnob Tryz.prog.godebug = none := by kernel_rfl
theorem Tryz.laidOut : laidOutB Tryz.prog = true := by kernel_rfl
set_option maxRecDepth 100000 in
theorem fnExactIsNeeds_lifted (os : Os) (started : os.Started) (H : Type) (enc : TypeId × Value → H) :
    ReturnsInHanded {} Tryz.checked os 4 .any (fun w args => (Rows.fnExactIsNeedsSpec.pre enc Tryz.prog Tryz.f4 Rows.fnExactIsNeedsRow.domain false w args ∧ laidMetH Tryz.prog Rows.fnExactIsNeedsRow.laid w) ∧ sizedMet enc Tryz.prog Tryz.f4 (OpenSpec.ofChange Rows.fnExactIsNeedsSpec) false w args) (Rows.fnExactIsNeedsSpec.post enc Tryz.prog Tryz.f4 false true false false) := by
  refine lifted_ofL (C := Tryz.checked) (tb := 4) Tryz.own started (by kernel_rfl) Tryz.func4 (ChangeSpec.witness_shaped (enc := enc) (C := Tryz.checked) (os := os) (X := fun w _ => laidMetH Tryz.prog Rows.fnExactIsNeedsRow.laid w) false (World.laidAll Tryz.prog os Rows.fnExactIsNeedsRow.laid) #[.agg #[.slice none 0 0, .slice none 0 0, .slice none 0 0, .slice none 0 0, .slice none 0 0], .agg #[.slice none 0 0, .slice none 0 0]] 8 (World.laidAll_os _ _ _) (World.shaped_of_ZipB (by kernel_rfl) (by kernel_rfl)) (by kernel_rfl) (by kernel_rfl) (by kernel_rfl) (by rw [MakeChecks.laidMetH_plain _ _ _ (by kernel_rfl)]; exact laidMet_laidAll _ (by kernel_rfl) (by kernel_rfl))) Tryz.laidOut rfl
    (fun ds h => by rw [show Tryz.f4.params.toList.length = 2 by kernel_rfl] at h; match ds, h with | [_, _], _ => rfl) (by kernel_rfl) Tryz.underlying4 (by rw [show Tryz.f4.params.toList = [32, 56] by kernel_rfl]; simp only [List.forall_mem_cons, List.not_mem_nil, false_imp_iff, implies_true, and_true]; exact ⟨⟨by kernel_rfl, of_decide_eq_true (by kernel_rfl)⟩, ⟨by kernel_rfl, of_decide_eq_true (by kernel_rfl)⟩⟩) ?_
  intro W base args ds p hval0 hA0
  have hval : ∀ (j : Nat) t v, Tryz.f4.params[j]? = some t → args[j]? = some v → Value.okWide Tryz.prog W .any base t v := hval0
  have hA : DataW.TrodAll enc Tryz.prog W 0 (fun _ => true) true Tryz.f4.params.toList args.toList ds p := hA0
  clear hval0 hA0
  rw [Tryz.params4] at hA hval
  obtain ⟨v0, v1, d0, d1, p0, p1, rfl, rfl, rfl, h0, h1⟩ := trodAll_two hA
  obtain ⟨fu0, h0⟩ := h0
  obtain ⟨y0, hr0, hR0⟩ := Rd_32 _ _ _ _ _ _ _ _ _ h0
  obtain ⟨cs0, rfl, _⟩ := okWide_struct Tryz.underlying32 (hval 0 32 v0 rfl rfl)
  obtain ⟨u0_0, u0_1, u0_2, u0_3, u0_4, hv0, hs0_0, hs0_1, hs0_2, hs0_3, hs0_4⟩ := C_Block_open hr0
  have hv0 : cs0.toList = _ := hv0
  obtain rfl := cells_to hv0
  obtain ⟨fu1, h1⟩ := h1
  obtain ⟨y1, hr1, hR1⟩ := Rd_56 _ _ _ _ _ _ _ _ _ h1
  obtain ⟨cs1, rfl, _⟩ := okWide_struct Tryz.underlying56 (hval 1 56 v1 rfl rfl)
  obtain ⟨u1_0, u1_1, hv1, hs1_0, hs1_1⟩ := C_Needs_open hr1
  have hv1 : cs1.toList = _ := hv1
  obtain rfl := cells_to hv1
  obtain ⟨n, hF⟩ := PFnExactIsNeeds hR0 hR1
  exact W_laws_FnExactIsNeeds hF (Nat.le_refl _) hs0_0 hs0_1 hs0_2 hs0_3 hs0_4 hs1_0 hs1_1
theorem fnExactIsNeeds_inst : Tryz.f4.isInstance Tryz.prog Rows.fnExactIsNeedsRow.origin Rows.fnExactIsNeedsRow.targs := of_decide_eq_true (by kernel_rfl)
theorem fnExactIsNeeds_wrap : Tryz.f4.isWrapper Tryz.prog Rows.fnExactIsNeedsRow.wrapper Rows.fnExactIsNeedsRow.mainSum := by unfold Func.isWrapper; first | (rw [if_pos (by decide +kernel)]; kernel_rfl) | (rw [if_neg (by decide +kernel)]; exact ⟨rfl, rfl⟩)
theorem fnExactIsNeeds_holds : Rows.FnExactIsNeedsSaid :=
  OpenClaim.holds_of_wide 4 Tryz.f4 rfl rfl rfl rfl rfl rfl rfl ⟨rfl, rfl, rfl, rfl, rfl⟩ rfl rfl rfl rfl rfl fnExactIsNeeds_fn Tryz.func4 fnExactIsNeeds_joined
    fnExactIsNeeds_inst fnExactIsNeeds_wrap
    (fun os started H enc _ => fnExactIsNeeds_lifted os started H enc)
theorem fnExactIsNeeds_text : Rows.fnExactIsNeedsRow.wfByText (OpenSpec.ofChange Rows.fnExactIsNeedsSpec) = true := by kernel_rfl
theorem fnExactIsNeeds_main : Tryz.prog.mainIs = some (Rows.fnExactIsNeedsCard.stood.harness.1, Rows.fnExactIsNeedsCard.stood.harness.2.toList) := by kernel_rfl
theorem fnExactIsNeeds_looks : false = Tryz.prog.looks [] := by kernel_rfl
theorem fnExactIsNeeds_stand : ([32, 56].all fun u => !Tryz.prog.wantsStandIn u) = true := by kernel_rfl
theorem fnExactIsNeeds_goes : false = Rows.fnExactIsNeedsRow.goesBy Tryz.prog := by kernel_rfl
theorem fnExactIsNeeds_card : Rows.FnExactIsNeedsCardSaid :=
  Claim7.holds_tied_plain_at .later [] Rows.fnExactIsNeedsCard.laidKinds true Rows.fnExactIsNeedsCard.stood.harness false fnExactIsNeeds_holds (fun _ h => by cases h) fnExactIsNeeds_text (fun _ h => by cases h) fnExactIsNeeds_row_tie rfl ⟨rfl, rfl⟩ fnExactIsNeeds_main rfl
    (fun f fn hf hfn => by
      obtain rfl : f = 4 := Option.some.inj (fnExactIsNeeds_fn.symm.trans hf) |>.symm
      obtain rfl : fn = Tryz.f4 := (Option.some.inj (Tryz.func4.symm.trans hfn)).symm
      exact ⟨fnExactIsNeeds_looks, fun j t ht => by
        rw [Tryz.params4] at ht
        have hm : t ∈ [32, 56] := by simpa using Array.mem_of_getElem? ht
        exact (show Tryz.prog.wantsStandIn t = false by simpa using List.all_eq_true.1 fnExactIsNeeds_stand t hm)⟩)
    fnExactIsNeeds_goes
end Go.Proofs.YtjijjanefcaakaaGreatDoor
