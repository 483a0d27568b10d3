/- PROVED: FnExactIsTargets returns true for every input, and its arguments read behind the call as before; no condition. -/
import Derived.Test.YtjijjanefcaakaaGreatDoorRows
import Derived.Test.YtjijjanefcaakaaGreatDoorLawFnExactIsTargets
import Derived.ProofKit
import Derived.Test.YtjijjanefcaakaaGreatDoorCards
import Derived.Test.YtjijjanefcaakaaGreatDoorTie
import Derived.Lay
import Derived.SevenTiedAt
import Derived.Stop.Joined
import Derived.Test.YtjijjanefcaakaaGreatDoorJoinFnExactIsTargets
set_option linter.all false
namespace Go.Proofs.YtjijjanefcaakaaGreatDoor
open Go.ChangeShapes Go.WideShapes Go.ChangeAt Go.RowKit Go.Eng
theorem Tryz.own : ownKnob Tryz.prog.godebug = none := by kernel_rfl
theorem Tryz.laidOut : laidOutB Tryz.prog = true := by kernel_rfl
set_option maxRecDepth 100000 in
theorem fnExactIsTargets_lifted (os : Os) (started : os.Started) (H : Type) (enc : TypeId × Value → H) :
    ReturnsInHanded {} Tryz.checked os 3 .any (fun w args => (Rows.fnExactIsTargetsSpec.pre enc Tryz.prog Tryz.f3 Rows.fnExactIsTargetsRow.domain false w args ∧ laidMetH Tryz.prog Rows.fnExactIsTargetsRow.laid w) ∧ sizedMet enc Tryz.prog Tryz.f3 (OpenSpec.ofChange Rows.fnExactIsTargetsSpec) false w args) (Rows.fnExactIsTargetsSpec.post enc Tryz.prog Tryz.f3 false true false false) := by
  refine lifted_ofL (C := Tryz.checked) (tb := 4) Tryz.own started (by kernel_rfl) Tryz.func3 (ChangeSpec.witness_shaped (enc := enc) (C := Tryz.checked) (os := os) (X := fun w _ => laidMetH Tryz.prog Rows.fnExactIsTargetsRow.laid w) false (World.laidAll Tryz.prog os Rows.fnExactIsTargetsRow.laid) #[.agg #[.slice none 0 0, .slice none 0 0, .slice none 0 0, .slice none 0 0, .slice none 0 0], .slice none 0 0] 8 (World.laidAll_os _ _ _) (World.shaped_of_ZipB (by kernel_rfl) (by kernel_rfl)) (by kernel_rfl) (by kernel_rfl) (by kernel_rfl) (by rw [MakeChecks.laidMetH_plain _ _ _ (by kernel_rfl)]; exact laidMet_laidAll _ (by kernel_rfl) (by kernel_rfl))) Tryz.laidOut rfl
    (fun ds h => by rw [show Tryz.f3.params.toList.length = 2 by kernel_rfl] at h; match ds, h with | [_, _], _ => rfl) (by kernel_rfl) Tryz.underlying4 (by rw [show Tryz.f3.params.toList = [32, 33] by kernel_rfl]; simp only [List.forall_mem_cons, List.not_mem_nil, false_imp_iff, implies_true, and_true]; exact ⟨⟨by kernel_rfl, of_decide_eq_true (by kernel_rfl)⟩, ⟨by kernel_rfl, of_decide_eq_true (by kernel_rfl)⟩⟩) ?_
  intro W base args ds p hval0 hA0
  have hval : ∀ (j : Nat) t v, Tryz.f3.params[j]? = some t → args[j]? = some v → Value.okWide Tryz.prog W .any base t v := hval0
  have hA : DataW.TrodAll enc Tryz.prog W 0 (fun _ => true) true Tryz.f3.params.toList args.toList ds p := hA0
  clear hval0 hA0
  rw [Tryz.params3] at hA hval
  obtain ⟨v0, v1, d0, d1, p0, p1, rfl, rfl, rfl, h0, h1⟩ := trodAll_two hA
  obtain ⟨fu0, h0⟩ := h0
  obtain ⟨y0, hr0, hR0⟩ := Rd_32 _ _ _ _ _ _ _ _ _ h0
  obtain ⟨cs0, rfl, _⟩ := okWide_struct Tryz.underlying32 (hval 0 32 v0 rfl rfl)
  obtain ⟨u0_0, u0_1, u0_2, u0_3, u0_4, hv0, hs0_0, hs0_1, hs0_2, hs0_3, hs0_4⟩ := C_Block_open hr0
  have hv0 : cs0.toList = _ := hv0
  obtain rfl := cells_to hv0
  obtain ⟨fu1, h1⟩ := h1
  obtain ⟨y1, hr1, hR1⟩ := Rd_33 _ _ _ _ _ _ _ _ _ h1
  obtain ⟨a1, l1, c1, rfl⟩ := okWide_slice Tryz.underlying33 (hval 1 33 v1 rfl rfl)
  obtain ⟨u1, hv1, hs1⟩ := hr1
  obtain rfl : Value.slice a1 l1 c1 = u1 := by simpa [Value.cells] using hv1
  obtain ⟨n, hF⟩ := PFnExactIsTargets hR0 hR1
  exact W_laws_FnExactIsTargets hF (Nat.le_refl _) hs0_0 hs0_1 hs0_2 hs0_3 hs0_4 hs1
theorem fnExactIsTargets_inst : Tryz.f3.isInstance Tryz.prog Rows.fnExactIsTargetsRow.origin Rows.fnExactIsTargetsRow.targs := of_decide_eq_true (by kernel_rfl)
theorem fnExactIsTargets_wrap : Tryz.f3.isWrapper Tryz.prog Rows.fnExactIsTargetsRow.wrapper Rows.fnExactIsTargetsRow.mainSum := by unfold Func.isWrapper; first | (rw [if_pos (by decide +kernel)]; kernel_rfl) | (rw [if_neg (by decide +kernel)]; exact ⟨rfl, rfl⟩)
theorem fnExactIsTargets_holds : Rows.FnExactIsTargetsSaid :=
  OpenClaim.holds_of_wide 3 Tryz.f3 rfl rfl rfl rfl rfl rfl rfl ⟨rfl, rfl, rfl, rfl, rfl⟩ rfl rfl rfl rfl rfl fnExactIsTargets_fn Tryz.func3 fnExactIsTargets_joined
    fnExactIsTargets_inst fnExactIsTargets_wrap
    (fun os started H enc _ => fnExactIsTargets_lifted os started H enc)
theorem fnExactIsTargets_text : Rows.fnExactIsTargetsRow.wfByText (OpenSpec.ofChange Rows.fnExactIsTargetsSpec) = true := by kernel_rfl
theorem fnExactIsTargets_main : Tryz.prog.mainIs = some (Rows.fnExactIsTargetsCard.stood.harness.1, Rows.fnExactIsTargetsCard.stood.harness.2.toList) := by kernel_rfl
theorem fnExactIsTargets_looks : false = Tryz.prog.looks [] := by kernel_rfl
theorem fnExactIsTargets_stand : ([32, 33].all fun u => !Tryz.prog.wantsStandIn u) = true := by kernel_rfl
theorem fnExactIsTargets_goes : false = Rows.fnExactIsTargetsRow.goesBy Tryz.prog := by kernel_rfl
theorem fnExactIsTargets_card : Rows.FnExactIsTargetsCardSaid :=
  Claim7.holds_tied_plain_at .later [] Rows.fnExactIsTargetsCard.laidKinds true Rows.fnExactIsTargetsCard.stood.harness false fnExactIsTargets_holds (fun _ h => by cases h) fnExactIsTargets_text (fun _ h => by cases h) fnExactIsTargets_row_tie rfl ⟨rfl, rfl⟩ fnExactIsTargets_main rfl
    (fun f fn hf hfn => by
      obtain rfl : f = 3 := Option.some.inj (fnExactIsTargets_fn.symm.trans hf) |>.symm
      obtain rfl : fn = Tryz.f3 := (Option.some.inj (Tryz.func3.symm.trans hfn)).symm
      exact ⟨fnExactIsTargets_looks, fun j t ht => by
        rw [Tryz.params3] at ht
        have hm : t ∈ [32, 33] := by simpa using Array.mem_of_getElem? ht
        exact (show Tryz.prog.wantsStandIn t = false by simpa using List.all_eq_true.1 fnExactIsTargets_stand t hm)⟩)
    fnExactIsTargets_goes
end Go.Proofs.YtjijjanefcaakaaGreatDoor
