/- PROVED: FnSeparations returns true for every input, and its arguments read behind the call as before; no condition. -/
import Derived.Test.YthjagnioabgceabDoorRows
import Derived.Test.YthjagnioabgceabDoorLawFnSeparations
import Derived.ProofKit
import Derived.Test.YthjagnioabgceabDoorCards
import Derived.Test.YthjagnioabgceabDoorTie
import Derived.Lay
import Derived.SevenTiedAt
import Derived.Stop.Joined
set_option linter.all false
namespace Go.Proofs.YthjagnioabgceabDoor
open Go.ChangeShapes Go.WideShapes Go.ChangeAt Go.RowKit Go.Eng
theorem Tryd.own : ownKnob Tryd.prog.godebug = none := by kernel_rfl
theorem Tryd.laidOut : laidOutB Tryd.prog = true := by kernel_rfl
set_option maxRecDepth 100000 in
theorem fnSeparations_lifted (os : Os) (started : os.Started) (H : Type) (enc : TypeId × Value → H) :
    ReturnsInHanded {} Tryd.checked os 8 .any (fun w args => (Rows.fnSeparationsSpec.pre enc Tryd.prog Tryd.f8 Rows.fnSeparationsRow.domain false w args ∧ laidMetH Tryd.prog Rows.fnSeparationsRow.laid w) ∧ sizedMet enc Tryd.prog Tryd.f8 (OpenSpec.ofChange Rows.fnSeparationsSpec) false w args) (Rows.fnSeparationsSpec.post enc Tryd.prog Tryd.f8 false true false false) := by
  refine lifted_ofL (C := Tryd.checked) (tb := 4) Tryd.own started (by kernel_rfl) Tryd.func8 (ChangeSpec.witness_shaped (enc := enc) (C := Tryd.checked) (os := os) (X := fun w _ => laidMetH Tryd.prog Rows.fnSeparationsRow.laid w) false (World.laidAll Tryd.prog os Rows.fnSeparationsRow.laid) #[.slice none 0 0] 8 (World.laidAll_os _ _ _) (World.shaped_of_ZipB (by kernel_rfl) (by kernel_rfl)) (by kernel_rfl) (by kernel_rfl) (by kernel_rfl) (by rw [MakeChecks.laidMetH_plain _ _ _ (by kernel_rfl)]; exact laidMet_laidAll _ (by kernel_rfl) (by kernel_rfl))) Tryd.laidOut rfl
    (fun ds h => by rw [show Tryd.f8.params.toList.length = 1 by kernel_rfl] at h; match ds, h with | [_], _ => rfl) (by kernel_rfl) Tryd.underlying4 (by rw [show Tryd.f8.params.toList = [34] by kernel_rfl]; intro t ht; obtain rfl := List.mem_singleton.1 ht; exact ⟨by kernel_rfl, of_decide_eq_true (by kernel_rfl)⟩) ?_
  intro W base args ds p hval0 hA0
  have hval : ∀ (j : Nat) t v, Tryd.f8.params[j]? = some t → args[j]? = some v → Value.okWide Tryd.prog W .any base t v := hval0
  have hA : DataW.TrodAll enc Tryd.prog W 0 (fun _ => true) true Tryd.f8.params.toList args.toList ds p := hA0
  clear hval0 hA0
  rw [Tryd.params8] at hA hval
  obtain ⟨v0, d0, rfl, rfl, h0⟩ := trodAll_one hA
  obtain ⟨fu0, h0⟩ := h0
  obtain ⟨y0, hr0, hR0⟩ := Rd_34 _ _ _ _ _ _ _ _ _ h0
  obtain ⟨a0, l0, c0, rfl⟩ := okWide_slice Tryd.underlying34 (hval 0 34 v0 rfl rfl)
  obtain ⟨u0, hv0, hs0⟩ := hr0
  obtain rfl : Value.slice a0 l0 c0 = u0 := by simpa [Value.cells] using hv0
  obtain ⟨n, hF⟩ := PFnSeparations hR0
  exact W_laws_FnSeparations hF hs0
theorem fnSeparations_holds : Rows.FnSeparationsSaid :=
  OpenClaim.holds_of_wide 8 Tryd.f8 rfl rfl rfl rfl rfl rfl rfl ⟨rfl, rfl, rfl, rfl, rfl⟩ rfl rfl rfl rfl rfl (by kernel_rfl) Tryd.func8 (by kernel_rfl)
    (of_decide_eq_true (by kernel_rfl)) (by unfold Func.isWrapper; first | (rw [if_pos (by decide +kernel)]; kernel_rfl) | (rw [if_neg (by decide +kernel)]; exact ⟨rfl, rfl⟩))
    (fun os started H enc _ => fnSeparations_lifted os started H enc)
theorem fnSeparations_card : Rows.FnSeparationsCardSaid :=
  Claim7.holds_tied_plain_at .later [] Rows.fnSeparationsCard.laidKinds true Rows.fnSeparationsCard.stood.harness false fnSeparations_holds (fun _ h => by cases h) (by kernel_rfl) (fun _ h => by cases h) fnSeparations_row_tie rfl ⟨rfl, rfl⟩ (by kernel_rfl) rfl
    (fun f fn hf hfn => by
      obtain rfl : f = 8 := Option.some.inj ((show Tryd.prog.funcNamed Rows.fnSeparationsRow.func = some 8 by kernel_rfl).symm.trans hf) |>.symm
      obtain rfl : fn = Tryd.f8 := (Option.some.inj (Tryd.func8.symm.trans hfn)).symm
      exact ⟨by kernel_rfl, fun j t ht => by
        rw [Tryd.params8] at ht
        have hm : t ∈ [34] := by simpa using Array.mem_of_getElem? ht
        have hall : ([34].all fun u => !Tryd.prog.wantsStandIn u) = true := by kernel_rfl
        exact (show Tryd.prog.wantsStandIn t = false by simpa using List.all_eq_true.1 hall t hm)⟩)
    (by kernel_rfl)
end Go.Proofs.YthjagnioabgceabDoor
