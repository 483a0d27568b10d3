/- PROVED: FnExactCaptureEdge returns true for every input, and its arguments read behind the call as before; no condition. -/
import Derived.Test.YthjagnioabgceabDoorRows
import Derived.Test.YthjagnioabgceabDoorLawFnExactCaptureEdge
import Derived.ProofKit
import Derived.Test.YthjagnioabgceabDoorCards
import Derived.Test.YthjagnioabgceabDoorTie
import Derived.Lay
import Derived.SevenTiedAt
import Derived.Stop.Joined
set_option linter.all false
namespace Go.Proofs.YthjagnioabgceabDoor
open Go.ChangeShapes Go.WideShapes Go.ChangeAt Go.RowKit Go.Eng
theorem Tryd.own : ownKnob Tryd.prog.godebug = none := by kernel_rfl
theorem Tryd.laidOut : laidOutB Tryd.prog = true := by kernel_rfl
set_option maxRecDepth 100000 in
theorem fnExactCaptureEdge_lifted (os : Os) (started : os.Started) (H : Type) (enc : TypeId × Value → H) :
    ReturnsInHanded {} Tryd.checked os 11 .any (fun w args => (Rows.fnExactCaptureEdgeSpec.pre enc Tryd.prog Tryd.f11 Rows.fnExactCaptureEdgeRow.domain false w args ∧ laidMetH Tryd.prog Rows.fnExactCaptureEdgeRow.laid w) ∧ sizedMet enc Tryd.prog Tryd.f11 (OpenSpec.ofChange Rows.fnExactCaptureEdgeSpec) false w args) (Rows.fnExactCaptureEdgeSpec.post enc Tryd.prog Tryd.f11 false true false false) := by
  refine lifted_ofL (C := Tryd.checked) (tb := 4) Tryd.own started (by kernel_rfl) Tryd.func11 (ChangeSpec.witness_shaped (enc := enc) (C := Tryd.checked) (os := os) (X := fun w _ => laidMetH Tryd.prog Rows.fnExactCaptureEdgeRow.laid w) false (World.laidAll Tryd.prog os Rows.fnExactCaptureEdgeRow.laid) #[.agg #[.string ⟨#[]⟩, .int .i64 0, .slice none 0 0, .slice none 0 0, .slice none 0 0, .int .i64 0, .int .i64 0]] 8 (World.laidAll_os _ _ _) (World.shaped_of_ZipB (by kernel_rfl) (by kernel_rfl)) (by kernel_rfl) (by kernel_rfl) (by kernel_rfl) (by rw [MakeChecks.laidMetH_plain _ _ _ (by kernel_rfl)]; exact laidMet_laidAll _ (by kernel_rfl) (by kernel_rfl))) Tryd.laidOut rfl
    (fun ds h => by rw [show Tryd.f11.params.toList.length = 1 by kernel_rfl] at h; match ds, h with | [_], _ => rfl) (by kernel_rfl) Tryd.underlying4 (by rw [show Tryd.f11.params.toList = [64] by kernel_rfl]; intro t ht; obtain rfl := List.mem_singleton.1 ht; exact ⟨by kernel_rfl, of_decide_eq_true (by kernel_rfl)⟩) ?_
  intro W base args ds p hval0 hA0
  have hval : ∀ (j : Nat) t v, Tryd.f11.params[j]? = some t → args[j]? = some v → Value.okWide Tryd.prog W .any base t v := hval0
  have hA : DataW.TrodAll enc Tryd.prog W 0 (fun _ => true) true Tryd.f11.params.toList args.toList ds p := hA0
  clear hval0 hA0
  rw [Tryd.params11] at hA hval
  obtain ⟨v0, d0, rfl, rfl, h0⟩ := trodAll_one hA
  obtain ⟨fu0, h0⟩ := h0
  obtain ⟨y0, hr0, hR0⟩ := Rd_64 _ _ _ _ _ _ _ _ _ h0
  obtain ⟨cs0, rfl, _⟩ := okWide_struct Tryd.underlying64 (hval 0 64 v0 rfl rfl)
  obtain ⟨u0_0, u0_1, u0_2, hv0, hs0_0, hs0_1, hs0_2⟩ := C_Cell_open hr0
  have hv0 : cs0.toList = _ := hv0
  obtain rfl := cells_to hv0
  obtain ⟨n, hF⟩ := PFnExactCaptureEdge hR0
  exact W_laws_FnExactCaptureEdge hF hs0_0 hs0_1 hs0_2
theorem fnExactCaptureEdge_holds : Rows.FnExactCaptureEdgeSaid :=
  OpenClaim.holds_of_wide 11 Tryd.f11 rfl rfl rfl rfl rfl rfl rfl ⟨rfl, rfl, rfl, rfl, rfl⟩ rfl rfl rfl rfl rfl (by kernel_rfl) Tryd.func11 (by kernel_rfl)
    (of_decide_eq_true (by kernel_rfl)) (by unfold Func.isWrapper; first | (rw [if_pos (by decide +kernel)]; kernel_rfl) | (rw [if_neg (by decide +kernel)]; exact ⟨rfl, rfl⟩))
    (fun os started H enc _ => fnExactCaptureEdge_lifted os started H enc)
theorem fnExactCaptureEdge_card : Rows.FnExactCaptureEdgeCardSaid :=
  Claim7.holds_tied_plain_at .later [] Rows.fnExactCaptureEdgeCard.laidKinds true Rows.fnExactCaptureEdgeCard.stood.harness false fnExactCaptureEdge_holds (fun _ h => by cases h) (by kernel_rfl) (fun _ h => by cases h) fnExactCaptureEdge_row_tie rfl ⟨rfl, rfl⟩ (by kernel_rfl) rfl
    (fun f fn hf hfn => by
      obtain rfl : f = 11 := Option.some.inj ((show Tryd.prog.funcNamed Rows.fnExactCaptureEdgeRow.func = some 11 by kernel_rfl).symm.trans hf) |>.symm
      obtain rfl : fn = Tryd.f11 := (Option.some.inj (Tryd.func11.symm.trans hfn)).symm
      exact ⟨by kernel_rfl, fun j t ht => by
        rw [Tryd.params11] at ht
        have hm : t ∈ [64] := by simpa using Array.mem_of_getElem? ht
        have hall : ([64].all fun u => !Tryd.prog.wantsStandIn u) = true := by kernel_rfl
        exact (show Tryd.prog.wantsStandIn t = false by simpa using List.all_eq_true.1 hall t hm)⟩)
    (by kernel_rfl)
end Go.Proofs.YthjagnioabgceabDoor
