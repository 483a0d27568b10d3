/- PROVED: FnGates returns true for every input, and its arguments read behind the call as before; no condition. -/
import Derived.Test.YtejmafeocaidlaaDoorRows
import Derived.Test.YtejmafeocaidlaaDoorLawFnGates
import Derived.ProofKit
import Derived.Test.YtejmafeocaidlaaDoorCards
import Derived.Test.YtejmafeocaidlaaDoorTie
import Derived.Lay
import Derived.SevenTiedAt
import Derived.Stop.Joined
import Derived.Test.YtejmafeocaidlaaDoorJoinAFnGates
import Derived.Test.YtejmafeocaidlaaDoorJoinBFnGates
set_option linter.all false
namespace Go.Proofs.YtejmafeocaidlaaDoor
open Go.ChangeShapes Go.WideShapes Go.ChangeAt Go.RowKit Go.Eng
theorem Tryd.own : ownKnob Tryd.prog.godebug = none := by kernel_rfl
theorem Tryd.laidOut : laidOutB Tryd.prog = true := by kernel_rfl
theorem and_tt {a b : Bool} (ha : a = true) (hb : b = true) : (a && b) = true := by rw [ha, hb]; rfl
set_option maxRecDepth 100000 in
theorem fnGates_joined : joinedFacts Tryd.prog 3 Tryd.f3 Rows.fnGatesSpec Rows.fnGatesRow = true := by
  unfold joinedFacts
  exact (and_tt (and_tt (and_tt (and_tt (and_tt (and_tt (and_tt (and_tt (and_tt (and_tt (and_tt (and_tt (and_tt (and_tt (and_tt (and_tt (and_tt (and_tt (and_tt (and_tt (and_tt (and_tt (and_tt (and_tt (and_tt (and_tt (and_tt (and_tt (and_tt (and_tt (and_tt fnGates_j0 fnGates_j1) fnGates_j2) fnGates_j3) fnGates_j4) fnGates_j5) fnGates_j6) fnGates_j7) fnGates_j8) fnGates_j9) fnGates_j10) fnGates_j11) fnGates_j12) fnGates_j13) fnGates_j14) fnGates_j15) fnGates_j16) fnGates_j17) fnGates_j18) fnGates_j19) fnGates_j20) fnGates_j21) fnGates_j22) fnGates_j23) fnGates_j24) fnGates_j25) fnGates_j26) fnGates_j27) fnGates_j28) fnGates_j29) fnGates_j30) fnGates_j31)
set_option maxRecDepth 100000 in
theorem fnGates_lifted (os : Os) (started : os.Started) (H : Type) (enc : TypeId × Value → H) :
    ReturnsInHanded {} Tryd.checked os 3 .any (fun w args => (Rows.fnGatesSpec.pre enc Tryd.prog Tryd.f3 Rows.fnGatesRow.domain false w args ∧ laidMetH Tryd.prog Rows.fnGatesRow.laid w) ∧ sizedMet enc Tryd.prog Tryd.f3 (OpenSpec.ofChange Rows.fnGatesSpec) false w args) (Rows.fnGatesSpec.post enc Tryd.prog Tryd.f3 false true false false) := by
  refine Nl (C := Tryd.checked) (tb := 4) Tryd.own started (by kernel_rfl) Tryd.func3 (ChangeSpec.witness_shaped (enc := enc) (C := Tryd.checked) (os := os) (X := fun w _ => laidMetH Tryd.prog Rows.fnGatesRow.laid w) false (World.laidAll Tryd.prog os Rows.fnGatesRow.laid) #[.slice none 0 0] 8 (World.laidAll_os _ _ _) (World.shaped_of_ZipB (by kernel_rfl) (by kernel_rfl)) (by kernel_rfl) (by kernel_rfl) (by kernel_rfl) (by rw [MakeChecks.laidMetH_plain _ _ _ (by kernel_rfl)]; exact laidMet_laidAll _ (by kernel_rfl) (by kernel_rfl))) Tryd.laidOut rfl
    (fun ds h => by rw [show Tryd.f3.params.toList.length = 1 by kernel_rfl] at h; match ds, h with | [_], _ => rfl) (by kernel_rfl) Tryd.underlying4 (by rw [show Tryd.f3.params.toList = [22] by kernel_rfl]; intro t ht; obtain rfl := List.mem_singleton.1 ht; exact ⟨by kernel_rfl, of_decide_eq_true (by kernel_rfl)⟩) ?_
  intro W base args ds p hval0 hA0 hZ0
  have hval : ∀ (j : Nat) t v, Tryd.f3.params[j]? = some t → args[j]? = some v → Value.okWide Tryd.prog W .any base t v := hval0
  have hA0 : DataW.TrodAll enc Tryd.prog W 0 (fun _ => true) true Tryd.f3.params.toList args.toList ds p := hA0
  clear hval0
  rw [Tryd.params3] at hA0 hval
  obtain ⟨v0, vs0, d0, ds0, p0, q0, ha0, rfl, h0, z0, hA1, hZ1⟩ := NR hA0 hZ0
  obtain ⟨rfl, rfl⟩ := OL hA1
  obtain rfl := Qm ha0
  obtain ⟨fu0, h0⟩ := h0
  obtain ⟨y0, hr0, hR0⟩ := Sa _ _ _ _ _ _ _ _ _ h0 z0
  obtain ⟨a0, l0, c0, rfl⟩ := okWide_slice Tryd.underlying22 (hval 0 22 v0 rfl rfl)
  obtain ⟨u0, hv0, hs0⟩ := hr0
  obtain rfl : Value.slice a0 l0 c0 = u0 := by simpa [Value.cells] using hv0
  obtain ⟨n, O, hF⟩ := Oe hR0
  exact Ri (Tc hF (Nat.le_refl _) hs0)
theorem fnGates_inst : Tryd.f3.isInstance Tryd.prog Rows.fnGatesRow.origin Rows.fnGatesRow.targs := of_decide_eq_true (by kernel_rfl)
theorem fnGates_wrap : Tryd.f3.isWrapper Tryd.prog Rows.fnGatesRow.wrapper Rows.fnGatesRow.mainSum := by unfold Func.isWrapper; first | (rw [if_pos (by decide +kernel)]; kernel_rfl) | (rw [if_neg (by decide +kernel)]; exact ⟨rfl, rfl⟩)
theorem fnGates_holds : Rows.FnGatesSaid :=
  OpenClaim.holds_of_wide 3 Tryd.f3 rfl rfl rfl rfl rfl rfl rfl ⟨rfl, rfl, rfl, rfl, rfl⟩ rfl rfl rfl rfl rfl fnGates_fn Tryd.func3 fnGates_joined
    fnGates_inst fnGates_wrap
    (fun os started H enc _ => fnGates_lifted os started H enc)
theorem fnGates_text : Rows.fnGatesRow.wfByText (OpenSpec.ofChange Rows.fnGatesSpec) = true := by kernel_rfl
theorem fnGates_main : Tryd.prog.mainIs = some (Rows.fnGatesCard.stood.harness.1, Rows.fnGatesCard.stood.harness.2.toList) := by kernel_rfl
theorem fnGates_looks : false = Tryd.prog.looks [] := by kernel_rfl
theorem fnGates_stand : ([22].all fun u => !Tryd.prog.wantsStandIn u) = true := by kernel_rfl
theorem fnGates_goes : false = Rows.fnGatesRow.goesBy Tryd.prog := by kernel_rfl
theorem fnGates_card : Rows.FnGatesCardSaid :=
  Claim7.holds_tied_plain_at .later [] Rows.fnGatesCard.laidKinds true Rows.fnGatesCard.stood.harness false fnGates_holds (fun _ h => by cases h) fnGates_text (fun _ h => by cases h) fnGates_row_tie rfl ⟨rfl, rfl⟩ fnGates_main rfl
    (fun f fn hf hfn => by
      obtain rfl : f = 3 := Option.some.inj (fnGates_fn.symm.trans hf) |>.symm
      obtain rfl : fn = Tryd.f3 := (Option.some.inj (Tryd.func3.symm.trans hfn)).symm
      exact ⟨fnGates_looks, fun j t ht => by
        rw [Tryd.params3] at ht
        have hm : t ∈ [22] := by simpa using Array.mem_of_getElem? ht
        exact (show Tryd.prog.wantsStandIn t = false by simpa using List.all_eq_true.1 fnGates_stand t hm)⟩)
    fnGates_goes
end Go.Proofs.YtejmafeocaidlaaDoor
