/- PROVED: FnWorstSlacks returns true for every input, and its arguments read behind the call as before; no condition. -/
import Derived.Test.YthojemmmflaicadGreatDoorRows
import Derived.Test.YthojemmmflaicadGreatDoorLawFnWorstSlacks
import Derived.ProofKit
import Derived.Test.YthojemmmflaicadGreatDoorCards
import Derived.Test.YthojemmmflaicadGreatDoorTie
import Derived.Lay
import Derived.SevenTiedAt
import Derived.Stop.Joined
import Derived.Test.YthojemmmflaicadGreatDoorJoinAFnWorstSlacks
import Derived.Test.YthojemmmflaicadGreatDoorJoinBFnWorstSlacks
set_option linter.all false
namespace Go.Proofs.YthojemmmflaicadGreatDoor
open Go.ChangeShapes Go.WideShapes Go.ChangeAt Go.RowKit Go.Eng
theorem Tryz.own : ownKnob Tryz.prog.godebug = none := by kernel_rfl
theorem Tryz.laidOut : laidOutB Tryz.prog = true := by kernel_rfl
theorem and_tt {a b : Bool} (ha : a = true) (hb : b = true) : (a && b) = true := by rw [ha, hb]; rfl
set_option maxRecDepth 100000 in
theorem fnWorstSlacks_joined : joinedFacts Tryz.prog 3 Tryz.f3 Rows.fnWorstSlacksSpec Rows.fnWorstSlacksRow = true := by
  unfold joinedFacts
  exact (and_tt (and_tt (and_tt (and_tt (and_tt (and_tt (and_tt (and_tt (and_tt (and_tt (and_tt (and_tt (and_tt (and_tt (and_tt (and_tt (and_tt (and_tt (and_tt (and_tt (and_tt (and_tt (and_tt (and_tt (and_tt (and_tt (and_tt (and_tt (and_tt (and_tt (and_tt fnWorstSlacks_j0 fnWorstSlacks_j1) fnWorstSlacks_j2) fnWorstSlacks_j3) fnWorstSlacks_j4) fnWorstSlacks_j5) fnWorstSlacks_j6) fnWorstSlacks_j7) fnWorstSlacks_j8) fnWorstSlacks_j9) fnWorstSlacks_j10) fnWorstSlacks_j11) fnWorstSlacks_j12) fnWorstSlacks_j13) fnWorstSlacks_j14) fnWorstSlacks_j15) fnWorstSlacks_j16) fnWorstSlacks_j17) fnWorstSlacks_j18) fnWorstSlacks_j19) fnWorstSlacks_j20) fnWorstSlacks_j21) fnWorstSlacks_j22) fnWorstSlacks_j23) fnWorstSlacks_j24) fnWorstSlacks_j25) fnWorstSlacks_j26) fnWorstSlacks_j27) fnWorstSlacks_j28) fnWorstSlacks_j29) fnWorstSlacks_j30) fnWorstSlacks_j31)
set_option maxRecDepth 100000 in
theorem fnWorstSlacks_lifted (os : Os) (started : os.Started) (H : Type) (enc : TypeId × Value → H) :
    ReturnsInHanded {} Tryz.checked os 3 .any (fun w args => (Rows.fnWorstSlacksSpec.pre enc Tryz.prog Tryz.f3 Rows.fnWorstSlacksRow.domain false w args ∧ laidMetH Tryz.prog Rows.fnWorstSlacksRow.laid w) ∧ sizedMet enc Tryz.prog Tryz.f3 (OpenSpec.ofChange Rows.fnWorstSlacksSpec) false w args) (Rows.fnWorstSlacksSpec.post enc Tryz.prog Tryz.f3 false true false false) := by
  refine aC (C := Tryz.checked) (tb := 4) Tryz.own started (by kernel_rfl) Tryz.func3 (ChangeSpec.witness_shaped (enc := enc) (C := Tryz.checked) (os := os) (X := fun w _ => laidMetH Tryz.prog Rows.fnWorstSlacksRow.laid w) false (World.laidAll Tryz.prog os Rows.fnWorstSlacksRow.laid) #[.slice none 0 0] 8 (World.laidAll_os _ _ _) (World.shaped_of_ZipB (by kernel_rfl) (by kernel_rfl)) (by kernel_rfl) (by kernel_rfl) (by kernel_rfl) (by rw [MakeChecks.laidMetH_plain _ _ _ (by kernel_rfl)]; exact laidMet_laidAll _ (by kernel_rfl) (by kernel_rfl))) Tryz.laidOut rfl
    (fun ds h => by rw [show Tryz.f3.params.toList.length = 1 by kernel_rfl] at h; match ds, h with | [_], _ => rfl) (by kernel_rfl) Tryz.underlying4 (by rw [show Tryz.f3.params.toList = [22] by kernel_rfl]; intro t ht; obtain rfl := List.mem_singleton.1 ht; exact ⟨by kernel_rfl, of_decide_eq_true (by kernel_rfl)⟩) ?_
  intro W base args ds p hval0 hA0 hZ0
  have hval : ∀ (j : Nat) t v, Tryz.f3.params[j]? = some t → args[j]? = some v → Value.okWide Tryz.prog W .any base t v := hval0
  have hA0 : DataW.TrodAll enc Tryz.prog W 0 (fun _ => true) true Tryz.f3.params.toList args.toList ds p := hA0
  clear hval0
  rw [Tryz.params3] at hA0 hval
  obtain ⟨v0, vs0, d0, ds0, p0, q0, ha0, rfl, h0, z0, hA1, hZ1⟩ := Zt hA0 hZ0
  obtain ⟨rfl, rfl⟩ := dH hA1
  obtain rfl := jU ha0
  obtain ⟨fu0, h0⟩ := h0
  obtain ⟨y0, hr0, hR0⟩ := qT _ _ _ _ _ _ _ _ _ h0 z0
  obtain ⟨a0, l0, c0, rfl⟩ := okWide_slice Tryz.underlying22 (hval 0 22 v0 rfl rfl)
  obtain ⟨u0, hv0, hs0⟩ := hr0
  obtain rfl : Value.slice a0 l0 c0 = u0 := by simpa [Value.cells] using hv0
  obtain ⟨n, O, hF⟩ := Wk hR0
  exact lP (sP hF (Nat.le_refl _) hs0)
theorem fnWorstSlacks_inst : Tryz.f3.isInstance Tryz.prog Rows.fnWorstSlacksRow.origin Rows.fnWorstSlacksRow.targs := of_decide_eq_true (by kernel_rfl)
theorem fnWorstSlacks_wrap : Tryz.f3.isWrapper Tryz.prog Rows.fnWorstSlacksRow.wrapper Rows.fnWorstSlacksRow.mainSum := by unfold Func.isWrapper; first | (rw [if_pos (by decide +kernel)]; kernel_rfl) | (rw [if_neg (by decide +kernel)]; exact ⟨rfl, rfl⟩)
theorem fnWorstSlacks_holds : Rows.FnWorstSlacksSaid :=
  OpenClaim.holds_of_wide 3 Tryz.f3 rfl rfl rfl rfl rfl rfl rfl ⟨rfl, rfl, rfl, rfl, rfl⟩ rfl rfl rfl rfl rfl fnWorstSlacks_fn Tryz.func3 fnWorstSlacks_joined
    fnWorstSlacks_inst fnWorstSlacks_wrap
    (fun os started H enc _ => fnWorstSlacks_lifted os started H enc)
theorem fnWorstSlacks_text : Rows.fnWorstSlacksRow.wfByText (OpenSpec.ofChange Rows.fnWorstSlacksSpec) = true := by kernel_rfl
theorem fnWorstSlacks_main : Tryz.prog.mainIs = some (Rows.fnWorstSlacksCard.stood.harness.1, Rows.fnWorstSlacksCard.stood.harness.2.toList) := by kernel_rfl
theorem fnWorstSlacks_looks : false = Tryz.prog.looks [] := by kernel_rfl
theorem fnWorstSlacks_stand : ([22].all fun u => !Tryz.prog.wantsStandIn u) = true := by kernel_rfl
theorem fnWorstSlacks_goes : false = Rows.fnWorstSlacksRow.goesBy Tryz.prog := by kernel_rfl
theorem fnWorstSlacks_card : Rows.FnWorstSlacksCardSaid :=
  Claim7.holds_tied_plain_at .later [] Rows.fnWorstSlacksCard.laidKinds true Rows.fnWorstSlacksCard.stood.harness false fnWorstSlacks_holds (fun _ h => by cases h) fnWorstSlacks_text (fun _ h => by cases h) fnWorstSlacks_row_tie rfl ⟨rfl, rfl⟩ fnWorstSlacks_main rfl
    (fun f fn hf hfn => by
      obtain rfl : f = 3 := Option.some.inj (fnWorstSlacks_fn.symm.trans hf) |>.symm
      obtain rfl : fn = Tryz.f3 := (Option.some.inj (Tryz.func3.symm.trans hfn)).symm
      exact ⟨fnWorstSlacks_looks, fun j t ht => by
        rw [Tryz.params3] at ht
        have hm : t ∈ [22] := by simpa using Array.mem_of_getElem? ht
        exact (show Tryz.prog.wantsStandIn t = false by simpa using List.all_eq_true.1 fnWorstSlacks_stand t hm)⟩)
    fnWorstSlacks_goes
end Go.Proofs.YthojemmmflaicadGreatDoor
