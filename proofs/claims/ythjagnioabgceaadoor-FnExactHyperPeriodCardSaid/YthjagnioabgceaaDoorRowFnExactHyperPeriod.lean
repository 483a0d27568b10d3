/- PROVED: FnExactHyperPeriod returns true for every input, and its arguments read behind the call as before; no condition. -/
import Derived.Test.YthjagnioabgceaaDoorRows
import Derived.Test.YthjagnioabgceaaDoorLawFnExactHyperPeriod
import Derived.ProofKit
import Derived.Test.YthjagnioabgceaaDoorCards
import Derived.Test.YthjagnioabgceaaDoorTie
import Derived.Lay
import Derived.SevenTiedAt
import Derived.Stop.Joined
set_option linter.all false
namespace Go.Proofs.YthjagnioabgceaaDoor
open Go.ChangeShapes Go.WideShapes Go.ChangeAt Go.RowKit Go.Eng
theorem Tryd.own : ownKnob Tryd.prog.godebug = none := by kernel_rfl
theorem Tryd.laidOut : laidOutB Tryd.prog = true := by kernel_rfl
set_option maxRecDepth 100000 in
theorem fnExactHyperPeriod_lifted (os : Os) (started : os.Started) (H : Type) (enc : TypeId × Value → H) :
    ReturnsInHanded {} Tryd.checked os 12 .any (fun w args => (Rows.fnExactHyperPeriodSpec.pre enc Tryd.prog Tryd.f12 Rows.fnExactHyperPeriodRow.domain false w args ∧ laidMetH Tryd.prog Rows.fnExactHyperPeriodRow.laid w) ∧ sizedMet enc Tryd.prog Tryd.f12 (OpenSpec.ofChange Rows.fnExactHyperPeriodSpec) false w args) (Rows.fnExactHyperPeriodSpec.post enc Tryd.prog Tryd.f12 false true false false) := by
  refine lifted_ofL (C := Tryd.checked) (tb := 4) Tryd.own started (by kernel_rfl) Tryd.func12 (ChangeSpec.witness_shaped (enc := enc) (C := Tryd.checked) (os := os) (X := fun w _ => laidMetH Tryd.prog Rows.fnExactHyperPeriodRow.laid w) false (World.laidAll Tryd.prog os Rows.fnExactHyperPeriodRow.laid) #[.slice none 0 0, .int .i64 0, .int .i64 0] 8 (World.laidAll_os _ _ _) (World.shaped_of_ZipB (by kernel_rfl) (by kernel_rfl)) (by kernel_rfl) (by kernel_rfl) (by kernel_rfl) (by rw [MakeChecks.laidMetH_plain _ _ _ (by kernel_rfl)]; exact laidMet_laidAll _ (by kernel_rfl) (by kernel_rfl))) Tryd.laidOut rfl
    (fun ds h => by rw [show Tryd.f12.params.toList.length = 3 by kernel_rfl] at h; match ds, h with | [_, _, _], _ => rfl) (by kernel_rfl) Tryd.underlying4 (by rw [show Tryd.f12.params.toList = [22, 2, 2] by kernel_rfl]; simp only [List.forall_mem_cons, List.not_mem_nil, false_imp_iff, implies_true, and_true]; exact ⟨⟨by kernel_rfl, of_decide_eq_true (by kernel_rfl)⟩, ⟨by kernel_rfl, of_decide_eq_true (by kernel_rfl)⟩, ⟨by kernel_rfl, of_decide_eq_true (by kernel_rfl)⟩⟩) ?_
  intro W base args ds p hval0 hA0
  have hval : ∀ (j : Nat) t v, Tryd.f12.params[j]? = some t → args[j]? = some v → Value.okWide Tryd.prog W .any base t v := hval0
  have hA : DataW.TrodAll enc Tryd.prog W 0 (fun _ => true) true Tryd.f12.params.toList args.toList ds p := hA0
  clear hval0 hA0
  rw [Tryd.params12] at hA hval
  obtain ⟨v0, vs0, d0, ds0, p0, q0, ha0, rfl, h0, hA1⟩ := trodA_cons hA
  obtain ⟨v1, vs1, d1, ds1, p1, q1, rfl, rfl, h1, hA2⟩ := trodA_cons hA1
  obtain ⟨v2, vs2, d2, ds2, p2, q2, rfl, rfl, h2, hA3⟩ := trodA_cons hA2
  obtain ⟨rfl, rfl⟩ := trodA_nil hA3
  obtain rfl := args_to ha0
  obtain ⟨fu0, h0⟩ := h0
  obtain ⟨y0, hr0, hR0⟩ := Rd_22 _ _ _ _ _ _ _ _ _ h0
  obtain ⟨a0, l0, c0, rfl⟩ := okWide_slice Tryd.underlying22 (hval 0 22 v0 rfl rfl)
  obtain ⟨u0, hv0, hs0⟩ := hr0
  obtain rfl : Value.slice a0 l0 c0 = u0 := by simpa [Value.cells] using hv0
  obtain ⟨fu1, h1⟩ := h1
  obtain ⟨y1, hr1, hR1⟩ := Rd_2 _ _ _ _ _ _ _ _ _ h1
  obtain ⟨m1, rfl⟩ := okWide_int Tryd.underlying2 (hval 1 2 v1 rfl rfl)
  have hr1 : [Value.int .i64 m1] = [Value.int .i64 y1] := hr1
  simp only [List.cons.injEq, Value.int.injEq, true_and, and_true] at hr1; subst hr1
  obtain ⟨fu2, h2⟩ := h2
  obtain ⟨y2, hr2, hR2⟩ := Rd_2 _ _ _ _ _ _ _ _ _ h2
  obtain ⟨m2, rfl⟩ := okWide_int Tryd.underlying2 (hval 2 2 v2 rfl rfl)
  have hr2 : [Value.int .i64 m2] = [Value.int .i64 y2] := hr2
  simp only [List.cons.injEq, Value.int.injEq, true_and, and_true] at hr2; subst hr2
  obtain ⟨n, hF⟩ := PFnExactHyperPeriod hR0 hR1 hR2
  exact W_laws_FnExactHyperPeriod hF hs0
theorem fnExactHyperPeriod_holds : Rows.FnExactHyperPeriodSaid :=
  OpenClaim.holds_of_wide 12 Tryd.f12 rfl rfl rfl rfl rfl rfl rfl ⟨rfl, rfl, rfl, rfl, rfl⟩ rfl rfl rfl rfl rfl (by kernel_rfl) Tryd.func12 (by kernel_rfl)
    (of_decide_eq_true (by kernel_rfl)) (by unfold Func.isWrapper; first | (rw [if_pos (by decide +kernel)]; kernel_rfl) | (rw [if_neg (by decide +kernel)]; exact ⟨rfl, rfl⟩))
    (fun os started H enc _ => fnExactHyperPeriod_lifted os started H enc)
theorem fnExactHyperPeriod_card : Rows.FnExactHyperPeriodCardSaid :=
  Claim7.holds_tied_plain_at .later [] Rows.fnExactHyperPeriodCard.laidKinds true Rows.fnExactHyperPeriodCard.stood.harness false fnExactHyperPeriod_holds (fun _ h => by cases h) (by kernel_rfl) (fun _ h => by cases h) fnExactHyperPeriod_row_tie rfl ⟨rfl, rfl⟩ (by kernel_rfl) rfl
    (fun f fn hf hfn => by
      obtain rfl : f = 12 := Option.some.inj ((show Tryd.prog.funcNamed Rows.fnExactHyperPeriodRow.func = some 12 by kernel_rfl).symm.trans hf) |>.symm
      obtain rfl : fn = Tryd.f12 := (Option.some.inj (Tryd.func12.symm.trans hfn)).symm
      exact ⟨by kernel_rfl, fun j t ht => by
        rw [Tryd.params12] at ht
        have hm : t ∈ [22, 2, 2] := by simpa using Array.mem_of_getElem? ht
        have hall : ([22, 2, 2].all fun u => !Tryd.prog.wantsStandIn u) = true := by kernel_rfl
        exact (show Tryd.prog.wantsStandIn t = false by simpa using List.all_eq_true.1 hall t hm)⟩)
    (by kernel_rfl)
end Go.Proofs.YthjagnioabgceaaDoor
