/- PROVED: FnExactShiftLinks returns true for every input, and its arguments read behind the call as before; no condition. -/
import Derived.Test.YtmhmpfckdhiijaaRows
import Derived.Test.YtmhmpfckdhiijaaLawFnExactShiftLinks
import Derived.ProofKit
set_option linter.all false
namespace Go.Proofs.Ytmhmpfckdhiijaa
open Go.ChangeShapes Go.WideShapes Go.ChangeAt Go.RowKit Go.Eng
theorem Try.own : ownKnob Try.prog.godebug = none := by kernel_rfl
theorem Try.laidOut : laidOutB Try.prog = true := by kernel_rfl
set_option maxRecDepth 100000 in
theorem fnExactShiftLinks_lifted (os : Os) (started : os.Started) (H : Type) (enc : TypeId × Value → H) :
    ReturnsInHanded {} Try.checked os 9 .any (Rows.fnExactShiftLinksSpec.pre6 enc Try.prog Try.f9 Rows.fnExactShiftLinksRow.domain false) (Rows.fnExactShiftLinksSpec.post enc Try.prog Try.f9 false true false false) := by
  refine lifted_of (C := Try.checked) (tb := 4) Try.own started (by kernel_rfl) Try.func9 (ChangeSpec.witness6 (enc := enc) (C := Try.checked) false ⟨#[], #[.agg #[.slice none 0 0, .slice none 0 0], .int .i64 0], []⟩ 8 (by kernel_rfl) (by kernel_rfl) (by kernel_rfl) (by kernel_rfl)) Try.laidOut rfl
    (fun ds h => by rw [show Try.f9.params.toList.length = 2 by kernel_rfl] at h; match ds, h with | [_, _], _ => rfl) (by kernel_rfl) Try.underlying4 (by rw [show Try.f9.params.toList = [32, 2] by kernel_rfl]; simp only [List.forall_mem_cons, List.not_mem_nil, false_imp_iff, implies_true, and_true]; exact ⟨⟨by kernel_rfl, of_decide_eq_true (by kernel_rfl)⟩, ⟨by kernel_rfl, of_decide_eq_true (by kernel_rfl)⟩⟩) ?_
  intro W base args ds p hval0 hA0
  have hval : ∀ (j : Nat) t v, Try.f9.params[j]? = some t → args[j]? = some v → Value.okWide Try.prog W .any base t v := hval0
  have hA : DataW.TrodAll enc Try.prog W 0 (fun _ => true) true Try.f9.params.toList args.toList ds p := hA0
  clear hval0 hA0
  rw [Try.params9] at hA hval
  obtain ⟨v0, v1, d0, d1, p0, p1, rfl, rfl, rfl, h0, h1⟩ := trodAll_two hA
  obtain ⟨fu0, h0⟩ := h0
  obtain ⟨y0, hr0, hR0⟩ := Rd_32 _ _ _ _ _ _ _ _ _ h0
  obtain ⟨cs0, rfl, _⟩ := okWide_struct Try.underlying32 (hval 0 32 v0 rfl rfl)
  obtain ⟨u0_0, u0_1, hv0, hs0_0, hs0_1⟩ := C_LatchSystem_open hr0
  have hv0 : cs0.toList = _ := hv0
  obtain rfl := cells_to hv0
  obtain ⟨fu1, h1⟩ := h1
  obtain ⟨y1, hr1, hR1⟩ := Rd_2 _ _ _ _ _ _ _ _ _ h1
  obtain ⟨m1, rfl⟩ := okWide_int Try.underlying2 (hval 1 2 v1 rfl rfl)
  have hr1 : [Value.int .i64 m1] = [Value.int .i64 y1] := hr1
  simp only [List.cons.injEq, Value.int.injEq, true_and, and_true] at hr1; subst hr1
  obtain ⟨n, hF⟩ := PFnExactShiftLinks hR0 hR1
  exact W_laws_FnExactShiftLinks hF hs0_0 hs0_1
theorem fnExactShiftLinks_holds : Rows.FnExactShiftLinksSaid :=
  OpenClaim.holds_of_wide 9 Try.f9 rfl rfl rfl rfl rfl rfl rfl ⟨rfl, rfl, rfl, rfl, rfl⟩ rfl rfl rfl rfl rfl (by kernel_rfl) Try.func9 (by kernel_rfl)
    (of_decide_eq_true (by kernel_rfl)) (by unfold Func.isWrapper; first | (rw [if_pos (by decide +kernel)]; kernel_rfl) | (rw [if_neg (by decide +kernel)]; exact ⟨rfl, rfl⟩))
    (fun os started H enc _ => fnExactShiftLinks_lifted os started H enc)
end Go.Proofs.Ytmhmpfckdhiijaa
