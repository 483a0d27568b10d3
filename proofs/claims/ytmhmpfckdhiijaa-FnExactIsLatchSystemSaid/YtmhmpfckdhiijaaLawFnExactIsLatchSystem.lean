/- The plain law behind FnExactIsLatchSystem: the plain function answers true; no condition. -/
import Derived.Test.YtmhmpfckdhiijaaWalkFnExactIsLatchSystem
set_option linter.all false
namespace Go.Proofs.Ytmhmpfckdhiijaa
open Go Go.RowKit Go.Eng
theorem bif_or {b c : Bool} : (bif b then some true else some c) = some (b || c) := by cases b <;> rfl
theorem A1 (n : Nat) (a : S_LatchSystem) (k : Int → Option Bool) : ∀ m i, F_spec_IsLatchSystem_L1 n a k m i = F_impl_IsLatchSystem_L1 a k m i
  | 0, _ => rfl
  | m + 1, i => by
    have key : ∀ x : S_Latch, (!((decide (x.Open ≥ 0)) && (decide (x.Open ≤ 100000))) || !((decide (x.Close ≥ x.Open)) && (decide (x.Close ≤ 100000)))) = (((decide (x.Open < 0)) || (decide (x.Open > x.Close))) || (decide (x.Close > 100000))) := by
      intro x
      rw [Bool.eq_iff_iff]
      simp only [Bool.or_eq_true, Bool.not_eq_true', Bool.and_eq_false_iff, decide_eq_true_eq, decide_eq_false_iff_not]
      omega
    rw [F_spec_IsLatchSystem_L1_s, F_impl_IsLatchSystem_L1_s]
    simp only [F_spec_l01In, Option.bind_some, bif_or, key, A1 n a k m]
theorem A2 (n : Nat) (a : S_LatchSystem) (k : Int → Option Bool) : ∀ m i, F_spec_IsLatchSystem_L2 n a k m i = F_impl_IsLatchSystem_L2 n a (a.Latches.length : Int) k m i
  | 0, _ => rfl
  | m + 1, i => by
    rw [F_spec_IsLatchSystem_L2_s, F_impl_IsLatchSystem_L2_s]
    simp only [F_spec_l01In, F_impl_within, A2 n a k m]
theorem A3 (a : S_LatchSystem) (k : Int → Option Bool) (h : a.Latches.length ≤ 1048576) : ∀ (m i : Nat), i ≤ a.Latches.length → a.Latches.length - i < m → F_impl_IsLatchSystem_L1 a k m i = some false ∨ F_impl_IsLatchSystem_L1 a k m i = k (a.Latches.length : Int)
  | 0, i, _, hm => by omega
  | m + 1, i, hi, hm => by
    rw [F_impl_IsLatchSystem_L1_s]
    by_cases hlt : i < a.Latches.length
    · have hd : decide ((i : Int) < (a.Latches.length : Int)) = true := decide_eq_true (by omega)
      have hx : getI a.Latches i = some a.Latches[i] := by rw [getI_nat]; exact List.getElem?_eq_getElem hlt
      rw [hd, cond_true, hx, Option.bind_some, wrap64 (by omega) (by omega)]
      cases ((decide (a.Latches[i].Open < 0) || decide (a.Latches[i].Open > a.Latches[i].Close)) || decide (a.Latches[i].Close > 100000))
      · exact A3 a k h m (i + 1) (by omega) (by omega)
      · exact .inl rfl
    · have hd : decide ((i : Int) < (a.Latches.length : Int)) = false := decide_eq_false (by omega)
      rw [hd, cond_false]
      exact .inr (by rw [show i = a.Latches.length by omega])
theorem A4 (n : Nat) (a : S_LatchSystem) (q : Int) (k : Int → Option Bool) (h : a.Links.length ≤ 1048576) : ∀ (m i : Nat), i ≤ a.Links.length → a.Links.length - i < m → F_impl_IsLatchSystem_L2 n a q k m i = some false ∨ F_impl_IsLatchSystem_L2 n a q k m i = k (a.Links.length : Int)
  | 0, i, _, hm => by omega
  | m + 1, i, hi, hm => by
    rw [F_impl_IsLatchSystem_L2_s]
    by_cases hlt : i < a.Links.length
    · have hd : decide ((i : Int) < (a.Links.length : Int)) = true := decide_eq_true (by omega)
      have hx : getI a.Links i = some a.Links[i] := by rw [getI_nat]; exact List.getElem?_eq_getElem hlt
      simp only [hd, cond_true, hx, Option.bind_some, wrap64 (x := (i : Int) + 1) (by omega) (by omega), F_impl_within, bif_or]
      generalize ((_ || _) : Bool) = b
      cases b
      · exact A4 n a q k h m (i + 1) (by omega) (by omega)
      · exact .inl rfl
    · have hd : decide ((i : Int) < (a.Links.length : Int)) = false := decide_eq_false (by omega)
      rw [hd, cond_false]
      exact .inr (by rw [show i = a.Links.length by omega])
theorem A5 {n : Nat} {a : S_LatchSystem} (h : SM_LatchSystem a) (hn : 1048577 ≤ n) : ∃ b, F_spec_IsLatchSystem n a = some b ∧ F_impl_IsLatchSystem n a = some b := by
  have e : F_spec_IsLatchSystem n a = F_impl_IsLatchSystem n a := by
    rw [F_spec_IsLatchSystem, F_impl_IsLatchSystem, A1]
    simp only [A2, F_impl_length_impl_Latch, Option.bind_some]
  rw [e]
  refine (?_ : ∃ b, F_impl_IsLatchSystem n a = some b).elim fun b hb => ⟨b, hb, hb⟩
  have hl1 := h.1.1
  have hl2 := h.2.1
  rw [F_impl_IsLatchSystem]
  simp only [F_impl_length_impl_Latch, Option.bind_some]
  refine (A3 a _ h.1.1 n 0 (by omega) (by omega)).elim (fun h1 => ⟨_, h1⟩) fun h1 => ?_
  refine (A4 n a (a.Latches.length : Int) _ h.2.1 n 0 (by omega) (by omega)).elim (fun h2 => ⟨_, h1.trans h2⟩) fun h2 => ⟨_, h1.trans h2⟩
theorem PFnExactIsLatchSystem {a : S_LatchSystem} (hR : R_LatchSystem a) : ∃ n, F_laws_FnExactIsLatchSystem n a = some true := by
  refine ⟨1048577, ?_⟩
  obtain ⟨r, e, hr, hs⟩ := Z_LatchSystem (n := 1048577) (left := 1048576) hR (by omega) (by omega) (by omega)
  rw [F_laws_FnExactIsLatchSystem, e, Option.bind_some]
  by_cases h0 : r < 0
  · rw [decide_eq_true h0]; rfl
  · have hS := hs (by omega)
    obtain ⟨b, h1, h2⟩ := A5 (n := 1048577) hS (by omega)
    rw [decide_eq_false h0, cond_false]
    simp [T_LatchSystem hS (Nat.le_refl _), E_LatchSystem hS (Nat.le_refl _), h1, h2]
end Go.Proofs.Ytmhmpfckdhiijaa
