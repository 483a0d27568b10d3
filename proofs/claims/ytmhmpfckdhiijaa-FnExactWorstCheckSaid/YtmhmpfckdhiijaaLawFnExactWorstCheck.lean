/- The plain law behind FnExactWorstCheck: the plain function answers true; no condition. -/
import Derived.Test.YtmhmpfckdhiijaaWalkFnExactWorstCheck
set_option linter.all false
namespace Go.Proofs.Ytmhmpfckdhiijaa
open Go Go.RowKit Go.Eng
theorem L15 (n : Nat) (a : List S_Check) (k : Int → List S_Check → Option (List S_Check)) : ∀ m i l, F15_L1 n a k m i l = cpL a (F53 n) k m i l
  | 0, _, _ => rfl
  | m + 1, i, l => by simp only [F15_L1_s, cpL_s, L15 n a k m]
theorem P15 {n : Nat} {a : List S_Check} (h : a.length ≤ 1048576) (hn : 1048577 ≤ n) : F15 n a = some a := by
  rw [F15, mkN_ok h (by omega), Option.bind_some, L15]
  have := cpL_eq (f := F53 n) (g := id) (k := fun (i20 : Int) (l21 : List S_Check) => some l21) (fun x _ => rfl) h n 0 (List.replicate a.length (S_Check.mk 0 0 0 0)) (by omega) (by omega) (by simp) (by simp)
  simpa using this
theorem P54 (n : Nat) (x : S_Check) : F54 n x x = some true := by simp [F54]
theorem L17 (n : Nat) (a b : List S_Check) (k : Int → Option Bool) : ∀ m i, F17_L1 n a b k m i = eqL a b (F54 n) (some false) k m i
  | 0, _ => rfl
  | m + 1, i => by simp only [F17_L1_s, eqL_s, L17 n a b k m]
theorem P17 {n : Nat} {a : List S_Check} (h : a.length ≤ 1048576) (hn : 1048577 ≤ n) : F17 n a a = some true := by
  rw [F17, L17]
  have := eqL_same (f := F54 n) (no := some false) (k := fun (i : Int) => some true) (fun x _ => P54 n x) h n 0 (by omega) (by omega)
  simpa using this
theorem P14 (a : List S_Check) (h : a.length ≤ 1048576) : ∀ (m i : Nat) (j : Int), i ≤ a.length → a.length - i < m → j < i → ∃ r, F14_L1 a (fun i5 i6 => some i5) m j i = some r ∧ F16_L1 a (fun i5 i6 => some i5) m j i = some r
  | 0, i, j, _, hm, _ => by omega
  | m + 1, i, j, hi, hm, hj => by
    rw [F14_L1_s, F16_L1_s]
    by_cases hlt : i < a.length
    · have hd : decide ((i : Int) < (a.length : Int)) = true := decide_eq_true (by omega)
      have hx : getI a i = some a[i] := by rw [getI_nat]; exact List.getElem?_eq_getElem hlt
      rw [hd, cond_true, cond_true, hx, Option.bind_some, wrap64 (by omega) (by omega)]
      by_cases h0 : j < 0
      · simp only [decide_eq_true h0, cond_true, Option.bind_some]
        exact P14 a h m (i + 1) i (by omega) (by omega) (by omega)
      · obtain ⟨y, hy, _⟩ := getI_in (xs := a) (i := j) (by omega) (by omega)
        simp only [decide_eq_false h0, cond_false, Option.bind_some, hy]
        cases decide (a[i].Slack < y.Slack)
        · exact P14 a h m (i + 1) j (by omega) (by omega) (by omega)
        · exact P14 a h m (i + 1) i (by omega) (by omega) (by omega)
    · have hd : decide ((i : Int) < (a.length : Int)) = false := decide_eq_false (by omega)
      rw [hd, cond_false, cond_false]
      exact ⟨j, rfl, rfl⟩
theorem P3 {a : List S_Check} (h : a.length ≤ 9223372036854775807 ∧ ∀ x ∈ a, R_Check x) : ∃ n, F3 n a = some true := by
  refine ⟨1048577, ?_⟩
  rw [F3, F13, wrap64 (by omega) (by omega)]
  by_cases hl : a.length ≤ 1048576
  · have hd : decide ((1048576 : Int) - (a.length : Int) < 0) = false := decide_eq_false (by omega)
    obtain ⟨r, h1, h2⟩ := P14 a hl 1048577 0 (-1) (by omega) (by omega) (by omega)
    simp only [hd, cond_false, Option.bind_some, P15 hl (Nat.le_refl _), P17 hl (Nat.le_refl _)]
    rw [F14, show (0 : Int) = ((0 : Nat) : Int) from rfl, h1, Option.bind_some, F16, show (0 : Int) = ((0 : Nat) : Int) from rfl, h2]
    simp
  · have hd : decide ((1048576 : Int) - (a.length : Int) < 0) = true := decide_eq_true (by omega)
    simp only [hd, cond_true, Option.bind_some]
    rfl
end Go.Proofs.Ytmhmpfckdhiijaa
