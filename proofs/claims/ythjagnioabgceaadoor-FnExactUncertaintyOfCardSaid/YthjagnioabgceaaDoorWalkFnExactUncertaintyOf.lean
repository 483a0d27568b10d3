/- The walks: every function that FnExactUncertaintyOf reaches computes the plain function that is typed beside it; no condition. -/
import Derived.Test.YthjagnioabgceaaDoorWalkFnExactUncertaintyOfP0
import Derived.Test.YthjagnioabgceaaDoorDat
import Derived.Test.YthjagnioabgceaaDoorShelf
set_option linter.all false
set_option maxRecDepth 20000
namespace Go.Proofs.YthjagnioabgceaaDoor
open Go Go.RowKit Go.Eng
theorem Z_Clock {n : Nat} {a : S_Clock} {left : Int} (hR : R_Clock a) (h0 : 0 ≤ left) (h1 : left ≤ 1048576) (hn : 1048577 ≤ n) : ∃ r, F_laws_szClock n a left = some r ∧ r ≤ left ∧ (0 ≤ r → SM_Clock a) := by
  rw [F_laws_szClock]
  have g0 : a.Name.size ≤ 9223372036854775807 := maxLen_is ▸ hR.1
  have w0 : IntKind.wrap IntKind.i64 (left - (a.Name.size : Int)) = left - (a.Name.size : Int) := wrap64 (by omega) (by omega)
  rw [w0]
  generalize hq0 : left - (a.Name.size : Int) = r0
  by_cases h_0 : r0 < 0
  · rw [decide_eq_true h_0]; exact ⟨-1, rfl, by omega, fun h => by omega⟩
  rw [decide_eq_false h_0, cond_false]
  exact ⟨_, rfl, by omega, fun _ => ⟨(by omega), trivial, trivial, trivial, trivial, trivial, trivial, trivial, trivial, trivial, trivial⟩⟩
theorem Z_ClockS {n : Nat} {a : List S_Clock} {left : Int} (hR : (fun xs => xs.length ≤ 9223372036854775807 ∧ ∀ x ∈ xs, R_Clock x) a) (h0 : 0 ≤ left) (h1 : left ≤ 1048576) (hn : 1048577 ≤ n) : ∃ r, F_laws_szClockS n a left = some r ∧ r ≤ left ∧ (0 ≤ r → (fun xs => xs.length ≤ 1048576 ∧ ∀ x ∈ xs, SM_Clock x) a) := by
  have hl := hR.1
  rw [F_laws_szClockS, wrap64 (by omega) (by omega)]
  by_cases h : left - (a.length : Int) < 0
  · rw [decide_eq_true h]; exact ⟨-1, rfl, by omega, fun h => by omega⟩
  · rw [decide_eq_false h, cond_false]
    obtain ⟨r, e, hr, hs⟩ := szL (xs := a) (L := fun m l i => F_laws_szClockS_L1 n a (fun i7 i8 => (some i7)) m l i) (f := F_laws_szClock n) (SM := SM_Clock) (by omega) (fun x hx left g0 g1 => Z_Clock (hR.2 x hx) g0 g1 hn) (fun m i left hi hi2 => by simp only [F_laws_szClockS_L1_s, dltE hi, cond_true, getI_elE hi, Option.bind_some, wSE hi2]) (fun m left => by simp only [F_laws_szClockS_L1_s, dnlE, cond_false]) n 0 (left - (a.length : Int)) (by omega) (by omega) (by omega) (by omega) (fun j _ hj => by omega)
    exact ⟨r, e, by omega, fun h => ⟨by omega, hs h⟩⟩
theorem T_Clock {n : Nat} {a : S_Clock} (h : SM_Clock a) (hn : 1048577 ≤ n) : F_laws_toClock n a = some a := by
  rfl
theorem TL_ClockS {n : Nat} {a : List S_Clock} {k : Int → List S_Clock → Option (List S_Clock)} : ∀ (m : Nat) (i : Int) (l : List S_Clock), F_laws_toClockS_L1 n a k m i l = cpL a (F_laws_toClock n) k m i l
  | 0, _, _ => rfl
  | m + 1, i, l => by simp only [F_laws_toClockS_L1_s, cpL_s, Option.bind_some, TL_ClockS (n := n) (a := a) (k := k) m]
theorem T_ClockS {n : Nat} {a : List S_Clock} (h : (fun xs => xs.length ≤ 1048576 ∧ ∀ x ∈ xs, SM_Clock x) a) (hn : 1048577 ≤ n) : F_laws_toClockS n a = some a := by
  rw [F_laws_toClockS, mkN_ok h.1 (by omega), Option.bind_some, TL_ClockS (n := n)]
  exact cpL_id (fun x hx => T_Clock (h.2 x hx) hn) h.1 hn
theorem E_Clock {n : Nat} {a : S_Clock} (h : SM_Clock a) (hn : 1048577 ≤ n) : F_laws_eqClock n a a = some true := by
  simp [F_laws_eqClock]
theorem EL_ClockS {n : Nat} {a b : List S_Clock} {k : Int → Option Bool} : ∀ (m : Nat) (i : Int), F_laws_eqClockS_L1 n a b k m i = eqL a b (F_laws_eqClock n) (some false) k m i
  | 0, _ => rfl
  | m + 1, i => by simp only [F_laws_eqClockS_L1_s, eqL_s, Option.bind_some, bne, EL_ClockS (n := n) (a := a) (b := b) (k := k) m]
theorem E_ClockS {n : Nat} {a : List S_Clock} (h : (fun xs => xs.length ≤ 1048576 ∧ ∀ x ∈ xs, SM_Clock x) a) (hn : 1048577 ≤ n) : F_laws_eqClockS n a a = some true := by
  rw [F_laws_eqClockS, EL_ClockS (n := n)]
  have := eqL_same (f := F_laws_eqClock n) (no := some false) (k := fun (i : Int) => some true) (fun x hx => E_Clock (h.2 x hx) hn) h.1 n 0 (by omega) (by omega)
  simpa using this
theorem Rd_2 : Rd Tryd.prog 2 (cInt .i64) (inK .i64) := Rd.int Tryd.underlying2
theorem Rd_9 : Rd Tryd.prog 9 cStr (fun s => s.size ≤ maxLen) := Rd.str Tryd.underlying9
theorem Rd_4 : Rd Tryd.prog 4 cBool (fun _ => True) := Rd.bool Tryd.underlying4
theorem Rd_56 : Rd Tryd.prog 56 C_Clock R_Clock := Rd.map (Rd.struct (fs := [_, _, _, _, _, _, _, _, _, _, _]) Tryd.underlying56 (by kernel_rfl) (RdF.cons Rd_9 rfl (by kernel_rfl) (RdF.cons Rd_2 rfl (by kernel_rfl) (RdF.cons Rd_2 rfl (by kernel_rfl) (RdF.cons Rd_2 rfl (by kernel_rfl) (RdF.cons Rd_2 rfl (by kernel_rfl) (RdF.cons Rd_2 rfl (by kernel_rfl) (RdF.cons Rd_2 rfl (by kernel_rfl) (RdF.cons Rd_4 rfl (by kernel_rfl) (RdF.cons Rd_2 rfl (by kernel_rfl) (RdF.cons Rd_2 rfl (by kernel_rfl) (RdF.one Rd_2 rfl (by kernel_rfl))))))))))))) (fun (x : S_Clock) => (x.Name, x.Place, x.Period, x.RiseAt, x.FallAt, x.Source, x.Divide, x.Invert, x.EarlyLatency, x.LateLatency, x.Uncertainty)) (fun p => (⟨p.1, p.2.1, p.2.2.1, p.2.2.2.1, p.2.2.2.2.1, p.2.2.2.2.2.1, p.2.2.2.2.2.2.1, p.2.2.2.2.2.2.2.1, p.2.2.2.2.2.2.2.2.1, p.2.2.2.2.2.2.2.2.2.1, p.2.2.2.2.2.2.2.2.2.2⟩ : S_Clock)) (fun _ => rfl)
theorem Rd_22 : Rd Tryd.prog 22 (cSl C_Clock) (fun xs => xs.length ≤ 9223372036854775807 ∧ ∀ x ∈ xs, R_Clock x) := Rd.slice Tryd.underlying22 (by kernel_rfl) rfl Rd_56
end Go.Proofs.YthjagnioabgceaaDoor
