/- The plain law behind FnExactShiftLinks: the plain function answers true; no condition. -/
import Derived.Test.YtmhmpfckdhiijaaWalkFnExactShiftLinks
set_option linter.all false
namespace Go.Proofs.Ytmhmpfckdhiijaa
open Go Go.RowKit Go.Eng
theorem bif_or {b c : Bool} : (bif b then some true else some c) = some (b || c) := by cases b <;> rfl
theorem dlt {i N : Nat} (h : i < N) : decide ((i : Int) < (N : Int)) = true := decide_eq_true (by omega)
theorem dnl (N : Nat) : decide ((N : Int) < (N : Int)) = false := decide_eq_false (by omega)
theorem wS {i : Nat} (h : i < 4611686018427387904) : IntKind.wrap IntKind.i64 ((i : Int) + 1) = ((i + 1 : Nat) : Int) := by rw [wrap64 (by omega) (by omega)]; simp
theorem getI_el {α : Type} {xs : List α} {i : Nat} (h : i < xs.length) : getI xs (i : Int) = some xs[i] := by rw [getI_nat]; exact List.getElem?_eq_getElem h
/-- a loop: an invariant, and what holds of its result -/
theorem loop {σ R : Type} {L : Nat → Int → σ → Option R} (N : Nat) (I : Nat → σ → Prop) (Post : Option R → Prop)
    (hs : ∀ (m i : Nat) (st : σ), i < N → I i st → (∃ st', I (i + 1) st' ∧ L (m + 1) (i : Int) st = L m ((i + 1 : Nat) : Int) st') ∨ Post (L (m + 1) (i : Int) st))
    (he : ∀ (m : Nat) (st : σ), I N st → Post (L (m + 1) (N : Int) st)) : ∀ (m i : Nat) (st : σ), i ≤ N → N - i < m → I i st → Post (L m (i : Int) st)
  | 0, i, st, _, hm, _ => by omega
  | m + 1, i, st, hi, hm, h => by
    by_cases hlt : i < N
    · rcases hs m i st hlt h with ⟨st', h1, h2⟩ | h1
      · rw [h2]; exact loop N I Post hs he m (i + 1) st' (by omega) (by omega) h1
      · exact h1
    · obtain rfl : i = N := by omega
      exact he m st h
theorem loop_fold {α σ R : Type} {xs : List α} {L : Nat → Int → σ → Option R} {k : σ → Option R} (f : σ → α → σ) (I : Nat → σ → Prop)
    (hs : ∀ (m i : Nat) (h : i < xs.length) (st : σ), I i st → L (m + 1) (i : Int) st = L m ((i + 1 : Nat) : Int) (f st xs[i]) ∧ I (i + 1) (f st xs[i]))
    (he : ∀ (m : Nat) (st : σ), I xs.length st → L (m + 1) (xs.length : Int) st = k st) (m : Nat) (st : σ) (h : I 0 st) (hm : xs.length < m) : L m 0 st = k (xs.foldl f st) ∧ I xs.length (xs.foldl f st) := by
  refine loop xs.length (fun i s => I i s ∧ (xs.drop i).foldl f s = xs.foldl f st) (fun o => o = k (xs.foldl f st) ∧ I xs.length (xs.foldl f st)) ?_ ?_ m 0 st (by omega) (by omega) ⟨h, by simp⟩
  · intro m i s hi ⟨h1, h2⟩
    obtain ⟨e, h3⟩ := hs m i hi s h1
    exact .inl ⟨_, ⟨h3, by rw [List.drop_eq_getElem_cons hi] at h2; exact h2⟩, e⟩
  · intro m s ⟨h1, h2⟩
    rw [List.drop_length] at h2
    have h2 : s = xs.foldl f st := h2
    rw [← h2]
    exact ⟨he m s h1, h1⟩
theorem appN_ok {α : Type} {xs ys : List α} {b : Nat} (h : xs.length + ys.length ≤ 16777216) (hb : b ≤ 1048576) : appN xs ys b = some (xs ++ ys) := by
  unfold appN
  have : (xs.length + ys.length) * b ≤ 16777216 * 1048576 := Nat.mul_le_mul h hb
  rw [if_pos ⟨by omega, by omega⟩]
theorem loop_map {α R : Type} {L : Nat → Int → List α → Option R} {k : List α → Option R} (g : Nat → α → α) (N : Nat)
    (hs : ∀ (m i : Nat) (l : List α) (hl : l.length = N) (h : i < N), L (m + 1) (i : Int) l = L m ((i + 1 : Nat) : Int) (l.set i (g i l[i]))) (he : ∀ (m : Nat) (l : List α), L (m + 1) (N : Int) l = k l)
    (m : Nat) (l : List α) (hl : l.length = N) (hm : N < m) : L m 0 l = k (l.mapIdx g) := by
  refine loop N (fun i s => s.length = N ∧ ∀ j, s[j]? = if j < i then (l.mapIdx g)[j]? else l[j]?) (fun o => o = k (l.mapIdx g)) ?_ ?_ m 0 l (by omega) (by omega) ⟨hl, fun j => by simp⟩
  · intro m i s hi ⟨h1, h2⟩
    refine .inl ⟨_, ⟨by simpa using h1, fun j => ?_⟩, hs m i s h1 hi⟩
    have hsi := h2 i
    rw [if_neg (Nat.lt_irrefl _), List.getElem?_eq_getElem (by omega), List.getElem?_eq_getElem (by omega)] at hsi
    rw [List.getElem?_set]
    by_cases e : i = j
    · subst e
      rw [if_pos rfl, if_pos (by omega), if_pos (by omega), List.getElem?_mapIdx, List.getElem?_eq_getElem (by omega)]
      simp only [Option.some.inj hsi]; rfl
    · rw [if_neg e, h2 j]
      by_cases e2 : j < i
      · rw [if_pos e2, if_pos (by omega)]
      · rw [if_neg e2, if_neg (by omega)]
  · intro m s ⟨h1, h2⟩
    have : s = l.mapIdx g := by
      apply List.ext_getElem?
      intro j
      rw [h2 j]
      by_cases e : j < N
      · rw [if_pos e]
      · rw [if_neg e, List.getElem?_eq_none (by omega), List.getElem?_eq_none (by simp; omega)]
    rw [he, this]
/-- a value there is, and what holds of it -/
def Tot {α : Type} (Q : α → Prop) (o : Option α) : Prop := ∃ v, o = some v ∧ Q v
theorem Tot.some {α : Type} {Q : α → Prop} {v : α} (h : Q v) : Tot Q (some v) := ⟨v, rfl, h⟩
theorem A1 (n : Nat) (a : S_LatchSystem) (k : Int → Option Bool) : ∀ m i, F_spec_IsLatchSystem_L1 n a k m i = F_impl_IsLatchSystem_L1 a k m i
  | 0, _ => rfl
  | m + 1, i => by
    have key : ∀ x : S_Latch, (!((decide (x.Open ≥ 0)) && (decide (x.Open ≤ 100000))) || !((decide (x.Close ≥ x.Open)) && (decide (x.Close ≤ 100000)))) = (((decide (x.Open < 0)) || (decide (x.Open > x.Close))) || (decide (x.Close > 100000))) := by
      intro x
      rw [Bool.eq_iff_iff]
      simp only [Bool.or_eq_true, Bool.not_eq_true', Bool.and_eq_false_iff, decide_eq_true_eq, decide_eq_false_iff_not]
      omega
    rw [F_spec_IsLatchSystem_L1_s, F_impl_IsLatchSystem_L1_s]
    simp only [F_spec_l01In, Option.bind_some, bif_or, key, A1 n a k m]
theorem A2 (n : Nat) (a : S_LatchSystem) (k : Int → Option Bool) : ∀ m i, F_spec_IsLatchSystem_L2 n a k m i = F_impl_IsLatchSystem_L2 n a (a.Latches.length : Int) k m i
  | 0, _ => rfl
  | m + 1, i => by
    rw [F_spec_IsLatchSystem_L2_s, F_impl_IsLatchSystem_L2_s]
    simp only [F_spec_l01In, F_impl_within, A2 n a k m]
theorem A3 (a : S_LatchSystem) (k : Int → Option Bool) (h : a.Latches.length ≤ 1048576) : ∀ (m i : Nat), i ≤ a.Latches.length → a.Latches.length - i < m → F_impl_IsLatchSystem_L1 a k m i = some false ∨ F_impl_IsLatchSystem_L1 a k m i = k (a.Latches.length : Int)
  | 0, i, _, hm => by omega
  | m + 1, i, hi, hm => by
    rw [F_impl_IsLatchSystem_L1_s]
    by_cases hlt : i < a.Latches.length
    · have hd : decide ((i : Int) < (a.Latches.length : Int)) = true := decide_eq_true (by omega)
      have hx : getI a.Latches i = some a.Latches[i] := by rw [getI_nat]; exact List.getElem?_eq_getElem hlt
      rw [hd, cond_true, hx, Option.bind_some, wrap64 (by omega) (by omega)]
      cases ((decide (a.Latches[i].Open < 0) || decide (a.Latches[i].Open > a.Latches[i].Close)) || decide (a.Latches[i].Close > 100000))
      · exact A3 a k h m (i + 1) (by omega) (by omega)
      · exact .inl rfl
    · have hd : decide ((i : Int) < (a.Latches.length : Int)) = false := decide_eq_false (by omega)
      rw [hd, cond_false]
      exact .inr (by rw [show i = a.Latches.length by omega])
theorem A4 (n : Nat) (a : S_LatchSystem) (q : Int) (k : Int → Option Bool) (h : a.Links.length ≤ 1048576) : ∀ (m i : Nat), i ≤ a.Links.length → a.Links.length - i < m → F_impl_IsLatchSystem_L2 n a q k m i = some false ∨ F_impl_IsLatchSystem_L2 n a q k m i = k (a.Links.length : Int)
  | 0, i, _, hm => by omega
  | m + 1, i, hi, hm => by
    rw [F_impl_IsLatchSystem_L2_s]
    by_cases hlt : i < a.Links.length
    · have hd : decide ((i : Int) < (a.Links.length : Int)) = true := decide_eq_true (by omega)
      have hx : getI a.Links i = some a.Links[i] := by rw [getI_nat]; exact List.getElem?_eq_getElem hlt
      simp only [hd, cond_true, hx, Option.bind_some, wrap64 (x := (i : Int) + 1) (by omega) (by omega), F_impl_within, bif_or]
      generalize ((_ || _) : Bool) = b
      cases b
      · exact A4 n a q k h m (i + 1) (by omega) (by omega)
      · exact .inl rfl
    · have hd : decide ((i : Int) < (a.Links.length : Int)) = false := decide_eq_false (by omega)
      rw [hd, cond_false]
      exact .inr (by rw [show i = a.Links.length by omega])
theorem A5 {n : Nat} {a : S_LatchSystem} (h : SM_LatchSystem a) (hn : 1048577 ≤ n) : ∃ b, F_spec_IsLatchSystem n a = some b ∧ F_impl_IsLatchSystem n a = some b := by
  have e : F_spec_IsLatchSystem n a = F_impl_IsLatchSystem n a := by
    rw [F_spec_IsLatchSystem, F_impl_IsLatchSystem, A1]
    simp only [A2, F_impl_length_impl_Latch, Option.bind_some]
  rw [e]
  refine (?_ : ∃ b, F_impl_IsLatchSystem n a = some b).elim fun b hb => ⟨b, hb, hb⟩
  have hl1 := h.1.1
  have hl2 := h.2.1
  rw [F_impl_IsLatchSystem]
  simp only [F_impl_length_impl_Latch, Option.bind_some]
  refine (A3 a _ h.1.1 n 0 (by omega) (by omega)).elim (fun h1 => ⟨_, h1⟩) fun h1 => ?_
  refine (A4 n a (a.Latches.length : Int) _ h.2.1 n 0 (by omega) (by omega)).elim (fun h2 => ⟨_, h1.trans h2⟩) fun h2 => ⟨_, h1.trans h2⟩
/-- a valid system -/
structure Val (a : S_LatchSystem) : Prop where
  latch : ∀ (j : Nat) (x : S_Latch), a.Latches[j]? = some x → 0 ≤ x.Open ∧ x.Open ≤ x.Close ∧ x.Close ≤ 100000
  link : ∀ (j : Nat) (x : S_LatchLink), a.Links[j]? = some x → (0 ≤ x.From ∧ x.From < a.Latches.length) ∧ (0 ≤ x.To ∧ x.To < a.Latches.length) ∧ (0 ≤ x.Delay ∧ x.Delay ≤ 100000) ∧ (0 ≤ x.Shift ∧ x.Shift ≤ 100000)
  few : a.Latches.length ≤ 12 ∧ a.Links.length ≤ 60
theorem V4 {n : Nat} {s : S_LatchSystem} (hv : Val s) (hn : 1048577 ≤ n) : F_impl_IsLatchSystem n s = some true := by
  have few := hv.few
  rw [F_impl_IsLatchSystem]
  refine loop (L := fun m i (_ : Unit) => F_impl_IsLatchSystem_L1 s _ m i) s.Latches.length (fun _ _ => True) (fun r => r = some true) ?_ ?_ n 0 () (by omega) (by omega) trivial
  · intro m i _ hi _
    refine .inl ⟨(), trivial, ?_⟩
    have := hv.latch i _ (List.getElem?_eq_getElem hi)
    have c : ((decide (s.Latches[i].Open < 0) || decide (s.Latches[i].Open > s.Latches[i].Close)) || decide (s.Latches[i].Close > 100000)) = false := by
      simp only [Bool.or_eq_false_iff, decide_eq_false_iff_not]; omega
    simp only [F_impl_IsLatchSystem_L1_s, dlt hi, cond_true, getI_el hi, Option.bind_some, c, cond_false, wS (show i < 4611686018427387904 by omega)]
  · intro m _ _
    simp only [F_impl_IsLatchSystem_L1_s, dnl, cond_false, F_impl_length_impl_Latch, Option.bind_some]
    refine loop (L := fun m i (_ : Unit) => F_impl_IsLatchSystem_L2 n s _ _ m i) s.Links.length (fun _ _ => True) (fun r => r = some true) ?_ ?_ n 0 () (by omega) (by omega) trivial
    · intro m i _ hi _
      refine .inl ⟨(), trivial, ?_⟩
      have := hv.link i _ (List.getElem?_eq_getElem hi)
      have w1 : IntKind.wrap IntKind.i64 ((s.Latches.length : Int) - 1) = (s.Latches.length : Int) - 1 := wrap64 (by omega) (by omega)
      have c1 : (decide (s.Links[i].From ≥ 0) && decide (s.Links[i].From ≤ (s.Latches.length : Int) - 1)) = true := by simp only [Bool.and_eq_true, decide_eq_true_eq]; omega
      have c2 : (decide (s.Links[i].To ≥ 0) && decide (s.Links[i].To ≤ (s.Latches.length : Int) - 1)) = true := by simp only [Bool.and_eq_true, decide_eq_true_eq]; omega
      have c3 : (decide (s.Links[i].Delay ≥ 0) && decide (s.Links[i].Delay ≤ 100000)) = true := by simp only [Bool.and_eq_true, decide_eq_true_eq]; omega
      have c4 : (decide (s.Links[i].Shift ≥ 0) && decide (s.Links[i].Shift ≤ 100000)) = true := by simp only [Bool.and_eq_true, decide_eq_true_eq]; omega
      simp only [F_impl_IsLatchSystem_L2_s, dlt hi, cond_true, getI_el hi, Option.bind_some, F_impl_within, w1, c1, c2, c3, c4, Bool.not_true, cond_false, wS (show i < 4611686018427387904 by omega)]
    · intro m _ _
      simp only [F_impl_IsLatchSystem_L2_s, dnl, cond_false]
      have c5 : decide ((s.Latches.length : Int) ≤ 12) = true := decide_eq_true (by omega)
      have c6 : decide ((s.Links.length : Int) ≤ 60) = true := decide_eq_true (by omega)
      rw [c5, c6]; rfl
def room (s : S_LatchSystem) : Int := s.Links.foldl (fun r x => min r (IntKind.wrap IntKind.i64 (100000 - x.Shift))) 100000
theorem Rm1 {n : Nat} {s : S_LatchSystem} (h : s.Links.length ≤ 1048576) (hn : 1048577 ≤ n) : F_impl_LatchSystem_room n s = some (room s) ∧ F_spec_l18Room n s = some (room s) := by
  constructor
  · rw [F_impl_LatchSystem_room]
    refine (loop_fold (xs := s.Links) (L := fun m i (r : Int) => F_impl_LatchSystem_room_L1 s (fun i14 i15 => (some i14)) m r i) (k := fun r => some r) _ (fun _ _ => True) ?_ ?_ n 100000 trivial (by omega)).1
    · intro m i hi r _
      refine ⟨?_, trivial⟩
      simp only [F_impl_LatchSystem_room_L1_s, dlt hi, cond_true, getI_el hi, Option.bind_some, wS (show i < 4611686018427387904 by omega)]
    · intro m r _
      simp only [F_impl_LatchSystem_room_L1_s, dnl, cond_false]
  · rw [F_spec_l18Room]
    refine (loop_fold (xs := s.Links) (L := fun m i (r : Int) => F_spec_l18Room_L1 s (fun i14 i15 => (some i14)) m r i) (k := fun r => some r) _ (fun _ _ => True) ?_ ?_ n 100000 trivial (by omega)).1
    · intro m i hi r _
      refine ⟨?_, trivial⟩
      simp only [F_spec_l18Room_L1_s, dlt hi, cond_true, getI_el hi, Option.bind_some, wS (show i < 4611686018427387904 by omega)]
    · intro m r _
      simp only [F_spec_l18Room_L1_s, dnl, cond_false]
def sft (s : S_LatchSystem) (b : Int) : S_LatchSystem := S_LatchSystem.mk s.Latches (s.Links.map fun x => S_LatchLink.mk x.From x.To x.Delay (IntKind.wrap IntKind.i64 (x.Shift + b)))
theorem mapIdx_map {α β : Type} {f : α → β} : ∀ (l : List α), l.mapIdx (fun _ x => f x) = l.map f := by
  intro l
  apply List.ext_getElem?
  intro j
  rw [List.getElem?_mapIdx, List.getElem?_map]
theorem Sf1 {n : Nat} {s : S_LatchSystem} {b : Int} (h1 : s.Latches.length ≤ 1048576) (h2 : s.Links.length ≤ 1048576) (hn : 1048577 ≤ n) : F_impl_LatchSystem_shifted n s b = some (sft s b) ∧ F_spec_l18Shifted n s b = some (sft s b) := by
  have a1 : appN ([] : List S_Latch) s.Latches 16 = some s.Latches := by rw [appN_ok (by simp; omega) (by omega)]; rfl
  have a2 : appN ([] : List S_LatchLink) s.Links 32 = some s.Links := by rw [appN_ok (by simp; omega) (by omega)]; rfl
  constructor
  · rw [F_impl_LatchSystem_shifted, F_slices_Clone_impl_Latch_impl_Latch, F_slices_Clone_impl_LatchLink_impl_LatchLink, a1, a2]
    simp only [Option.bind_some]
    refine (loop_map (L := fun m i l => F_impl_LatchSystem_shifted_L1 b s.Links (fun i160 l164 => (some ((S_LatchSystem.mk s.Latches l164)))) m i l) (k := fun l => some (S_LatchSystem.mk s.Latches l)) (fun _ x => S_LatchLink.mk x.From x.To x.Delay (IntKind.wrap IntKind.i64 (x.Shift + b))) s.Links.length ?_ ?_ n s.Links rfl (by omega)).trans (by rw [mapIdx_map]; rfl)
    · intro m i l hl hi
      simp only [F_impl_LatchSystem_shifted_L1_s, dlt hi, cond_true, getI_el (show i < l.length by omega), Option.bind_some, wS (show i < 4611686018427387904 by omega), Int.toNat_natCast]
    · intro m l
      simp only [F_impl_LatchSystem_shifted_L1_s, dnl, cond_false]
  · rw [F_spec_l18Shifted, a1, a2]
    simp only [Option.bind_some]
    refine loop (L := fun m i l => F_spec_l18Shifted_L1 b (fun i827 l831 => (some ((S_LatchSystem.mk s.Latches l831)))) m i l) s.Links.length (fun i l => l.length = s.Links.length ∧ l = s.Links.mapIdx (fun j x => if j < i then S_LatchLink.mk x.From x.To x.Delay (IntKind.wrap IntKind.i64 (x.Shift + b)) else x)) (fun r => r = some (sft s b)) ?_ ?_ n 0 s.Links (by omega) (by omega) ⟨rfl, by simp [mapIdx_map]⟩
    · intro m i l hi ⟨hl, e⟩
      refine .inl ⟨l.set i (S_LatchLink.mk s.Links[i].From s.Links[i].To s.Links[i].Delay (IntKind.wrap IntKind.i64 (s.Links[i].Shift + b))), ⟨by simpa using hl, ?_⟩, ?_⟩
      · apply List.ext_getElem?
        intro j
        rw [List.getElem?_set, e, List.getElem?_mapIdx, List.getElem?_mapIdx]
        by_cases q : i = j
        · subst q
          rw [if_pos rfl, if_pos (by simpa using hi), List.getElem?_eq_getElem hi]; simp
        · rw [if_neg q]
          cases s.Links[j]? with
          | none => rfl
          | some x =>
            simp only [Option.map_some]
            by_cases q2 : j < i
            · rw [if_pos q2, if_pos (by omega)]
            · rw [if_neg q2, if_neg (by omega)]
      · have g : getI l (i : Int) = some s.Links[i] := by
          rw [getI_nat, e, List.getElem?_mapIdx, List.getElem?_eq_getElem hi]; simp
        simp only [F_spec_l18Shifted_L1_s, dlt (show i < l.length by omega), cond_true, g, Option.bind_some, wS (show i < 4611686018427387904 by omega), Int.toNat_natCast]
    · intro m l ⟨hl, e⟩
      have : decide ((s.Links.length : Int) < (l.length : Int)) = false := decide_eq_false (by omega)
      simp only [F_spec_l18Shifted_L1_s, this, cond_false]
      rw [sft, e, ← mapIdx_map]
      congr 2
      apply List.ext_getElem?
      intro j
      rw [List.getElem?_mapIdx, List.getElem?_mapIdx]
      cases hj : s.Links[j]? with
      | none => rfl
      | some x =>
        have := (List.getElem?_eq_some_iff.1 hj).1
        simp only [Option.map_some, if_pos this]
theorem sft_sm {s : S_LatchSystem} (h : SM_LatchSystem s) (b : Int) : SM_LatchSystem (sft s b) := ⟨h.1, ⟨by simpa [sft] using h.2.1, fun _ _ => ⟨trivial, trivial, trivial, trivial⟩⟩⟩
theorem SL1 {n : Nat} {s : S_LatchSystem} (h : SM_LatchSystem s) (hn : 1048577 ≤ n) (b : Int) : ∃ r : S_LatchSystem × Int, F_impl_ShiftLinks n s b = some r ∧ F_spec_ShiftLinks n s b = some r ∧ SM_LatchSystem r.1 ∧ (Val s → 0 ≤ b → b ≤ room s → r = (sft s b, 0)) := by
  obtain ⟨v, h1, h2⟩ := A5 h hn
  have hl1 := h.1.1
  have hl2 := h.2.1
  obtain ⟨r1, r2⟩ := Rm1 (n := n) hl2 hn
  obtain ⟨s1, s2⟩ := Sf1 (n := n) (s := s) (b := b) hl1 hl2 hn
  have sm0 : SM_LatchSystem (S_LatchSystem.mk [] []) := ⟨⟨by simp, by simp⟩, ⟨by simp, by simp⟩⟩
  rw [F_impl_ShiftLinks, F_spec_ShiftLinks, h1, h2]
  simp only [Option.bind_some, r1, r2, s1, s2]
  cases v with
  | false => exact ⟨_, rfl, rfl, sm0, fun hv => by rw [V4 hv hn] at h2; cases h2⟩
  | true =>
    simp only [Bool.not_true, cond_false]
    by_cases hb : b < 0
    · rw [decide_eq_true hb]; exact ⟨_, rfl, rfl, sm0, fun _ _ => by omega⟩
    · rw [decide_eq_false hb]
      simp only [cond_false, Option.bind_some]
      by_cases hp : (s.Links.length : Int) > 0
      · rw [decide_eq_true hp]
        simp only [cond_true, Option.bind_some, Bool.and_true]
        by_cases hr : b > room s
        · rw [decide_eq_true hr]; exact ⟨_, rfl, rfl, sm0, fun _ _ => by omega⟩
        · rw [decide_eq_false hr]; exact ⟨_, rfl, rfl, sft_sm h b, fun _ _ _ => rfl⟩
      · rw [decide_eq_false hp]
        simp only [cond_false, Option.bind_some, Bool.and_false]
        exact ⟨_, rfl, rfl, sft_sm h b, fun _ _ _ => rfl⟩
theorem PFnExactShiftLinks {a : S_LatchSystem} {b : Int} (hR : R_LatchSystem a) (hB : inK .i64 b) : ∃ n, F_laws_FnExactShiftLinks n a b = some true := by
  refine ⟨1048577, ?_⟩
  obtain ⟨r, e, hr, hs⟩ := Z_LatchSystem (n := 1048577) (left := 1048576) hR (by omega) (by omega) (by omega)
  rw [F_laws_FnExactShiftLinks, e, Option.bind_some]
  by_cases h0 : r < 0
  · rw [decide_eq_true h0]; rfl
  have hS := hs (by omega)
  obtain ⟨x, h1, h2, h3, _⟩ := SL1 (n := 1048577) hS (Nat.le_refl _) b
  obtain ⟨q, m1, m2, m3, m4⟩ := M_LatchSystem (n := 1048577) (k := 1) hS (by omega) (by omega) (Nat.le_refl _)
  obtain ⟨p, p1, p2, p3, p4⟩ := M_LatchSystem (n := 1048577) (k := 1) h3 (by omega) (by omega) (Nat.le_refl _)
  rw [decide_eq_false h0, cond_false]
  simp [T_LatchSystem hS (Nat.le_refl _), E_LatchSystem hS (Nat.le_refl _), E_LatchSystem h3 (Nat.le_refl _), h1, h2, m1, p1, p4, show ¬ q.1 < 0 by omega, show ¬ p.1 < 0 by omega]
end Go.Proofs.Ytmhmpfckdhiijaa
