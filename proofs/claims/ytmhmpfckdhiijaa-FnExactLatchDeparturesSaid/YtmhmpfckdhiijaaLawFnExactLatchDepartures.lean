/- The plain law behind FnExactLatchDepartures: the plain function answers true; no condition. -/
import Derived.Test.YtmhmpfckdhiijaaWalkFnExactLatchDepartures
set_option linter.all false
namespace Go.Proofs.Ytmhmpfckdhiijaa
open Go Go.RowKit Go.Eng
theorem bif_or {b c : Bool} : (bif b then some true else some c) = some (b || c) := by cases b <;> rfl
theorem dlt {i N : Nat} (h : i < N) : decide ((i : Int) < (N : Int)) = true := decide_eq_true (by omega)
theorem dnl (N : Nat) : decide ((N : Int) < (N : Int)) = false := decide_eq_false (by omega)
theorem wS {i : Nat} (h : i < 4611686018427387904) : IntKind.wrap IntKind.i64 ((i : Int) + 1) = ((i + 1 : Nat) : Int) := by rw [wrap64 (by omega) (by omega)]; simp
theorem getI_el {α : Type} {xs : List α} {i : Nat} (h : i < xs.length) : getI xs (i : Int) = some xs[i] := by rw [getI_nat]; exact List.getElem?_eq_getElem h
theorem getI_ok {α : Type} {xs : List α} {i : Int} (h0 : 0 ≤ i) (h1 : i < xs.length) : ∃ x, getI xs i = some x ∧ xs[i.toNat]? = some x := by
  obtain ⟨x, hx, _⟩ := getI_in h0 h1
  exact ⟨x, hx, (getI_lt hx).2.2⟩
/-- a loop: an invariant, and what holds of its result -/
theorem loop {σ R : Type} {L : Nat → Int → σ → Option R} (N : Nat) (I : Nat → σ → Prop) (Post : Option R → Prop)
    (hs : ∀ (m i : Nat) (st : σ), i < N → I i st → (∃ st', I (i + 1) st' ∧ L (m + 1) (i : Int) st = L m ((i + 1 : Nat) : Int) st') ∨ Post (L (m + 1) (i : Int) st))
    (he : ∀ (m : Nat) (st : σ), I N st → Post (L (m + 1) (N : Int) st)) : ∀ (m i : Nat) (st : σ), i ≤ N → N - i < m → I i st → Post (L m (i : Int) st)
  | 0, i, st, _, hm, _ => by omega
  | m + 1, i, st, hi, hm, h => by
    by_cases hlt : i < N
    · rcases hs m i st hlt h with ⟨st', h1, h2⟩ | h1
      · rw [h2]; exact loop N I Post hs he m (i + 1) st' (by omega) (by omega) h1
      · exact h1
    · obtain rfl : i = N := by omega
      exact he m st h
theorem loop_fold {α σ R : Type} {xs : List α} {L : Nat → Int → σ → Option R} {k : σ → Option R} (f : σ → α → σ) (I : Nat → σ → Prop)
    (hs : ∀ (m i : Nat) (h : i < xs.length) (st : σ), I i st → L (m + 1) (i : Int) st = L m ((i + 1 : Nat) : Int) (f st xs[i]) ∧ I (i + 1) (f st xs[i]))
    (he : ∀ (m : Nat) (st : σ), I xs.length st → L (m + 1) (xs.length : Int) st = k st) (m : Nat) (st : σ) (h : I 0 st) (hm : xs.length < m) : L m 0 st = k (xs.foldl f st) ∧ I xs.length (xs.foldl f st) := by
  refine loop xs.length (fun i s => I i s ∧ (xs.drop i).foldl f s = xs.foldl f st) (fun o => o = k (xs.foldl f st) ∧ I xs.length (xs.foldl f st)) ?_ ?_ m 0 st (by omega) (by omega) ⟨h, by simp⟩
  · intro m i s hi ⟨h1, h2⟩
    obtain ⟨e, h3⟩ := hs m i hi s h1
    exact .inl ⟨_, ⟨h3, by rw [List.drop_eq_getElem_cons hi] at h2; exact h2⟩, e⟩
  · intro m s ⟨h1, h2⟩
    rw [List.drop_length] at h2
    have h2 : s = xs.foldl f st := h2
    rw [← h2]
    exact ⟨he m s h1, h1⟩
theorem appN_ok {α : Type} {xs ys : List α} {b : Nat} (h : xs.length + ys.length ≤ 16777216) (hb : b ≤ 1048576) : appN xs ys b = some (xs ++ ys) := by
  unfold appN
  have : (xs.length + ys.length) * b ≤ 16777216 * 1048576 := Nat.mul_le_mul h hb
  rw [if_pos ⟨by omega, by omega⟩]
/-- a list is gathered -/
theorem loop_app {α β R : Type} {xs : List α} {L : Nat → Int → List β → Option R} {k : List β → Option R} (f : α → List β) (c : Nat) (hf : ∀ x ∈ xs, (f x).length ≤ c)
    (hs : ∀ (m i : Nat) (h : i < xs.length) (l : List β), l.length ≤ i * c → L (m + 1) (i : Int) l = L m ((i + 1 : Nat) : Int) (l ++ f xs[i])) (he : ∀ (m : Nat) (l : List β), L (m + 1) (xs.length : Int) l = k l)
    (m : Nat) (hm : xs.length < m) : L m 0 [] = k (xs.flatMap f) := by
  have := (loop_fold (L := L) (k := k) (fun l x => l ++ f x) (fun i l => l.length ≤ i * c) (fun m i h l hl => ⟨hs m i h l hl, by
    have := hf xs[i] (List.getElem_mem h)
    rw [List.length_append, Nat.succ_mul]; omega⟩) (fun m l _ => he m l) m [] (by simp) hm).1
  rw [this]
  congr 1
  have : ∀ (xs : List α) (l : List β), xs.foldl (fun l x => l ++ f x) l = l ++ xs.flatMap f := by
    intro xs; induction xs with
    | nil => simp
    | cons x xs ih => intro l; simp [ih]
  simpa using this xs []
theorem loop_map {α R : Type} {L : Nat → Int → List α → Option R} {k : List α → Option R} (g : Nat → α → α) (N : Nat)
    (hs : ∀ (m i : Nat) (l : List α) (hl : l.length = N) (h : i < N), L (m + 1) (i : Int) l = L m ((i + 1 : Nat) : Int) (l.set i (g i l[i]))) (he : ∀ (m : Nat) (l : List α), L (m + 1) (N : Int) l = k l)
    (m : Nat) (l : List α) (hl : l.length = N) (hm : N < m) : L m 0 l = k (l.mapIdx g) := by
  refine loop N (fun i s => s.length = N ∧ ∀ j, s[j]? = if j < i then (l.mapIdx g)[j]? else l[j]?) (fun o => o = k (l.mapIdx g)) ?_ ?_ m 0 l (by omega) (by omega) ⟨hl, fun j => by simp⟩
  · intro m i s hi ⟨h1, h2⟩
    refine .inl ⟨_, ⟨by simpa using h1, fun j => ?_⟩, hs m i s h1 hi⟩
    have hsi := h2 i
    rw [if_neg (Nat.lt_irrefl _), List.getElem?_eq_getElem (by omega), List.getElem?_eq_getElem (by omega)] at hsi
    rw [List.getElem?_set]
    by_cases e : i = j
    · subst e
      rw [if_pos rfl, if_pos (by omega), if_pos (by omega), List.getElem?_mapIdx, List.getElem?_eq_getElem (by omega)]
      simp only [Option.some.inj hsi]; rfl
    · rw [if_neg e, h2 j]
      by_cases e2 : j < i
      · rw [if_pos e2, if_pos (by omega)]
      · rw [if_neg e2, if_neg (by omega)]
  · intro m s ⟨h1, h2⟩
    have : s = l.mapIdx g := by
      apply List.ext_getElem?
      intro j
      rw [h2 j]
      by_cases e : j < N
      · rw [if_pos e]
      · rw [if_neg e, List.getElem?_eq_none (by omega), List.getElem?_eq_none (by simp; omega)]
    rw [he, this]
/-- two lists of one length are compared -/
theorem loop_same {α R : Type} [BEq α] [LawfulBEq α] {xs ys : List α} {L : Nat → Int → Option R} {k no : Option R} (hl : xs.length = ys.length)
    (hs : ∀ (m i : Nat) (h : i < xs.length) (h2 : i < ys.length), L (m + 1) (i : Int) = bif xs[i] != ys[i] then no else L m ((i + 1 : Nat) : Int)) (he : ∀ m : Nat, L (m + 1) (xs.length : Int) = k) (m : Nat) (hm : xs.length < m) :
    L m 0 = bif xs == ys then k else no := by
  refine loop (L := fun m i (_ : Unit) => L m i) xs.length (fun i _ => ∀ j, j < i → xs[j]? = ys[j]?) (fun o => o = bif xs == ys then k else no) ?_ ?_ m 0 () (by omega) (by omega) (by simp)
  · intro m i _ hi h
    by_cases e : xs[i] = ys[i]'(by omega)
    · refine .inl ⟨(), fun j hj => ?_, ?_⟩
      · by_cases e2 : j = i
        · subst e2; rw [List.getElem?_eq_getElem hi, List.getElem?_eq_getElem (by omega), e]
        · exact h j (by omega)
      · have : (xs[i] != ys[i]'(by omega)) = false := by simp [e]
        simp only [hs m i hi (by omega), this, cond_false]
    · refine .inr ?_
      have h1 : (xs[i] != ys[i]'(by omega)) = true := by simp [e]
      have h2 : (xs == ys) = false := by
        rw [beq_eq_false_iff_ne]
        intro q; subst q; exact e rfl
      rw [h2]
      simp only [hs m i hi (by omega), h1, cond_true, cond_false]
  · intro m _ h
    have : xs = ys := List.ext_getElem? fun j => by
      by_cases e : j < xs.length
      · exact h j e
      · rw [List.getElem?_eq_none (by omega), List.getElem?_eq_none (by omega)]
    subst this
    simp [he m]
/-- a value there is, and what holds of it -/
def Tot {α : Type} (Q : α → Prop) (o : Option α) : Prop := ∃ v, o = some v ∧ Q v
theorem Tot.some {α : Type} {Q : α → Prop} {v : α} (h : Q v) : Tot Q (some v) := ⟨v, rfl, h⟩
theorem A1 (n : Nat) (a : S_LatchSystem) (k : Int → Option Bool) : ∀ m i, F_spec_IsLatchSystem_L1 n a k m i = F_impl_IsLatchSystem_L1 a k m i
  | 0, _ => rfl
  | m + 1, i => by
    have key : ∀ x : S_Latch, (!((decide (x.Open ≥ 0)) && (decide (x.Open ≤ 100000))) || !((decide (x.Close ≥ x.Open)) && (decide (x.Close ≤ 100000)))) = (((decide (x.Open < 0)) || (decide (x.Open > x.Close))) || (decide (x.Close > 100000))) := by
      intro x
      rw [Bool.eq_iff_iff]
      simp only [Bool.or_eq_true, Bool.not_eq_true', Bool.and_eq_false_iff, decide_eq_true_eq, decide_eq_false_iff_not]
      omega
    rw [F_spec_IsLatchSystem_L1_s, F_impl_IsLatchSystem_L1_s]
    simp only [F_spec_l01In, Option.bind_some, bif_or, key, A1 n a k m]
theorem A2 (n : Nat) (a : S_LatchSystem) (k : Int → Option Bool) : ∀ m i, F_spec_IsLatchSystem_L2 n a k m i = F_impl_IsLatchSystem_L2 n a (a.Latches.length : Int) k m i
  | 0, _ => rfl
  | m + 1, i => by
    rw [F_spec_IsLatchSystem_L2_s, F_impl_IsLatchSystem_L2_s]
    simp only [F_spec_l01In, F_impl_within, A2 n a k m]
theorem A3 (a : S_LatchSystem) (k : Int → Option Bool) (h : a.Latches.length ≤ 1048576) : ∀ (m i : Nat), i ≤ a.Latches.length → a.Latches.length - i < m → F_impl_IsLatchSystem_L1 a k m i = some false ∨ F_impl_IsLatchSystem_L1 a k m i = k (a.Latches.length : Int)
  | 0, i, _, hm => by omega
  | m + 1, i, hi, hm => by
    rw [F_impl_IsLatchSystem_L1_s]
    by_cases hlt : i < a.Latches.length
    · have hd : decide ((i : Int) < (a.Latches.length : Int)) = true := decide_eq_true (by omega)
      have hx : getI a.Latches i = some a.Latches[i] := by rw [getI_nat]; exact List.getElem?_eq_getElem hlt
      rw [hd, cond_true, hx, Option.bind_some, wrap64 (by omega) (by omega)]
      cases ((decide (a.Latches[i].Open < 0) || decide (a.Latches[i].Open > a.Latches[i].Close)) || decide (a.Latches[i].Close > 100000))
      · exact A3 a k h m (i + 1) (by omega) (by omega)
      · exact .inl rfl
    · have hd : decide ((i : Int) < (a.Latches.length : Int)) = false := decide_eq_false (by omega)
      rw [hd, cond_false]
      exact .inr (by rw [show i = a.Latches.length by omega])
theorem A4 (n : Nat) (a : S_LatchSystem) (q : Int) (k : Int → Option Bool) (h : a.Links.length ≤ 1048576) : ∀ (m i : Nat), i ≤ a.Links.length → a.Links.length - i < m → F_impl_IsLatchSystem_L2 n a q k m i = some false ∨ F_impl_IsLatchSystem_L2 n a q k m i = k (a.Links.length : Int)
  | 0, i, _, hm => by omega
  | m + 1, i, hi, hm => by
    rw [F_impl_IsLatchSystem_L2_s]
    by_cases hlt : i < a.Links.length
    · have hd : decide ((i : Int) < (a.Links.length : Int)) = true := decide_eq_true (by omega)
      have hx : getI a.Links i = some a.Links[i] := by rw [getI_nat]; exact List.getElem?_eq_getElem hlt
      simp only [hd, cond_true, hx, Option.bind_some, wrap64 (x := (i : Int) + 1) (by omega) (by omega), F_impl_within, bif_or]
      generalize ((_ || _) : Bool) = b
      cases b
      · exact A4 n a q k h m (i + 1) (by omega) (by omega)
      · exact .inl rfl
    · have hd : decide ((i : Int) < (a.Links.length : Int)) = false := decide_eq_false (by omega)
      rw [hd, cond_false]
      exact .inr (by rw [show i = a.Links.length by omega])
theorem A5 {n : Nat} {a : S_LatchSystem} (h : SM_LatchSystem a) (hn : 1048577 ≤ n) : ∃ b, F_spec_IsLatchSystem n a = some b ∧ F_impl_IsLatchSystem n a = some b := by
  have e : F_spec_IsLatchSystem n a = F_impl_IsLatchSystem n a := by
    rw [F_spec_IsLatchSystem, F_impl_IsLatchSystem, A1]
    simp only [A2, F_impl_length_impl_Latch, Option.bind_some]
  rw [e]
  refine (?_ : ∃ b, F_impl_IsLatchSystem n a = some b).elim fun b hb => ⟨b, hb, hb⟩
  have hl1 := h.1.1
  have hl2 := h.2.1
  rw [F_impl_IsLatchSystem]
  simp only [F_impl_length_impl_Latch, Option.bind_some]
  refine (A3 a _ h.1.1 n 0 (by omega) (by omega)).elim (fun h1 => ⟨_, h1⟩) fun h1 => ?_
  refine (A4 n a (a.Latches.length : Int) _ h.2.1 n 0 (by omega) (by omega)).elim (fun h2 => ⟨_, h1.trans h2⟩) fun h2 => ⟨_, h1.trans h2⟩
theorem V1 (a : S_LatchSystem) (k : Int → Option Bool) (h : a.Latches.length ≤ 1048576) : ∀ (m i : Nat), i ≤ a.Latches.length → F_impl_IsLatchSystem_L1 a k m i = some true →
    (∀ j x, i ≤ j → a.Latches[j]? = some x → 0 ≤ x.Open ∧ x.Open ≤ x.Close ∧ x.Close ≤ 100000) ∧ k (a.Latches.length : Int) = some true
  | 0, i, _, hm => by cases hm
  | m + 1, i, hi, hm => by
    rw [F_impl_IsLatchSystem_L1_s] at hm
    by_cases hlt : i < a.Latches.length
    · have hd : decide ((i : Int) < (a.Latches.length : Int)) = true := decide_eq_true (by omega)
      have hx : getI a.Latches i = some a.Latches[i] := by rw [getI_nat]; exact List.getElem?_eq_getElem hlt
      rw [hd, cond_true, hx, Option.bind_some, wrap64 (by omega) (by omega)] at hm
      cases hc : ((decide (a.Latches[i].Open < 0) || decide (a.Latches[i].Open > a.Latches[i].Close)) || decide (a.Latches[i].Close > 100000)) with
      | true => rw [hc] at hm; cases hm
      | false =>
        rw [hc, cond_false] at hm
        obtain ⟨h1, h2⟩ := V1 a k h m (i + 1) (by omega) hm
        refine ⟨fun j x hj hjx => ?_, h2⟩
        by_cases e : j = i
        · subst e
          rw [List.getElem?_eq_getElem hlt] at hjx
          obtain rfl := Option.some.inj hjx
          simp only [Bool.or_eq_false_iff, decide_eq_false_iff_not] at hc
          omega
        · exact h1 j x (by omega) hjx
    · have hd : decide ((i : Int) < (a.Latches.length : Int)) = false := decide_eq_false (by omega)
      rw [hd, cond_false] at hm
      refine ⟨fun j x hj hjx => ?_, ?_⟩
      · have := (List.getElem?_eq_some_iff.1 hjx).1; omega
      · rw [show (a.Latches.length : Int) = (i : Int) by omega]; exact hm
theorem V2 (n : Nat) (a : S_LatchSystem) (q : Int) (hq : 0 ≤ q) (hq2 : q ≤ 1048576) (k : Int → Option Bool) (h : a.Links.length ≤ 1048576) : ∀ (m i : Nat), i ≤ a.Links.length → F_impl_IsLatchSystem_L2 n a q k m i = some true →
    (∀ j x, i ≤ j → a.Links[j]? = some x → (0 ≤ x.From ∧ x.From < q) ∧ (0 ≤ x.To ∧ x.To < q) ∧ (0 ≤ x.Delay ∧ x.Delay ≤ 100000) ∧ (0 ≤ x.Shift ∧ x.Shift ≤ 100000)) ∧ k (a.Links.length : Int) = some true
  | 0, i, _, hm => by cases hm
  | m + 1, i, hi, hm => by
    rw [F_impl_IsLatchSystem_L2_s] at hm
    by_cases hlt : i < a.Links.length
    · have hd : decide ((i : Int) < (a.Links.length : Int)) = true := decide_eq_true (by omega)
      have hx : getI a.Links i = some a.Links[i] := by rw [getI_nat]; exact List.getElem?_eq_getElem hlt
      simp only [hd, cond_true, hx, Option.bind_some, wrap64 (x := (i : Int) + 1) (by omega) (by omega), wrap64 (x := q - 1) (by omega) (by omega), F_impl_within, bif_or] at hm
      generalize hc : ((_ || _) : Bool) = b at hm
      cases b with
      | true => cases hm
      | false =>
        rw [cond_false] at hm
        obtain ⟨h1, h2⟩ := V2 n a q hq hq2 k h m (i + 1) (by omega) hm
        refine ⟨fun j x hj hjx => ?_, h2⟩
        by_cases e : j = i
        · subst e
          rw [List.getElem?_eq_getElem hlt] at hjx
          obtain rfl := Option.some.inj hjx
          simp only [Bool.or_eq_false_iff, Bool.not_eq_false', Bool.and_eq_true, decide_eq_true_eq] at hc
          omega
        · exact h1 j x (by omega) hjx
    · have hd : decide ((i : Int) < (a.Links.length : Int)) = false := decide_eq_false (by omega)
      rw [hd, cond_false] at hm
      refine ⟨fun j x hj hjx => ?_, ?_⟩
      · have := (List.getElem?_eq_some_iff.1 hjx).1; omega
      · rw [show (a.Links.length : Int) = (i : Int) by omega]; exact hm
/-- a valid system -/
structure Val (a : S_LatchSystem) : Prop where
  latch : ∀ (j : Nat) (x : S_Latch), a.Latches[j]? = some x → 0 ≤ x.Open ∧ x.Open ≤ x.Close ∧ x.Close ≤ 100000
  link : ∀ (j : Nat) (x : S_LatchLink), a.Links[j]? = some x → (0 ≤ x.From ∧ x.From < a.Latches.length) ∧ (0 ≤ x.To ∧ x.To < a.Latches.length) ∧ (0 ≤ x.Delay ∧ x.Delay ≤ 100000) ∧ (0 ≤ x.Shift ∧ x.Shift ≤ 100000)
  few : a.Latches.length ≤ 12 ∧ a.Links.length ≤ 60
theorem V3 {n : Nat} {a : S_LatchSystem} (h : SM_LatchSystem a) (hm : F_impl_IsLatchSystem n a = some true) : Val a := by
  have hl1 := h.1.1
  have hl2 := h.2.1
  rw [F_impl_IsLatchSystem] at hm
  simp only [F_impl_length_impl_Latch, Option.bind_some] at hm
  obtain ⟨h1, h2⟩ := V1 a _ h.1.1 n 0 (by omega) hm
  obtain ⟨h3, h4⟩ := V2 n a (a.Latches.length : Int) (by omega) (by omega) _ h.2.1 n 0 (by omega) h2
  simp only [Option.some.injEq, Bool.and_eq_true, decide_eq_true_eq] at h4
  exact ⟨fun j x hx => h1 j x (by omega) hx, fun j x hx => h3 j x (by omega) hx, by omega⟩
def gd (t : List Int) (j : Nat) : Int := t.getD j 0
theorem gd_get {t : List Int} {j : Nat} {v : Int} (h : t[j]? = some v) : gd t j = v := by simp [gd, h]
theorem get_gd {t : List Int} {j : Nat} (h : j < t.length) : t[j]? = some (gd t j) := by simp [gd, h]
theorem gd_set {t : List Int} {i j : Nat} {v : Int} (h : i < t.length) : gd (t.set i v) j = if i = j then v else gd t j := by
  unfold gd
  rw [List.getD_eq_getElem?_getD, List.getD_eq_getElem?_getD, List.getElem?_set]
  by_cases e : i = j
  · subst e; simp [h]
  · simp [e]
theorem gd_ext {t u : List Int} (h : t.length = u.length) (e : ∀ j, j < t.length → gd t j = gd u j) : t = u := by
  apply List.ext_getElem?
  intro j
  by_cases hj : j < t.length
  · rw [get_gd hj, get_gd (h ▸ hj), e j hj]
  · rw [List.getElem?_eq_none (by omega), List.getElem?_eq_none (by omega)]
def lw (t : List Int) (x : S_LatchLink) : Int := gd t x.From.toNat + x.Delay - x.Shift
def opn (s : S_LatchSystem) (j : Nat) : Int := gd (s.Latches.map (·.Open)) j
theorem opn_get {s : S_LatchSystem} {j : Nat} {l : S_Latch} (h : s.Latches[j]? = some l) : opn s j = l.Open := gd_get (by rw [List.getElem?_map, h]; rfl)
/-- o is what the links L make of the departures t -/
structure StpL (s : S_LatchSystem) (L : List S_LatchLink) (t o : List Int) : Prop where
  len : o.length = s.Latches.length
  ge : ∀ j, j < s.Latches.length → opn s j ≤ gd o j
  lk : ∀ x ∈ L, lw t x ≤ gd o x.To.toNat
  is : ∀ j, j < s.Latches.length → gd o j = opn s j ∨ ∃ x ∈ L, x.To.toNat = j ∧ gd o j = lw t x
abbrev Stp (s : S_LatchSystem) (t o : List Int) : Prop := StpL s s.Links t o
def leL (n : Nat) (t u : List Int) : Prop := ∀ j, j < n → gd t j ≤ gd u j
theorem StpL.zero (s : S_LatchSystem) (t : List Int) : StpL s [] t (s.Latches.map (·.Open)) :=
  ⟨by simp, fun j _ => Int.le_refl _, fun x hx => by simp at hx, fun j _ => .inl rfl⟩
theorem StpL.add {s : S_LatchSystem} {L : List S_LatchLink} {t o : List Int} (h : StpL s L t o) (x : S_LatchLink) (hT : x.To.toNat < s.Latches.length) :
    StpL s (L ++ [x]) t (o.set x.To.toNat (max (gd o x.To.toNat) (lw t x))) := by
  have hl : x.To.toNat < o.length := by rw [h.len]; exact hT
  refine ⟨by simpa using h.len, fun j hj => ?_, fun y hy => ?_, fun j hj => ?_⟩
  · have := h.ge j hj
    rw [gd_set hl]; split
    · next e => subst e; omega
    · exact this
  · rw [gd_set hl]
    rcases List.mem_append.1 hy with hy | hy
    · have := h.lk y hy
      split
      · next e => rw [← e] at this; omega
      · exact this
    · obtain rfl := List.mem_singleton.1 hy
      rw [if_pos rfl]; omega
  · rw [gd_set hl]
    by_cases e : x.To.toNat = j
    · subst e
      rw [if_pos rfl]
      by_cases hm : gd o x.To.toNat ≤ lw t x
      · exact .inr ⟨x, by simp, rfl, by omega⟩
      · rcases h.is _ hj with h1 | ⟨y, hy, h1, h2⟩
        · exact .inl (by omega)
        · exact .inr ⟨y, by simp [hy], h1, by omega⟩
    · rw [if_neg e]
      rcases h.is _ hj with h1 | ⟨y, hy, h1, h2⟩
      · exact .inl h1
      · exact .inr ⟨y, by simp [hy], h1, h2⟩
theorem lw_mono {n : Nat} {t u : List Int} {x : S_LatchLink} (h : leL n t u) (hF : x.From.toNat < n) : lw t x ≤ lw u x := by
  have := h _ hF; unfold lw; omega
/-- the ends of the links are latches -/
def EndsIn (s : S_LatchSystem) : Prop := ∀ x ∈ s.Links, x.From.toNat < s.Latches.length ∧ x.To.toNat < s.Latches.length
theorem Val.ends {s : S_LatchSystem} (h : Val s) : EndsIn s := fun x hx => by
  obtain ⟨j, hj⟩ := List.getElem?_of_mem hx
  have := h.link j x hj; omega
theorem StpL.mono {s s' : S_LatchSystem} {L : List S_LatchLink} {t t' o o' : List Int} (hn : s'.Latches.length = s.Latches.length) (ho : ∀ j, j < s.Latches.length → opn s j ≤ opn s' j)
    (hL : ∀ x ∈ L, x.From.toNat < s.Latches.length) (h : StpL s L t o) (h' : StpL s' L t' o') (ht : leL s.Latches.length t t') : leL s.Latches.length o o' := fun j hj => by
  rcases h.is j hj with h1 | ⟨x, hx, h1, h2⟩
  · have := h'.ge j (by omega); have := ho j hj; omega
  · have := h'.lk x hx; have := lw_mono ht (hL x hx); rw [h1] at *; omega
def stpF (s : S_LatchSystem) (t : List Int) : List Int := s.Links.foldl (fun o x => o.set x.To.toNat (max (gd o x.To.toNat) (lw t x))) (s.Latches.map (·.Open))
theorem stpF_L {s : S_LatchSystem} {t : List Int} : ∀ (L M : List S_LatchLink) (o : List Int), (∀ x ∈ L, x.To.toNat < s.Latches.length) → StpL s M t o → StpL s (M ++ L) t (L.foldl (fun o x => o.set x.To.toNat (max (gd o x.To.toNat) (lw t x))) o)
  | [], M, o, _, h => by simpa using h
  | x :: L, M, o, hL, h => by
    have := stpF_L L (M ++ [x]) _ (fun y hy => hL y (by simp [hy])) (h.add x (hL x (by simp)))
    simpa using this
theorem stpF_is {s : S_LatchSystem} (hE : EndsIn s) (t : List Int) : Stp s t (stpF s t) := by
  have := stpF_L s.Links [] _ (fun x hx => (hE x hx).2) (StpL.zero s t)
  rw [List.nil_append] at this; exact this
/-- the rounds -/
def rnd (s : S_LatchSystem) : Nat → List Int
  | 0 => s.Latches.map (·.Open)
  | k + 1 => stpF s (rnd s k)
theorem rnd_up {s : S_LatchSystem} (hE : EndsIn s) : ∀ k, leL s.Latches.length (rnd s k) (rnd s (k + 1))
  | 0 => fun j hj => (stpF_is hE _).ge j hj
  | k + 1 => StpL.mono rfl (fun _ _ => Int.le_refl _) (fun x hx => (hE x hx).1) (stpF_is hE _) (stpF_is hE _) (rnd_up hE k)
theorem opn_rng {s : S_LatchSystem} (hv : Val s) {j : Nat} (hj : j < s.Latches.length) : 0 ≤ opn s j ∧ opn s j ≤ 100000 := by
  have := hv.latch j _ (List.getElem?_eq_getElem hj)
  rw [opn_get (List.getElem?_eq_getElem hj)]; omega
/-- departures in a range -/
def Rng (s : S_LatchSystem) (B : Int) (t : List Int) : Prop := t.length = s.Latches.length ∧ ∀ j, j < s.Latches.length → 0 ≤ gd t j ∧ gd t j ≤ B
theorem lw_rng {s : S_LatchSystem} (hv : Val s) {B : Int} {t : List Int} (h : Rng s B t) {x : S_LatchLink} (hx : x ∈ s.Links) : lw t x ≤ B + 100000 ∧ -100000 ≤ lw t x := by
  obtain ⟨j, hj⟩ := List.getElem?_of_mem hx
  have := hv.link j x hj
  have := h.2 x.From.toNat (by omega)
  unfold lw; omega
theorem lw_wrap {s : S_LatchSystem} (hv : Val s) {B : Int} (hB : B ≤ 1000000000000) {t : List Int} (h : Rng s B t) {x : S_LatchLink} (hx : x ∈ s.Links) : IntKind.wrap IntKind.i64 (IntKind.wrap IntKind.i64 (gd t x.From.toNat + x.Delay) - x.Shift) = lw t x := by
  obtain ⟨j, hj⟩ := List.getElem?_of_mem hx
  have := hv.link j x hj
  have := h.2 x.From.toNat (by omega)
  rw [wrap64 (x := _ + x.Delay) (by omega) (by omega), wrap64 (by omega) (by omega)]; rfl
theorem getI_gd {t : List Int} {i : Int} (h0 : 0 ≤ i) (h1 : i < t.length) : getI t i = some (gd t i.toNat) := by
  obtain ⟨x, hx, h⟩ := getI_ok h0 h1
  rw [hx, gd_get h]
theorem link_ends {s : S_LatchSystem} (hv : Val s) {x : S_LatchLink} (hx : x ∈ s.Links) : (0 ≤ x.From ∧ x.From < s.Latches.length) ∧ (0 ≤ x.To ∧ x.To < s.Latches.length) := by
  obtain ⟨j, hj⟩ := List.getElem?_of_mem hx
  have := hv.link j x hj; omega
theorem O1 {n : Nat} {s : S_LatchSystem} (h : s.Latches.length ≤ 1048576) (hn : 1048577 ≤ n) : F_spec_l18Opens n s = some (s.Latches.map (·.Open)) := by
  rw [F_spec_l18Opens]
  refine (loop_app (xs := s.Latches) (L := fun m i (l : List Int) => F_spec_l18Opens_L1 s (fun l27 i31 => (some l27)) m l i) (k := fun l => some l) (fun x => [x.Open]) 1 (fun _ _ => Nat.le_refl _) ?_ ?_ n (by omega)).trans (by rw [List.map_eq_flatMap])
  · intro m i hi l hl
    simp only [F_spec_l18Opens_L1_s, dlt hi, cond_true, getI_el hi, Option.bind_some, appN_ok (show l.length + [s.Latches[i].Open].length ≤ 16777216 by simp; omega) (show 8 ≤ 1048576 by omega), wS (show i < 4611686018427387904 by omega)]
  · intro m l
    simp only [F_spec_l18Opens_L1_s, dnl, cond_false]
theorem St1 {n : Nat} {s : S_LatchSystem} (hv : Val s) {B : Int} (hB : B ≤ 1000000000000) {t : List Int} (ht : Rng s B t) (hn : 1048577 ≤ n) : F_spec_l18Step n s t = some (stpF s t) := by
  have few := hv.few
  rw [F_spec_l18Step, O1 (by omega) hn, Option.bind_some]
  refine (loop_fold (xs := s.Links) (L := fun m i (l : List Int) => F_spec_l18Step_L1 s t (fun i26 l28 => (some l28)) m i l) (k := fun l => some l) (fun o x => o.set x.To.toNat (max (gd o x.To.toNat) (lw t x))) (fun _ l => l.length = s.Latches.length) ?_ ?_ n _ (by simp) (by omega)).1
  · intro m i hi l hl
    have hx := List.getElem_mem hi
    obtain ⟨hF, hT⟩ := link_ends hv hx
    refine ⟨?_, by simpa using hl⟩
    simp only [F_spec_l18Step_L1_s, dlt hi, cond_true, getI_el hi, Option.bind_some, getI_gd hF.1 (show _ < (t.length : Int) by rw [ht.1]; exact hF.2), getI_gd hT.1 (show _ < (l.length : Int) by rw [hl]; exact hT.2), lw_wrap hv hB ht hx, wS (show i < 4611686018427387904 by omega)]
  · intro m l hl
    simp only [F_spec_l18Step_L1_s, dnl, cond_false]
theorem Same1 {n : Nat} {a b : List Int} (hl : a.length = b.length) (h : a.length ≤ 1048576) (hn : 1048577 ≤ n) : F_spec_l18Same n a b = some (a == b) := by
  have : (((a.length : Int)) != ((b.length : Int))) = false := by simp [hl]
  rw [F_spec_l18Same, this, cond_false]
  refine (loop_same (L := fun m i => F_spec_l18Same_L1 a b (fun i9 => (some true)) m i) (k := some true) (no := some false) hl ?_ ?_ n (by omega)).trans (by cases a == b <;> rfl)
  · intro m i h1 h2
    simp only [F_spec_l18Same_L1_s, dlt h1, cond_true, getI_el h1, getI_el h2, Option.bind_some, wS (show i < 4611686018427387904 by omega)]
  · intro m
    simp only [F_spec_l18Same_L1_s, dnl, cond_false]
def gb (t : List Bool) (j : Nat) : Bool := t.getD j false
theorem getI_gb {t : List Bool} {i : Int} (h0 : 0 ≤ i) (h1 : i < t.length) : getI t i = some (gb t i.toNat) := by
  obtain ⟨x, hx, h⟩ := getI_ok h0 h1
  rw [hx]; simp [gb, h]
theorem gb_set {t : List Bool} {i j : Nat} {v : Bool} (h : i < t.length) : gb (t.set i v) j = if i = j then v else gb t j := by
  unfold gb
  rw [List.getD_eq_getElem?_getD, List.getD_eq_getElem?_getD, List.getElem?_set]
  by_cases e : i = j
  · subst e; simp [h]
  · simp [e]
/-- the arrivals o and where there is one, h; d where there is none -/
structure Arr (s : S_LatchSystem) (d : Nat → Int) (L : List S_LatchLink) (t o : List Int) (h : List Bool) : Prop where
  len : o.length = s.Latches.length
  len2 : h.length = s.Latches.length
  lk : ∀ x ∈ L, gb h x.To.toNat = true ∧ lw t x ≤ gd o x.To.toNat
  is : ∀ j, j < s.Latches.length → (gb h j = false ∧ gd o j = d j) ∨ (gb h j = true ∧ ∃ x ∈ L, x.To.toNat = j ∧ gd o j = lw t x)
def arrF (t : List Int) (p : List Int × List Bool) (x : S_LatchLink) : List Int × List Bool := (p.1.set x.To.toNat (if gb p.2 x.To.toNat then max (lw t x) (gd p.1 x.To.toNat) else lw t x), p.2.set x.To.toNat true)
theorem Arr.add {s : S_LatchSystem} {d : Nat → Int} {L : List S_LatchLink} {t : List Int} {p : List Int × List Bool} (h : Arr s d L t p.1 p.2) (x : S_LatchLink) (hT : x.To.toNat < s.Latches.length) : Arr s d (L ++ [x]) t (arrF t p x).1 (arrF t p x).2 := by
  have hl : x.To.toNat < p.1.length := by rw [h.len]; exact hT
  have hl2 : x.To.toNat < p.2.length := by rw [h.len2]; exact hT
  unfold arrF
  refine ⟨by simpa using h.len, by simpa using h.len2, fun y hy => ?_, fun j hj => ?_⟩
  · dsimp only
    rw [gd_set hl, gb_set hl2]
    rcases List.mem_append.1 hy with hy | hy
    · have := h.lk y hy
      by_cases e : x.To.toNat = y.To.toNat
      · rw [if_pos e, if_pos e]
        rw [← e] at this
        rw [this.1, if_pos rfl]
        exact ⟨rfl, by omega⟩
      · rw [if_neg e, if_neg e]; exact this
    · obtain rfl := List.mem_singleton.1 hy
      rw [if_pos rfl, if_pos rfl]
      refine ⟨rfl, ?_⟩
      split <;> omega
  · dsimp only
    rw [gd_set hl, gb_set hl2]
    by_cases e : x.To.toNat = j
    · subst e
      rw [if_pos rfl, if_pos rfl]
      refine .inr ⟨rfl, ?_⟩
      rcases h.is _ hj with ⟨h1, h2⟩ | ⟨h1, y, hy, h2, h3⟩
      · rw [h1]; exact ⟨x, by simp, rfl, by simp⟩
      · rw [h1, if_pos rfl]
        by_cases hm : gd p.1 x.To.toNat ≤ lw t x
        · exact ⟨x, by simp, rfl, by omega⟩
        · exact ⟨y, by simp [hy], h2, by omega⟩
    · rw [if_neg e, if_neg e]
      rcases h.is _ hj with h1 | ⟨h1, y, hy, h2, h3⟩
      · exact .inl h1
      · exact .inr ⟨h1, y, by simp [hy], h2, h3⟩
theorem Arr.fold {s : S_LatchSystem} {d : Nat → Int} {t : List Int} : ∀ (L M : List S_LatchLink) (p : List Int × List Bool), (∀ x ∈ L, x.To.toNat < s.Latches.length) → Arr s d M t p.1 p.2 → Arr s d (M ++ L) t (L.foldl (arrF t) p).1 (L.foldl (arrF t) p).2
  | [], M, o, _, h => by simpa using h
  | x :: L, M, o, hL, h => by
    have := Arr.fold L (M ++ [x]) _ (fun y hy => hL y (by simp [hy])) (h.add x (hL x (by simp)))
    simpa using this
theorem Arr.zero {s : S_LatchSystem} {d : Nat → Int} {t o : List Int} {h : List Bool} (h1 : o.length = s.Latches.length) (h2 : h.length = s.Latches.length) (h3 : ∀ j, j < s.Latches.length → gb h j = false ∧ gd o j = d j) : Arr s d [] t o h :=
  ⟨h1, h2, fun x hx => by simp at hx, fun j hj => .inl (h3 j hj)⟩
theorem gb_rep {n j : Nat} : gb (List.replicate n false) j = false := by
  simp only [gb, List.getD_eq_getElem?_getD, List.getElem?_replicate]; split <;> rfl
theorem gd_rep {n j : Nat} : gd (List.replicate n 0) j = 0 := by
  simp only [gd, List.getD_eq_getElem?_getD, List.getElem?_replicate]; split <;> rfl
theorem set_same {α : Type} {l : List α} {i : Nat} {x : α} (h : l[i]? = some x) : l.set i x = l := by
  apply List.ext_getElem?
  intro j
  rw [List.getElem?_set]
  split
  · next e => subst e; rw [h]; split
              · rfl
              · next q => rw [List.getElem?_eq_none (by omega)] at h; cases h
  · rfl
theorem Ar1 {n : Nat} {s : S_LatchSystem} (hv : Val s) {B : Int} (hB : B ≤ 1000000000000) {t : List Int} (ht : Rng s B t) (hn : 1048577 ≤ n) : ∃ o h, F_impl_LatchSystem_arrivals n s t = some (o, h) ∧ Arr s (fun _ => 0) s.Links t o h := by
  have few := hv.few
  have hl := ht.1
  rw [F_impl_LatchSystem_arrivals, mkN_ok (by omega) (by omega), Option.bind_some, mkN_ok (by omega) (by omega), Option.bind_some]
  have A := Arr.fold (s := s) (d := fun _ => 0) (t := t) s.Links [] (List.replicate t.length 0, List.replicate t.length false) (fun x hx => (hv.ends x hx).2) (Arr.zero (by simpa using hl) (by simpa using hl) fun j hj => ⟨gb_rep, gd_rep⟩)
  refine ⟨_, _, ?_, A⟩
  refine (loop_fold (xs := s.Links) (L := fun m i (p : List Int × List Bool) => F_impl_LatchSystem_arrivals_L1 s t (fun i119 l120 l122 => (some (l120, l122))) m i p.1 p.2) (k := fun p => some (p.1, p.2)) (arrF t) (fun _ p => p.1.length = s.Latches.length ∧ p.2.length = s.Latches.length) ?_ ?_ n (List.replicate t.length 0, List.replicate t.length false) ⟨by simpa using hl, by simpa using hl⟩ (by omega)).1
  · intro m i hi ⟨o, h⟩ ⟨ho, hh⟩
    dsimp only at ho hh ⊢
    have hx := List.getElem_mem hi
    obtain ⟨hF, hT⟩ := link_ends hv hx
    refine ⟨?_, by simpa [arrF] using ⟨ho, hh⟩⟩
    have g1 := getI_gd hT.1 (show _ < (o.length : Int) by rw [ho]; exact hT.2)
    have g2 := getI_gb hT.1 (show _ < (h.length : Int) by rw [hh]; exact hT.2)
    simp only [F_impl_LatchSystem_arrivals_L1_s, dlt hi, cond_true, getI_el hi, Option.bind_some, getI_gd hF.1 (show _ < (t.length : Int) by rw [ht.1]; exact hF.2), g1, g2, lw_wrap hv hB ht hx, wS (show i < 4611686018427387904 by omega), arrF]
    cases hb : gb h (s.Links[i]).To.toNat with
    | false => simp
    | true =>
      simp only [Bool.not_true, cond_false, Option.bind_some, if_true]
      by_cases hgt : lw t s.Links[i] > gd o (s.Links[i]).To.toNat
      · rw [decide_eq_true hgt, cond_true, Int.max_eq_left (by omega)]
      · have e1 : o.set (s.Links[i]).To.toNat (max (lw t s.Links[i]) (gd o (s.Links[i]).To.toNat)) = o := set_same (by rw [Int.max_eq_right (by omega)]; exact get_gd (by rw [ho]; omega))
        have e2 : h.set (s.Links[i]).To.toNat true = h := set_same (by rw [← hb]; simp [gb, show (s.Links[i]).To.toNat < h.length by rw [hh]; omega])
        rw [decide_eq_false hgt, cond_false, e1, e2]
  · intro m ⟨o, h⟩ _
    simp only [F_impl_LatchSystem_arrivals_L1_s, dnl, cond_false]
theorem Op1 {n : Nat} {s : S_LatchSystem} (k : List Int → Option (List Int × Bool)) (h : s.Latches.length ≤ 1048576) (hn : 1048577 ≤ n) : F_impl_LatchSystem_departures_L1 s (fun _ l => k l) n 0 (List.replicate s.Latches.length 0) = k (s.Latches.map (·.Open)) := by
  have e : ∀ m i l, F_impl_LatchSystem_departures_L1 s (fun _ l => k l) m i l = cpL s.Latches (fun x => some x.Open) (fun _ l => k l) m i l := by
    intro m; induction m with
    | zero => intro i l; rfl
    | succ m ih => intro i l; simp only [F_impl_LatchSystem_departures_L1_s, cpL_s, Option.bind_some, ih]
  rw [e]
  have := cpL_eq (a := s.Latches) (f := fun x => some x.Open) (g := (·.Open)) (k := fun _ l => k l) (fun _ _ => rfl) h n 0 (List.replicate s.Latches.length 0) (by omega) (by omega) (by simp) (by simp)
  simpa using this
/-- a round of the program: where an arrival is later, the departure is set anew -/
theorem Rd1 {n : Nat} {s : S_LatchSystem} (hE : EndsIn s) (few : s.Latches.length ≤ 1048576) {t o at_ : List Int} {an : List Bool} (h0 : ∀ j, j < s.Latches.length → opn s j ≤ gd t j) (hS : Stp s t o) (ht : t.length = s.Latches.length) (hle : leL s.Latches.length t o) (hA : Arr s (fun _ => 0) s.Links t at_ an) (k : Bool → List Int → Option (List Int × Bool)) (hn : 1048577 ≤ n) :
    F_impl_LatchSystem_departures_L3 t (at_, an) (fun q _ l => k q l) n false 0 t = k (!(o == t)) o := by
  have key : ∀ j, j < s.Latches.length → gd o j = if gb an j = true ∧ gd t j < gd at_ j then gd at_ j else gd t j := by
    intro j hj
    have hlj := hle j hj
    have h0j := h0 j hj
    rcases hA.is j hj with ⟨h1, h2⟩ | ⟨h1, x, hx, h2, h3⟩
    · rw [h1, if_neg (by simp)]
      rcases hS.is j hj with h4 | ⟨y, hy, h4, h5⟩
      · omega
      · have := (hA.lk y hy).1
        rw [h4, h1] at this; cases this
    · rw [h1]
      have hx2 := hS.lk x hx
      rw [h2] at hx2
      rcases hS.is j hj with h4 | ⟨y, hy, h4, h5⟩
      · split <;> omega
      · have := (hA.lk y hy).2
        rw [h4] at this
        split
        · omega
        · next q =>
          have : ¬ gd t j < gd at_ j := fun e => q ⟨rfl, e⟩
          omega
  refine loop (L := fun m i (p : Bool × List Int) => F_impl_LatchSystem_departures_L3 t (at_, an) (fun q _ l => k q l) m p.1 i p.2) t.length (fun i p => p.2.length = s.Latches.length ∧ (∀ j, j < i → j < s.Latches.length → gd p.2 j = gd o j) ∧ (∀ j, i ≤ j → gd p.2 j = gd t j) ∧ (p.1 = true ↔ ∃ j, j < i ∧ j < s.Latches.length ∧ gd o j ≠ gd t j)) (fun r => r = k (!(o == t)) o) ?_ ?_ n 0 (false, t) (by omega) (by omega) ⟨ht, fun j hj => by omega, fun j hj => rfl, by simp⟩
  · intro m i ⟨q, l⟩ hi ⟨h1, h2, h3, h4⟩
    dsimp only at h1 h2 h3 h4 ⊢
    have hin : i < s.Latches.length := by omega
    have g1 := getI_gb (t := an) (i := (i : Int)) (by omega) (by rw [hA.len2]; omega)
    have g2 := getI_gd (t := at_) (i := (i : Int)) (by omega) (by rw [hA.len]; omega)
    have g3 := getI_gd (t := l) (i := (i : Int)) (by omega) (by rw [h1]; omega)
    rw [Int.toNat_natCast] at g1 g2 g3
    have kk := key i hin
    have h3i := h3 i (Nat.le_refl _)
    rw [h3i] at g3
    simp only [F_impl_LatchSystem_departures_L3_s, dlt hi, cond_true, g1, g2, g3, Option.bind_some, wS (show i < 4611686018427387904 by omega)]
    by_cases hc : gb an i = true ∧ gd t i < gd at_ i
    · rw [if_pos hc] at kk
      refine .inl ⟨(true, l.set i (gd at_ i)), ⟨by simpa using h1, fun j hj hj2 => ?_, fun j hj => ?_, ?_⟩, ?_⟩
      · dsimp only; rw [gd_set (by omega)]
        by_cases e : i = j
        · subst e; rw [if_pos rfl, kk]
        · rw [if_neg e]; exact h2 j (by omega) hj2
      · dsimp only; rw [gd_set (by omega), if_neg (by omega)]; exact h3 j (by omega)
      · exact ⟨fun _ => ⟨i, by omega, hin, by omega⟩, fun _ => rfl⟩
      · rw [hc.1]; simp only [cond_true, Option.bind_some, decide_eq_true (show gd at_ i > gd t i from hc.2), Int.toNat_natCast]
    · rw [if_neg hc] at kk
      refine .inl ⟨(q, l), ⟨h1, fun j hj hj2 => ?_, fun j hj => h3 j (by omega), ?_⟩, ?_⟩
      · by_cases e : j = i
        · subst e; rw [h3i, kk]
        · exact h2 j (by omega) hj2
      · dsimp only
        rw [h4]
        constructor
        · rintro ⟨j, a, b, c⟩; exact ⟨j, by omega, b, c⟩
        · rintro ⟨j, a, b, c⟩
          by_cases e : j = i
          · subst e; exact absurd kk c
          · exact ⟨j, by omega, b, c⟩
      · cases hb : gb an i with
        | false => simp only [cond_false, Option.bind_some]
        | true =>
          have : decide (gd at_ i > gd t i) = false := decide_eq_false fun e => hc ⟨hb, e⟩
          simp only [cond_true, Option.bind_some, this, cond_false]
  · intro m ⟨q, l⟩ ⟨h1, h2, h3, h4⟩
    dsimp only at h1 h2 h3 h4 ⊢
    simp only [F_impl_LatchSystem_departures_L3_s, dnl, cond_false]
    have e1 : l = o := gd_ext (by rw [h1, hS.len]) fun j hj => h2 j (by omega) (by omega)
    have e2 : q = !(o == t) := by
      rw [Bool.eq_iff_iff, h4]
      simp only [Bool.not_eq_true', beq_eq_false_iff_ne, ne_eq]
      constructor
      · rintro ⟨j, a, b, c⟩ e; subst e; exact c rfl
      · intro hne
        refine Classical.byContradiction fun hno => hne (gd_ext (by rw [hS.len, ht]) fun j hj => ?_)
        exact Classical.byContradiction fun e => hno ⟨j, by have := hS.len; omega, by have := hS.len; omega, e⟩
    rw [e1, e2]
theorem rnd_rng {s : S_LatchSystem} (hv : Val s) : ∀ k, Rng s (100000 * (k + 1 : Nat)) (rnd s k)
  | 0 => ⟨by simp [rnd], fun j hj => by have := opn_rng hv hj; exact ⟨this.1, by have := this.2; show opn s j ≤ _; omega⟩⟩
  | k + 1 => by
    have ih := rnd_rng hv k
    have S := stpF_is hv.ends (rnd s k)
    refine ⟨S.len, fun j hj => ?_⟩
    have h1 := S.ge j hj
    have h2 := opn_rng hv hj
    show 0 ≤ gd (stpF s (rnd s k)) j ∧ _
    refine ⟨by omega, ?_⟩
    show gd (stpF s (rnd s k)) j ≤ _
    rcases S.is j hj with h3 | ⟨x, hx, h3, h4⟩
    · omega
    · have := lw_rng hv ih hx; omega
theorem rnd_open {s : S_LatchSystem} (hv : Val s) : ∀ k j, j < s.Latches.length → opn s j ≤ gd (rnd s k) j
  | 0, j, _ => Int.le_refl _
  | k + 1, j, hj => (stpF_is hv.ends _).ge j hj
/-- the rounds of both texts -/
theorem Dp1 {n : Nat} {s : S_LatchSystem} (hv : Val s) (hn : 1048577 ≤ n) : ∀ (m k : Nat), k ≤ s.Latches.length + 1 → s.Latches.length + 1 - k < m →
    ∃ res : List Int × Bool, F_spec_l18Departures_L1 n s (fun _ _ => some (([] : List Int), false)) m (rnd s k) k = some res ∧ F_impl_LatchSystem_departures_L2 n s (s.Latches.map (·.Open)) (fun _ _ => some (([] : List Int), false)) m k (rnd s k) = some res ∧
      (res.2 = true → ∃ j, k ≤ j ∧ j ≤ s.Latches.length ∧ rnd s (j + 1) = rnd s j ∧ res.1 = rnd s j) ∧ (res.2 = false → res.1 = [] ∧ ∀ j, k ≤ j → j ≤ s.Latches.length → rnd s (j + 1) ≠ rnd s j)
  | 0, k, _, hm => by omega
  | m + 1, k, hk, hm => by
    have few := hv.few
    rw [F_spec_l18Departures_L1_s, F_impl_LatchSystem_departures_L2_s]
    have hw : IntKind.wrap IntKind.i64 (((((s.Latches.map (·.Open)).length : Nat) : Int)) + 1) = ((s.Latches.length + 1 : Nat) : Int) := by
      rw [List.length_map]; exact wS (by omega)
    rw [hw]
    by_cases hlt : k < s.Latches.length + 1
    · have d1 : decide ((k : Int) ≤ (s.Latches.length : Int)) = true := decide_eq_true (by omega)
      have ht := rnd_rng hv k
      have hB : (100000 * (k + 1 : Nat) : Int) ≤ 1000000000000 := by omega
      obtain ⟨at_, an, ha, hA⟩ := Ar1 (n := n) hv hB ht hn
      have hS := stpF_is hv.ends (rnd s k)
      have e1 := St1 (n := n) hv hB ht hn
      have e2 := Same1 (n := n) (a := stpF s (rnd s k)) (b := rnd s k) (by rw [hS.len, ht.1]) (by rw [hS.len]; omega) hn
      have hR := Rd1 (n := n) hv.ends (by omega) (rnd_open hv k) hS ht.1 (rnd_up hv.ends k) hA (fun q l => bif (!q) then (some (l, true)) else F_impl_LatchSystem_departures_L2 n s (s.Latches.map (·.Open)) (fun _ _ => some (([] : List Int), false)) m (IntKind.wrap IntKind.i64 ((k : Int) + 1)) l) hn
      rw [d1, dlt hlt, cond_true, cond_true, e1, Option.bind_some, e2, Option.bind_some, ha, Option.bind_some, hR, wS (by omega)]
      have es : stpF s (rnd s k) = rnd s (k + 1) := rfl
      rw [es]
      cases hq : (rnd s (k + 1) == rnd s k) with
      | true =>
        have hq := eq_of_beq hq
        exact ⟨(rnd s k, true), rfl, by rw [hq]; rfl, fun _ => ⟨k, Nat.le_refl _, by omega, hq, rfl⟩, fun h => by cases h⟩
      | false =>
        obtain ⟨res, r1, r2, r3, r4⟩ := Dp1 hv hn m (k + 1) (by omega) (by omega)
        refine ⟨res, r1, r2, fun h => ?_, fun h => ?_⟩
        · obtain ⟨j, a, b, c⟩ := r3 h; exact ⟨j, by omega, b, c⟩
        · obtain ⟨h1, h2⟩ := r4 h
          refine ⟨h1, fun j a b => ?_⟩
          by_cases e : j = k
          · subst e; exact beq_eq_false_iff_ne.1 hq
          · exact h2 j (by omega) b
    · have d1 : decide ((k : Int) ≤ (s.Latches.length : Int)) = false := decide_eq_false (by omega)
      have d2 : decide ((k : Int) < ((s.Latches.length + 1 : Nat) : Int)) = false := decide_eq_false (by omega)
      rw [d1, d2]
      exact ⟨([], false), rfl, rfl, fun h => (by cases h), fun _ => ⟨rfl, fun j a b => by omega⟩⟩
/-- the departures of a valid system -/
theorem Dp {n : Nat} {s : S_LatchSystem} (hv : Val s) (hn : 1048577 ≤ n) : ∃ res : List Int × Bool, F_spec_l18Departures n s = some res ∧ F_impl_LatchSystem_departures n s = some res ∧
    (res.2 = true → Stp s res.1 res.1 ∧ Rng s 1300000 res.1 ∧ ∃ j, res.1 = rnd s j) ∧ (res.2 = false → res.1 = [] ∧ rnd s (s.Latches.length + 1) ≠ rnd s s.Latches.length) := by
  have few := hv.few
  obtain ⟨res, r1, r2, r3, r4⟩ := Dp1 (n := n) hv hn n 0 (by omega) (by omega)
  refine ⟨res, ?_, ?_, fun h => ?_, fun h => ?_⟩
  · rw [F_spec_l18Departures, O1 (by omega) hn, Option.bind_some]; exact r1
  · rw [F_impl_LatchSystem_departures, mkN_ok (by omega) (by omega), Option.bind_some]
    exact (Op1 (fun l => F_impl_LatchSystem_departures_L2 n s l (fun _ _ => some (([] : List Int), false)) n 0 l) (by omega) hn).trans r2
  · obtain ⟨j, _, a, b, c⟩ := r3 h
    have := stpF_is hv.ends (rnd s j)
    have e : stpF s (rnd s j) = rnd s (j + 1) := rfl
    rw [e, b] at this
    rw [c]
    have hr := rnd_rng hv j
    exact ⟨this, ⟨hr.1, fun q hq => by have := hr.2 q hq; omega⟩, j, rfl⟩
  · exact ⟨(r4 h).1, (r4 h).2 _ (by omega) (Nat.le_refl _)⟩
/-- what the program computes for a system -/
theorem LT {n : Nat} {s : S_LatchSystem} (h : SM_LatchSystem s) (hn : 1048577 ≤ n) : ∃ (ts o : List Int) (c : Int), F_impl_latchTimes n s = some (ts, o, c) ∧ F_spec_l18Code n s = some (ts, c) ∧ (c ≠ 0 → ts = [] ∧ o = []) ∧
    (c = 0 → Val s ∧ Stp s ts ts ∧ Rng s 1300000 ts ∧ (∃ j, ts = rnd s j) ∧ ∃ hs, Arr s (opn s) s.Links ts o hs) ∧ (c = 7 → Val s ∧ rnd s (s.Latches.length + 1) ≠ rnd s s.Latches.length) ∧ (F_impl_IsLatchSystem n s = some true → c = 0 ∨ c = 7) := by
  obtain ⟨b, h1, h2⟩ := A5 h hn
  rw [F_impl_latchTimes, F_spec_l18Code, h1, h2]
  simp only [Option.bind_some]
  cases b with
  | false => exact ⟨[], [], 1, rfl, rfl, fun _ => ⟨rfl, rfl⟩, fun h => by omega, fun h => by omega, fun h => by cases h⟩
  | true =>
    have hv := V3 h h2
    have few := hv.few
    obtain ⟨⟨ts, b⟩, d1, d2, d3, d4⟩ := Dp (n := n) hv hn
    simp only [Bool.not_true, cond_false, d1, d2, Option.bind_some]
    cases b with
    | false =>
      obtain ⟨e1, e2⟩ := d4 rfl
      exact ⟨[], [], 7, rfl, rfl, fun _ => ⟨rfl, rfl⟩, fun h => by omega, fun _ => ⟨hv, e2⟩, fun _ => .inr rfl⟩
    | true =>
      obtain ⟨d5, d6, d7⟩ := d3 rfl
      obtain ⟨at_, an, ha, hA⟩ := Ar1 (n := n) hv (B := 1300000) (by omega) d6 hn
      simp only [Bool.not_true, cond_false, ha, Option.bind_some]
      refine ⟨ts, at_.mapIdx (fun j v => if gb an j then v else opn s j), 0, ?_, rfl, fun h => absurd rfl h, fun _ => ⟨hv, d5, d6, d7, an, ?_⟩, fun h => by omega, fun _ => .inl rfl⟩
      · refine loop_map (L := fun m i l => F_impl_latchTimes_L1 s (at_, an) (fun i49 l51 => (some (ts, l51, 0))) m i l) (k := fun l => some (ts, l, 0)) _ s.Latches.length ?_ ?_ n at_ hA.len (by omega)
        · intro m i l hl hi
          have g1 := getI_gb (t := an) (i := (i : Int)) (by omega) (by rw [hA.len2]; omega)
          rw [Int.toNat_natCast] at g1
          simp only [F_impl_latchTimes_L1_s, dlt hi, cond_true, getI_el hi, getI_el (show i < l.length by omega), g1, Option.bind_some, wS (show i < 4611686018427387904 by omega)]
          cases gb an i with
          | false => simp [opn_get (List.getElem?_eq_getElem hi)]
          | true => simp
        · intro m l
          simp only [F_impl_latchTimes_L1_s, dnl, cond_false]
      · have gm : ∀ j, j < s.Latches.length → gd (at_.mapIdx (fun j v => if gb an j then v else opn s j)) j = if gb an j then gd at_ j else opn s j := fun j hj => gd_get (by rw [List.getElem?_mapIdx, get_gd (by rw [hA.len]; exact hj)]; rfl)
        refine ⟨by rw [List.length_mapIdx]; exact hA.len, hA.len2, fun x hx => ?_, fun j hj => ?_⟩
        · have := hA.lk x hx
          rw [gm _ (hv.ends x hx).2, this.1, if_pos rfl]; exact ⟨rfl, this.2⟩
        · rw [gm j hj]
          rcases hA.is j hj with ⟨a, _⟩ | ⟨a, x, hx, b, c⟩
          · rw [a]; exact .inl ⟨rfl, by simp⟩
          · rw [a]; exact .inr ⟨rfl, x, hx, b, by simpa using c⟩
theorem PFnExactLatchDepartures {a : S_LatchSystem} (hR : R_LatchSystem a) : ∃ n, F_laws_FnExactLatchDepartures n a = some true := by
  refine ⟨1048577, ?_⟩
  obtain ⟨r, e, hr, hs⟩ := Z_LatchSystem (n := 1048577) (left := 1048576) hR (by omega) (by omega) (by omega)
  rw [F_laws_FnExactLatchDepartures, e, Option.bind_some]
  by_cases h0 : r < 0
  · rw [decide_eq_true h0]; rfl
  have hS := hs (by omega)
  have hl1 := hS.1.1
  obtain ⟨ts, o, c, h1, h2, h3, h4, _⟩ := LT (n := 1048577) hS (Nat.le_refl _)
  have ht : ts.length ≤ 1048576 := by
    by_cases e : c = 0
    · have := (h4 e).2.2.1.1; omega
    · rw [(h3 e).1]; exact Nat.zero_le _
  have e1 : F_spec_LatchDepartures 1048577 a = some (ts, c) := by rw [F_spec_LatchDepartures, h2]; rfl
  have e2 : F_impl_LatchDepartures 1048577 a = some (ts, c) := by rw [F_impl_LatchDepartures, h1]; rfl
  obtain ⟨q, m1, mm⟩ := M_LatchSystem (n := 1048577) (k := 1) hS (by omega) (by omega) (Nat.le_refl _)
  obtain ⟨p, p1, p2, p3, p4⟩ := M_Int64S (n := 1048577) (k := 1) ht (by omega) (by omega) (Nat.le_refl _)
  have hE := E_Int64S (n := 1048577) (a := ts) ⟨ht, fun _ _ => trivial⟩ (Nat.le_refl _)
  rw [decide_eq_false h0, cond_false]
  simp [T_LatchSystem hS (Nat.le_refl _), E_LatchSystem hS (Nat.le_refl _), hE, e1, e2, m1, p1, p4, show ¬ q.1 < 0 by have := mm.1; omega, show ¬ p.1 < 0 by omega]

end Go.Proofs.Ytmhmpfckdhiijaa
