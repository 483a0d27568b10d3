/- The plain law behind FnDepartures: the plain function answers true; no condition. -/
import Derived.Test.YtmhmpfckdhiijaaWalkFnDepartures
set_option linter.all false
namespace Go.Proofs.Ytmhmpfckdhiijaa
open Go Go.RowKit Go.Eng
theorem bif_or {b c : Bool} : (bif b then some true else some c) = some (b || c) := by cases b <;> rfl
theorem dlt {i N : Nat} (h : i < N) : decide ((i : Int) < (N : Int)) = true := decide_eq_true (by omega)
theorem dnl (N : Nat) : decide ((N : Int) < (N : Int)) = false := decide_eq_false (by omega)
theorem wS {i : Nat} (h : i < 4611686018427387904) : IntKind.wrap IntKind.i64 ((i : Int) + 1) = ((i + 1 : Nat) : Int) := by rw [wrap64 (by omega) (by omega)]; simp
theorem getI_el {α : Type} {xs : List α} {i : Nat} (h : i < xs.length) : getI xs (i : Int) = some xs[i] := by rw [getI_nat]; exact List.getElem?_eq_getElem h
theorem getI_ok {α : Type} {xs : List α} {i : Int} (h0 : 0 ≤ i) (h1 : i < xs.length) : ∃ x, getI xs i = some x ∧ xs[i.toNat]? = some x := by
  obtain ⟨x, hx, _⟩ := getI_in h0 h1
  exact ⟨x, hx, (getI_lt hx).2.2⟩
/-- a loop: an invariant, and what holds of its result -/
theorem loop {σ R : Type} {L : Nat → Int → σ → Option R} (N : Nat) (I : Nat → σ → Prop) (Post : Option R → Prop)
    (hs : ∀ (m i : Nat) (st : σ), i < N → I i st → (∃ st', I (i + 1) st' ∧ L (m + 1) (i : Int) st = L m ((i + 1 : Nat) : Int) st') ∨ Post (L (m + 1) (i : Int) st))
    (he : ∀ (m : Nat) (st : σ), I N st → Post (L (m + 1) (N : Int) st)) : ∀ (m i : Nat) (st : σ), i ≤ N → N - i < m → I i st → Post (L m (i : Int) st)
  | 0, i, st, _, hm, _ => by omega
  | m + 1, i, st, hi, hm, h => by
    by_cases hlt : i < N
    · rcases hs m i st hlt h with ⟨st', h1, h2⟩ | h1
      · rw [h2]; exact loop N I Post hs he m (i + 1) st' (by omega) (by omega) h1
      · exact h1
    · obtain rfl : i = N := by omega
      exact he m st h
theorem loop_fold {α σ R : Type} {xs : List α} {L : Nat → Int → σ → Option R} {k : σ → Option R} (f : σ → α → σ) (I : Nat → σ → Prop)
    (hs : ∀ (m i : Nat) (h : i < xs.length) (st : σ), I i st → L (m + 1) (i : Int) st = L m ((i + 1 : Nat) : Int) (f st xs[i]) ∧ I (i + 1) (f st xs[i]))
    (he : ∀ (m : Nat) (st : σ), I xs.length st → L (m + 1) (xs.length : Int) st = k st) (m : Nat) (st : σ) (h : I 0 st) (hm : xs.length < m) : L m 0 st = k (xs.foldl f st) ∧ I xs.length (xs.foldl f st) := by
  refine loop xs.length (fun i s => I i s ∧ (xs.drop i).foldl f s = xs.foldl f st) (fun o => o = k (xs.foldl f st) ∧ I xs.length (xs.foldl f st)) ?_ ?_ m 0 st (by omega) (by omega) ⟨h, by simp⟩
  · intro m i s hi ⟨h1, h2⟩
    obtain ⟨e, h3⟩ := hs m i hi s h1
    exact .inl ⟨_, ⟨h3, by rw [List.drop_eq_getElem_cons hi] at h2; exact h2⟩, e⟩
  · intro m s ⟨h1, h2⟩
    rw [List.drop_length] at h2
    have h2 : s = xs.foldl f st := h2
    rw [← h2]
    exact ⟨he m s h1, h1⟩
theorem appN_ok {α : Type} {xs ys : List α} {b : Nat} (h : xs.length + ys.length ≤ 16777216) (hb : b ≤ 1048576) : appN xs ys b = some (xs ++ ys) := by
  unfold appN
  have : (xs.length + ys.length) * b ≤ 16777216 * 1048576 := Nat.mul_le_mul h hb
  rw [if_pos ⟨by omega, by omega⟩]
/-- a list is gathered -/
theorem loop_app {α β R : Type} {xs : List α} {L : Nat → Int → List β → Option R} {k : List β → Option R} (f : α → List β) (c : Nat) (hf : ∀ x ∈ xs, (f x).length ≤ c)
    (hs : ∀ (m i : Nat) (h : i < xs.length) (l : List β), l.length ≤ i * c → L (m + 1) (i : Int) l = L m ((i + 1 : Nat) : Int) (l ++ f xs[i])) (he : ∀ (m : Nat) (l : List β), L (m + 1) (xs.length : Int) l = k l)
    (m : Nat) (hm : xs.length < m) : L m 0 [] = k (xs.flatMap f) := by
  have := (loop_fold (L := L) (k := k) (fun l x => l ++ f x) (fun i l => l.length ≤ i * c) (fun m i h l hl => ⟨hs m i h l hl, by
    have := hf xs[i] (List.getElem_mem h)
    rw [List.length_append, Nat.succ_mul]; omega⟩) (fun m l _ => he m l) m [] (by simp) hm).1
  rw [this]
  congr 1
  have : ∀ (xs : List α) (l : List β), xs.foldl (fun l x => l ++ f x) l = l ++ xs.flatMap f := by
    intro xs; induction xs with
    | nil => simp
    | cons x xs ih => intro l; simp [ih]
  simpa using this xs []
theorem loop_map {α R : Type} {L : Nat → Int → List α → Option R} {k : List α → Option R} (g : Nat → α → α) (N : Nat)
    (hs : ∀ (m i : Nat) (l : List α) (hl : l.length = N) (h : i < N), L (m + 1) (i : Int) l = L m ((i + 1 : Nat) : Int) (l.set i (g i l[i]))) (he : ∀ (m : Nat) (l : List α), L (m + 1) (N : Int) l = k l)
    (m : Nat) (l : List α) (hl : l.length = N) (hm : N < m) : L m 0 l = k (l.mapIdx g) := by
  refine loop N (fun i s => s.length = N ∧ ∀ j, s[j]? = if j < i then (l.mapIdx g)[j]? else l[j]?) (fun o => o = k (l.mapIdx g)) ?_ ?_ m 0 l (by omega) (by omega) ⟨hl, fun j => by simp⟩
  · intro m i s hi ⟨h1, h2⟩
    refine .inl ⟨_, ⟨by simpa using h1, fun j => ?_⟩, hs m i s h1 hi⟩
    have hsi := h2 i
    rw [if_neg (Nat.lt_irrefl _), List.getElem?_eq_getElem (by omega), List.getElem?_eq_getElem (by omega)] at hsi
    rw [List.getElem?_set]
    by_cases e : i = j
    · subst e
      rw [if_pos rfl, if_pos (by omega), if_pos (by omega), List.getElem?_mapIdx, List.getElem?_eq_getElem (by omega)]
      simp only [Option.some.inj hsi]; rfl
    · rw [if_neg e, h2 j]
      by_cases e2 : j < i
      · rw [if_pos e2, if_pos (by omega)]
      · rw [if_neg e2, if_neg (by omega)]
  · intro m s ⟨h1, h2⟩
    have : s = l.mapIdx g := by
      apply List.ext_getElem?
      intro j
      rw [h2 j]
      by_cases e : j < N
      · rw [if_pos e]
      · rw [if_neg e, List.getElem?_eq_none (by omega), List.getElem?_eq_none (by simp; omega)]
    rw [he, this]
/-- two lists of one length are compared -/
theorem loop_same {α R : Type} [BEq α] [LawfulBEq α] {xs ys : List α} {L : Nat → Int → Option R} {k no : Option R} (hl : xs.length = ys.length)
    (hs : ∀ (m i : Nat) (h : i < xs.length) (h2 : i < ys.length), L (m + 1) (i : Int) = bif xs[i] != ys[i] then no else L m ((i + 1 : Nat) : Int)) (he : ∀ m : Nat, L (m + 1) (xs.length : Int) = k) (m : Nat) (hm : xs.length < m) :
    L m 0 = bif xs == ys then k else no := by
  refine loop (L := fun m i (_ : Unit) => L m i) xs.length (fun i _ => ∀ j, j < i → xs[j]? = ys[j]?) (fun o => o = bif xs == ys then k else no) ?_ ?_ m 0 () (by omega) (by omega) (by simp)
  · intro m i _ hi h
    by_cases e : xs[i] = ys[i]'(by omega)
    · refine .inl ⟨(), fun j hj => ?_, ?_⟩
      · by_cases e2 : j = i
        · subst e2; rw [List.getElem?_eq_getElem hi, List.getElem?_eq_getElem (by omega), e]
        · exact h j (by omega)
      · have : (xs[i] != ys[i]'(by omega)) = false := by simp [e]
        simp only [hs m i hi (by omega), this, cond_false]
    · refine .inr ?_
      have h1 : (xs[i] != ys[i]'(by omega)) = true := by simp [e]
      have h2 : (xs == ys) = false := by
        rw [beq_eq_false_iff_ne]
        intro q; subst q; exact e rfl
      rw [h2]
      simp only [hs m i hi (by omega), h1, cond_true, cond_false]
  · intro m _ h
    have : xs = ys := List.ext_getElem? fun j => by
      by_cases e : j < xs.length
      · exact h j e
      · rw [List.getElem?_eq_none (by omega), List.getElem?_eq_none (by omega)]
    subst this
    simp [he m]
/-- any loop, by a measure -/
theorem loopm {σ R : Type} {L : Nat → σ → Option R} (μ : σ → Nat) (I : σ → Prop) (Post : Option R → Prop)
    (hs : ∀ (m : Nat) (st : σ), I st → (∀ st', I st' → μ st' < μ st → Post (L m st')) → Post (L (m + 1) st)) : ∀ (m : Nat) (st : σ), μ st < m → I st → Post (L m st)
  | 0, st, h, _ => by omega
  | m + 1, st, h, hI => hs m st hI fun st' h1 h2 => loopm μ I Post hs m st' (by omega) h1
theorem loopw {σ R : Type} {L : Nat → Int → σ → Option R} (N : Nat) (I : Nat → σ → Prop) (Post : Option R → Prop)
    (hs : ∀ (m i : Nat) (st : σ), i < N → I i st → (∀ st', I (i + 1) st' → Post (L m ((i + 1 : Nat) : Int) st')) → Post (L (m + 1) (i : Int) st))
    (he : ∀ (m : Nat) (st : σ), I N st → Post (L (m + 1) (N : Int) st)) : ∀ (m i : Nat) (st : σ), i ≤ N → N - i < m → I i st → Post (L m (i : Int) st)
  | 0, i, st, _, hm, _ => by omega
  | m + 1, i, st, hi, hm, h => by
    by_cases hlt : i < N
    · exact hs m i st hlt h fun st' h' => loopw N I Post hs he m (i + 1) st' (by omega) (by omega) h'
    · obtain rfl : i = N := by omega
      exact he m st h
/-- a value there is, and what holds of it -/
def Tot {α : Type} (Q : α → Prop) (o : Option α) : Prop := ∃ v, o = some v ∧ Q v
theorem Tot.some {α : Type} {Q : α → Prop} {v : α} (h : Q v) : Tot Q (some v) := ⟨v, rfl, h⟩
theorem Tot.bind {α β : Type} {A : α → Prop} {Q : β → Prop} {o : Option α} {f : α → Option β} (h : Tot A o) (k : ∀ v, o = Option.some v → A v → Tot Q (f v)) : Tot Q (Option.bind o f) := by
  obtain ⟨v, e, hv⟩ := h
  rw [e]; exact k v e hv
theorem Tot.bif {α : Type} {Q : α → Prop} {c : Bool} {x y : Option α} (h1 : c = true → Tot Q x) (h2 : c = false → Tot Q y) : Tot Q (bif c then x else y) := by
  cases c
  · exact h2 rfl
  · exact h1 rfl
theorem Tot.get {α : Type} {Q : α → Prop} {xs : List α} {i : Int} (h0 : 0 ≤ i) (h1 : i < xs.length) (h : ∀ x ∈ xs, Q x) : Tot Q (getI xs i) := by
  obtain ⟨x, hx, hm⟩ := getI_in h0 h1
  exact ⟨x, hx, h x hm⟩
theorem Tot.get' {α : Type} {xs : List α} {i : Int} (h0 : 0 ≤ i) (h1 : i < xs.length) : Tot (fun x => x ∈ xs) (getI xs i) := Tot.get h0 h1 fun _ h => h
theorem Tot.app {α : Type} {xs ys : List α} {b : Nat} (h : xs.length + ys.length ≤ 16777216) (hb : b ≤ 1048576) : Tot (fun z => z = xs ++ ys) (appN xs ys b) := ⟨_, appN_ok h hb, rfl⟩
/-- the first place where p holds is sought -/
theorem loop_has {α : Type} {xs : List α} {L : Nat → Int → Option Int} (p : α → Bool) (hs : ∀ (m i : Nat) (h : i < xs.length), L (m + 1) (i : Int) = bif p xs[i] then some (i : Int) else L m ((i + 1 : Nat) : Int))
    (he : ∀ m : Nat, L (m + 1) (xs.length : Int) = some (-1)) (m : Nat) (hm : xs.length < m) : ∃ r, L m 0 = some r ∧ decide (r ≥ 0) = xs.any p := by
  refine loop (L := fun m i (_ : Unit) => L m i) xs.length (fun i _ => xs.any p = (xs.drop i).any p) (fun o => ∃ r, o = some r ∧ decide (r ≥ 0) = xs.any p) ?_ ?_ m 0 () (by omega) (by omega) (by simp)
  · intro m i _ hi h
    rw [List.drop_eq_getElem_cons hi, List.any_cons] at h
    cases hp : p xs[i] with
    | false => refine .inl ⟨(), by rw [h, hp]; simp, ?_⟩; simp only [hs m i hi, hp, cond_false]
    | true => refine .inr ⟨(i : Int), ?_, ?_⟩
              · simp only [hs m i hi, hp, cond_true]
              · rw [h, hp]; simp
  · intro m _ h
    rw [List.drop_length] at h
    exact ⟨-1, he m, by rw [h]; rfl⟩

/-- a source of numbers over the code c -/
structure Src (c : List Int) (s : S_l01Source) : Prop where
  code : s.code_ = c
  at0 : 0 ≤ s.at_ ∧ s.at_ ≤ c.length
  sd : 0 ≤ s.seed_ ∧ s.seed_ < 2147483647
/-- a code that is not big -/
def Cde (c : List Int) : Prop := c.length ≤ 4096 ∧ ∀ x ∈ c, 0 ≤ x ∧ x ≤ 255
theorem tmod_in {a b : Int} (ha : 0 ≤ a) (hb : 0 < b) : 0 ≤ Int.tmod a b ∧ Int.tmod a b < b := ⟨Int.tmod_nonneg _ ha, Int.tmod_lt_of_pos _ hb⟩
theorem Nx {n : Nat} {c : List Int} (hc : Cde c) {s : S_l01Source} (h : Src c s) (k : Int) : Tot (fun r => Src c r.2 ∧ 0 ≤ r.1 ∧ (r.1 < k ∨ r.1 = 0 ∧ k ≤ 1)) (F_spec_l01Next n s k) := by
  obtain ⟨h1, h2, h3⟩ := h
  have hl := hc.1
  rw [F_spec_l01Next]
  refine Tot.bif (fun hk => Tot.some ⟨⟨h1, h2, h3⟩, Int.le_refl _, .inr ⟨rfl, of_decide_eq_true hk⟩⟩) fun hk => ?_
  have hk := of_decide_eq_false hk
  have hk0 : (k == 0) = false := by rw [beq_eq_false_iff_ne]; omega
  refine Tot.bif (fun ha => ?_) fun ha => ?_
  · have ha := of_decide_eq_true ha
    rw [h1] at ha ⊢
    refine Tot.bind (Tot.get h2.1 ha hc.2) fun x _ hx => ?_
    have wx : IntKind.wrap IntKind.i64 x = x := wrap64 (by omega) (by omega)
    have wa : IntKind.wrap IntKind.i64 (s.at_ + 1) = s.at_ + 1 := wrap64 (by omega) (by omega)
    have wm : IntKind.wrap IntKind.i64 (s.seed_ * 48271) = s.seed_ * 48271 := wrap64 (by omega) (by omega)
    simp only [hk0, cond_false, wx, wa, wm, wrap64 (x := s.seed_ * 48271 + x) (by omega) (by omega), wrap64 (x := s.seed_ * 48271 + x + 1) (by omega) (by omega)]
    have m1 := tmod_in (a := s.seed_ * 48271 + x + 1) (b := 2147483647) (by omega) (by omega)
    refine Tot.bif (fun _ => Tot.some ⟨⟨rfl, ⟨?_, ?_⟩, h3⟩, ?_⟩) fun _ => Tot.some ⟨⟨rfl, ⟨?_, ?_⟩, m1⟩, ?_⟩
    · show 0 ≤ s.at_ + 1; omega
    · show s.at_ + 1 ≤ _; omega
    · exact ⟨(tmod_in hx.1 (by omega)).1, .inl (tmod_in hx.1 (by omega)).2⟩
    · show 0 ≤ s.at_ + 1; omega
    · show s.at_ + 1 ≤ _; omega
    · exact ⟨(tmod_in m1.1 (by omega)).1, .inl (tmod_in m1.1 (by omega)).2⟩
  · have wm : IntKind.wrap IntKind.i64 (s.seed_ * 48271) = s.seed_ * 48271 := wrap64 (by omega) (by omega)
    have m1 := tmod_in (a := s.seed_ * 48271 + 11) (b := 2147483647) (by omega) (by omega)
    simp only [hk0, cond_false, wm, wrap64 (x := s.seed_ * 48271 + 11) (by omega) (by omega)]
    generalize Int.tmod (s.seed_ * 48271 + 11) 2147483647 = q at *
    have d0 : 0 ≤ Int.tdiv q 7 := Int.tdiv_nonneg m1.1 (by omega)
    have d1 : Int.tdiv q 7 ≤ q := Int.tdiv_le_self _ m1.1
    rw [wrap64 (x := Int.tdiv q 7) (by omega) (by omega)]
    exact Tot.some ⟨⟨h1, h2, m1⟩, (tmod_in d0 (by omega)).1, .inl (tmod_in d0 (by omega)).2⟩
theorem Src.mk2 {c d : List Int} {s : S_l01Source} (h : Src c s) (e : d = c) : Src c (S_l01Source.mk d s.at_ s.seed_) := ⟨e, h.at0, h.sd⟩
theorem Fr {n : Nat} {c : List Int} (hc : Cde c) (hn : 1048577 ≤ n) : Tot (fun r => Src c r) (F_spec_l01From n c) := by
  have hl := hc.1
  rw [F_spec_l01From]
  refine loopw (L := fun m i (p : Int × Int) => F_spec_l01From_L1 c (fun i12 i14 i15 => (some ((S_l01Source.mk c i14 i15)))) m i p.1 p.2) (min c.length 64) (fun _ p => p.1 = 0 ∧ 0 ≤ p.2 ∧ p.2 < 2147483647) _ ?_ ?_ n 0 (0, 12345) (by omega) (by omega) ⟨rfl, by omega, by omega⟩
  · intro m i ⟨a, sd⟩ hi ⟨h1, h2⟩ ih
    dsimp only at h1 h2 ⊢
    have hi1 : i < c.length := by omega
    have hx := hc.2 _ (List.getElem_mem hi1)
    simp only [F_spec_l01From_L1_s, dlt hi1, dlt (show i < 64 by omega), Bool.and_self, cond_true, getI_el hi1, Option.bind_some, show ((64 : Int)) = ((64 : Nat) : Int) from rfl, wS (show i < 4611686018427387904 by omega)]
    generalize c[i] = x at *
    rw [wrap64 (x := sd * 31) (by omega) (by omega), wrap64 (x := x) (by omega) (by omega), wrap64 (x := sd * 31 + x) (by omega) (by omega)]
    have m1 := tmod_in (a := sd * 31 + x) (b := 2147483647) (by omega) (by omega)
    exact ih (a, _) ⟨h1, m1⟩
  · intro m ⟨a, sd⟩ ⟨h1, h2⟩
    dsimp only at h1 h2 ⊢
    have : (decide (((min c.length 64 : Nat) : Int) < (c.length : Int)) && decide (((min c.length 64 : Nat) : Int) < 64)) = false := by
      rw [Bool.and_eq_false_iff, decide_eq_false_iff_not, decide_eq_false_iff_not]; omega
    simp only [F_spec_l01From_L1_s, this, cond_false]
    exact Tot.some ⟨rfl, ⟨by subst h1; exact Int.le_refl _, by subst h1; exact Int.natCast_nonneg _⟩, h2⟩
theorem Cde.of {code : List Int} (hR : code.length ≤ 9223372036854775807 ∧ ∀ x ∈ code, inK .u8 x) (h : ¬ (code.length : Int) > 4096) : Cde code := ⟨by omega, fun x hx => hR.2 x hx⟩

theorem A1 (n : Nat) (a : S_LatchSystem) (k : Int → Option Bool) : ∀ m i, F_spec_IsLatchSystem_L1 n a k m i = F_impl_IsLatchSystem_L1 a k m i
  | 0, _ => rfl
  | m + 1, i => by
    have key : ∀ x : S_Latch, (!((decide (x.Open ≥ 0)) && (decide (x.Open ≤ 100000))) || !((decide (x.Close ≥ x.Open)) && (decide (x.Close ≤ 100000)))) = (((decide (x.Open < 0)) || (decide (x.Open > x.Close))) || (decide (x.Close > 100000))) := by
      intro x
      rw [Bool.eq_iff_iff]
      simp only [Bool.or_eq_true, Bool.not_eq_true', Bool.and_eq_false_iff, decide_eq_true_eq, decide_eq_false_iff_not]
      omega
    rw [F_spec_IsLatchSystem_L1_s, F_impl_IsLatchSystem_L1_s]
    simp only [F_spec_l01In, Option.bind_some, bif_or, key, A1 n a k m]
theorem A2 (n : Nat) (a : S_LatchSystem) (k : Int → Option Bool) : ∀ m i, F_spec_IsLatchSystem_L2 n a k m i = F_impl_IsLatchSystem_L2 n a (a.Latches.length : Int) k m i
  | 0, _ => rfl
  | m + 1, i => by
    rw [F_spec_IsLatchSystem_L2_s, F_impl_IsLatchSystem_L2_s]
    simp only [F_spec_l01In, F_impl_within, A2 n a k m]
theorem A3 (a : S_LatchSystem) (k : Int → Option Bool) (h : a.Latches.length ≤ 1048576) : ∀ (m i : Nat), i ≤ a.Latches.length → a.Latches.length - i < m → F_impl_IsLatchSystem_L1 a k m i = some false ∨ F_impl_IsLatchSystem_L1 a k m i = k (a.Latches.length : Int)
  | 0, i, _, hm => by omega
  | m + 1, i, hi, hm => by
    rw [F_impl_IsLatchSystem_L1_s]
    by_cases hlt : i < a.Latches.length
    · have hd : decide ((i : Int) < (a.Latches.length : Int)) = true := decide_eq_true (by omega)
      have hx : getI a.Latches i = some a.Latches[i] := by rw [getI_nat]; exact List.getElem?_eq_getElem hlt
      rw [hd, cond_true, hx, Option.bind_some, wrap64 (by omega) (by omega)]
      cases ((decide (a.Latches[i].Open < 0) || decide (a.Latches[i].Open > a.Latches[i].Close)) || decide (a.Latches[i].Close > 100000))
      · exact A3 a k h m (i + 1) (by omega) (by omega)
      · exact .inl rfl
    · have hd : decide ((i : Int) < (a.Latches.length : Int)) = false := decide_eq_false (by omega)
      rw [hd, cond_false]
      exact .inr (by rw [show i = a.Latches.length by omega])
theorem A4 (n : Nat) (a : S_LatchSystem) (q : Int) (k : Int → Option Bool) (h : a.Links.length ≤ 1048576) : ∀ (m i : Nat), i ≤ a.Links.length → a.Links.length - i < m → F_impl_IsLatchSystem_L2 n a q k m i = some false ∨ F_impl_IsLatchSystem_L2 n a q k m i = k (a.Links.length : Int)
  | 0, i, _, hm => by omega
  | m + 1, i, hi, hm => by
    rw [F_impl_IsLatchSystem_L2_s]
    by_cases hlt : i < a.Links.length
    · have hd : decide ((i : Int) < (a.Links.length : Int)) = true := decide_eq_true (by omega)
      have hx : getI a.Links i = some a.Links[i] := by rw [getI_nat]; exact List.getElem?_eq_getElem hlt
      simp only [hd, cond_true, hx, Option.bind_some, wrap64 (x := (i : Int) + 1) (by omega) (by omega), F_impl_within, bif_or]
      generalize ((_ || _) : Bool) = b
      cases b
      · exact A4 n a q k h m (i + 1) (by omega) (by omega)
      · exact .inl rfl
    · have hd : decide ((i : Int) < (a.Links.length : Int)) = false := decide_eq_false (by omega)
      rw [hd, cond_false]
      exact .inr (by rw [show i = a.Links.length by omega])
theorem A5 {n : Nat} {a : S_LatchSystem} (h : SM_LatchSystem a) (hn : 1048577 ≤ n) : ∃ b, F_spec_IsLatchSystem n a = some b ∧ F_impl_IsLatchSystem n a = some b := by
  have e : F_spec_IsLatchSystem n a = F_impl_IsLatchSystem n a := by
    rw [F_spec_IsLatchSystem, F_impl_IsLatchSystem, A1]
    simp only [A2, F_impl_length_impl_Latch, Option.bind_some]
  rw [e]
  refine (?_ : ∃ b, F_impl_IsLatchSystem n a = some b).elim fun b hb => ⟨b, hb, hb⟩
  have hl1 := h.1.1
  have hl2 := h.2.1
  rw [F_impl_IsLatchSystem]
  simp only [F_impl_length_impl_Latch, Option.bind_some]
  refine (A3 a _ h.1.1 n 0 (by omega) (by omega)).elim (fun h1 => ⟨_, h1⟩) fun h1 => ?_
  refine (A4 n a (a.Latches.length : Int) _ h.2.1 n 0 (by omega) (by omega)).elim (fun h2 => ⟨_, h1.trans h2⟩) fun h2 => ⟨_, h1.trans h2⟩
theorem V1 (a : S_LatchSystem) (k : Int → Option Bool) (h : a.Latches.length ≤ 1048576) : ∀ (m i : Nat), i ≤ a.Latches.length → F_impl_IsLatchSystem_L1 a k m i = some true →
    (∀ j x, i ≤ j → a.Latches[j]? = some x → 0 ≤ x.Open ∧ x.Open ≤ x.Close ∧ x.Close ≤ 100000) ∧ k (a.Latches.length : Int) = some true
  | 0, i, _, hm => by cases hm
  | m + 1, i, hi, hm => by
    rw [F_impl_IsLatchSystem_L1_s] at hm
    by_cases hlt : i < a.Latches.length
    · have hd : decide ((i : Int) < (a.Latches.length : Int)) = true := decide_eq_true (by omega)
      have hx : getI a.Latches i = some a.Latches[i] := by rw [getI_nat]; exact List.getElem?_eq_getElem hlt
      rw [hd, cond_true, hx, Option.bind_some, wrap64 (by omega) (by omega)] at hm
      cases hc : ((decide (a.Latches[i].Open < 0) || decide (a.Latches[i].Open > a.Latches[i].Close)) || decide (a.Latches[i].Close > 100000)) with
      | true => rw [hc] at hm; cases hm
      | false =>
        rw [hc, cond_false] at hm
        obtain ⟨h1, h2⟩ := V1 a k h m (i + 1) (by omega) hm
        refine ⟨fun j x hj hjx => ?_, h2⟩
        by_cases e : j = i
        · subst e
          rw [List.getElem?_eq_getElem hlt] at hjx
          obtain rfl := Option.some.inj hjx
          simp only [Bool.or_eq_false_iff, decide_eq_false_iff_not] at hc
          omega
        · exact h1 j x (by omega) hjx
    · have hd : decide ((i : Int) < (a.Latches.length : Int)) = false := decide_eq_false (by omega)
      rw [hd, cond_false] at hm
      refine ⟨fun j x hj hjx => ?_, ?_⟩
      · have := (List.getElem?_eq_some_iff.1 hjx).1; omega
      · rw [show (a.Latches.length : Int) = (i : Int) by omega]; exact hm
theorem V2 (n : Nat) (a : S_LatchSystem) (q : Int) (hq : 0 ≤ q) (hq2 : q ≤ 1048576) (k : Int → Option Bool) (h : a.Links.length ≤ 1048576) : ∀ (m i : Nat), i ≤ a.Links.length → F_impl_IsLatchSystem_L2 n a q k m i = some true →
    (∀ j x, i ≤ j → a.Links[j]? = some x → (0 ≤ x.From ∧ x.From < q) ∧ (0 ≤ x.To ∧ x.To < q) ∧ (0 ≤ x.Delay ∧ x.Delay ≤ 100000) ∧ (0 ≤ x.Shift ∧ x.Shift ≤ 100000)) ∧ k (a.Links.length : Int) = some true
  | 0, i, _, hm => by cases hm
  | m + 1, i, hi, hm => by
    rw [F_impl_IsLatchSystem_L2_s] at hm
    by_cases hlt : i < a.Links.length
    · have hd : decide ((i : Int) < (a.Links.length : Int)) = true := decide_eq_true (by omega)
      have hx : getI a.Links i = some a.Links[i] := by rw [getI_nat]; exact List.getElem?_eq_getElem hlt
      simp only [hd, cond_true, hx, Option.bind_some, wrap64 (x := (i : Int) + 1) (by omega) (by omega), wrap64 (x := q - 1) (by omega) (by omega), F_impl_within, bif_or] at hm
      generalize hc : ((_ || _) : Bool) = b at hm
      cases b with
      | true => cases hm
      | false =>
        rw [cond_false] at hm
        obtain ⟨h1, h2⟩ := V2 n a q hq hq2 k h m (i + 1) (by omega) hm
        refine ⟨fun j x hj hjx => ?_, h2⟩
        by_cases e : j = i
        · subst e
          rw [List.getElem?_eq_getElem hlt] at hjx
          obtain rfl := Option.some.inj hjx
          simp only [Bool.or_eq_false_iff, Bool.not_eq_false', Bool.and_eq_true, decide_eq_true_eq] at hc
          omega
        · exact h1 j x (by omega) hjx
    · have hd : decide ((i : Int) < (a.Links.length : Int)) = false := decide_eq_false (by omega)
      rw [hd, cond_false] at hm
      refine ⟨fun j x hj hjx => ?_, ?_⟩
      · have := (List.getElem?_eq_some_iff.1 hjx).1; omega
      · rw [show (a.Links.length : Int) = (i : Int) by omega]; exact hm
/-- a valid system -/
structure Val (a : S_LatchSystem) : Prop where
  latch : ∀ (j : Nat) (x : S_Latch), a.Latches[j]? = some x → 0 ≤ x.Open ∧ x.Open ≤ x.Close ∧ x.Close ≤ 100000
  link : ∀ (j : Nat) (x : S_LatchLink), a.Links[j]? = some x → (0 ≤ x.From ∧ x.From < a.Latches.length) ∧ (0 ≤ x.To ∧ x.To < a.Latches.length) ∧ (0 ≤ x.Delay ∧ x.Delay ≤ 100000) ∧ (0 ≤ x.Shift ∧ x.Shift ≤ 100000)
  few : a.Latches.length ≤ 12 ∧ a.Links.length ≤ 60
theorem V3 {n : Nat} {a : S_LatchSystem} (h : SM_LatchSystem a) (hm : F_impl_IsLatchSystem n a = some true) : Val a := by
  have hl1 := h.1.1
  have hl2 := h.2.1
  rw [F_impl_IsLatchSystem] at hm
  simp only [F_impl_length_impl_Latch, Option.bind_some] at hm
  obtain ⟨h1, h2⟩ := V1 a _ h.1.1 n 0 (by omega) hm
  obtain ⟨h3, h4⟩ := V2 n a (a.Latches.length : Int) (by omega) (by omega) _ h.2.1 n 0 (by omega) h2
  simp only [Option.some.injEq, Bool.and_eq_true, decide_eq_true_eq] at h4
  exact ⟨fun j x hx => h1 j x (by omega) hx, fun j x hx => h3 j x (by omega) hx, by omega⟩
def gd (t : List Int) (j : Nat) : Int := t.getD j 0
theorem gd_get {t : List Int} {j : Nat} {v : Int} (h : t[j]? = some v) : gd t j = v := by simp [gd, h]
theorem get_gd {t : List Int} {j : Nat} (h : j < t.length) : t[j]? = some (gd t j) := by simp [gd, h]
theorem gd_set {t : List Int} {i j : Nat} {v : Int} (h : i < t.length) : gd (t.set i v) j = if i = j then v else gd t j := by
  unfold gd
  rw [List.getD_eq_getElem?_getD, List.getD_eq_getElem?_getD, List.getElem?_set]
  by_cases e : i = j
  · subst e; simp [h]
  · simp [e]
theorem gd_ext {t u : List Int} (h : t.length = u.length) (e : ∀ j, j < t.length → gd t j = gd u j) : t = u := by
  apply List.ext_getElem?
  intro j
  by_cases hj : j < t.length
  · rw [get_gd hj, get_gd (h ▸ hj), e j hj]
  · rw [List.getElem?_eq_none (by omega), List.getElem?_eq_none (by omega)]
def lw (t : List Int) (x : S_LatchLink) : Int := gd t x.From.toNat + x.Delay - x.Shift
def opn (s : S_LatchSystem) (j : Nat) : Int := gd (s.Latches.map (·.Open)) j
theorem opn_get {s : S_LatchSystem} {j : Nat} {l : S_Latch} (h : s.Latches[j]? = some l) : opn s j = l.Open := gd_get (by rw [List.getElem?_map, h]; rfl)
/-- o is what the links L make of the departures t -/
structure StpL (s : S_LatchSystem) (L : List S_LatchLink) (t o : List Int) : Prop where
  len : o.length = s.Latches.length
  ge : ∀ j, j < s.Latches.length → opn s j ≤ gd o j
  lk : ∀ x ∈ L, lw t x ≤ gd o x.To.toNat
  is : ∀ j, j < s.Latches.length → gd o j = opn s j ∨ ∃ x ∈ L, x.To.toNat = j ∧ gd o j = lw t x
abbrev Stp (s : S_LatchSystem) (t o : List Int) : Prop := StpL s s.Links t o
def leL (n : Nat) (t u : List Int) : Prop := ∀ j, j < n → gd t j ≤ gd u j
theorem StpL.zero (s : S_LatchSystem) (t : List Int) : StpL s [] t (s.Latches.map (·.Open)) :=
  ⟨by simp, fun j _ => Int.le_refl _, fun x hx => by simp at hx, fun j _ => .inl rfl⟩
theorem StpL.add {s : S_LatchSystem} {L : List S_LatchLink} {t o : List Int} (h : StpL s L t o) (x : S_LatchLink) (hT : x.To.toNat < s.Latches.length) :
    StpL s (L ++ [x]) t (o.set x.To.toNat (max (gd o x.To.toNat) (lw t x))) := by
  have hl : x.To.toNat < o.length := by rw [h.len]; exact hT
  refine ⟨by simpa using h.len, fun j hj => ?_, fun y hy => ?_, fun j hj => ?_⟩
  · have := h.ge j hj
    rw [gd_set hl]; split
    · next e => subst e; omega
    · exact this
  · rw [gd_set hl]
    rcases List.mem_append.1 hy with hy | hy
    · have := h.lk y hy
      split
      · next e => rw [← e] at this; omega
      · exact this
    · obtain rfl := List.mem_singleton.1 hy
      rw [if_pos rfl]; omega
  · rw [gd_set hl]
    by_cases e : x.To.toNat = j
    · subst e
      rw [if_pos rfl]
      by_cases hm : gd o x.To.toNat ≤ lw t x
      · exact .inr ⟨x, by simp, rfl, by omega⟩
      · rcases h.is _ hj with h1 | ⟨y, hy, h1, h2⟩
        · exact .inl (by omega)
        · exact .inr ⟨y, by simp [hy], h1, by omega⟩
    · rw [if_neg e]
      rcases h.is _ hj with h1 | ⟨y, hy, h1, h2⟩
      · exact .inl h1
      · exact .inr ⟨y, by simp [hy], h1, h2⟩
theorem lw_mono {n : Nat} {t u : List Int} {x : S_LatchLink} (h : leL n t u) (hF : x.From.toNat < n) : lw t x ≤ lw u x := by
  have := h _ hF; unfold lw; omega
/-- the ends of the links are latches -/
def EndsIn (s : S_LatchSystem) : Prop := ∀ x ∈ s.Links, x.From.toNat < s.Latches.length ∧ x.To.toNat < s.Latches.length
theorem Val.ends {s : S_LatchSystem} (h : Val s) : EndsIn s := fun x hx => by
  obtain ⟨j, hj⟩ := List.getElem?_of_mem hx
  have := h.link j x hj; omega
theorem StpL.mono {s s' : S_LatchSystem} {L : List S_LatchLink} {t t' o o' : List Int} (hn : s'.Latches.length = s.Latches.length) (ho : ∀ j, j < s.Latches.length → opn s j ≤ opn s' j)
    (hL : ∀ x ∈ L, x.From.toNat < s.Latches.length) (h : StpL s L t o) (h' : StpL s' L t' o') (ht : leL s.Latches.length t t') : leL s.Latches.length o o' := fun j hj => by
  rcases h.is j hj with h1 | ⟨x, hx, h1, h2⟩
  · have := h'.ge j (by omega); have := ho j hj; omega
  · have := h'.lk x hx; have := lw_mono ht (hL x hx); rw [h1] at *; omega
def stpF (s : S_LatchSystem) (t : List Int) : List Int := s.Links.foldl (fun o x => o.set x.To.toNat (max (gd o x.To.toNat) (lw t x))) (s.Latches.map (·.Open))
theorem stpF_L {s : S_LatchSystem} {t : List Int} : ∀ (L M : List S_LatchLink) (o : List Int), (∀ x ∈ L, x.To.toNat < s.Latches.length) → StpL s M t o → StpL s (M ++ L) t (L.foldl (fun o x => o.set x.To.toNat (max (gd o x.To.toNat) (lw t x))) o)
  | [], M, o, _, h => by simpa using h
  | x :: L, M, o, hL, h => by
    have := stpF_L L (M ++ [x]) _ (fun y hy => hL y (by simp [hy])) (h.add x (hL x (by simp)))
    simpa using this
theorem stpF_is {s : S_LatchSystem} (hE : EndsIn s) (t : List Int) : Stp s t (stpF s t) := by
  have := stpF_L s.Links [] _ (fun x hx => (hE x hx).2) (StpL.zero s t)
  rw [List.nil_append] at this; exact this
theorem pigeon : ∀ (n : Nat) (f : Nat → Nat), (∀ i, i ≤ n → f i < n) → ∃ i j, i < j ∧ j ≤ n ∧ f i = f j
  | 0, f, h => absurd (h 0 (Nat.le_refl _)) (Nat.not_lt_zero _)
  | n + 1, f, h => by
    by_cases hc : ∃ i, i ≤ n ∧ f i = f (n + 1)
    · obtain ⟨i, hi, e⟩ := hc
      exact ⟨i, n + 1, by omega, Nat.le_refl _, e⟩
    · have hne : ∀ i, i ≤ n → f i ≠ f (n + 1) := fun i hi e => hc ⟨i, hi, e⟩
      obtain ⟨i, j, h1, h2, h3⟩ := pigeon n (fun i => if f (n + 1) < f i then f i - 1 else f i) (fun i hi => by
        have := h i (by omega); have := h (n + 1) (Nat.le_refl _); have := hne i hi
        split <;> omega)
      have := hne i (by omega); have := hne j (by omega)
      refine ⟨i, j, h1, by omega, ?_⟩
      split at h3 <;> split at h3 <;> omega
/-- the rounds -/
def rnd (s : S_LatchSystem) : Nat → List Int
  | 0 => s.Latches.map (·.Open)
  | k + 1 => stpF s (rnd s k)
theorem rnd_len {s : S_LatchSystem} (hE : EndsIn s) : ∀ k, (rnd s k).length = s.Latches.length
  | 0 => by simp [rnd]
  | k + 1 => (stpF_is hE _).len
theorem rnd_up {s : S_LatchSystem} (hE : EndsIn s) : ∀ k, leL s.Latches.length (rnd s k) (rnd s (k + 1))
  | 0 => fun j hj => (stpF_is hE _).ge j hj
  | k + 1 => StpL.mono rfl (fun _ _ => Int.le_refl _) (fun x hx => (hE x hx).1) (stpF_is hE _) (stpF_is hE _) (rnd_up hE k)
theorem rnd_mono {s : S_LatchSystem} (hE : EndsIn s) (k : Nat) : ∀ m, leL s.Latches.length (rnd s k) (rnd s (k + m))
  | 0 => fun j _ => Int.le_refl _
  | m + 1 => fun j hj => Int.le_trans (rnd_mono hE k m j hj) (rnd_up hE (k + m) j hj)
/-- where a round has changed a latch, a link has, from one that the round before has changed -/
theorem rnd_back {s : S_LatchSystem} (hE : EndsIn s) {p : List Int} (hp : ∀ x ∈ s.Links, lw p x ≤ gd p x.To.toNat) (k v : Nat) (hv : v < s.Latches.length) (h : gd (rnd s (k + 1)) v < gd (rnd s (k + 2)) v) :
    ∃ u, u < s.Latches.length ∧ gd (rnd s k) u < gd (rnd s (k + 1)) u ∧ gd (rnd s (k + 2)) v - gd p v ≤ gd (rnd s (k + 1)) u - gd p u := by
  have S1 := stpF_is hE (rnd s k)
  have S2 := stpF_is hE (rnd s (k + 1))
  have e : stpF s (rnd s k) = rnd s (k + 1) := rfl
  have e2 : stpF s (rnd s (k + 1)) = rnd s (k + 2) := rfl
  rw [e] at S1; rw [e2] at S2
  rcases S2.is v hv with h1 | ⟨x, hx, h1, h2⟩
  · have := S1.ge v hv; omega
  · have hx2 := S1.lk x hx
    have hp2 := hp x hx
    rw [h1] at hx2 hp2
    refine ⟨x.From.toNat, (hE x hx).1, ?_, ?_⟩ <;> unfold lw at * <;> omega
theorem rnd_chain {s : S_LatchSystem} (hE : EndsIn s) {p : List Int} (hp : ∀ x ∈ s.Links, lw p x ≤ gd p x.To.toNat) : ∀ (k v : Nat), v < s.Latches.length → gd (rnd s k) v < gd (rnd s (k + 1)) v →
    ∃ f : Nat → Nat, f k = v ∧ (∀ i, i ≤ k → f i < s.Latches.length ∧ gd (rnd s i) (f i) < gd (rnd s (i + 1)) (f i)) ∧ ∀ i j, i ≤ j → j ≤ k → gd (rnd s (j + 1)) (f j) - gd p (f j) ≤ gd (rnd s (i + 1)) (f i) - gd p (f i)
  | 0, v, hv, h => by
    refine ⟨fun _ => v, rfl, fun i hi => ?_, fun i j h1 h2 => ?_⟩
    · obtain rfl : i = 0 := by omega
      exact ⟨hv, h⟩
    · obtain rfl : j = 0 := by omega
      obtain rfl : i = 0 := by omega
      exact Int.le_refl _
  | k + 1, v, hv, h => by
    obtain ⟨u, hu, h1, h2⟩ := rnd_back hE hp k v hv h
    obtain ⟨f, f1, f2, f3⟩ := rnd_chain hE hp k u hu h1
    have h2 : gd (rnd s (k + 1 + 1)) v - gd p v ≤ gd (rnd s (k + 1)) u - gd p u := h2
    refine ⟨fun i => if i = k + 1 then v else f i, if_pos rfl, fun i hi => ?_, fun i j hij hj => ?_⟩
    · by_cases e : i = k + 1
      · subst e; dsimp only; rw [if_pos rfl]; exact ⟨hv, h⟩
      · dsimp only; rw [if_neg e]; exact f2 i (by omega)
    · by_cases e : j = k + 1
      · subst e
        dsimp only
        rw [if_pos rfl]
        by_cases e2 : i = k + 1
        · subst e2; rw [if_pos rfl]; omega
        · rw [if_neg e2]
          have := f3 i k (by omega) (Nat.le_refl _)
          rw [f1] at this; omega
      · dsimp only
        rw [if_neg e, if_neg (by omega)]
        exact f3 i j hij (by omega)
/-- where the links have a fixed point or less, the rounds end -/
theorem rnd_ends {s : S_LatchSystem} (hE : EndsIn s) {p : List Int} (hp : ∀ x ∈ s.Links, lw p x ≤ gd p x.To.toNat) : rnd s (s.Latches.length + 1) = rnd s s.Latches.length := by
  refine (gd_ext (by rw [rnd_len hE, rnd_len hE]) fun j hj => ?_).symm
  rw [rnd_len hE] at hj
  have hle := rnd_up hE s.Latches.length j hj
  by_cases h : gd (rnd s s.Latches.length) j < gd (rnd s (s.Latches.length + 1)) j
  · obtain ⟨f, f1, f2, f3⟩ := rnd_chain hE hp _ j hj h
    obtain ⟨a, b, hab, hb, e⟩ := pigeon s.Latches.length f fun i hi => (f2 i hi).1
    have h1 := f3 a b (by omega) hb
    have h2 := (f2 b hb).2
    have h3 := rnd_mono hE (a + 1) (b - (a + 1)) (f b) (f2 b hb).1
    rw [show a + 1 + (b - (a + 1)) = b by omega] at h3
    rw [e] at h1
    omega
  · omega
theorem opn_rng {s : S_LatchSystem} (hv : Val s) {j : Nat} (hj : j < s.Latches.length) : 0 ≤ opn s j ∧ opn s j ≤ 100000 := by
  have := hv.latch j _ (List.getElem?_eq_getElem hj)
  rw [opn_get (List.getElem?_eq_getElem hj)]; omega
/-- departures in a range -/
def Rng (s : S_LatchSystem) (B : Int) (t : List Int) : Prop := t.length = s.Latches.length ∧ ∀ j, j < s.Latches.length → 0 ≤ gd t j ∧ gd t j ≤ B
theorem lw_rng {s : S_LatchSystem} (hv : Val s) {B : Int} {t : List Int} (h : Rng s B t) {x : S_LatchLink} (hx : x ∈ s.Links) : lw t x ≤ B + 100000 ∧ -100000 ≤ lw t x := by
  obtain ⟨j, hj⟩ := List.getElem?_of_mem hx
  have := hv.link j x hj
  have := h.2 x.From.toNat (by omega)
  unfold lw; omega
theorem lw_wrap {s : S_LatchSystem} (hv : Val s) {B : Int} (hB : B ≤ 1000000000000) {t : List Int} (h : Rng s B t) {x : S_LatchLink} (hx : x ∈ s.Links) : IntKind.wrap IntKind.i64 (IntKind.wrap IntKind.i64 (gd t x.From.toNat + x.Delay) - x.Shift) = lw t x := by
  obtain ⟨j, hj⟩ := List.getElem?_of_mem hx
  have := hv.link j x hj
  have := h.2 x.From.toNat (by omega)
  rw [wrap64 (x := _ + x.Delay) (by omega) (by omega), wrap64 (by omega) (by omega)]; rfl
theorem getI_gd {t : List Int} {i : Int} (h0 : 0 ≤ i) (h1 : i < t.length) : getI t i = some (gd t i.toNat) := by
  obtain ⟨x, hx, h⟩ := getI_ok h0 h1
  rw [hx, gd_get h]
theorem link_ends {s : S_LatchSystem} (hv : Val s) {x : S_LatchLink} (hx : x ∈ s.Links) : (0 ≤ x.From ∧ x.From < s.Latches.length) ∧ (0 ≤ x.To ∧ x.To < s.Latches.length) := by
  obtain ⟨j, hj⟩ := List.getElem?_of_mem hx
  have := hv.link j x hj; omega
theorem O1 {n : Nat} {s : S_LatchSystem} (h : s.Latches.length ≤ 1048576) (hn : 1048577 ≤ n) : F_spec_l18Opens n s = some (s.Latches.map (·.Open)) := by
  rw [F_spec_l18Opens]
  refine (loop_app (xs := s.Latches) (L := fun m i (l : List Int) => F_spec_l18Opens_L1 s (fun l27 i31 => (some l27)) m l i) (k := fun l => some l) (fun x => [x.Open]) 1 (fun _ _ => Nat.le_refl _) ?_ ?_ n (by omega)).trans (by rw [List.map_eq_flatMap])
  · intro m i hi l hl
    simp only [F_spec_l18Opens_L1_s, dlt hi, cond_true, getI_el hi, Option.bind_some, appN_ok (show l.length + [s.Latches[i].Open].length ≤ 16777216 by simp; omega) (show 8 ≤ 1048576 by omega), wS (show i < 4611686018427387904 by omega)]
  · intro m l
    simp only [F_spec_l18Opens_L1_s, dnl, cond_false]
theorem St1 {n : Nat} {s : S_LatchSystem} (hv : Val s) {B : Int} (hB : B ≤ 1000000000000) {t : List Int} (ht : Rng s B t) (hn : 1048577 ≤ n) : F_spec_l18Step n s t = some (stpF s t) := by
  have few := hv.few
  rw [F_spec_l18Step, O1 (by omega) hn, Option.bind_some]
  refine (loop_fold (xs := s.Links) (L := fun m i (l : List Int) => F_spec_l18Step_L1 s t (fun i26 l28 => (some l28)) m i l) (k := fun l => some l) (fun o x => o.set x.To.toNat (max (gd o x.To.toNat) (lw t x))) (fun _ l => l.length = s.Latches.length) ?_ ?_ n _ (by simp) (by omega)).1
  · intro m i hi l hl
    have hx := List.getElem_mem hi
    obtain ⟨hF, hT⟩ := link_ends hv hx
    refine ⟨?_, by simpa using hl⟩
    simp only [F_spec_l18Step_L1_s, dlt hi, cond_true, getI_el hi, Option.bind_some, getI_gd hF.1 (show _ < (t.length : Int) by rw [ht.1]; exact hF.2), getI_gd hT.1 (show _ < (l.length : Int) by rw [hl]; exact hT.2), lw_wrap hv hB ht hx, wS (show i < 4611686018427387904 by omega)]
  · intro m l hl
    simp only [F_spec_l18Step_L1_s, dnl, cond_false]
theorem Same1 {n : Nat} {a b : List Int} (hl : a.length = b.length) (h : a.length ≤ 1048576) (hn : 1048577 ≤ n) : F_spec_l18Same n a b = some (a == b) := by
  have : (((a.length : Int)) != ((b.length : Int))) = false := by simp [hl]
  rw [F_spec_l18Same, this, cond_false]
  refine (loop_same (L := fun m i => F_spec_l18Same_L1 a b (fun i9 => (some true)) m i) (k := some true) (no := some false) hl ?_ ?_ n (by omega)).trans (by cases a == b <;> rfl)
  · intro m i h1 h2
    simp only [F_spec_l18Same_L1_s, dlt h1, cond_true, getI_el h1, getI_el h2, Option.bind_some, wS (show i < 4611686018427387904 by omega)]
  · intro m
    simp only [F_spec_l18Same_L1_s, dnl, cond_false]
def gb (t : List Bool) (j : Nat) : Bool := t.getD j false
theorem getI_gb {t : List Bool} {i : Int} (h0 : 0 ≤ i) (h1 : i < t.length) : getI t i = some (gb t i.toNat) := by
  obtain ⟨x, hx, h⟩ := getI_ok h0 h1
  rw [hx]; simp [gb, h]
theorem gb_set {t : List Bool} {i j : Nat} {v : Bool} (h : i < t.length) : gb (t.set i v) j = if i = j then v else gb t j := by
  unfold gb
  rw [List.getD_eq_getElem?_getD, List.getD_eq_getElem?_getD, List.getElem?_set]
  by_cases e : i = j
  · subst e; simp [h]
  · simp [e]
/-- the arrivals o and where there is one, h; d where there is none -/
structure Arr (s : S_LatchSystem) (d : Nat → Int) (L : List S_LatchLink) (t o : List Int) (h : List Bool) : Prop where
  len : o.length = s.Latches.length
  len2 : h.length = s.Latches.length
  lk : ∀ x ∈ L, gb h x.To.toNat = true ∧ lw t x ≤ gd o x.To.toNat
  is : ∀ j, j < s.Latches.length → (gb h j = false ∧ gd o j = d j) ∨ (gb h j = true ∧ ∃ x ∈ L, x.To.toNat = j ∧ gd o j = lw t x)
def arrF (t : List Int) (p : List Int × List Bool) (x : S_LatchLink) : List Int × List Bool := (p.1.set x.To.toNat (if gb p.2 x.To.toNat then max (lw t x) (gd p.1 x.To.toNat) else lw t x), p.2.set x.To.toNat true)
theorem Arr.add {s : S_LatchSystem} {d : Nat → Int} {L : List S_LatchLink} {t : List Int} {p : List Int × List Bool} (h : Arr s d L t p.1 p.2) (x : S_LatchLink) (hT : x.To.toNat < s.Latches.length) : Arr s d (L ++ [x]) t (arrF t p x).1 (arrF t p x).2 := by
  have hl : x.To.toNat < p.1.length := by rw [h.len]; exact hT
  have hl2 : x.To.toNat < p.2.length := by rw [h.len2]; exact hT
  unfold arrF
  refine ⟨by simpa using h.len, by simpa using h.len2, fun y hy => ?_, fun j hj => ?_⟩
  · dsimp only
    rw [gd_set hl, gb_set hl2]
    rcases List.mem_append.1 hy with hy | hy
    · have := h.lk y hy
      by_cases e : x.To.toNat = y.To.toNat
      · rw [if_pos e, if_pos e]
        rw [← e] at this
        rw [this.1, if_pos rfl]
        exact ⟨rfl, by omega⟩
      · rw [if_neg e, if_neg e]; exact this
    · obtain rfl := List.mem_singleton.1 hy
      rw [if_pos rfl, if_pos rfl]
      refine ⟨rfl, ?_⟩
      split <;> omega
  · dsimp only
    rw [gd_set hl, gb_set hl2]
    by_cases e : x.To.toNat = j
    · subst e
      rw [if_pos rfl, if_pos rfl]
      refine .inr ⟨rfl, ?_⟩
      rcases h.is _ hj with ⟨h1, h2⟩ | ⟨h1, y, hy, h2, h3⟩
      · rw [h1]; exact ⟨x, by simp, rfl, by simp⟩
      · rw [h1, if_pos rfl]
        by_cases hm : gd p.1 x.To.toNat ≤ lw t x
        · exact ⟨x, by simp, rfl, by omega⟩
        · exact ⟨y, by simp [hy], h2, by omega⟩
    · rw [if_neg e, if_neg e]
      rcases h.is _ hj with h1 | ⟨h1, y, hy, h2, h3⟩
      · exact .inl h1
      · exact .inr ⟨h1, y, by simp [hy], h2, h3⟩
theorem Arr.fold {s : S_LatchSystem} {d : Nat → Int} {t : List Int} : ∀ (L M : List S_LatchLink) (p : List Int × List Bool), (∀ x ∈ L, x.To.toNat < s.Latches.length) → Arr s d M t p.1 p.2 → Arr s d (M ++ L) t (L.foldl (arrF t) p).1 (L.foldl (arrF t) p).2
  | [], M, o, _, h => by simpa using h
  | x :: L, M, o, hL, h => by
    have := Arr.fold L (M ++ [x]) _ (fun y hy => hL y (by simp [hy])) (h.add x (hL x (by simp)))
    simpa using this
theorem Arr.zero {s : S_LatchSystem} {d : Nat → Int} {t o : List Int} {h : List Bool} (h1 : o.length = s.Latches.length) (h2 : h.length = s.Latches.length) (h3 : ∀ j, j < s.Latches.length → gb h j = false ∧ gd o j = d j) : Arr s d [] t o h :=
  ⟨h1, h2, fun x hx => by simp at hx, fun j hj => .inl (h3 j hj)⟩
theorem gb_rep {n j : Nat} : gb (List.replicate n false) j = false := by
  simp only [gb, List.getD_eq_getElem?_getD, List.getElem?_replicate]; split <;> rfl
theorem gd_rep {n j : Nat} : gd (List.replicate n 0) j = 0 := by
  simp only [gd, List.getD_eq_getElem?_getD, List.getElem?_replicate]; split <;> rfl
theorem set_same {α : Type} {l : List α} {i : Nat} {x : α} (h : l[i]? = some x) : l.set i x = l := by
  apply List.ext_getElem?
  intro j
  rw [List.getElem?_set]
  split
  · next e => subst e; rw [h]; split
              · rfl
              · next q => rw [List.getElem?_eq_none (by omega)] at h; cases h
  · rfl
theorem Ar1 {n : Nat} {s : S_LatchSystem} (hv : Val s) {B : Int} (hB : B ≤ 1000000000000) {t : List Int} (ht : Rng s B t) (hn : 1048577 ≤ n) : ∃ o h, F_impl_LatchSystem_arrivals n s t = some (o, h) ∧ Arr s (fun _ => 0) s.Links t o h := by
  have few := hv.few
  have hl := ht.1
  rw [F_impl_LatchSystem_arrivals, mkN_ok (by omega) (by omega), Option.bind_some, mkN_ok (by omega) (by omega), Option.bind_some]
  have A := Arr.fold (s := s) (d := fun _ => 0) (t := t) s.Links [] (List.replicate t.length 0, List.replicate t.length false) (fun x hx => (hv.ends x hx).2) (Arr.zero (by simpa using hl) (by simpa using hl) fun j hj => ⟨gb_rep, gd_rep⟩)
  refine ⟨_, _, ?_, A⟩
  refine (loop_fold (xs := s.Links) (L := fun m i (p : List Int × List Bool) => F_impl_LatchSystem_arrivals_L1 s t (fun i119 l120 l122 => (some (l120, l122))) m i p.1 p.2) (k := fun p => some (p.1, p.2)) (arrF t) (fun _ p => p.1.length = s.Latches.length ∧ p.2.length = s.Latches.length) ?_ ?_ n (List.replicate t.length 0, List.replicate t.length false) ⟨by simpa using hl, by simpa using hl⟩ (by omega)).1
  · intro m i hi ⟨o, h⟩ ⟨ho, hh⟩
    dsimp only at ho hh ⊢
    have hx := List.getElem_mem hi
    obtain ⟨hF, hT⟩ := link_ends hv hx
    refine ⟨?_, by simpa [arrF] using ⟨ho, hh⟩⟩
    have g1 := getI_gd hT.1 (show _ < (o.length : Int) by rw [ho]; exact hT.2)
    have g2 := getI_gb hT.1 (show _ < (h.length : Int) by rw [hh]; exact hT.2)
    simp only [F_impl_LatchSystem_arrivals_L1_s, dlt hi, cond_true, getI_el hi, Option.bind_some, getI_gd hF.1 (show _ < (t.length : Int) by rw [ht.1]; exact hF.2), g1, g2, lw_wrap hv hB ht hx, wS (show i < 4611686018427387904 by omega), arrF]
    cases hb : gb h (s.Links[i]).To.toNat with
    | false => simp
    | true =>
      simp only [Bool.not_true, cond_false, Option.bind_some, if_true]
      by_cases hgt : lw t s.Links[i] > gd o (s.Links[i]).To.toNat
      · rw [decide_eq_true hgt, cond_true, Int.max_eq_left (by omega)]
      · have e1 : o.set (s.Links[i]).To.toNat (max (lw t s.Links[i]) (gd o (s.Links[i]).To.toNat)) = o := set_same (by rw [Int.max_eq_right (by omega)]; exact get_gd (by rw [ho]; omega))
        have e2 : h.set (s.Links[i]).To.toNat true = h := set_same (by rw [← hb]; simp [gb, show (s.Links[i]).To.toNat < h.length by rw [hh]; omega])
        rw [decide_eq_false hgt, cond_false, e1, e2]
  · intro m ⟨o, h⟩ _
    simp only [F_impl_LatchSystem_arrivals_L1_s, dnl, cond_false]
theorem Op1 {n : Nat} {s : S_LatchSystem} (k : List Int → Option (List Int × Bool)) (h : s.Latches.length ≤ 1048576) (hn : 1048577 ≤ n) : F_impl_LatchSystem_departures_L1 s (fun _ l => k l) n 0 (List.replicate s.Latches.length 0) = k (s.Latches.map (·.Open)) := by
  have e : ∀ m i l, F_impl_LatchSystem_departures_L1 s (fun _ l => k l) m i l = cpL s.Latches (fun x => some x.Open) (fun _ l => k l) m i l := by
    intro m; induction m with
    | zero => intro i l; rfl
    | succ m ih => intro i l; simp only [F_impl_LatchSystem_departures_L1_s, cpL_s, Option.bind_some, ih]
  rw [e]
  have := cpL_eq (a := s.Latches) (f := fun x => some x.Open) (g := (·.Open)) (k := fun _ l => k l) (fun _ _ => rfl) h n 0 (List.replicate s.Latches.length 0) (by omega) (by omega) (by simp) (by simp)
  simpa using this
/-- a round of the program: where an arrival is later, the departure is set anew -/
theorem Rd1 {n : Nat} {s : S_LatchSystem} (hE : EndsIn s) (few : s.Latches.length ≤ 1048576) {t o at_ : List Int} {an : List Bool} (h0 : ∀ j, j < s.Latches.length → opn s j ≤ gd t j) (hS : Stp s t o) (ht : t.length = s.Latches.length) (hle : leL s.Latches.length t o) (hA : Arr s (fun _ => 0) s.Links t at_ an) (k : Bool → List Int → Option (List Int × Bool)) (hn : 1048577 ≤ n) :
    F_impl_LatchSystem_departures_L3 t (at_, an) (fun q _ l => k q l) n false 0 t = k (!(o == t)) o := by
  have key : ∀ j, j < s.Latches.length → gd o j = if gb an j = true ∧ gd t j < gd at_ j then gd at_ j else gd t j := by
    intro j hj
    have hlj := hle j hj
    have h0j := h0 j hj
    rcases hA.is j hj with ⟨h1, h2⟩ | ⟨h1, x, hx, h2, h3⟩
    · rw [h1, if_neg (by simp)]
      rcases hS.is j hj with h4 | ⟨y, hy, h4, h5⟩
      · omega
      · have := (hA.lk y hy).1
        rw [h4, h1] at this; cases this
    · rw [h1]
      have hx2 := hS.lk x hx
      rw [h2] at hx2
      rcases hS.is j hj with h4 | ⟨y, hy, h4, h5⟩
      · split <;> omega
      · have := (hA.lk y hy).2
        rw [h4] at this
        split
        · omega
        · next q =>
          have : ¬ gd t j < gd at_ j := fun e => q ⟨rfl, e⟩
          omega
  refine loop (L := fun m i (p : Bool × List Int) => F_impl_LatchSystem_departures_L3 t (at_, an) (fun q _ l => k q l) m p.1 i p.2) t.length (fun i p => p.2.length = s.Latches.length ∧ (∀ j, j < i → j < s.Latches.length → gd p.2 j = gd o j) ∧ (∀ j, i ≤ j → gd p.2 j = gd t j) ∧ (p.1 = true ↔ ∃ j, j < i ∧ j < s.Latches.length ∧ gd o j ≠ gd t j)) (fun r => r = k (!(o == t)) o) ?_ ?_ n 0 (false, t) (by omega) (by omega) ⟨ht, fun j hj => by omega, fun j hj => rfl, by simp⟩
  · intro m i ⟨q, l⟩ hi ⟨h1, h2, h3, h4⟩
    dsimp only at h1 h2 h3 h4 ⊢
    have hin : i < s.Latches.length := by omega
    have g1 := getI_gb (t := an) (i := (i : Int)) (by omega) (by rw [hA.len2]; omega)
    have g2 := getI_gd (t := at_) (i := (i : Int)) (by omega) (by rw [hA.len]; omega)
    have g3 := getI_gd (t := l) (i := (i : Int)) (by omega) (by rw [h1]; omega)
    rw [Int.toNat_natCast] at g1 g2 g3
    have kk := key i hin
    have h3i := h3 i (Nat.le_refl _)
    rw [h3i] at g3
    simp only [F_impl_LatchSystem_departures_L3_s, dlt hi, cond_true, g1, g2, g3, Option.bind_some, wS (show i < 4611686018427387904 by omega)]
    by_cases hc : gb an i = true ∧ gd t i < gd at_ i
    · rw [if_pos hc] at kk
      refine .inl ⟨(true, l.set i (gd at_ i)), ⟨by simpa using h1, fun j hj hj2 => ?_, fun j hj => ?_, ?_⟩, ?_⟩
      · dsimp only; rw [gd_set (by omega)]
        by_cases e : i = j
        · subst e; rw [if_pos rfl, kk]
        · rw [if_neg e]; exact h2 j (by omega) hj2
      · dsimp only; rw [gd_set (by omega), if_neg (by omega)]; exact h3 j (by omega)
      · exact ⟨fun _ => ⟨i, by omega, hin, by omega⟩, fun _ => rfl⟩
      · rw [hc.1]; simp only [cond_true, Option.bind_some, decide_eq_true (show gd at_ i > gd t i from hc.2), Int.toNat_natCast]
    · rw [if_neg hc] at kk
      refine .inl ⟨(q, l), ⟨h1, fun j hj hj2 => ?_, fun j hj => h3 j (by omega), ?_⟩, ?_⟩
      · by_cases e : j = i
        · subst e; rw [h3i, kk]
        · exact h2 j (by omega) hj2
      · dsimp only
        rw [h4]
        constructor
        · rintro ⟨j, a, b, c⟩; exact ⟨j, by omega, b, c⟩
        · rintro ⟨j, a, b, c⟩
          by_cases e : j = i
          · subst e; exact absurd kk c
          · exact ⟨j, by omega, b, c⟩
      · cases hb : gb an i with
        | false => simp only [cond_false, Option.bind_some]
        | true =>
          have : decide (gd at_ i > gd t i) = false := decide_eq_false fun e => hc ⟨hb, e⟩
          simp only [cond_true, Option.bind_some, this, cond_false]
  · intro m ⟨q, l⟩ ⟨h1, h2, h3, h4⟩
    dsimp only at h1 h2 h3 h4 ⊢
    simp only [F_impl_LatchSystem_departures_L3_s, dnl, cond_false]
    have e1 : l = o := gd_ext (by rw [h1, hS.len]) fun j hj => h2 j (by omega) (by omega)
    have e2 : q = !(o == t) := by
      rw [Bool.eq_iff_iff, h4]
      simp only [Bool.not_eq_true', beq_eq_false_iff_ne, ne_eq]
      constructor
      · rintro ⟨j, a, b, c⟩ e; subst e; exact c rfl
      · intro hne
        refine Classical.byContradiction fun hno => hne (gd_ext (by rw [hS.len, ht]) fun j hj => ?_)
        exact Classical.byContradiction fun e => hno ⟨j, by have := hS.len; omega, by have := hS.len; omega, e⟩
    rw [e1, e2]
theorem rnd_rng {s : S_LatchSystem} (hv : Val s) : ∀ k, Rng s (100000 * (k + 1 : Nat)) (rnd s k)
  | 0 => ⟨by simp [rnd], fun j hj => by have := opn_rng hv hj; exact ⟨this.1, by have := this.2; show opn s j ≤ _; omega⟩⟩
  | k + 1 => by
    have ih := rnd_rng hv k
    have S := stpF_is hv.ends (rnd s k)
    refine ⟨S.len, fun j hj => ?_⟩
    have h1 := S.ge j hj
    have h2 := opn_rng hv hj
    show 0 ≤ gd (stpF s (rnd s k)) j ∧ _
    refine ⟨by omega, ?_⟩
    show gd (stpF s (rnd s k)) j ≤ _
    rcases S.is j hj with h3 | ⟨x, hx, h3, h4⟩
    · omega
    · have := lw_rng hv ih hx; omega
theorem rnd_open {s : S_LatchSystem} (hv : Val s) : ∀ k j, j < s.Latches.length → opn s j ≤ gd (rnd s k) j
  | 0, j, _ => Int.le_refl _
  | k + 1, j, hj => (stpF_is hv.ends _).ge j hj
/-- the rounds of both texts -/
theorem Dp1 {n : Nat} {s : S_LatchSystem} (hv : Val s) (hn : 1048577 ≤ n) : ∀ (m k : Nat), k ≤ s.Latches.length + 1 → s.Latches.length + 1 - k < m →
    ∃ res : List Int × Bool, F_spec_l18Departures_L1 n s (fun _ _ => some (([] : List Int), false)) m (rnd s k) k = some res ∧ F_impl_LatchSystem_departures_L2 n s (s.Latches.map (·.Open)) (fun _ _ => some (([] : List Int), false)) m k (rnd s k) = some res ∧
      (res.2 = true → ∃ j, k ≤ j ∧ j ≤ s.Latches.length ∧ rnd s (j + 1) = rnd s j ∧ res.1 = rnd s j) ∧ (res.2 = false → res.1 = [] ∧ ∀ j, k ≤ j → j ≤ s.Latches.length → rnd s (j + 1) ≠ rnd s j)
  | 0, k, _, hm => by omega
  | m + 1, k, hk, hm => by
    have few := hv.few
    rw [F_spec_l18Departures_L1_s, F_impl_LatchSystem_departures_L2_s]
    have hw : IntKind.wrap IntKind.i64 (((((s.Latches.map (·.Open)).length : Nat) : Int)) + 1) = ((s.Latches.length + 1 : Nat) : Int) := by
      rw [List.length_map]; exact wS (by omega)
    rw [hw]
    by_cases hlt : k < s.Latches.length + 1
    · have d1 : decide ((k : Int) ≤ (s.Latches.length : Int)) = true := decide_eq_true (by omega)
      have ht := rnd_rng hv k
      have hB : (100000 * (k + 1 : Nat) : Int) ≤ 1000000000000 := by omega
      obtain ⟨at_, an, ha, hA⟩ := Ar1 (n := n) hv hB ht hn
      have hS := stpF_is hv.ends (rnd s k)
      have e1 := St1 (n := n) hv hB ht hn
      have e2 := Same1 (n := n) (a := stpF s (rnd s k)) (b := rnd s k) (by rw [hS.len, ht.1]) (by rw [hS.len]; omega) hn
      have hR := Rd1 (n := n) hv.ends (by omega) (rnd_open hv k) hS ht.1 (rnd_up hv.ends k) hA (fun q l => bif (!q) then (some (l, true)) else F_impl_LatchSystem_departures_L2 n s (s.Latches.map (·.Open)) (fun _ _ => some (([] : List Int), false)) m (IntKind.wrap IntKind.i64 ((k : Int) + 1)) l) hn
      rw [d1, dlt hlt, cond_true, cond_true, e1, Option.bind_some, e2, Option.bind_some, ha, Option.bind_some, hR, wS (by omega)]
      have es : stpF s (rnd s k) = rnd s (k + 1) := rfl
      rw [es]
      cases hq : (rnd s (k + 1) == rnd s k) with
      | true =>
        have hq := eq_of_beq hq
        exact ⟨(rnd s k, true), rfl, by rw [hq]; rfl, fun _ => ⟨k, Nat.le_refl _, by omega, hq, rfl⟩, fun h => by cases h⟩
      | false =>
        obtain ⟨res, r1, r2, r3, r4⟩ := Dp1 hv hn m (k + 1) (by omega) (by omega)
        refine ⟨res, r1, r2, fun h => ?_, fun h => ?_⟩
        · obtain ⟨j, a, b, c⟩ := r3 h; exact ⟨j, by omega, b, c⟩
        · obtain ⟨h1, h2⟩ := r4 h
          refine ⟨h1, fun j a b => ?_⟩
          by_cases e : j = k
          · subst e; exact beq_eq_false_iff_ne.1 hq
          · exact h2 j (by omega) b
    · have d1 : decide ((k : Int) ≤ (s.Latches.length : Int)) = false := decide_eq_false (by omega)
      have d2 : decide ((k : Int) < ((s.Latches.length + 1 : Nat) : Int)) = false := decide_eq_false (by omega)
      rw [d1, d2]
      exact ⟨([], false), rfl, rfl, fun h => (by cases h), fun _ => ⟨rfl, fun j a b => by omega⟩⟩
/-- the departures of a valid system -/
theorem Dp {n : Nat} {s : S_LatchSystem} (hv : Val s) (hn : 1048577 ≤ n) : ∃ res : List Int × Bool, F_spec_l18Departures n s = some res ∧ F_impl_LatchSystem_departures n s = some res ∧
    (res.2 = true → Stp s res.1 res.1 ∧ Rng s 1300000 res.1 ∧ ∃ j, res.1 = rnd s j) ∧ (res.2 = false → res.1 = [] ∧ rnd s (s.Latches.length + 1) ≠ rnd s s.Latches.length) := by
  have few := hv.few
  obtain ⟨res, r1, r2, r3, r4⟩ := Dp1 (n := n) hv hn n 0 (by omega) (by omega)
  refine ⟨res, ?_, ?_, fun h => ?_, fun h => ?_⟩
  · rw [F_spec_l18Departures, O1 (by omega) hn, Option.bind_some]; exact r1
  · rw [F_impl_LatchSystem_departures, mkN_ok (by omega) (by omega), Option.bind_some]
    exact (Op1 (fun l => F_impl_LatchSystem_departures_L2 n s l (fun _ _ => some (([] : List Int), false)) n 0 l) (by omega) hn).trans r2
  · obtain ⟨j, _, a, b, c⟩ := r3 h
    have := stpF_is hv.ends (rnd s j)
    have e : stpF s (rnd s j) = rnd s (j + 1) := rfl
    rw [e, b] at this
    rw [c]
    have hr := rnd_rng hv j
    exact ⟨this, ⟨hr.1, fun q hq => by have := hr.2 q hq; omega⟩, j, rfl⟩
  · exact ⟨(r4 h).1, (r4 h).2 _ (by omega) (Nat.le_refl _)⟩
/-- what the program computes for a system -/
theorem LT {n : Nat} {s : S_LatchSystem} (h : SM_LatchSystem s) (hn : 1048577 ≤ n) : ∃ (ts o : List Int) (c : Int), F_impl_latchTimes n s = some (ts, o, c) ∧ F_spec_l18Code n s = some (ts, c) ∧ (c ≠ 0 → ts = [] ∧ o = []) ∧
    (c = 0 → Val s ∧ Stp s ts ts ∧ Rng s 1300000 ts ∧ (∃ j, ts = rnd s j) ∧ ∃ hs, Arr s (opn s) s.Links ts o hs) ∧ (c = 7 → Val s ∧ rnd s (s.Latches.length + 1) ≠ rnd s s.Latches.length) ∧ (F_impl_IsLatchSystem n s = some true → c = 0 ∨ c = 7) := by
  obtain ⟨b, h1, h2⟩ := A5 h hn
  rw [F_impl_latchTimes, F_spec_l18Code, h1, h2]
  simp only [Option.bind_some]
  cases b with
  | false => exact ⟨[], [], 1, rfl, rfl, fun _ => ⟨rfl, rfl⟩, fun h => by omega, fun h => by omega, fun h => by cases h⟩
  | true =>
    have hv := V3 h h2
    have few := hv.few
    obtain ⟨⟨ts, b⟩, d1, d2, d3, d4⟩ := Dp (n := n) hv hn
    simp only [Bool.not_true, cond_false, d1, d2, Option.bind_some]
    cases b with
    | false =>
      obtain ⟨e1, e2⟩ := d4 rfl
      exact ⟨[], [], 7, rfl, rfl, fun _ => ⟨rfl, rfl⟩, fun h => by omega, fun _ => ⟨hv, e2⟩, fun _ => .inr rfl⟩
    | true =>
      obtain ⟨d5, d6, d7⟩ := d3 rfl
      obtain ⟨at_, an, ha, hA⟩ := Ar1 (n := n) hv (B := 1300000) (by omega) d6 hn
      simp only [Bool.not_true, cond_false, ha, Option.bind_some]
      refine ⟨ts, at_.mapIdx (fun j v => if gb an j then v else opn s j), 0, ?_, rfl, fun h => absurd rfl h, fun _ => ⟨hv, d5, d6, d7, an, ?_⟩, fun h => by omega, fun _ => .inl rfl⟩
      · refine loop_map (L := fun m i l => F_impl_latchTimes_L1 s (at_, an) (fun i49 l51 => (some (ts, l51, 0))) m i l) (k := fun l => some (ts, l, 0)) _ s.Latches.length ?_ ?_ n at_ hA.len (by omega)
        · intro m i l hl hi
          have g1 := getI_gb (t := an) (i := (i : Int)) (by omega) (by rw [hA.len2]; omega)
          rw [Int.toNat_natCast] at g1
          simp only [F_impl_latchTimes_L1_s, dlt hi, cond_true, getI_el hi, getI_el (show i < l.length by omega), g1, Option.bind_some, wS (show i < 4611686018427387904 by omega)]
          cases gb an i with
          | false => simp [opn_get (List.getElem?_eq_getElem hi)]
          | true => simp
        · intro m l
          simp only [F_impl_latchTimes_L1_s, dnl, cond_false]
      · have gm : ∀ j, j < s.Latches.length → gd (at_.mapIdx (fun j v => if gb an j then v else opn s j)) j = if gb an j then gd at_ j else opn s j := fun j hj => gd_get (by rw [List.getElem?_mapIdx, get_gd (by rw [hA.len]; exact hj)]; rfl)
        refine ⟨by rw [List.length_mapIdx]; exact hA.len, hA.len2, fun x hx => ?_, fun j hj => ?_⟩
        · have := hA.lk x hx
          rw [gm _ (hv.ends x hx).2, this.1, if_pos rfl]; exact ⟨rfl, this.2⟩
        · rw [gm j hj]
          rcases hA.is j hj with ⟨a, _⟩ | ⟨a, x, hx, b, c⟩
          · rw [a]; exact .inl ⟨rfl, by simp⟩
          · rw [a]; exact .inr ⟨rfl, x, hx, b, by simpa using c⟩
theorem Like1 {n : Nat} {a : List Int} (h : a.length ≤ 1048576) (hn : 1048577 ≤ n) : F_laws_likeInts n a a = some true := by
  rw [F_laws_likeInts, show (((a.length : Int)) != ((a.length : Int))) = false by simp, cond_false]
  refine (loop_same (xs := a) (ys := a) (L := fun m i => F_laws_likeInts_L1 a a (fun i9 => (some true)) m i) (k := some true) (no := some false) rfl ?_ ?_ n (by omega)).trans (by simp)
  · intro m i h1 h2
    simp only [F_laws_likeInts_L1_s, dlt h1, cond_true, getI_el h1, Option.bind_some, wS (show i < 4611686018427387904 by omega)]
  · intro m
    simp only [F_laws_likeInts_L1_s, dnl, cond_false]
theorem LD {n : Nat} {c : List Int} (hc : Cde c) (hn : 1048577 ≤ n) {s : S_l01Source} (hs : Src c s) : Tot (fun r => SM_LatchSystem r.1 ∧ Src c r.2) (F_spec_l18Draw n s) := by
  have sm : ∀ (a : List S_Latch) (b : List S_LatchLink), a.length ≤ 1048576 → b.length ≤ 1048576 → SM_LatchSystem (S_LatchSystem.mk a b) := fun a b ha hb => ⟨⟨ha, fun _ _ => ⟨trivial, trivial⟩⟩, ⟨hb, fun _ _ => ⟨trivial, trivial, trivial, trivial⟩⟩⟩
  rw [F_spec_l18Draw]
  refine Tot.bind (Nx hc hs 6) fun q hq ⟨h1, h2, h3⟩ => ?_
  refine loopm (L := fun m (p : List S_Latch × Int × Int × Int) => F_spec_l18Draw_L1 n s _ m p.1 p.2.1 p.2.2.1 p.2.2.2) (fun p => p.2.1.toNat) (fun p => 0 ≤ p.2.1 ∧ (p.1.length : Int) + p.2.1 = q.1 ∧ Src c (S_l01Source.mk s.code_ p.2.2.1 p.2.2.2)) _ ?_ n ([], q.1, q.2.at_, q.2.seed_) (by dsimp only; omega) ⟨h2, by simp, h1.mk2 hs.code⟩
  intro m ⟨l, i, a, d⟩ ⟨i1, i2, i3⟩ ih
  dsimp only at i1 i2 i3 ih ⊢
  rw [F_spec_l18Draw_L1_s]
  refine Tot.bif (fun hi => ?_) fun hi => ?_
  · have hi := of_decide_eq_true hi
    refine Tot.bind (Nx hc i3 50) fun x hx ⟨x1, x2, x3⟩ => ?_
    refine Tot.bind (Nx hc (x1.mk2 hs.code) 60) fun y hy ⟨y1, y2, y3⟩ => ?_
    refine Tot.bind (Tot.app (by simp; omega) (by omega)) fun z _ hz => ?_
    rw [wrap64 (x := i - 1) (by omega) (by omega)]
    exact ih (z, i - 1, y.2.at_, y.2.seed_) ⟨by dsimp only; omega, by subst hz; simp; omega, y1.mk2 hs.code⟩ (by dsimp only; omega)
  have hi := of_decide_eq_false hi
  have hl : (l.length : Int) = q.1 := by omega
  refine Tot.bind (Nx hc i3 _) fun r66 _ ⟨g1, g2, g3⟩ => ?_
  rw [wrap64 (x := 3 * q.1) (by omega) (by omega), wrap64 (x := 3 * q.1 + 1) (by omega) (by omega)] at g3
  refine loopm (L := fun m (p : List S_LatchLink × Int × Int × Int) => F_spec_l18Draw_L2 n s q _ m p.1 p.2.1 p.2.2.1 p.2.2.2) (fun p => p.2.1.toNat) (fun p => 0 ≤ p.2.1 ∧ (p.1.length : Int) + p.2.1 = r66.1 ∧ Src c (S_l01Source.mk s.code_ p.2.2.1 p.2.2.2)) _ ?_ n ([], r66.1, r66.2.at_, r66.2.seed_) (by dsimp only; omega) ⟨g2, by simp, g1.mk2 hs.code⟩
  intro m ⟨l77, i, a, d⟩ ⟨i1, i2, i3⟩ ih
  dsimp only at i1 i2 i3 ih ⊢
  rw [F_spec_l18Draw_L2_s]
  refine Tot.bif (fun hi => ?_) fun hi => ?_
  · have hi := of_decide_eq_true hi
    refine Tot.bind (Nx hc i3 _) fun x hx ⟨x1, x2, x3⟩ => ?_
    refine Tot.bind (Nx hc (x1.mk2 hs.code) _) fun y hy ⟨y1, y2, y3⟩ => ?_
    refine Tot.bind (Nx hc (y1.mk2 hs.code) _) fun y hy ⟨y1, y2, y3⟩ => ?_
    refine Tot.bind (Nx hc (y1.mk2 hs.code) _) fun y hy ⟨y1, y2, y3⟩ => ?_
    refine Tot.bind (Nx hc (y1.mk2 hs.code) _) fun y hy ⟨y1, y2, y3⟩ => ?_
    refine Tot.bind (Tot.app (by simp; omega) (by omega)) fun z _ hz => ?_
    rw [wrap64 (x := i - 1) (by omega) (by omega)]
    exact ih (z, i - 1, y.2.at_, y.2.seed_) ⟨by dsimp only; omega, by subst hz; simp; omega, y1.mk2 hs.code⟩ (by dsimp only; omega)
  have hl2 : (l77.length : Int) ≤ 18 := by omega
  refine Tot.bif (fun hp => ?_) fun _ => Tot.some ⟨sm _ _ (by omega) (by omega), i3⟩
  have hp := of_decide_eq_true hp
  refine Tot.bind (Nx hc i3 _) fun k _ ⟨k1, k2, k3⟩ => ?_
  refine Tot.bind (Nx hc (k1.mk2 hs.code) _) fun w _ ⟨w1, w2, w3⟩ => ?_
  have S2 := w1.mk2 hs.code
  refine Tot.bif (fun _ => ?_) fun _ => Tot.bif (fun _ => ?_) fun _ => Tot.bif (fun _ => ?_) fun _ => Tot.bif (fun _ => ?_) fun _ => Tot.bif (fun _ => ?_) fun _ => ?_
  · exact Tot.bind (Tot.get' k2 (by omega)) fun x _ _ => Tot.some ⟨sm _ _ (by omega) (by simp; omega), S2⟩
  · refine Tot.bind (Nx hc S2 _) fun y _ ⟨y1, y2, y3⟩ => Tot.bind (Tot.get' y2 (by simp; omega)) fun _ _ _ => Tot.bind (Tot.get' k2 (by omega)) fun x _ _ => Tot.some ⟨sm _ _ (by omega) (by simp; omega), y1.mk2 hs.code⟩
  · exact Tot.bind (Tot.get' (Int.le_refl _) (by omega)) fun x _ _ => Tot.bind (Tot.get' (Int.le_refl _) (by omega)) fun x _ _ => Tot.some ⟨sm _ _ (by simp; omega) (by omega), S2⟩
  · refine loopm (L := fun m (p : List S_LatchLink × Int × Int) => F_spec_l18Draw_L3 n s _ m p.1 p.2.1 p.2.2) (fun p => 100 - p.1.length) (fun p => 0 < p.1.length ∧ p.1.length ≤ 90 ∧ Src c (S_l01Source.mk s.code_ p.2.1 p.2.2)) _ ?_ n (l77, w.2.at_, w.2.seed_) (by dsimp only; omega) ⟨by dsimp only; omega, by dsimp only; omega, S2⟩
    intro m ⟨l, a, d⟩ ⟨j1, j2, j3⟩ ih
    dsimp only at j1 j2 j3 ih ⊢
    rw [F_spec_l18Draw_L3_s]
    refine Tot.bind (Nx hc j3 _) fun x hx ⟨x1, x2, x3⟩ => ?_
    refine Tot.bif (fun hi => ?_) fun hi => Tot.some ⟨sm _ _ (by omega) (by omega), x1.mk2 hs.code⟩
    have hi := of_decide_eq_true hi
    rw [wrap64 (by omega) (by omega)] at hi
    refine Tot.bind (Tot.get' (Int.le_refl _) (by omega)) fun y _ _ => ?_
    refine Tot.bind (Tot.app (by simp; omega) (by omega)) fun z _ hz => ?_
    exact ih (z, x.2.at_, x.2.seed_) ⟨by subst hz; simp, by subst hz; simp; omega, x1.mk2 hs.code⟩ (by subst hz; simp; omega)
  · exact Tot.bind (Tot.get' k2 (by omega)) fun x _ _ => Tot.some ⟨sm _ _ (by omega) (by simp; omega), S2⟩
  · exact Tot.some ⟨sm _ _ (by omega) (by omega), S2⟩
theorem V4 {n : Nat} {s : S_LatchSystem} (hv : Val s) (hn : 1048577 ≤ n) : F_impl_IsLatchSystem n s = some true := by
  have few := hv.few
  rw [F_impl_IsLatchSystem]
  refine loop (L := fun m i (_ : Unit) => F_impl_IsLatchSystem_L1 s _ m i) s.Latches.length (fun _ _ => True) (fun r => r = some true) ?_ ?_ n 0 () (by omega) (by omega) trivial
  · intro m i _ hi _
    refine .inl ⟨(), trivial, ?_⟩
    have := hv.latch i _ (List.getElem?_eq_getElem hi)
    have c : ((decide (s.Latches[i].Open < 0) || decide (s.Latches[i].Open > s.Latches[i].Close)) || decide (s.Latches[i].Close > 100000)) = false := by
      simp only [Bool.or_eq_false_iff, decide_eq_false_iff_not]; omega
    simp only [F_impl_IsLatchSystem_L1_s, dlt hi, cond_true, getI_el hi, Option.bind_some, c, cond_false, wS (show i < 4611686018427387904 by omega)]
  · intro m _ _
    simp only [F_impl_IsLatchSystem_L1_s, dnl, cond_false, F_impl_length_impl_Latch, Option.bind_some]
    refine loop (L := fun m i (_ : Unit) => F_impl_IsLatchSystem_L2 n s _ _ m i) s.Links.length (fun _ _ => True) (fun r => r = some true) ?_ ?_ n 0 () (by omega) (by omega) trivial
    · intro m i _ hi _
      refine .inl ⟨(), trivial, ?_⟩
      have := hv.link i _ (List.getElem?_eq_getElem hi)
      have w1 : IntKind.wrap IntKind.i64 ((s.Latches.length : Int) - 1) = (s.Latches.length : Int) - 1 := wrap64 (by omega) (by omega)
      have c1 : (decide (s.Links[i].From ≥ 0) && decide (s.Links[i].From ≤ (s.Latches.length : Int) - 1)) = true := by simp only [Bool.and_eq_true, decide_eq_true_eq]; omega
      have c2 : (decide (s.Links[i].To ≥ 0) && decide (s.Links[i].To ≤ (s.Latches.length : Int) - 1)) = true := by simp only [Bool.and_eq_true, decide_eq_true_eq]; omega
      have c3 : (decide (s.Links[i].Delay ≥ 0) && decide (s.Links[i].Delay ≤ 100000)) = true := by simp only [Bool.and_eq_true, decide_eq_true_eq]; omega
      have c4 : (decide (s.Links[i].Shift ≥ 0) && decide (s.Links[i].Shift ≤ 100000)) = true := by simp only [Bool.and_eq_true, decide_eq_true_eq]; omega
      simp only [F_impl_IsLatchSystem_L2_s, dlt hi, cond_true, getI_el hi, Option.bind_some, F_impl_within, w1, c1, c2, c3, c4, Bool.not_true, cond_false, wS (show i < 4611686018427387904 by omega)]
    · intro m _ _
      simp only [F_impl_IsLatchSystem_L2_s, dnl, cond_false]
      have c5 : decide ((s.Latches.length : Int) ≤ 12) = true := decide_eq_true (by omega)
      have c6 : decide ((s.Links.length : Int) ≤ 60) = true := decide_eq_true (by omega)
      rw [c5, c6]; rfl
theorem and_low (m : Int) : 0 ≤ andK .u64 m 16777215 ∧ andK .u64 m 16777215 ≤ 16777215 := by
  unfold andK
  have h : (BitVec.ofInt IntKind.u64.bits m &&& BitVec.ofInt IntKind.u64.bits 16777215).toNat ≤ 16777215 := by
    rw [BitVec.toNat_and]
    refine Nat.le_trans Nat.and_le_right ?_
    decide
  generalize (BitVec.ofInt IntKind.u64.bits m &&& BitVec.ofInt IntKind.u64.bits 16777215).toNat = q at h
  have : IntKind.wrap IntKind.u64 (q : Int) = q := by
    have e : IntKind.wrap IntKind.u64 (q : Int) = (q : Int) % 18446744073709551616 := rfl
    rw [e]; omega
  rw [this]; omega
structure Dic (c : List Int) (d : S_dice) : Prop where
  b : d.b_ = c
  i0 : 0 ≤ d.i_ ∧ d.i_ ≤ c.length
theorem Rol {n : Nat} {c : List Int} (hc : Cde c) (hn : 1048577 ≤ n) (seed : Int) : Tot (fun d => Dic c d) (F_laws_roll n c seed) := by
  have hl := hc.1
  rw [F_laws_roll]
  generalize IntKind.wrap IntKind.u64 _ = h0
  refine loopw (L := fun m i (p : Int × Int) => F_laws_roll_L1 c (fun i12 i14 i15 => (some ((S_dice.mk c i14 i15)))) m i p.1 p.2) c.length (fun _ p => p.1 = 0) _ ?_ ?_ n 0 (0, h0) (by omega) (by omega) rfl
  · intro m i ⟨a, h⟩ hi h1 ih
    dsimp only at h1 ⊢
    simp only [F_laws_roll_L1_s, dlt hi, cond_true, getI_el hi, Option.bind_some, wS (show i < 4611686018427387904 by omega)]
    exact ih (a, _) h1
  · intro m ⟨a, h⟩ h1
    dsimp only at h1 ⊢
    subst h1
    simp only [F_laws_roll_L1_s, dnl, cond_false]
    exact Tot.some ⟨rfl, by show (0 : Int) ≤ 0 ∧ (0 : Int) ≤ c.length; omega⟩
theorem Bel {n : Nat} {c : List Int} (hc : Cde c) {d : S_dice} (hd : Dic c d) {k : Int} (hk : 1 ≤ k) : Tot (fun r => (0 ≤ r.1 ∧ r.1 < k) ∧ Dic c r.2) (F_laws_dice_below n d k) := by
  have hl := hc.1
  have h0 := hd.i0
  rw [F_laws_dice_below]
  have hk0 : (k == 0) = false := by rw [beq_eq_false_iff_ne]; omega
  simp only [hk0, cond_false, hd.b]
  obtain ⟨q0, q1⟩ := and_low (shrK .u64 (IntKind.wrap IntKind.u64 ((IntKind.wrap IntKind.u64 (d.h_ * 6364136223846793005)) + 1442695040888963407)) 33)
  generalize andK .u64 (shrK .u64 (IntKind.wrap IntKind.u64 ((IntKind.wrap IntKind.u64 (d.h_ * 6364136223846793005)) + 1442695040888963407)) 33) 16777215 = q at *
  rw [wrap64 (x := q) (by omega) (by omega)]
  refine Tot.bif (fun hi => ?_) fun hi => ?_
  · have hi := of_decide_eq_true hi
    refine Tot.bind (Tot.get h0.1 hi hc.2) fun x _ hx => ?_
    rw [wrap64 (x := x) (by omega) (by omega), wrap64 (x := q + x) (by omega) (by omega), wrap64 (x := d.i_ + 1) (by omega) (by omega)]
    exact Tot.some ⟨tmod_in (by omega) (by omega), rfl, by show 0 ≤ d.i_ + 1 ∧ d.i_ + 1 ≤ _; omega⟩
  · exact Tot.some ⟨tmod_in (by omega) (by omega), rfl, h0⟩
theorem Dic.mk2 {c d : List Int} {x : S_dice} (h : Dic c x) (e : d = c) : Dic c (S_dice.mk d x.i_ x.h_) := ⟨e, h.i0⟩
/-- a departure that both texts know as such -/
theorem IsD {n : Nat} {s : S_LatchSystem} {t : List Int} (hv : Val s) (hS : Stp s t t) (hR : Rng s 1300000 t) (hn : 1048577 ≤ n) : F_impl_IsDeparture n s t = some true := by
  have few := hv.few
  have hl := hR.1
  have hlen : (((t.length : Int)) != ((s.Latches.length : Int))) = false := by
    have : (t.length : Int) = s.Latches.length := by omega
    simp [this]
  rw [F_impl_IsDeparture, V4 hv hn, Option.bind_some, hlen]
  have hx : ∀ j (h : j < t.length), 0 ≤ t[j] ∧ t[j] ≤ 1300000 := fun j h => by
    have := hR.2 j (by omega)
    rwa [gd_get (List.getElem?_eq_getElem h)] at this
  have ha : F_impl_areWithin n t 0 1000000000 = some true := by
    rw [F_impl_areWithin, F_slices_ContainsFunc_int64_int64_on_impl_areWithin_1, F_slices_IndexFunc_int64_int64_on_impl_areWithin_1]
    obtain ⟨r, e, h⟩ := loop_has (xs := t) (L := fun m i => F_slices_IndexFunc_int64_int64_on_impl_areWithin_1_L1 n t 0 1000000000 (fun i7 => (some (-1))) m i) (fun x => !((decide (x ≥ 0)) && (decide (x ≤ 1000000000)))) (by
      intro m i hi
      simp only [F_slices_IndexFunc_int64_int64_on_impl_areWithin_1_L1_s, dlt hi, cond_true, getI_el hi, Option.bind_some, F_impl_areWithin_1, F_impl_within, wS (show i < 4611686018427387904 by omega)]) (by
      intro m
      simp only [F_slices_IndexFunc_int64_int64_on_impl_areWithin_1_L1_s, dnl, cond_false]) n (by omega)
    have e' : F_slices_IndexFunc_int64_int64_on_impl_areWithin_1_L1 n t 0 1000000000 (fun _ => some (-1)) n 0 = some r := e
    rw [e']
    simp only [Option.bind_some, h]
    have : t.any (fun x => !((decide (x ≥ 0)) && (decide (x ≤ 1000000000)))) = false := by
      rw [List.any_eq_false]
      intro x hm
      obtain ⟨j, hj, rfl⟩ := List.getElem_of_mem hm
      have := hx j hj
      simp; omega
    rw [this]; rfl
  obtain ⟨at_, an, e2, hA⟩ := Ar1 (n := n) hv (B := 1300000) (by omega) hR hn
  simp only [Bool.not_true, Bool.or_self, cond_false, ha, Option.bind_some, e2]
  have key : ∀ j, j < s.Latches.length → gd t j = if gb an j then max (opn s j) (gd at_ j) else opn s j := fun j hj => by
    have h0 := hS.ge j hj
    rcases hA.is j hj with ⟨a1, a2⟩ | ⟨a1, x, hx, a2, a3⟩
    · rw [a1]
      rcases hS.is j hj with b1 | ⟨y, hy, b2, b3⟩
      · simpa using b1
      · have := (hA.lk y hy).1
        rw [b2, a1] at this; cases this
    · rw [a1]
      have q := hS.lk x hx
      rw [a2] at q
      simp only [if_true]
      rcases hS.is j hj with b1 | ⟨y, hy, b2, b3⟩
      · omega
      · have p := (hA.lk y hy).2
        rw [b2] at p; omega
  refine loop (L := fun m i (_ : Unit) => F_impl_IsDeparture_L1 s t (at_, an) (fun _ => some true) m i) s.Latches.length (fun _ _ => True) (fun r => r = some true) ?_ ?_ n 0 () (by omega) (by omega) trivial
  · intro m i _ hi _
    refine .inl ⟨(), trivial, ?_⟩
    have k := key i hi
    have g1 := getI_gb (t := an) (i := (i : Int)) (by omega) (by rw [hA.len2]; omega)
    have g2 := getI_gd (t := at_) (i := (i : Int)) (by omega) (by rw [hA.len]; omega)
    have g3 := getI_gd (t := t) (i := (i : Int)) (by omega) (by omega)
    rw [Int.toNat_natCast] at g1 g2 g3
    rw [opn_get (List.getElem?_eq_getElem hi)] at k
    simp only [F_impl_IsDeparture_L1_s, dlt hi, cond_true, getI_el hi, g1, g2, g3, Option.bind_some, wS (show i < 4611686018427387904 by omega)]
    cases hg : gb an i with
    | true =>
      rw [hg, if_pos rfl] at k
      have : (gd t i != max s.Latches[i].Open (gd at_ i)) = false := by rw [k]; simp
      simp only [cond_true, this, cond_false]
    | false =>
      rw [hg] at k
      have : (gd t i != s.Latches[i].Open) = false := by rw [k]; simp
      simp only [cond_false, this]
  · intro m _ _
    simp only [F_impl_IsDeparture_L1_s, dnl, cond_false]
/-- a system that opens later has a departure, and it is not earlier -/
theorem Later {n : Nat} {s s' : S_LatchSystem} {ts : List Int} (hv : Val s) (hv' : Val s') (hm' : SM_LatchSystem s') (hL : s'.Links = s.Links) (hN : s'.Latches.length = s.Latches.length) (ho : ∀ j, j < s.Latches.length → opn s j ≤ opn s' j)
    (hS : Stp s ts ts) (hj : ∃ j, ts = rnd s j) (hn : 1048577 ≤ n) : ∃ ts', F_impl_LatchDepartures n s' = some (ts', 0) ∧ ts'.length = s.Latches.length ∧ leL s.Latches.length ts ts' := by
  obtain ⟨ts', o, c, h1, h2, h3, h4, h5, h6⟩ := LT hm' hn
  rcases h6 (V4 hv' hn) with e | e
  · subst e
    obtain ⟨_, q1, q2, q3, _⟩ := h4 rfl
    refine ⟨ts', by rw [F_impl_LatchDepartures, h1]; rfl, by rw [q2.1, hN], ?_⟩
    have : ∀ j, leL s.Latches.length (rnd s j) ts' := by
      intro j
      induction j with
      | zero => exact fun j hj => Int.le_trans (ho j hj) (q1.ge j (by omega))
      | succ j ih =>
        have q1' : StpL s' s.Links ts' ts' := hL ▸ q1
        exact StpL.mono hN ho (fun x hx => (hv.ends x hx).1) (stpF_is hv.ends _) q1' ih
    obtain ⟨j, rfl⟩ := hj
    exact this j
  · subst e
    exact absurd (rnd_ends hv'.ends (p := ts) fun x hx => hS.lk x (hL ▸ hx)) (h5 rfl).2
theorem PFnDepartures {code : List Int} (hR : code.length ≤ 9223372036854775807 ∧ ∀ x ∈ code, inK .u8 x) : ∃ n, F_laws_FnDepartures n code = some true := by
  obtain ⟨n, hn⟩ : ∃ n, 1048577 ≤ n := ⟨_, Nat.le_refl _⟩
  refine ⟨n, ?_⟩
  rw [F_laws_FnDepartures, F_laws_big, Option.bind_some]
  by_cases hb : (code.length : Int) > 4096
  · rw [decide_eq_true hb]; rfl
  rw [decide_eq_false hb, cond_false]
  have hc := Cde.of hR hb
  have hd : Tot (fun s => SM_LatchSystem s) (F_spec_DrawLatchDepartures n code) := by
    rw [F_spec_DrawLatchDepartures]
    exact Tot.bind (Fr hc hn) fun r _ hr => Tot.bind (LD hc hn (hr.mk2 rfl)) fun p _ hp => Tot.some hp.1
  obtain ⟨d, d1, d2⟩ := Rol (n := n) hc hn 6108
  obtain ⟨s, s1, s2⟩ := hd
  obtain ⟨ts, o, c, h1, h2, h3, h4, h5, h6⟩ := LT s2 hn
  have hm := s2.1.1
  rw [d1, Option.bind_some, s1, Option.bind_some, F_impl_LatchDepartures, h1, Option.bind_some, Option.bind_some, F_spec_LatchDepartures, h2, Option.bind_some, Option.bind_some]
  have nn : (c != c) = false := by simp
  have hlt : ts.length ≤ 1048576 := by
    by_cases e : c = 0
    · have := (h4 e).2.2.1.1; omega
    · rw [(h3 e).1]; simp
  simp only [nn, cond_false, Like1 hlt hn, Option.bind_some, Bool.not_true]
  by_cases e : c = 0
  · subst e
    obtain ⟨hv, hS, hRg, hj, _⟩ := h4 rfl
    have few := hv.few
    by_cases e0 : (ts.length : Int) = 0
    · have : ((ts.length : Int) == 0) = true := by simpa using e0
      rw [this, Bool.or_true]; rfl
    have : ((ts.length : Int) == 0) = false := by rw [beq_eq_false_iff_ne]; exact e0
    rw [this, show ((0 : Int) != 0) = false from rfl, Bool.or_self, cond_false, IsD hv hS hRg hn, Option.bind_some]
    have hl := hRg.1
    simp only [Bool.not_true, cond_false]
    refine (Tot.bind (Q := fun r => r = true) (Tot.app (xs := []) (ys := s.Latches) (b := 16) (by simp; omega) (by omega)) fun z _ hz => ?_).elim fun r hr => by rw [hr.1, hr.2]
    simp only [List.nil_append] at hz
    subst hz
    refine Tot.bind (Bel hc (d2.mk2 rfl) (k := (ts.length : Int)) (by omega)) fun r _ ⟨⟨r0, r1⟩, r2⟩ => ?_
    obtain ⟨k, hk⟩ : ∃ k : Nat, r.1 = k := ⟨r.1.toNat, by omega⟩
    have hkl : k < s.Latches.length := by omega
    rw [hk, getI_el hkl, Option.bind_some]
    have hx := hv.latch k _ (List.getElem?_eq_getElem hkl)
    generalize hxe : s.Latches[k] = x at hx
    rw [wrap64 (x := x.Close - x.Open) (by omega) (by omega), wrap64 (x := x.Close - x.Open + 1) (by omega) (by omega)]
    refine Tot.bind (Bel hc (r2.mk2 rfl) (k := x.Close - x.Open + 1) (by omega)) fun q _ ⟨⟨q0, q1⟩, _⟩ => ?_
    rw [Option.bind_some, wrap64 (x := x.Open + q.1) (by omega) (by omega), Int.toNat_natCast]
    have gs : ∀ j y, (s.Latches.set k (S_Latch.mk (x.Open + q.1) x.Close))[j]? = some y → (j = k ∧ y = S_Latch.mk (x.Open + q.1) x.Close) ∨ (j ≠ k ∧ s.Latches[j]? = some y) := fun j y h => by
      rw [List.getElem?_set] at h
      by_cases e : k = j
      · subst e; rw [if_pos rfl, if_pos hkl] at h; exact .inl ⟨rfl, (Option.some.inj h).symm⟩
      · rw [if_neg e] at h; exact .inr ⟨fun q => e q.symm, h⟩
    generalize hs' : S_LatchSystem.mk (s.Latches.set k (S_Latch.mk (x.Open + q.1) x.Close)) s.Links = s'
    have hLat : s'.Latches = s.Latches.set k (S_Latch.mk (x.Open + q.1) x.Close) := by rw [← hs']
    have hLnk : s'.Links = s.Links := by rw [← hs']
    have hN : s'.Latches.length = s.Latches.length := by rw [hLat]; simp
    have hv' : Val s' := by
      refine ⟨fun j y hy => ?_, fun j y hy => ?_, by rw [hN, hLnk]; exact few⟩
      · rw [hLat] at hy
        rcases gs j y hy with ⟨_, rfl⟩ | ⟨_, hy⟩
        · dsimp only; omega
        · exact hv.latch j y hy
      · rw [hLnk] at hy; rw [hN]; exact hv.link j y hy
    have hm' : SM_LatchSystem s' := by
      rw [← hs']; exact ⟨⟨by rw [List.length_set]; omega, fun _ _ => ⟨trivial, trivial⟩⟩, ⟨by dsimp only; omega, fun _ _ => ⟨trivial, trivial, trivial, trivial⟩⟩⟩
    have ho : ∀ j, j < s.Latches.length → opn s j ≤ opn s' j := fun j hj => by
      have e1 := List.getElem?_eq_getElem hj
      have hj' : j < s'.Latches.length := by omega
      obtain ⟨y, e2⟩ : ∃ y, s'.Latches[j]? = some y := ⟨_, List.getElem?_eq_getElem hj'⟩
      rw [opn_get e1, opn_get e2]
      rw [hLat] at e2
      rcases gs j _ e2 with ⟨a, b⟩ | ⟨a, b⟩
      · subst a; rw [b, hxe]; dsimp only; omega
      · rw [e1] at b; rw [Option.some.inj b]; exact Int.le_refl _
    obtain ⟨ts', t1, t2, t3⟩ := Later hv hv' hm' hLnk hN ho hS hj hn
    rw [t1, Option.bind_some]
    have c1 : (((ts'.length : Int)) != ((ts.length : Int))) = false := by
      have : (ts'.length : Int) = ts.length := by omega
      simp [this]
    simp only [c1, show ((0 : Int) != 0) = false from rfl, Bool.or_self, cond_false]
    refine loopw (L := fun m i (_ : Unit) => F_laws_FnDepartures_L1 s (ts, 0) (ts', 0) _ m i) ts.length (fun _ _ => True) _ ?_ ?_ n 0 () (by omega) (by omega) trivial
    · intro m i _ hi _ ih
      have g1 := getI_gd (t := ts) (i := (i : Int)) (by omega) (by omega)
      have g2 := getI_gd (t := ts') (i := (i : Int)) (by omega) (by omega)
      rw [Int.toNat_natCast] at g1 g2
      have hi' : i < s.Latches.length := by omega
      have a1 := hS.ge i hi'
      rw [opn_get (List.getElem?_eq_getElem hi')] at a1
      have a2 := t3 i hi'
      have d1 : decide (gd ts i < s.Latches[i].Open) = false := decide_eq_false (by omega)
      have d2 : decide (gd ts' i < gd ts i) = false := decide_eq_false (by omega)
      simp only [F_laws_FnDepartures_L1_s, dlt hi, cond_true, getI_el hi', g1, g2, Option.bind_some, d1, d2, cond_false, wS (show i < 4611686018427387904 by omega)]
      exact ih () trivial
    · intro m _ _
      simp only [F_laws_FnDepartures_L1_s, dnl, cond_false]
      exact Tot.some rfl
  · have : (c != 0) = true := by simpa using e
    rw [this, Bool.true_or]; rfl

end Go.Proofs.Ytmhmpfckdhiijaa
