/- The plain law behind FnExactIsDeparture: the plain function answers true; no condition. -/
import Derived.Test.YtmhmpfckdhiijaaWalkFnExactIsDeparture
set_option linter.all false
namespace Go.Proofs.Ytmhmpfckdhiijaa
open Go Go.RowKit Go.Eng
theorem bif_or {b c : Bool} : (bif b then some true else some c) = some (b || c) := by cases b <;> rfl
theorem A1 (n : Nat) (a : S_LatchSystem) (k : Int → Option Bool) : ∀ m i, F_spec_IsLatchSystem_L1 n a k m i = F_impl_IsLatchSystem_L1 a k m i
  | 0, _ => rfl
  | m + 1, i => by
    have key : ∀ x : S_Latch, (!((decide (x.Open ≥ 0)) && (decide (x.Open ≤ 100000))) || !((decide (x.Close ≥ x.Open)) && (decide (x.Close ≤ 100000)))) = (((decide (x.Open < 0)) || (decide (x.Open > x.Close))) || (decide (x.Close > 100000))) := by
      intro x
      rw [Bool.eq_iff_iff]
      simp only [Bool.or_eq_true, Bool.not_eq_true', Bool.and_eq_false_iff, decide_eq_true_eq, decide_eq_false_iff_not]
      omega
    rw [F_spec_IsLatchSystem_L1_s, F_impl_IsLatchSystem_L1_s]
    simp only [F_spec_l01In, Option.bind_some, bif_or, key, A1 n a k m]
theorem A2 (n : Nat) (a : S_LatchSystem) (k : Int → Option Bool) : ∀ m i, F_spec_IsLatchSystem_L2 n a k m i = F_impl_IsLatchSystem_L2 n a (a.Latches.length : Int) k m i
  | 0, _ => rfl
  | m + 1, i => by
    rw [F_spec_IsLatchSystem_L2_s, F_impl_IsLatchSystem_L2_s]
    simp only [F_spec_l01In, F_impl_within, A2 n a k m]
theorem A3 (a : S_LatchSystem) (k : Int → Option Bool) (h : a.Latches.length ≤ 1048576) : ∀ (m i : Nat), i ≤ a.Latches.length → a.Latches.length - i < m → F_impl_IsLatchSystem_L1 a k m i = some false ∨ F_impl_IsLatchSystem_L1 a k m i = k (a.Latches.length : Int)
  | 0, i, _, hm => by omega
  | m + 1, i, hi, hm => by
    rw [F_impl_IsLatchSystem_L1_s]
    by_cases hlt : i < a.Latches.length
    · have hd : decide ((i : Int) < (a.Latches.length : Int)) = true := decide_eq_true (by omega)
      have hx : getI a.Latches i = some a.Latches[i] := by rw [getI_nat]; exact List.getElem?_eq_getElem hlt
      rw [hd, cond_true, hx, Option.bind_some, wrap64 (by omega) (by omega)]
      cases ((decide (a.Latches[i].Open < 0) || decide (a.Latches[i].Open > a.Latches[i].Close)) || decide (a.Latches[i].Close > 100000))
      · exact A3 a k h m (i + 1) (by omega) (by omega)
      · exact .inl rfl
    · have hd : decide ((i : Int) < (a.Latches.length : Int)) = false := decide_eq_false (by omega)
      rw [hd, cond_false]
      exact .inr (by rw [show i = a.Latches.length by omega])
theorem A4 (n : Nat) (a : S_LatchSystem) (q : Int) (k : Int → Option Bool) (h : a.Links.length ≤ 1048576) : ∀ (m i : Nat), i ≤ a.Links.length → a.Links.length - i < m → F_impl_IsLatchSystem_L2 n a q k m i = some false ∨ F_impl_IsLatchSystem_L2 n a q k m i = k (a.Links.length : Int)
  | 0, i, _, hm => by omega
  | m + 1, i, hi, hm => by
    rw [F_impl_IsLatchSystem_L2_s]
    by_cases hlt : i < a.Links.length
    · have hd : decide ((i : Int) < (a.Links.length : Int)) = true := decide_eq_true (by omega)
      have hx : getI a.Links i = some a.Links[i] := by rw [getI_nat]; exact List.getElem?_eq_getElem hlt
      simp only [hd, cond_true, hx, Option.bind_some, wrap64 (x := (i : Int) + 1) (by omega) (by omega), F_impl_within, bif_or]
      generalize ((_ || _) : Bool) = b
      cases b
      · exact A4 n a q k h m (i + 1) (by omega) (by omega)
      · exact .inl rfl
    · have hd : decide ((i : Int) < (a.Links.length : Int)) = false := decide_eq_false (by omega)
      rw [hd, cond_false]
      exact .inr (by rw [show i = a.Links.length by omega])
theorem A5 {n : Nat} {a : S_LatchSystem} (h : SM_LatchSystem a) (hn : 1048577 ≤ n) : ∃ b, F_spec_IsLatchSystem n a = some b ∧ F_impl_IsLatchSystem n a = some b := by
  have e : F_spec_IsLatchSystem n a = F_impl_IsLatchSystem n a := by
    rw [F_spec_IsLatchSystem, F_impl_IsLatchSystem, A1]
    simp only [A2, F_impl_length_impl_Latch, Option.bind_some]
  rw [e]
  refine (?_ : ∃ b, F_impl_IsLatchSystem n a = some b).elim fun b hb => ⟨b, hb, hb⟩
  have hl1 := h.1.1
  have hl2 := h.2.1
  rw [F_impl_IsLatchSystem]
  simp only [F_impl_length_impl_Latch, Option.bind_some]
  refine (A3 a _ h.1.1 n 0 (by omega) (by omega)).elim (fun h1 => ⟨_, h1⟩) fun h1 => ?_
  refine (A4 n a (a.Latches.length : Int) _ h.2.1 n 0 (by omega) (by omega)).elim (fun h2 => ⟨_, h1.trans h2⟩) fun h2 => ⟨_, h1.trans h2⟩
-- what a valid system says (from the loops of impl.IsLatchSystem)
theorem V1 (a : S_LatchSystem) (k : Int → Option Bool) (h : a.Latches.length ≤ 1048576) : ∀ (m i : Nat), i ≤ a.Latches.length → F_impl_IsLatchSystem_L1 a k m i = some true →
    (∀ j x, i ≤ j → a.Latches[j]? = some x → 0 ≤ x.Open ∧ x.Open ≤ x.Close ∧ x.Close ≤ 100000) ∧ k (a.Latches.length : Int) = some true
  | 0, i, _, hm => by cases hm
  | m + 1, i, hi, hm => by
    rw [F_impl_IsLatchSystem_L1_s] at hm
    by_cases hlt : i < a.Latches.length
    · have hd : decide ((i : Int) < (a.Latches.length : Int)) = true := decide_eq_true (by omega)
      have hx : getI a.Latches i = some a.Latches[i] := by rw [getI_nat]; exact List.getElem?_eq_getElem hlt
      rw [hd, cond_true, hx, Option.bind_some, wrap64 (by omega) (by omega)] at hm
      cases hc : ((decide (a.Latches[i].Open < 0) || decide (a.Latches[i].Open > a.Latches[i].Close)) || decide (a.Latches[i].Close > 100000)) with
      | true => rw [hc] at hm; cases hm
      | false =>
        rw [hc, cond_false] at hm
        obtain ⟨h1, h2⟩ := V1 a k h m (i + 1) (by omega) hm
        refine ⟨fun j x hj hjx => ?_, h2⟩
        by_cases e : j = i
        · subst e
          rw [List.getElem?_eq_getElem hlt] at hjx
          obtain rfl := Option.some.inj hjx
          simp only [Bool.or_eq_false_iff, decide_eq_false_iff_not] at hc
          omega
        · exact h1 j x (by omega) hjx
    · have hd : decide ((i : Int) < (a.Latches.length : Int)) = false := decide_eq_false (by omega)
      rw [hd, cond_false] at hm
      refine ⟨fun j x hj hjx => ?_, ?_⟩
      · have := (List.getElem?_eq_some_iff.1 hjx).1; omega
      · rw [show (a.Latches.length : Int) = (i : Int) by omega]; exact hm
theorem V2 (n : Nat) (a : S_LatchSystem) (q : Int) (hq : 0 ≤ q) (hq2 : q ≤ 1048576) (k : Int → Option Bool) (h : a.Links.length ≤ 1048576) : ∀ (m i : Nat), i ≤ a.Links.length → F_impl_IsLatchSystem_L2 n a q k m i = some true →
    (∀ j x, i ≤ j → a.Links[j]? = some x → (0 ≤ x.From ∧ x.From < q) ∧ (0 ≤ x.To ∧ x.To < q) ∧ (0 ≤ x.Delay ∧ x.Delay ≤ 100000) ∧ (0 ≤ x.Shift ∧ x.Shift ≤ 100000)) ∧ k (a.Links.length : Int) = some true
  | 0, i, _, hm => by cases hm
  | m + 1, i, hi, hm => by
    rw [F_impl_IsLatchSystem_L2_s] at hm
    by_cases hlt : i < a.Links.length
    · have hd : decide ((i : Int) < (a.Links.length : Int)) = true := decide_eq_true (by omega)
      have hx : getI a.Links i = some a.Links[i] := by rw [getI_nat]; exact List.getElem?_eq_getElem hlt
      simp only [hd, cond_true, hx, Option.bind_some, wrap64 (x := (i : Int) + 1) (by omega) (by omega), wrap64 (x := q - 1) (by omega) (by omega), F_impl_within, bif_or] at hm
      generalize hc : ((_ || _) : Bool) = b at hm
      cases b with
      | true => cases hm
      | false =>
        rw [cond_false] at hm
        obtain ⟨h1, h2⟩ := V2 n a q hq hq2 k h m (i + 1) (by omega) hm
        refine ⟨fun j x hj hjx => ?_, h2⟩
        by_cases e : j = i
        · subst e
          rw [List.getElem?_eq_getElem hlt] at hjx
          obtain rfl := Option.some.inj hjx
          simp only [Bool.or_eq_false_iff, Bool.not_eq_false', Bool.and_eq_true, decide_eq_true_eq] at hc
          omega
        · exact h1 j x (by omega) hjx
    · have hd : decide ((i : Int) < (a.Links.length : Int)) = false := decide_eq_false (by omega)
      rw [hd, cond_false] at hm
      refine ⟨fun j x hj hjx => ?_, ?_⟩
      · have := (List.getElem?_eq_some_iff.1 hjx).1; omega
      · rw [show (a.Links.length : Int) = (i : Int) by omega]; exact hm
/-- a valid system -/
structure Val (a : S_LatchSystem) : Prop where
  latch : ∀ (j : Nat) (x : S_Latch), a.Latches[j]? = some x → 0 ≤ x.Open ∧ x.Open ≤ x.Close ∧ x.Close ≤ 100000
  link : ∀ (j : Nat) (x : S_LatchLink), a.Links[j]? = some x → (0 ≤ x.From ∧ x.From < a.Latches.length) ∧ (0 ≤ x.To ∧ x.To < a.Latches.length) ∧ (0 ≤ x.Delay ∧ x.Delay ≤ 100000) ∧ (0 ≤ x.Shift ∧ x.Shift ≤ 100000)
  few : a.Latches.length ≤ 12 ∧ a.Links.length ≤ 60
theorem V3 {n : Nat} {a : S_LatchSystem} (h : SM_LatchSystem a) (hm : F_impl_IsLatchSystem n a = some true) : Val a := by
  have hl1 := h.1.1
  have hl2 := h.2.1
  rw [F_impl_IsLatchSystem] at hm
  simp only [F_impl_length_impl_Latch, Option.bind_some] at hm
  obtain ⟨h1, h2⟩ := V1 a _ h.1.1 n 0 (by omega) hm
  obtain ⟨h3, h4⟩ := V2 n a (a.Latches.length : Int) (by omega) (by omega) _ h.2.1 n 0 (by omega) h2
  simp only [Option.some.injEq, Bool.and_eq_true, decide_eq_true_eq] at h4
  exact ⟨fun j x hx => h1 j x (by omega) hx, fun j x hx => h3 j x (by omega) hx, by omega⟩
/-- the two ways to keep the arrivals agree: out (the reference's) against at_ and an (the program's) -/
def Inv (s : S_LatchSystem) (out at_ : List Int) (an : List Bool) : Prop :=
  ∀ (j : Nat) (l : S_Latch) (o a : Int) (b : Bool), s.Latches[j]? = some l → out[j]? = some o → at_[j]? = some a → an[j]? = some b → o = (bif b then max l.Open a else l.Open)
theorem getI_ok {α : Type} {xs : List α} {i : Int} (h0 : 0 ≤ i) (h1 : i < xs.length) : ∃ x, getI xs i = some x ∧ xs[i.toNat]? = some x := by
  obtain ⟨x, hx, _⟩ := getI_in h0 h1
  exact ⟨x, hx, (getI_lt hx).2.2⟩
theorem Inv.set {s : S_LatchSystem} {out at_ : List Int} {an : List Bool} (h : Inv s out at_ an) (T : Nat) (o a : Int) (b : Bool) (hT : ∀ l, s.Latches[T]? = some l → o = (bif b then max l.Open a else l.Open)) : Inv s (out.set T o) (at_.set T a) (an.set T b) := by
  intro j l o' a' b' hl ho ha hb
  rcases set_get ho with ⟨rfl, rfl⟩ | ⟨e, ho⟩
  · rcases set_get ha with ⟨_, rfl⟩ | ⟨e, _⟩
    · rcases set_get hb with ⟨_, rfl⟩ | ⟨e, _⟩
      · exact hT l hl
      · exact absurd rfl e
    · exact absurd rfl e
  · rcases set_get ha with ⟨rfl, _⟩ | ⟨_, ha⟩
    · exact absurd rfl e
    · rcases set_get hb with ⟨rfl, _⟩ | ⟨_, hb⟩
      · exact absurd rfl e
      · exact h j l o' a' b' hl ho ha hb
theorem Inv.setO {s : S_LatchSystem} {out at_ : List Int} {an : List Bool} (h : Inv s out at_ an) (T : Nat) (o : Int) (hT : ∀ l a b, s.Latches[T]? = some l → at_[T]? = some a → an[T]? = some b → o = (bif b then max l.Open a else l.Open)) : Inv s (out.set T o) at_ an := by
  intro j l o' a' b' hl ho ha hb
  rcases set_get ho with ⟨rfl, rfl⟩ | ⟨e, ho⟩
  · exact hT l a' b' hl ha hb
  · exact h j l o' a' b' hl ho ha hb
theorem D1 (s : S_LatchSystem) (hv : Val s) (t : List Int) (ht : t.length = s.Latches.length) (hr : ∀ x ∈ t, 0 ≤ x ∧ x ≤ 1000000000) : ∀ (m i : Nat) (out at_ : List Int) (an : List Bool), i ≤ s.Links.length → s.Links.length - i < m →
    out.length = s.Latches.length → at_.length = s.Latches.length → an.length = s.Latches.length → Inv s out at_ an →
    ∃ out' at' an', F_spec_l18Step_L1 s t (fun _ l => some l) m i out = some out' ∧ F_impl_LatchSystem_arrivals_L1 s t (fun _ a b => some (a, b)) m i at_ an = some (at', an') ∧
      out'.length = s.Latches.length ∧ at'.length = s.Latches.length ∧ an'.length = s.Latches.length ∧ Inv s out' at' an'
  | 0, i, _, _, _, _, hm, _, _, _, _ => by omega
  | m + 1, i, out, at_, an, hi, hm, ho, ha, hn, hI => by
    rw [F_spec_l18Step_L1_s, F_impl_LatchSystem_arrivals_L1_s]
    have few := hv.few
    by_cases hlt : i < s.Links.length
    · have hd : decide ((i : Int) < (s.Links.length : Int)) = true := decide_eq_true (by omega)
      have hx0 : s.Links[i]? = some s.Links[i] := List.getElem?_eq_getElem hlt
      have hx : getI s.Links i = some s.Links[i] := by rw [getI_nat]; exact hx0
      obtain ⟨hF, hT, hD, hS⟩ := hv.link i _ hx0
      generalize s.Links[i] = x at *
      obtain ⟨tv, htv, htv2⟩ := getI_ok (xs := t) hF.1 (by omega)
      have htr := hr tv (List.mem_of_getElem? htv2)
      obtain ⟨ov, hov, hov2⟩ := getI_ok (xs := out) hT.1 (by omega)
      obtain ⟨av, hav, hav2⟩ := getI_ok (xs := at_) hT.1 (by omega)
      obtain ⟨nv, hnv, hnv2⟩ := getI_ok (xs := an) hT.1 (by omega)
      have hw1 : IntKind.wrap IntKind.i64 (tv + x.Delay) = tv + x.Delay := wrap64 (by omega) (by omega)
      have hw2 : IntKind.wrap IntKind.i64 (tv + x.Delay - x.Shift) = tv + x.Delay - x.Shift := wrap64 (by omega) (by omega)
      simp only [hd, cond_true, hx, Option.bind_some, htv, hov, hav, hnv, hw1, hw2, wrap64 (x := (i : Int) + 1) (by omega) (by omega)]
      generalize tv + x.Delay - x.Shift = v at *
      cases nv with
      | false =>
        simp only [Bool.not_false, cond_true, Option.bind_some]
        refine D1 s hv t ht hr m (i + 1) _ _ _ (by omega) (by omega) (by simpa using ho) (by simpa using ha) (by simpa using hn) (hI.set _ _ _ _ fun l hl => ?_)
        have := hI _ l ov av false hl hov2 hav2 hnv2
        simp only [cond_false] at this
        rw [this]; simp
      | true =>
        simp only [Bool.not_true, cond_false, Option.bind_some]
        by_cases hgt : v > av
        · simp only [decide_eq_true hgt, cond_true, Option.bind_some]
          refine D1 s hv t ht hr m (i + 1) _ _ _ (by omega) (by omega) (by simpa using ho) (by simpa using ha) (by simpa using hn) (hI.set _ _ _ _ fun l hl => ?_)
          have := hI _ l ov av true hl hov2 hav2 hnv2
          simp only [cond_true] at this ⊢
          omega
        · simp only [decide_eq_false hgt, cond_false, Option.bind_some]
          refine D1 s hv t ht hr m (i + 1) _ _ _ (by omega) (by omega) (by simpa using ho) ha hn (hI.setO _ _ fun l a b hl ha' hb' => ?_)
          rw [hav2] at ha'; rw [hnv2] at hb'
          obtain rfl := Option.some.inj ha'
          obtain rfl := Option.some.inj hb'
          have := hI _ l ov av true hl hov2 hav2 hnv2
          simp only [cond_true] at this ⊢
          omega
    · have hd : decide ((i : Int) < (s.Links.length : Int)) = false := decide_eq_false (by omega)
      simp only [hd, cond_false]
      exact ⟨out, at_, an, rfl, rfl, ho, ha, hn, hI⟩
theorem O1 (s : S_LatchSystem) (h : s.Latches.length ≤ 1048576) : ∀ (m i : Nat) (l : List Int), i ≤ s.Latches.length → s.Latches.length - i < m → l = (s.Latches.take i).map (·.Open) → F_spec_l18Opens_L1 s (fun l _ => some l) m l i = some (s.Latches.map (·.Open))
  | 0, i, _, _, hm, _ => by omega
  | m + 1, i, l, hi, hm, hl => by
    rw [F_spec_l18Opens_L1_s]
    have hll : l.length = i := by rw [hl]; simp; omega
    by_cases hlt : i < s.Latches.length
    · have hd : decide ((i : Int) < (s.Latches.length : Int)) = true := decide_eq_true (by omega)
      have hx0 : s.Latches[i]? = some s.Latches[i] := List.getElem?_eq_getElem hlt
      have hx : getI s.Latches i = some s.Latches[i] := by rw [getI_nat]; exact hx0
      have hap : appN l [s.Latches[i].Open] 8 = some (l ++ [s.Latches[i].Open]) := by
        unfold appN; rw [if_pos (by simp; omega)]
      simp only [hd, cond_true, hx, Option.bind_some, hap, wrap64 (x := (i : Int) + 1) (by omega) (by omega)]
      refine O1 s h m (i + 1) _ (by omega) (by omega) ?_
      rw [hl, List.take_succ, hx0, List.map_append]; rfl
    · have hd : decide ((i : Int) < (s.Latches.length : Int)) = false := decide_eq_false (by omega)
      simp only [hd, cond_false]
      rw [hl, List.take_of_length_le (by omega)]
theorem C1 (s : S_LatchSystem) (few : s.Latches.length ≤ 1048576) (t out at_ : List Int) (an : List Bool) (ht : t.length = s.Latches.length) (ho : out.length = s.Latches.length) (ha : at_.length = s.Latches.length) (hn : an.length = s.Latches.length) (hI : Inv s out at_ an) :
    ∀ (m i : Nat), i ≤ s.Latches.length → s.Latches.length - i < m → ∃ b, F_spec_l18Same_L1 out t (fun _ => some true) m i = some b ∧ F_impl_IsDeparture_L1 s t (at_, an) (fun _ => some true) m i = some b
  | 0, i, _, hm => by omega
  | m + 1, i, hi, hm => by
    rw [F_spec_l18Same_L1_s, F_impl_IsDeparture_L1_s]
    by_cases hlt : i < s.Latches.length
    · have hd : decide ((i : Int) < (s.Latches.length : Int)) = true := decide_eq_true (by omega)
      have hd2 : decide ((i : Int) < (out.length : Int)) = true := decide_eq_true (by omega)
      have g1 : s.Latches[i]? = some s.Latches[i] := List.getElem?_eq_getElem hlt
      have g2 : t[i]? = some (t[i]'(by omega)) := List.getElem?_eq_getElem _
      have g3 : out[i]? = some (out[i]'(by omega)) := List.getElem?_eq_getElem _
      have g4 : at_[i]? = some (at_[i]'(by omega)) := List.getElem?_eq_getElem _
      have g5 : an[i]? = some (an[i]'(by omega)) := List.getElem?_eq_getElem _
      have hv := hI i _ _ _ _ g1 g3 g4 g5
      simp only [hd, hd2, cond_true, getI_nat, g1, g2, g3, g4, g5, Option.bind_some, wrap64 (x := (i : Int) + 1) (by omega) (by omega)]
      have ih := C1 s few t out at_ an ht ho ha hn hI m (i + 1) (by omega) (by omega)
      generalize out[i]'(by omega) = o at hv ⊢
      generalize t[i]'(by omega) = tv
      cases hb : an[i]'(by omega) with
      | true =>
        rw [hb] at hv
        simp only [cond_true] at hv ⊢
        rw [← hv]
        by_cases e : o = tv
        · subst e; simpa using ih
        · have e1 : (o != tv) = true := by simpa using e
          have e2 : (tv != o) = true := by simpa using fun h => e h.symm
          rw [e1, e2]; exact ⟨false, rfl, rfl⟩
      | false =>
        rw [hb] at hv
        simp only [cond_false] at hv ⊢
        rw [← hv]
        by_cases e : o = tv
        · subst e; simpa using ih
        · have e1 : (o != tv) = true := by simpa using e
          have e2 : (tv != o) = true := by simpa using fun h => e h.symm
          rw [e1, e2]; exact ⟨false, rfl, rfl⟩
    · have hd : decide ((i : Int) < (s.Latches.length : Int)) = false := decide_eq_false (by omega)
      have hd2 : decide ((i : Int) < (out.length : Int)) = false := decide_eq_false (by omega)
      simp only [hd, hd2, cond_false]
      exact ⟨true, rfl, rfl⟩
theorem W1 (n : Nat) (t : List Int) (h : t.length ≤ 1048576) (k : Int → Option Bool) : ∀ (m i : Nat), i ≤ t.length → t.length - i < m → ∃ b : Bool, (b = true → ∀ j x, i ≤ j → t[j]? = some x → 0 ≤ x ∧ x ≤ 1000000000) ∧ F_spec_IsDeparture_L1 n t k m i = (bif b then k (t.length : Int) else some false) ∧
      ∃ r, F_slices_IndexFunc_int64_int64_on_impl_areWithin_1_L1 n t 0 1000000000 (fun _ => some (-1)) m i = some r ∧ decide (r ≥ 0) = !b
  | 0, i, _, hm => by omega
  | m + 1, i, hi, hm => by
    rw [F_spec_IsDeparture_L1_s, F_slices_IndexFunc_int64_int64_on_impl_areWithin_1_L1_s]
    by_cases hlt : i < t.length
    · have hd : decide ((i : Int) < (t.length : Int)) = true := decide_eq_true (by omega)
      have g : t[i]? = some t[i] := List.getElem?_eq_getElem hlt
      simp only [hd, cond_true, getI_nat, g, Option.bind_some, F_spec_l01In, F_impl_areWithin_1, F_impl_within, wrap64 (x := (i : Int) + 1) (by omega) (by omega)]
      cases hc : (decide (t[i] ≥ 0) && decide (t[i] ≤ 1000000000)) with
      | false => exact ⟨false, by simp, by simp, (i : Int), by simp, by simp⟩
      | true =>
        obtain ⟨b, h1, h2, r, h3, h4⟩ := W1 n t h k m (i + 1) (by omega) (by omega)
        refine ⟨b, fun hb j x hj hx => ?_, by simpa using h2, r, by simpa using h3, h4⟩
        by_cases e : j = i
        · subst e; rw [g] at hx; obtain rfl := Option.some.inj hx; simpa using hc
        · exact h1 hb j x (by omega) hx
    · have hd : decide ((i : Int) < (t.length : Int)) = false := decide_eq_false (by omega)
      simp only [hd, cond_false]
      refine ⟨true, fun _ j x hj hx => ?_, by rw [cond_true, show (i : Int) = t.length by omega], -1, rfl, rfl⟩
      have := (List.getElem?_eq_some_iff.1 hx).1; omega
theorem PFnExactIsDeparture {a : S_LatchSystem} {t : List Int} (hR : R_LatchSystem a) (hT : t.length ≤ 9223372036854775807 ∧ ∀ x ∈ t, inK .i64 x) : ∃ n, F_laws_FnExactIsDeparture n a t = some true := by
  refine ⟨1048577, ?_⟩
  rw [F_laws_FnExactIsDeparture]
  by_cases hl : (t.length : Int) > 1048576
  · rw [decide_eq_true hl]; rfl
  rw [decide_eq_false hl, cond_false]
  obtain ⟨r, e, hr, hs⟩ := Z_LatchSystem (n := 1048577) (left := 1048576) hR (by omega) (by omega) (by omega)
  rw [e, Option.bind_some]
  by_cases h0 : r < 0
  · rw [decide_eq_true h0]; rfl
  have hS := hs (by omega)
  have e1 := T_Int64S (n := 1048577) (a := t) ⟨by omega, fun _ _ => trivial⟩ (Nat.le_refl _)
  have e2 := E_Int64S (n := 1048577) (a := t) ⟨by omega, fun _ _ => trivial⟩ (Nat.le_refl _)
  have key : ∃ b, F_spec_IsDeparture 1048577 a t = some b ∧ F_impl_IsDeparture 1048577 a t = some b := by
    obtain ⟨b, h1, h2⟩ := A5 (n := 1048577) hS (by omega)
    rw [F_spec_IsDeparture, F_impl_IsDeparture, h1, h2]
    simp only [Option.bind_some]
    cases b with
    | false => exact ⟨false, by simp, by simp⟩
    | true =>
      have hv := V3 hS h2
      by_cases hlen : t.length = a.Latches.length
      · have hne : (((t.length : Int)) != ((a.Latches.length : Int))) = false := by simpa using congrArg Int.ofNat hlen
        obtain ⟨bw, w1, w2, rw_, w3, w4⟩ := W1 1048577 t (by omega) (fun i29 => (Option.bind (F_spec_l18Step 1048577 a t) fun r31 => (Option.bind (F_spec_l18Same 1048577 r31 t) fun r41 => (some r41)))) 1048577 0 (by omega) (by omega)
        have w2' : F_spec_IsDeparture_L1 1048577 t (fun i29 => (Option.bind (F_spec_l18Step 1048577 a t) fun r31 => (Option.bind (F_spec_l18Same 1048577 r31 t) fun r41 => (some r41)))) 1048577 0 = _ := w2
        have w3' : F_slices_IndexFunc_int64_int64_on_impl_areWithin_1_L1 1048577 t 0 1000000000 (fun _ => some (-1)) 1048577 0 = some rw_ := w3
        simp only [Bool.not_true, Bool.false_or, hne, cond_false, w2', F_impl_areWithin, F_slices_ContainsFunc_int64_int64_on_impl_areWithin_1, F_slices_IndexFunc_int64_int64_on_impl_areWithin_1, w3', Option.bind_some, w4, Bool.not_not]
        cases bw with
        | false => exact ⟨false, by simp, by simp⟩
        | true =>
          have hr := w1 rfl
          obtain ⟨out, at_, an, d1, d2, l1, l2, l3, hI⟩ := D1 a hv t hlen (fun x hx => by obtain ⟨j, hj⟩ := List.getElem?_of_mem hx; exact hr j x (by omega) hj) 1048577 0 (a.Latches.map (·.Open)) (List.replicate t.length 0) (List.replicate t.length false) (by omega) (by have := hv.few; omega) (by simp) (by simpa using hlen) (by simpa using hlen) (fun j l o x b hl ho _ hb => by
            rw [List.getElem?_map, hl] at ho
            obtain rfl : b = false := by
              have := List.mem_of_getElem? hb
              exact (List.mem_replicate.1 this).2
            simpa using ho.symm)
          have few := hv.few
          have o1 : F_spec_l18Opens 1048577 a = some (a.Latches.map (·.Open)) := O1 a (by omega) 1048577 0 [] (by omega) (by omega) rfl
          have st : F_spec_l18Step 1048577 a t = some out := by rw [F_spec_l18Step, o1, Option.bind_some]; exact d1
          have ar : F_impl_LatchSystem_arrivals 1048577 a t = some (at_, an) := by
            rw [F_impl_LatchSystem_arrivals, mkN_ok (by omega) (by omega), Option.bind_some, mkN_ok (by omega) (by omega), Option.bind_some]; exact d2
          obtain ⟨b, c1, c2⟩ := C1 a (by omega) t out at_ an hlen l1 l2 l3 hI 1048577 0 (by omega) (by omega)
          have sm : F_spec_l18Same 1048577 out t = some b := by
            rw [F_spec_l18Same, show (((out.length : Int)) != ((t.length : Int))) = false by simp; omega, cond_false]; exact c1
          refine ⟨b, ?_, ?_⟩
          · simp only [cond_true, st, Option.bind_some, sm]
          · simp only [Bool.not_true, cond_false, ar, Option.bind_some]; exact c2
      · have hne : (((t.length : Int)) != ((a.Latches.length : Int))) = true := by
          have : (t.length : Int) ≠ (a.Latches.length : Int) := by omega
          simpa using this
        exact ⟨false, by simp [hne], by simp [hne]⟩
  obtain ⟨b, h1, h2⟩ := key
  rw [decide_eq_false h0, cond_false]
  simp [T_LatchSystem hS (Nat.le_refl _), E_LatchSystem hS (Nat.le_refl _), h1, h2, e1, e2]
end Go.Proofs.Ytmhmpfckdhiijaa
