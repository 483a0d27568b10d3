/- The plain law behind FnWaves: the plain function answers true; no condition. -/
import Derived.Test.YthjagnioabgceaaDoorWalkFnWaves
set_option linter.all false
namespace Go.Proofs.YthjagnioabgceaaDoor
open Go Go.RowKit Go.Eng
theorem bif_or {b c : Bool} : (bif b then some true else some c) = some (b || c) := by cases b <;> rfl
theorem bif_and {b c : Bool} : (bif b then some c else some false) = some (b && c) := by cases b <;> rfl
theorem dlt {i N : Nat} (h : i < N) : decide ((i : Int) < (N : Int)) = true := decide_eq_true (by omega)
theorem dnl (N : Nat) : decide ((N : Int) < (N : Int)) = false := decide_eq_false (by omega)
theorem wS {i : Nat} (h : i < 4611686018427387904) : IntKind.wrap IntKind.i64 ((i : Int) + 1) = ((i + 1 : Nat) : Int) := by rw [wrap64 (by omega) (by omega)]; simp
theorem getI_el {α : Type} {xs : List α} {i : Nat} (h : i < xs.length) : getI xs (i : Int) = some xs[i] := by rw [getI_nat]; exact List.getElem?_eq_getElem h
/-- a loop: an invariant, and what holds of its result -/
theorem loop {σ R : Type} {L : Nat → Int → σ → Option R} (N : Nat) (I : Nat → σ → Prop) (Post : Option R → Prop)
    (hs : ∀ (m i : Nat) (st : σ), i < N → I i st → (∃ st', I (i + 1) st' ∧ L (m + 1) (i : Int) st = L m ((i + 1 : Nat) : Int) st') ∨ Post (L (m + 1) (i : Int) st))
    (he : ∀ (m : Nat) (st : σ), I N st → Post (L (m + 1) (N : Int) st)) : ∀ (m i : Nat) (st : σ), i ≤ N → N - i < m → I i st → Post (L m (i : Int) st)
  | 0, i, st, _, hm, _ => by omega
  | m + 1, i, st, hi, hm, h => by
    by_cases hlt : i < N
    · rcases hs m i st hlt h with ⟨st', h1, h2⟩ | h1
      · rw [h2]; exact loop N I Post hs he m (i + 1) st' (by omega) (by omega) h1
      · exact h1
    · obtain rfl : i = N := by omega
      exact he m st h
theorem appN_ok {α : Type} {xs ys : List α} {b : Nat} (h : xs.length + ys.length ≤ 16777216) (hb : b ≤ 1048576) : appN xs ys b = some (xs ++ ys) := by
  unfold appN
  have : (xs.length + ys.length) * b ≤ 16777216 * 1048576 := Nat.mul_le_mul h hb
  rw [if_pos ⟨by omega, by omega⟩]
/-- any loop, by a measure -/
theorem loopm {σ R : Type} {L : Nat → σ → Option R} (μ : σ → Nat) (I : σ → Prop) (Post : Option R → Prop)
    (hs : ∀ (m : Nat) (st : σ), I st → (∀ st', I st' → μ st' < μ st → Post (L m st')) → Post (L (m + 1) st)) : ∀ (m : Nat) (st : σ), μ st < m → I st → Post (L m st)
  | 0, st, h, _ => by omega
  | m + 1, st, h, hI => hs m st hI fun st' h1 h2 => loopm μ I Post hs m st' (by omega) h1
theorem loopw {σ R : Type} {L : Nat → Int → σ → Option R} (N : Nat) (I : Nat → σ → Prop) (Post : Option R → Prop)
    (hs : ∀ (m i : Nat) (st : σ), i < N → I i st → (∀ st', I (i + 1) st' → Post (L m ((i + 1 : Nat) : Int) st')) → Post (L (m + 1) (i : Int) st))
    (he : ∀ (m : Nat) (st : σ), I N st → Post (L (m + 1) (N : Int) st)) : ∀ (m i : Nat) (st : σ), i ≤ N → N - i < m → I i st → Post (L m (i : Int) st)
  | 0, i, st, _, hm, _ => by omega
  | m + 1, i, st, hi, hm, h => by
    by_cases hlt : i < N
    · exact hs m i st hlt h fun st' h' => loopw N I Post hs he m (i + 1) st' (by omega) (by omega) h'
    · obtain rfl : i = N := by omega
      exact he m st h
/-- a value there is, and what holds of it -/
def Tot {α : Type} (Q : α → Prop) (o : Option α) : Prop := ∃ v, o = some v ∧ Q v
theorem Tot.some {α : Type} {Q : α → Prop} {v : α} (h : Q v) : Tot Q (some v) := ⟨v, rfl, h⟩
theorem Tot.bind {α β : Type} {A : α → Prop} {Q : β → Prop} {o : Option α} {f : α → Option β} (h : Tot A o) (k : ∀ v, o = Option.some v → A v → Tot Q (f v)) : Tot Q (Option.bind o f) := by
  obtain ⟨v, e, hv⟩ := h
  rw [e]; exact k v e hv
theorem Tot.bif {α : Type} {Q : α → Prop} {c : Bool} {x y : Option α} (h1 : c = true → Tot Q x) (h2 : c = false → Tot Q y) : Tot Q (bif c then x else y) := by
  cases c
  · exact h2 rfl
  · exact h1 rfl
theorem Tot.weaken {α : Type} {Q Q' : α → Prop} {o : Option α} (h : Tot Q o) (hq : ∀ v, Q v → Q' v) : Tot Q' o := by
  obtain ⟨v, e, hv⟩ := h
  exact ⟨v, e, hq v hv⟩
theorem Tot.get {α : Type} {Q : α → Prop} {xs : List α} {i : Int} (h0 : 0 ≤ i) (h1 : i < xs.length) (h : ∀ x ∈ xs, Q x) : Tot Q (getI xs i) := by
  obtain ⟨x, hx, hm⟩ := getI_in h0 h1
  exact ⟨x, hx, h x hm⟩
theorem Tot.get' {α : Type} {xs : List α} {i : Int} (h0 : 0 ≤ i) (h1 : i < xs.length) : Tot (fun x => x ∈ xs) (getI xs i) := Tot.get h0 h1 fun _ h => h
theorem Tot.app {α : Type} {xs ys : List α} {b : Nat} (h : xs.length + ys.length ≤ 16777216) (hb : b ≤ 1048576) : Tot (fun z => z = xs ++ ys) (appN xs ys b) := ⟨_, appN_ok h hb, rfl⟩
/-- the first place where p holds is sought -/
theorem loop_has {α : Type} {xs : List α} {L : Nat → Int → Option Int} (p : α → Bool) (hs : ∀ (m i : Nat) (h : i < xs.length), L (m + 1) (i : Int) = bif p xs[i] then some (i : Int) else L m ((i + 1 : Nat) : Int))
    (he : ∀ m : Nat, L (m + 1) (xs.length : Int) = some (-1)) (m : Nat) (hm : xs.length < m) : ∃ r, L m 0 = some r ∧ decide (r ≥ 0) = xs.any p := by
  refine loop (L := fun m i (_ : Unit) => L m i) xs.length (fun i _ => xs.any p = (xs.drop i).any p) (fun o => ∃ r, o = some r ∧ decide (r ≥ 0) = xs.any p) ?_ ?_ m 0 () (by omega) (by omega) (by simp)
  · intro m i _ hi h
    rw [List.drop_eq_getElem_cons hi, List.any_cons] at h
    cases hp : p xs[i] with
    | false => refine .inl ⟨(), by rw [h, hp]; simp, ?_⟩; simp only [hs m i hi, hp, cond_false]
    | true => refine .inr ⟨(i : Int), ?_, ?_⟩
              · simp only [hs m i hi, hp, cond_true]
              · rw [h, hp]; simp
  · intro m _ h
    rw [List.drop_length] at h
    exact ⟨-1, he m, by rw [h]; rfl⟩

/-- a source of numbers over the code c -/
structure Src (c : List Int) (s : S_l01Source) : Prop where
  code : s.code_ = c
  at0 : 0 ≤ s.at_ ∧ s.at_ ≤ c.length
  sd : 0 ≤ s.seed_ ∧ s.seed_ < 2147483647
/-- a code that is not big -/
def Cde (c : List Int) : Prop := c.length ≤ 4096 ∧ ∀ x ∈ c, 0 ≤ x ∧ x ≤ 255
theorem tmod_in {a b : Int} (ha : 0 ≤ a) (hb : 0 < b) : 0 ≤ Int.tmod a b ∧ Int.tmod a b < b := ⟨Int.tmod_nonneg _ ha, Int.tmod_lt_of_pos _ hb⟩
theorem Nx {n : Nat} {c : List Int} (hc : Cde c) {s : S_l01Source} (h : Src c s) (k : Int) : Tot (fun r => Src c r.2 ∧ 0 ≤ r.1 ∧ (r.1 < k ∨ r.1 = 0 ∧ k ≤ 1)) (F_spec_l01Next n s k) := by
  obtain ⟨h1, h2, h3⟩ := h
  have hl := hc.1
  rw [F_spec_l01Next]
  refine Tot.bif (fun hk => Tot.some ⟨⟨h1, h2, h3⟩, Int.le_refl _, .inr ⟨rfl, of_decide_eq_true hk⟩⟩) fun hk => ?_
  have hk := of_decide_eq_false hk
  have hk0 : (k == 0) = false := by rw [beq_eq_false_iff_ne]; omega
  refine Tot.bif (fun ha => ?_) fun ha => ?_
  · have ha := of_decide_eq_true ha
    rw [h1] at ha ⊢
    refine Tot.bind (Tot.get h2.1 ha hc.2) fun x _ hx => ?_
    have wx : IntKind.wrap IntKind.i64 x = x := wrap64 (by omega) (by omega)
    have wa : IntKind.wrap IntKind.i64 (s.at_ + 1) = s.at_ + 1 := wrap64 (by omega) (by omega)
    have wm : IntKind.wrap IntKind.i64 (s.seed_ * 48271) = s.seed_ * 48271 := wrap64 (by omega) (by omega)
    simp only [hk0, cond_false, wx, wa, wm, wrap64 (x := s.seed_ * 48271 + x) (by omega) (by omega), wrap64 (x := s.seed_ * 48271 + x + 1) (by omega) (by omega)]
    have m1 := tmod_in (a := s.seed_ * 48271 + x + 1) (b := 2147483647) (by omega) (by omega)
    refine Tot.bif (fun _ => Tot.some ⟨⟨rfl, ⟨?_, ?_⟩, h3⟩, ?_⟩) fun _ => Tot.some ⟨⟨rfl, ⟨?_, ?_⟩, m1⟩, ?_⟩
    · show 0 ≤ s.at_ + 1; omega
    · show s.at_ + 1 ≤ _; omega
    · exact ⟨(tmod_in hx.1 (by omega)).1, .inl (tmod_in hx.1 (by omega)).2⟩
    · show 0 ≤ s.at_ + 1; omega
    · show s.at_ + 1 ≤ _; omega
    · exact ⟨(tmod_in m1.1 (by omega)).1, .inl (tmod_in m1.1 (by omega)).2⟩
  · have wm : IntKind.wrap IntKind.i64 (s.seed_ * 48271) = s.seed_ * 48271 := wrap64 (by omega) (by omega)
    have m1 := tmod_in (a := s.seed_ * 48271 + 11) (b := 2147483647) (by omega) (by omega)
    simp only [hk0, cond_false, wm, wrap64 (x := s.seed_ * 48271 + 11) (by omega) (by omega)]
    generalize Int.tmod (s.seed_ * 48271 + 11) 2147483647 = q at *
    have d0 : 0 ≤ Int.tdiv q 7 := Int.tdiv_nonneg m1.1 (by omega)
    have d1 : Int.tdiv q 7 ≤ q := Int.tdiv_le_self _ m1.1
    rw [wrap64 (x := Int.tdiv q 7) (by omega) (by omega)]
    exact Tot.some ⟨⟨h1, h2, m1⟩, (tmod_in d0 (by omega)).1, .inl (tmod_in d0 (by omega)).2⟩
theorem Src.mk2 {c d : List Int} {s : S_l01Source} (h : Src c s) (e : d = c) : Src c (S_l01Source.mk d s.at_ s.seed_) := ⟨e, h.at0, h.sd⟩
theorem Fr {n : Nat} {c : List Int} (hc : Cde c) (hn : 1048577 ≤ n) : Tot (fun r => Src c r) (F_spec_l01From n c) := by
  have hl := hc.1
  rw [F_spec_l01From]
  refine loopw (L := fun m i (p : Int × Int) => F_spec_l01From_L1 c (fun i12 i14 i15 => (some ((S_l01Source.mk c i14 i15)))) m i p.1 p.2) (min c.length 64) (fun _ p => p.1 = 0 ∧ 0 ≤ p.2 ∧ p.2 < 2147483647) _ ?_ ?_ n 0 (0, 12345) (by omega) (by omega) ⟨rfl, by omega, by omega⟩
  · intro m i ⟨a, sd⟩ hi ⟨h1, h2⟩ ih
    dsimp only at h1 h2 ⊢
    have hi1 : i < c.length := by omega
    have hx := hc.2 _ (List.getElem_mem hi1)
    simp only [F_spec_l01From_L1_s, dlt hi1, dlt (show i < 64 by omega), Bool.and_self, cond_true, getI_el hi1, Option.bind_some, show ((64 : Int)) = ((64 : Nat) : Int) from rfl, wS (show i < 4611686018427387904 by omega)]
    generalize c[i] = x at *
    rw [wrap64 (x := sd * 31) (by omega) (by omega), wrap64 (x := x) (by omega) (by omega), wrap64 (x := sd * 31 + x) (by omega) (by omega)]
    have m1 := tmod_in (a := sd * 31 + x) (b := 2147483647) (by omega) (by omega)
    exact ih (a, _) ⟨h1, m1⟩
  · intro m ⟨a, sd⟩ ⟨h1, h2⟩
    dsimp only at h1 h2 ⊢
    have : (decide (((min c.length 64 : Nat) : Int) < (c.length : Int)) && decide (((min c.length 64 : Nat) : Int) < 64)) = false := by
      rw [Bool.and_eq_false_iff, decide_eq_false_iff_not, decide_eq_false_iff_not]; omega
    simp only [F_spec_l01From_L1_s, this, cond_false]
    exact Tot.some ⟨rfl, ⟨by subst h1; exact Int.le_refl _, by subst h1; exact Int.natCast_nonneg _⟩, h2⟩
theorem Cde.of {code : List Int} (hR : code.length ≤ 9223372036854775807 ∧ ∀ x ∈ code, inK .u8 x) (h : ¬ (code.length : Int) > 4096) : Cde code := ⟨by omega, fun x hx => hR.2 x hx⟩

def lowB (b : UInt8) : Bool := decide ((b.toNat : Int) ≥ 97) && decide ((b.toNat : Int) ≤ 122)
def digB (b : UInt8) : Bool := decide ((b.toNat : Int) ≥ 48) && decide ((b.toNat : Int) ≤ 57)
def nameB (s : ByteArray) : Bool := (decide ((s.size : Int) ≥ 1) && decide ((s.size : Int) ≤ 8)) && (s.data.toList.all fun b => lowB b || digB b) && (s.data.toList.take 1).all lowB
theorem size_list (s : ByteArray) : s.size = s.data.toList.length := by rw [Array.length_toList]; rfl
theorem getB_el {s : ByteArray} {i : Nat} (h : i < s.data.toList.length) : getB s (i : Int) = some ((s.data.toList[i].toNat : Nat) : Int) := by
  unfold getB
  rw [if_pos (by omega), Int.toNat_natCast]
  have : s[i]? = some s.data.toList[i] := by
    have hs : i < s.size := by rw [size_list]; exact h
    rw [show s[i]? = some s[i] from getElem?_pos s i hs]
    rfl
  rw [this]; rfl
theorem all_u8 (p q : UInt8 → Bool) (h : (List.range 256).all (fun i => p (UInt8.ofNat i) == q (UInt8.ofNat i)) = true) (b : UInt8) : p b = q b := by
  have := List.all_eq_true.1 h b.toNat (List.mem_range.2 b.toNat_lt)
  rw [UInt8.ofNat_toNat] at this
  exact eq_of_beq this
def lettersL : List UInt8 := [97, 98, 99, 100, 101, 102, 103, 104, 105, 106, 107, 108, 109, 110, 111, 112, 113, 114, 115, 116, 117, 118, 119, 120, 121, 122]
def nameL : List UInt8 := [97, 98, 99, 100, 101, 102, 103, 104, 105, 106, 107, 108, 109, 110, 111, 112, 113, 114, 115, 116, 117, 118, 119, 120, 121, 122, 48, 49, 50, 51, 52, 53, 54, 55, 56, 57]
theorem nameL_is (b : UInt8) : nameL.contains b = (lowB b || digB b) := all_u8 (fun b => nameL.contains b) (fun b => lowB b || digB b) (by decide +kernel) b
theorem lettersL_is (b : UInt8) : lettersL.contains b = lowB b := all_u8 (fun b => lettersL.contains b) (fun b => lowB b) (by decide +kernel) b
theorem take1_all {p : UInt8 → Bool} : ∀ {l : List UInt8} (h : 0 < l.length), (l.take 1).all p = p l[0]
  | [], h => by simp at h
  | a :: r, _ => by simp
theorem dropWhile_nil {p : UInt8 → Bool} : ∀ (l : List UInt8), (l.dropWhile p = []) ↔ l.all p = true
  | [] => by simp
  | a :: l => by
    rw [List.dropWhile_cons, List.all_cons]
    cases h : p a with
    | true => simpa using dropWhile_nil l
    | false => simp
theorem dropWhile_head {p : UInt8 → Bool} : ∀ {l : List UInt8} {a : UInt8} {r : List UInt8}, l.dropWhile p = a :: r → p a = false
  | b :: l, a, r, h => by
    rw [List.dropWhile_cons] at h
    split at h
    · exact dropWhile_head h
    · next q => simp only [List.cons.injEq] at h; rw [← h.1]; simpa using q
theorem trim_nil (l cs : List UInt8) : (Lib.trimS l cs == []) = l.all (cs.contains ·) := by
  rw [Bool.eq_iff_iff, beq_iff_eq]
  unfold Lib.trimS Lib.trimLeftS Lib.trimRightS
  rw [dropWhile_nil, List.all_reverse]
  rw [show l.all (cs.contains ·) = l.reverse.all (cs.contains ·) by rw [List.all_reverse]]
  constructor
  · intro h
    cases hd : l.reverse.dropWhile (cs.contains ·) with
    | nil => exact (dropWhile_nil _).1 hd
    | cons a r =>
      have h1 := dropWhile_head hd
      rw [hd, List.all_cons, h1] at h
      cases h
  · intro h
    rw [(dropWhile_nil _).2 h]; rfl
theorem indexByte_ge : ∀ (l : List UInt8) (c : UInt8), decide (Lib.indexByte l c ≥ 0) = l.contains c ∧ Lib.indexByte l c ≥ -1
  | [], c => by simp [Lib.indexByte]
  | b :: l, c => by
    obtain ⟨h1, h2⟩ := indexByte_ge l c
    rw [Lib.indexByte, List.contains_cons]
    by_cases e : b = c
    · subst e; simp
    · have e1 : (b == c) = false := beq_eq_false_iff_ne.2 e
      have e2 : (c == b) = false := beq_eq_false_iff_ne.2 fun q => e q.symm
      rw [e1, e2, Bool.false_or, ← h1]
      by_cases h : Lib.indexByte l c = -1
      · rw [h]; simp
      · have : (Lib.indexByte l c == -1) = false := beq_eq_false_iff_ne.2 h
        rw [this]
        have hge : Lib.indexByte l c ≥ 0 := by omega
        rw [decide_eq_true hge]
        simp only [Bool.false_eq_true, if_false]
        exact ⟨decide_eq_true (by omega), by omega⟩
theorem Nm1 {n : Nat} {s : ByteArray} (hs : s.size ≤ 1048576) (hn : 1048577 ≤ n) : F_impl_isName n s = some (nameB s) := by
  rw [F_impl_isName, F_impl_within, Option.bind_some]
  unfold nameB
  cases hw : (decide ((s.size : Int) ≥ 1) && decide ((s.size : Int) ≤ 8)) with
  | false => simp
  | true =>
    have hsz : 1 ≤ s.size := by simp only [Bool.and_eq_true, decide_eq_true_eq] at hw; omega
    have ht : F_strings_Trim n s ((ByteArray.mk #[97, 98, 99, 100, 101, 102, 103, 104, 105, 106, 107, 108, 109, 110, 111, 112, 113, 114, 115, 116, 117, 118, 119, 120, 121, 122, 48, 49, 50, 51, 52, 53, 54, 55, 56, 57])) = some ⟨(Lib.trimS s.data.toList nameL).toArray⟩ := by
      unfold F_strings_Trim
      rw [if_pos ⟨by omega, by decide, by decide⟩]; rfl
    simp only [cond_true, ht, Option.bind_some, Bool.true_and]
    have hb : ((⟨(Lib.trimS s.data.toList nameL).toArray⟩ : ByteArray).toList == ((ByteArray.mk #[])).toList) = (s.data.toList.all fun b => lowB b || digB b) := by
      rw [Lib.toList_data, Lib.toList_data]
      show ((Lib.trimS s.data.toList nameL) == []) = _
      rw [trim_nil]
      congr 1
      funext b; exact nameL_is b
    rw [hb]
    cases (s.data.toList.all fun b => lowB b || digB b) with
    | false => simp
    | true =>
      rw [size_list] at hsz
      have hg := getB_el (s := s) (i := 0) (by omega)
      simp only [cond_true, show ((0 : Int)) = ((0 : Nat) : Int) from rfl, hg, Option.bind_some, F_strings_IndexByte, Bool.true_and]
      have h1 := (indexByte_ge lettersL (s.data.toList[0])).1
      rw [lettersL_is] at h1
      have e1 : (((s.data.toList[0].toNat : Nat) : Int).toNat.toUInt8) = s.data.toList[0] := by rw [Int.toNat_natCast]; exact UInt8.ofNat_toNat
      rw [e1]
      have e2 : (s.data.toList.take 1).all lowB = lowB s.data.toList[0] := take1_all (by omega)
      rw [e2, ← h1]; rfl
theorem Nm2 {n : Nat} {s : ByteArray} (hs : s.size ≤ 1048576) (hn : 1048577 ≤ n) : F_spec_l03Name n s = some (nameB s) := by
  rw [F_spec_l03Name]
  have hl := size_list s
  refine loop (L := fun m i (_ : Unit) => F_spec_l03Name_L1 s _ m i) s.data.toList.length (fun i _ => nameB s = ((decide ((s.size : Int) ≥ 1) && decide ((s.size : Int) ≤ 8)) && ((s.data.toList.drop i).all fun b => lowB b || digB b) && ((s.data.toList.take 1).drop i).all lowB)) (fun r => r = some (nameB s)) ?_ ?_ n 0 () (by omega) (by omega) (by simp [nameB])
  · intro m i _ hi hI
    have g := getB_el hi
    have hd : decide ((i : Int) < (s.size : Int)) = true := decide_eq_true (by omega)
    have key : F_spec_l03Name_L1 s (fun i3 => (some (((decide ((s.size : Int) ≥ 1)) && (decide ((s.size : Int) ≤ 8)))))) (m + 1) (i : Int) = bif (!lowB s.data.toList[i] && !(digB s.data.toList[i] && decide (0 < i))) then some false else F_spec_l03Name_L1 s (fun i3 => (some (((decide ((s.size : Int) ≥ 1)) && (decide ((s.size : Int) ≤ 8)))))) m ((i + 1 : Nat) : Int) := by
      have e0 : decide ((i : Int) > 0) = decide (0 < i) := by by_cases h : 0 < i <;> simp [h] <;> omega
      simp only [F_spec_l03Name_L1_s, hd, cond_true, g, Option.bind_some, bif_and, wS (show i < 4611686018427387904 by omega), e0]
      rfl
    by_cases hc : (!lowB s.data.toList[i] && !(digB s.data.toList[i] && decide (0 < i))) = true
    · refine .inr ?_
      show F_spec_l03Name_L1 s _ (m + 1) (i : Int) = _
      rw [key, hc, cond_true]
      have : nameB s = false := by
        rw [hI, List.drop_eq_getElem_cons hi, List.all_cons]
        simp only [Bool.and_eq_true, Bool.not_eq_true', Bool.and_eq_false_iff, decide_eq_false_iff_not] at hc
        obtain ⟨h1, h2⟩ := hc
        rw [h1]
        rcases h2 with h2 | h2
        · rw [h2]; simp
        · obtain rfl : i = 0 := by omega
          rw [List.drop_zero, take1_all hi, h1]; simp
      rw [this]
    · refine .inl ⟨(), ?_, ?_⟩
      · rw [hI, List.drop_eq_getElem_cons hi, List.all_cons]
        have hc := Bool.eq_false_iff.2 hc
        simp only [Bool.and_eq_false_iff, Bool.not_eq_false', Bool.and_eq_true, decide_eq_true_eq] at hc
        by_cases h0 : i = 0
        · subst h0
          have h1 : lowB s.data.toList[0] = true := by
            rcases hc with h | h
            · exact h
            · omega
          have e2 : (s.data.toList.take 1).drop (0 + 1) = [] := List.drop_eq_nil_of_le (by simp; omega)
          rw [List.drop_zero, take1_all hi, e2, h1]; simp
        · have e1 : (s.data.toList.take 1).drop i = [] := List.drop_eq_nil_of_le (by simp; omega)
          have e2 : (s.data.toList.take 1).drop (i + 1) = [] := List.drop_eq_nil_of_le (by simp; omega)
          rw [e1, e2]
          have : (lowB s.data.toList[i] || digB s.data.toList[i]) = true := by
            rcases hc with h | h
            · rw [h]; rfl
            · rw [h.1]; simp
          rw [this]; simp
      · show F_spec_l03Name_L1 s _ (m + 1) (i : Int) = F_spec_l03Name_L1 s _ m ((i + 1 : Nat) : Int)
        rw [key, Bool.eq_false_iff.2 hc, cond_false]
  · intro m _ hI
    have hd : decide (((s.data.toList.length : Nat) : Int) < (s.size : Int)) = false := decide_eq_false (by omega)
    simp only [F_spec_l03Name_L1_s, hd, cond_false]
    rw [hI, List.drop_length, List.drop_eq_nil_of_le (by simp; omega)]
    simp

def toW (w : S_l14Wave) : S_wave := S_wave.mk w.period_ (A2_Int.mk w.rise_ w.fall_)
theorem wv_eq : ∀ (n : Nat) (l : List S_Clock) (k : Int), F_impl_waveOf n l k = (F_spec_l14Of n l k).map toW
  | 0, l, k => rfl
  | n + 1, l, k => by
    rw [F_impl_waveOf_s, F_spec_l14Of_s]
    cases getI l k with
    | none => rfl
    | some x =>
      simp only [Option.bind_some]
      cases decide (x.Source < 0) with
      | true => rfl
      | false =>
        simp only [cond_false, wv_eq n l]
        cases F_spec_l14Of n l x.Source with
        | none => rfl
        | some w =>
          simp only [Option.map_some, Option.bind_some, toW]
          cases decide (x.Divide > 1) <;> cases x.Invert <;> simp [toW, Int.mul_comm]
def ctlB (c : S_Clock) : Bool := (((decide (c.Place ≥ 0) && (decide (c.EarlyLatency ≥ 0) && decide (c.EarlyLatency ≤ 100000))) && (decide (c.LateLatency ≥ c.EarlyLatency) && decide (c.LateLatency ≤ 100000))) && (decide (c.Uncertainty ≥ 0) && decide (c.Uncertainty ≤ 100000)))
def primB (c : S_Clock) : Bool := ((((((decide (c.Period ≥ 2) && decide (c.Period ≤ 100000)) && (decide (c.RiseAt ≥ 0) && decide (c.RiseAt ≤ IntKind.wrap IntKind.i64 (c.Period - 1)))) && (decide (c.FallAt ≥ 0) && decide (c.FallAt ≤ IntKind.wrap IntKind.i64 (c.Period - 1)))) && (c.RiseAt != c.FallAt)) && (c.Divide == 1)) && (!c.Invert))
def genB (c : S_Clock) (k : Nat) : Bool := (((((decide (c.Source ≥ 0) && decide (c.Source ≤ (k : Int) - 1)) && (decide (c.Divide ≥ 1) && decide (c.Divide ≤ 8))) && (c.Period == 0)) && (c.RiseAt == 0)) && (c.FallAt == 0))
def perB (n : Nat) (l : List S_Clock) (k : Nat) : Bool := match F_spec_l14Of n l k with
  | some w => decide (w.period_ ≤ 100000)
  | none => false
def clkB (n : Nat) (l : List S_Clock) (k : Nat) (c : S_Clock) : Bool := ctlB c && (bif c.Source == -1 then primB c else genB c k && perB n l k)
theorem Pl1 (n : Nat) (c : S_Clock) (hs : c.Name.size ≤ 1048576) (hn : 1048577 ≤ n) : F_spec_l14Plain n c = some (nameB c.Name && ctlB c) := by
  rw [F_spec_l14Plain, Nm2 hs hn]
  simp only [F_spec_l01In, Option.bind_some, bif_and, ctlB, Bool.and_assoc]
theorem Pr1 (n : Nat) (c : S_Clock) : F_spec_l14Primary n c = some (primB c) := by
  rw [F_spec_l14Primary]
  simp only [F_spec_l01In, Option.bind_some, bif_and, primB, Bool.and_assoc]
theorem Pr2 (n : Nat) (c : S_Clock) : F_impl_Clock_isPrimary n c = some (primB c) := by
  rw [F_impl_Clock_isPrimary]
  simp only [F_impl_within, Option.bind_some, bif_and, primB, Bool.and_assoc]
/-- a wave within its period -/
structure WOK (B : Int) (w : S_l14Wave) : Prop where
  p : 2 ≤ w.period_ ∧ w.period_ ≤ B
  r : 0 ≤ w.rise_ ∧ w.rise_ < w.period_
  f : 0 ≤ w.fall_ ∧ w.fall_ < w.period_
  d : w.rise_ ≠ w.fall_
/-- the wave of the clock k is w, however deep one may go -/
def Wv (l : List S_Clock) (k : Nat) (w : S_l14Wave) : Prop := ∀ m, k < m → F_spec_l14Of m l (k : Int) = some w
theorem prim_of {c : S_Clock} (h : primB c = true) : (2 ≤ c.Period ∧ c.Period ≤ 100000) ∧ (0 ≤ c.RiseAt ∧ c.RiseAt < c.Period) ∧ (0 ≤ c.FallAt ∧ c.FallAt < c.Period) ∧ c.RiseAt ≠ c.FallAt := by
  simp only [primB, Bool.and_eq_true, decide_eq_true_eq, bne_iff_ne, ne_eq] at h
  obtain ⟨⟨⟨⟨⟨h1, h2⟩, h3⟩, h4⟩, h5⟩, h6⟩ := h
  rw [wrap64 (by omega) (by omega)] at h2 h3
  exact ⟨by omega, by omega, by omega, h4⟩
theorem gen_of {c : S_Clock} {k : Nat} (h : genB c k = true) : (0 ≤ c.Source ∧ c.Source < k) ∧ (1 ≤ c.Divide ∧ c.Divide ≤ 8) := by
  simp only [genB, Bool.and_eq_true, decide_eq_true_eq] at h
  omega
theorem wave_div {p r D : Int} (hp : 2 ≤ p ∧ p ≤ 100000) (hr : 0 ≤ r ∧ r < p) (hD : 1 < D ∧ D ≤ 8) :
    IntKind.wrap IntKind.i64 (p * D) = p * D ∧ IntKind.wrap IntKind.i64 (r + IntKind.wrap IntKind.i64 (IntKind.wrap IntKind.i64 (Int.tdiv D 2) * p)) = r + D / 2 * p ∧ (2 ≤ p * D ∧ p * D ≤ 800000) ∧ r < p * D ∧ (0 ≤ r + D / 2 * p ∧ r + D / 2 * p < p * D) ∧ r ≠ r + D / 2 * p := by
  have : D = 2 ∨ D = 3 ∨ D = 4 ∨ D = 5 ∨ D = 6 ∨ D = 7 ∨ D = 8 := by omega
  rw [Int.tdiv_eq_ediv_of_nonneg (by omega), wrap64 (x := D / 2) (by omega) (by omega)]
  rcases this with rfl | rfl | rfl | rfl | rfl | rfl | rfl <;>
    (rw [wrap64 (x := p * _) (by omega) (by omega), wrap64 (x := _ / 2 * p) (by omega) (by omega), wrap64 (by omega) (by omega)]; omega)
theorem WE {l : List S_Clock} {k : Nat} (hk : k < l.length) (prior : ∀ s, s < k → ∃ w, WOK 100000 w ∧ Wv l s w) (hc : (l[k].Source = -1 ∧ primB l[k] = true) ∨ genB l[k] k = true) : ∃ w, WOK 800000 w ∧ Wv l k w := by
  rcases hc with ⟨h1, h2⟩ | h1
  · have := prim_of h2
    refine ⟨S_l14Wave.mk l[k].Period l[k].RiseAt l[k].FallAt, ⟨⟨this.1.1, by show l[k].Period ≤ _; omega⟩, this.2.1, this.2.2.1, this.2.2.2⟩, fun m hm => ?_⟩
    obtain ⟨m, rfl⟩ : ∃ q, m = q + 1 := ⟨m - 1, by omega⟩
    rw [F_spec_l14Of_s, getI_el hk, Option.bind_some, decide_eq_true (by omega)]; rfl
  · obtain ⟨g1, g2⟩ := gen_of h1
    obtain ⟨s, hs⟩ := Int.eq_ofNat_of_zero_le g1.1
    obtain ⟨w, hw, hW⟩ := prior s (by omega)
    have key : ∀ m, k < m + 1 → F_spec_l14Of (m + 1) l (k : Int) = (bif decide (l[k].Divide > 1) then (bif l[k].Invert then (some ((S_l14Wave.mk (IntKind.wrap IntKind.i64 (w.period_ * l[k].Divide)) (IntKind.wrap IntKind.i64 (w.rise_ + (IntKind.wrap IntKind.i64 ((IntKind.wrap IntKind.i64 (Int.tdiv l[k].Divide 2)) * w.period_)))) w.rise_))) else (some ((S_l14Wave.mk (IntKind.wrap IntKind.i64 (w.period_ * l[k].Divide)) w.rise_ (IntKind.wrap IntKind.i64 (w.rise_ + (IntKind.wrap IntKind.i64 ((IntKind.wrap IntKind.i64 (Int.tdiv l[k].Divide 2)) * w.period_)))))))) else (bif l[k].Invert then (some ((S_l14Wave.mk w.period_ w.fall_ w.rise_))) else (some w))) := by
      intro m hm
      rw [F_spec_l14Of_s, getI_el hk, Option.bind_some, decide_eq_false (by omega), cond_false, hs, hW m (by omega), Option.bind_some]
    by_cases hd : l[k].Divide > 1
    · obtain ⟨e1, e2, b1, b2, b3, b4⟩ := wave_div hw.p hw.r ⟨hd, g2.2⟩
      rw [decide_eq_true hd] at key
      simp only [cond_true, e1, e2] at key
      have h0 := hw.r.1
      cases hi : l[k].Invert with
      | true => exact ⟨S_l14Wave.mk _ _ _, ⟨b1, b3, ⟨h0, b2⟩, fun e => b4 e.symm⟩, fun m hm => by
          obtain ⟨m, rfl⟩ : ∃ q, m = q + 1 := ⟨m - 1, by omega⟩
          rw [key m hm, hi]; rfl⟩
      | false => exact ⟨S_l14Wave.mk _ _ _, ⟨b1, ⟨h0, b2⟩, b3, b4⟩, fun m hm => by
          obtain ⟨m, rfl⟩ : ∃ q, m = q + 1 := ⟨m - 1, by omega⟩
          rw [key m hm, hi]; rfl⟩
    · rw [decide_eq_false hd] at key
      simp only [cond_false] at key
      have hp := hw.p
      cases hi : l[k].Invert with
      | true => exact ⟨S_l14Wave.mk w.period_ w.fall_ w.rise_, ⟨⟨hp.1, by show w.period_ ≤ _; omega⟩, hw.f, hw.r, fun e => hw.d e.symm⟩, fun m hm => by
          obtain ⟨m, rfl⟩ : ∃ q, m = q + 1 := ⟨m - 1, by omega⟩
          rw [key m hm, hi]; rfl⟩
      | false => exact ⟨w, ⟨⟨hp.1, by omega⟩, hw.r, hw.f, hw.d⟩, fun m hm => by
          obtain ⟨m, rfl⟩ : ∃ q, m = q + 1 := ⟨m - 1, by omega⟩
          rw [key m hm, hi]; rfl⟩
theorem clk_of {n : Nat} {l : List S_Clock} {k : Nat} {c : S_Clock} (h : clkB n l k c = true) : (c.Source = -1 ∧ primB c = true) ∨ (c.Source ≠ -1 ∧ genB c k = true ∧ perB n l k = true) := by
  simp only [clkB, Bool.and_eq_true] at h
  by_cases e : c.Source = -1
  · rw [e] at h; exact .inl ⟨e, h.2⟩
  · have : (c.Source == -1) = false := beq_eq_false_iff_ne.2 e
    rw [this, cond_false, Bool.and_eq_true] at h
    exact .inr ⟨e, h.2⟩
/-- the waves of a list whose clocks below k are valid -/
theorem WA {n : Nat} {l : List S_Clock} : ∀ (k : Nat), k ≤ l.length → k ≤ n → (∀ j (h : j < l.length), j < k → clkB n l j l[j] = true) → ∀ s, s < k → ∃ w, WOK 100000 w ∧ Wv l s w
  | 0, _, _, _, s, hs => by omega
  | k + 1, hk, hn, h, s, hs => by
    have ih := WA k (by omega) (by omega) (fun j hj hjk => h j hj (by omega))
    by_cases e : s = k
    · subst e
      have hc := clk_of (h s (by omega) (by omega))
      obtain ⟨w, hw, hW⟩ := WE (l := l) (k := s) (by omega) ih (hc.elim .inl fun q => .inr q.2.1)
      refine ⟨w, ⟨⟨hw.p.1, ?_⟩, hw.r, hw.f, hw.d⟩, hW⟩
      rcases hc with ⟨h1, h2⟩ | ⟨_, _, h3⟩
      · have := prim_of h2
        have q := hW (s + 1) (by omega)
        rw [F_spec_l14Of_s, getI_el (by omega), Option.bind_some, decide_eq_true (by omega), cond_true] at q
        have := Option.some.inj q
        rw [← this]; show l[s].Period ≤ _; omega
      · rw [perB, hW n (by omega)] at h3
        exact of_decide_eq_true h3
    · exact ih s (by omega)
theorem IC1 {n : Nat} {l : List S_Clock} {k : Nat} (hk : k < l.length) (hm : l.length ≤ 1048576) (hn : 1048577 ≤ n) (prior : ∀ s, s < k → ∃ w, WOK 100000 w ∧ Wv l s w) : F_impl_isClock n l k = some (clkB n l k l[k]) := by
  rw [F_impl_isClock, getI_el hk, Option.bind_some]
  have ew : IntKind.wrap IntKind.i64 ((k : Int) - 1) = (k : Int) - 1 := wrap64 (by omega) (by omega)
  simp only [F_impl_within, Option.bind_some, bif_or, bif_and, ew]
  generalize hc : l[k] = c
  have e1 : ((((((decide (c.Place < 0)) || (decide (c.EarlyLatency < 0)))) || (decide (c.EarlyLatency > c.LateLatency)))) || (decide (c.LateLatency > 100000)) || !(decide (c.Uncertainty ≥ 0) && decide (c.Uncertainty ≤ 100000))) = !ctlB c := by
    rw [Bool.eq_iff_iff]
    simp only [ctlB, Bool.or_eq_true, Bool.not_eq_true', Bool.and_eq_false_iff, decide_eq_true_eq, decide_eq_false_iff_not]
    omega
  rw [e1]
  unfold clkB
  cases ctlB c with
  | false => rfl
  | true =>
    simp only [Bool.not_true, cond_false, Bool.true_and]
    cases hs : (c.Source == -1) with
    | true => simp only [cond_true, Pr2, Option.bind_some]
    | false =>
      simp only [cond_false]
      have e2 : (((((decide (c.Source ≥ 0) && decide (c.Source ≤ (k : Int) - 1)) && (decide (c.Divide ≥ 1) && decide (c.Divide ≤ 8))) && (c.Period == 0)) && (c.RiseAt == 0)) && (c.FallAt == 0)) = genB c k := rfl
      simp only [Bool.and_assoc] at e2 ⊢
      rw [e2]
      cases hg : genB c k with
      | false => rfl
      | true =>
        obtain ⟨w, hw, hW⟩ := WE hk prior (.inr (by rw [hc]; exact hg))
        simp only [cond_true, wv_eq, perB, hW n (by omega), Option.map_some, Option.bind_some, Bool.true_and, toW]
/-- a valid list of clocks -/
structure VC (n : Nat) (l : List S_Clock) : Prop where
  few : l.length ≤ 6
  nm : ∀ k (h : k < l.length), nameB l[k].Name = true
  ck : ∀ k (h : k < l.length), clkB n l k l[k] = true
  df : ∀ k (h : k < l.length) i (hi : i < k), (l[i].Name.toList == l[k].Name.toList) = false
def Tells (P : Prop) (r : Option Bool) : Prop := ∃ b : Bool, r = some b ∧ (b = true ↔ P)
theorem Tells.no {P : Prop} (h : ¬ P) : Tells P (some false) := ⟨false, rfl, by simp [h]⟩
theorem Tells.yes {P : Prop} (h : P) : Tells P (some true) := ⟨true, rfl, by simp [h]⟩
theorem Tells.eq {P : Prop} {r q : Option Bool} (h : Tells P r) (k : Tells P q) : r = q := by
  obtain ⟨b, rfl, h⟩ := h
  obtain ⟨c, rfl, k⟩ := k
  have : b = c := Bool.eq_iff_iff.2 (h.trans k.symm)
  rw [this]
theorem SC {n : Nat} {l : List S_Clock} (hm : l.length ≤ 1048576) (hs : ∀ x ∈ l, SM_Clock x) (hn : 1048577 ≤ n) : Tells (VC n l) (F_spec_IsClocks n l) := by
  rw [F_spec_IsClocks]
  by_cases h6 : l.length ≤ 6
  · have d6 : decide ((l.length : Int) ≤ 6) = true := decide_eq_true (by omega)
    refine loopw (L := fun m i (_ : Unit) => F_spec_IsClocks_L1 n l _ m i) l.length (fun i _ => ∀ k (h : k < l.length), k < i → nameB l[k].Name = true ∧ clkB n l k l[k] = true ∧ ∀ q (hq : q < k), (l[q].Name.toList == l[k].Name.toList) = false) (Tells (VC n l)) ?_ ?_ n 0 () (by omega) (by omega) (fun k h hk => by omega)
    · intro m i _ hi hI ih
      have hN : l[i].Name.size ≤ 1048576 := (hs _ (List.getElem_mem hi)).1
      rw [F_spec_IsClocks_L1_s, dlt hi, d6]
      simp only [d6] at ih
      simp only [Bool.and_self, cond_true, getI_el hi, Option.bind_some, Pl1 n l[i] hN hn]
      cases hp : (nameB l[i].Name && ctlB l[i]) with
      | false =>
        refine Tells.no fun hv => ?_
        have h1 := hv.nm i hi
        have h2 := hv.ck i hi
        rw [h1, Bool.true_and] at hp
        simp only [clkB, hp, Bool.false_and] at h2
        cases h2
      | true =>
        simp only [Bool.and_eq_true] at hp
        simp only [Bool.not_true, cond_false]
        refine loop (L := fun m j (_ : Unit) => F_spec_IsClocks_L2 l (i : Int) l[i] _ m j) i (fun j _ => ∀ q (hq : q < i), q < j → (l[q].Name.toList == l[i].Name.toList) = false) _ ?_ ?_ n 0 () (by omega) (by omega) (fun q _ h => by omega)
        · intro m j _ hj hJ
          cases he : (l[j].Name.toList == l[i].Name.toList) with
          | true =>
            refine .inr ?_
            simp only [F_spec_IsClocks_L2_s, dlt hj, cond_true, getI_el (show j < l.length by omega), Option.bind_some, he]
            refine Tells.no fun hv => ?_
            rw [hv.df i hi j hj] at he; cases he
          | false =>
            refine .inl ⟨(), fun q hq hqj => ?_, ?_⟩
            · by_cases e : q = j
              · subst e; exact he
              · exact hJ q hq (by omega)
            · simp only [F_spec_IsClocks_L2_s, dlt hj, cond_true, getI_el (show j < l.length by omega), Option.bind_some, he, cond_false, wS (show j < 4611686018427387904 by omega)]
        · intro m _ hJ
          have ew : IntKind.wrap IntKind.i64 ((i : Int) - 1) = (i : Int) - 1 := wrap64 (by omega) (by omega)
          simp only [F_spec_IsClocks_L2_s, dnl, cond_false, Pr1, F_spec_l01In, Option.bind_some, ew, wS (show i < 4611686018427387904 by omega), bif_or]
          have prior : ∀ s, s < i → ∃ w, WOK 100000 w ∧ Wv l s w := WA i (by omega) (by omega) fun j hj hji => (hI j hj hji).2.1
          have go : clkB n l i l[i] = true → ∀ k (h : k < l.length), k < i + 1 → nameB l[k].Name = true ∧ clkB n l k l[k] = true ∧ ∀ q (hq : q < k), (l[q].Name.toList == l[k].Name.toList) = false := by
            intro hc k h hk
            by_cases e : k = i
            · subst e; exact ⟨hp.1, hc, fun q hq => hJ q hq hq⟩
            · exact hI k h (by omega)
          cases hsrc : (l[i].Source == -1) with
          | true =>
            simp only [cond_true]
            cases hpr : primB l[i] with
            | false =>
              refine Tells.no fun hv => ?_
              have h2 := hv.ck i hi
              simp only [clkB, hsrc, cond_true, hpr, Bool.and_false] at h2; cases h2
            | true =>
              simp only [Bool.not_true, cond_false]
              exact ih () (go (by simp only [clkB, hsrc, cond_true, hpr, hp.2, Bool.and_self]))
          | false =>
            simp only [cond_false]
            have eg : (((((!((decide (l[i].Source ≥ 0)) && (decide (l[i].Source ≤ (i : Int) - 1))) || !((decide (l[i].Divide ≥ 1)) && (decide (l[i].Divide ≤ 8)))) || (l[i].Period != 0)) || (l[i].RiseAt != 0)) || (l[i].FallAt != 0))) = !genB l[i] i := by
              simp only [genB, Bool.not_and, bne]
            rw [eg]
            cases hg : genB l[i] i with
            | false =>
              simp only [Bool.not_false, cond_true, Option.bind_some]
              refine Tells.no fun hv => ?_
              have h2 := hv.ck i hi
              simp only [clkB, hsrc, cond_false, hg, Bool.false_and, Bool.and_false] at h2; cases h2
            | true =>
              obtain ⟨w, hw, hW⟩ := WE hi prior (.inr hg)
              simp only [Bool.not_true, cond_false, hW n (by omega), Option.bind_some]
              by_cases hpd : w.period_ ≤ 100000
              · rw [decide_eq_false (show ¬ w.period_ > 100000 by omega)]
                simp only [cond_false]
                exact ih () (go (by simp only [clkB, hsrc, cond_false, hg, hp.2, perB, hW n (show i < n by omega), decide_eq_true hpd, Bool.and_self]))
              · rw [decide_eq_true (show w.period_ > 100000 by omega)]
                refine Tells.no fun hv => ?_
                have h2 := hv.ck i hi
                simp only [clkB, hsrc, cond_false, perB, hW n (show i < n by omega), decide_eq_false hpd, Bool.and_false] at h2; cases h2
    · intro m _ hI
      simp only [F_spec_IsClocks_L1_s, dnl, Bool.false_and, cond_false, d6]
      exact Tells.yes (VC.mk h6 (fun k h => (hI k h h).1) (fun k h => (hI k h h).2.1) (fun k h i hi => (hI k h h).2.2 i hi))
  · have d6 : decide ((l.length : Int) ≤ 6) = false := decide_eq_false (by omega)
    obtain ⟨q, rfl⟩ : ∃ q, n = q + 1 := ⟨n - 1, by omega⟩
    rw [F_spec_IsClocks_L1_s, d6]
    simp only [Bool.and_false, cond_false]
    exact Tells.no fun hv => h6 hv.few
theorem Ct1 {n : Nat} {xs : List ByteArray} {x : ByteArray} (h : xs.length ≤ 1048576) (hn : 1048577 ≤ n) : F_slices_Contains_string_string n xs x = some (xs.any fun y => x.toList == y.toList) := by
  rw [F_slices_Contains_string_string, F_slices_Index_string_string]
  obtain ⟨r, e1, e2⟩ := loop_has (xs := xs) (L := fun m i => F_slices_Index_string_string_L1 xs x (fun i5 => (some (-1))) m i) (fun y => x.toList == y.toList) (fun m i hi => by
    simp only [F_slices_Index_string_string_L1_s, dlt hi, cond_true, getI_el hi, Option.bind_some, wS (show i < 4611686018427387904 by omega)]) (fun m => by
    simp only [F_slices_Index_string_string_L1_s, dnl, cond_false]) n (by omega)
  have e1 : F_slices_Index_string_string_L1 xs x (fun i5 => (some (-1))) n 0 = some r := e1
  rw [e1, Option.bind_some, e2]
theorem AN {n : Nat} {xs : List ByteArray} (h : xs.length ≤ 1048576) (hs : ∀ x ∈ xs, x.size ≤ 1048576) (hn : 1048577 ≤ n) : Tells (∀ k (h : k < xs.length), nameB xs[k] = true ∧ ∀ i (hi : i < k), (xs[i].toList == xs[k].toList) = false) (F_impl_areNames n xs) := by
  rw [F_impl_areNames]
  refine loop (L := fun m i (_ : Unit) => F_impl_areNames_L1 n xs _ m i) xs.length (fun i _ => ∀ k (h : k < xs.length), k < i → nameB xs[k] = true ∧ ∀ i (hi : i < k), (xs[i].toList == xs[k].toList) = false) _ ?_ ?_ n 0 () (by omega) (by omega) (fun k h hk => by omega)
  · intro m i _ hi hI
    have hsub : subL xs 0 (i : Int) = some (xs.take i) := by
      unfold subL
      rw [if_pos ⟨by omega, by omega, by omega⟩]; simp
    have hct := Ct1 (n := n) (xs := xs.take i) (x := xs[i]) (by simp; omega) hn
    simp only [F_impl_areNames_L1_s, dlt hi, cond_true, getI_el hi, Option.bind_some, Nm1 (hs _ (List.getElem_mem hi)) hn, hsub, hct, bif_or, wS (show i < 4611686018427387904 by omega)]
    cases hb : (!nameB xs[i] || (xs.take i).any fun y => xs[i].toList == y.toList) with
    | true =>
      refine .inr (Tells.no fun hv => ?_)
      obtain ⟨h1, h2⟩ := hv i hi
      rw [h1, Bool.not_true, Bool.false_or, List.any_eq_true] at hb
      obtain ⟨y, hy, he⟩ := hb
      obtain ⟨j, hj, rfl⟩ := List.mem_iff_getElem.1 hy
      rw [List.length_take] at hj
      rw [List.getElem_take] at he
      have := h2 j (by omega)
      rw [beq_eq_false_iff_ne] at this
      exact this (eq_of_beq he).symm
    | false =>
      simp only [Bool.or_eq_false_iff, Bool.not_eq_false'] at hb
      refine .inl ⟨(), fun k h hk => ?_, rfl⟩
      by_cases e : k = i
      · subst e
        refine ⟨hb.1, fun j hj => ?_⟩
        rw [beq_eq_false_iff_ne]
        intro he
        have := List.any_eq_false.1 hb.2 xs[j] (List.mem_iff_getElem.2 ⟨j, by rw [List.length_take]; omega, by rw [List.getElem_take]⟩)
        exact this (by rw [he]; simp)
      · exact hI k h (by omega)
  · intro m _ hI
    simp only [F_impl_areNames_L1_s, dnl, cond_false]
    exact Tells.yes fun k h => hI k h h
theorem PC {n : Nat} {l : List S_Clock} (hm : l.length ≤ 1048576) (hs : ∀ x ∈ l, SM_Clock x) (hn : 1048577 ≤ n) : Tells (VC n l) (F_impl_IsClocks n l) := by
  rw [F_impl_IsClocks]
  by_cases h6 : l.length ≤ 6
  · rw [decide_eq_false (show ¬ (l.length : Int) > 6 by omega), cond_false]
    refine loop (L := fun m i (a : List ByteArray) => F_impl_IsClocks_L1 n l _ m a i) l.length (fun i a => a = (l.take i).map (·.Name) ∧ ∀ k (h : k < l.length), k < i → clkB n l k l[k] = true) _ ?_ ?_ n 0 [] (by omega) (by omega) ⟨by simp, fun k h hk => by omega⟩
    · intro m i a hi ⟨ha, hI⟩
      have hal : a.length = i := by rw [ha]; simp; omega
      simp only [F_impl_IsClocks_L1_s, dlt hi, cond_true, getI_el hi, Option.bind_some, IC1 hi hm hn (WA i (by omega) (by omega) hI), appN_ok (show a.length + [l[i].Name].length ≤ 16777216 by simp; omega) (show 16 ≤ 1048576 by omega), wS (show i < 4611686018427387904 by omega)]
      cases hc : clkB n l i l[i] with
      | false =>
        refine .inr (Tells.no fun hv => ?_)
        rw [hv.ck i hi] at hc; cases hc
      | true =>
        refine .inl ⟨a ++ [l[i].Name], ⟨?_, fun k h hk => ?_⟩, rfl⟩
        · rw [ha, List.take_succ, List.getElem?_eq_getElem hi, List.map_append]; rfl
        · by_cases e : k = i
          · subst e; exact hc
          · exact hI k h (by omega)
    · intro m a ⟨ha, hI⟩
      simp only [F_impl_IsClocks_L1_s, dnl, cond_false]
      rw [List.take_length] at ha
      subst ha
      obtain ⟨b, e, hb⟩ := AN (n := n) (xs := l.map (·.Name)) (by simpa using hm) (fun x hx => by
        obtain ⟨c, hc, rfl⟩ := List.mem_map.1 hx
        exact (hs c hc).1) hn
      rw [e, Option.bind_some]
      refine ⟨b, rfl, hb.trans ?_⟩
      constructor
      · intro h
        exact ⟨h6, fun k hk => by have := (h k (by simpa using hk)).1; simpa using this, fun k hk => hI k hk hk, fun k hk i hi => by have := (h k (by simpa using hk)).2 i hi; simpa using this⟩
      · intro h k hk
        have hk : k < l.length := by simpa using hk
        refine ⟨by simpa using h.nm k hk, fun i hi => by simpa using h.df k hk i hi⟩
  · rw [decide_eq_true (show (l.length : Int) > 6 by omega), cond_true]
    exact Tells.no fun hv => h6 hv.few
def inL (l : List S_Clock) (k : Int) : Bool := decide (k ≥ 0) && decide (k ≤ (l.length : Int) - 1)
def cdF (b : Bool) (l : List S_Clock) (ks : List Int) : Int := bif b then (bif ks.all (inL l) then 0 else 4) else 1
theorem AW {n : Nat} {ks : List Int} {lo hi : Int} (h : ks.length ≤ 1048576) (hn : 1048577 ≤ n) : F_impl_areWithin n ks lo hi = some (ks.all fun k => decide (k ≥ lo) && decide (k ≤ hi)) := by
  rw [F_impl_areWithin, F_slices_ContainsFunc_int64_int64_on_impl_areWithin_1, F_slices_IndexFunc_int64_int64_on_impl_areWithin_1]
  obtain ⟨r, e1, e2⟩ := loop_has (xs := ks) (L := fun m i => F_slices_IndexFunc_int64_int64_on_impl_areWithin_1_L1 n ks lo hi (fun i7 => (some (-1))) m i) (fun k => !(decide (k ≥ lo) && decide (k ≤ hi))) (fun m i hi => by
    simp only [F_slices_IndexFunc_int64_int64_on_impl_areWithin_1_L1_s, dlt hi, cond_true, getI_el hi, Option.bind_some, F_impl_areWithin_1, F_impl_within, wS (show i < 4611686018427387904 by omega)]) (fun m => by
    simp only [F_slices_IndexFunc_int64_int64_on_impl_areWithin_1_L1_s, dnl, cond_false]) n (by omega)
  have e1 : F_slices_IndexFunc_int64_int64_on_impl_areWithin_1_L1 n ks lo hi (fun i7 => (some (-1))) n 0 = some r := e1
  rw [e1, Option.bind_some, Option.bind_some, e2]
  congr 1
  rw [List.not_any_eq_all_not]
  congr 1
  funext k; rw [Bool.not_not]
theorem CC0 {n : Nat} {l : List S_Clock} (hm : l.length ≤ 1048576) (hs : ∀ x ∈ l, SM_Clock x) (hn : 1048577 ≤ n) : ∃ b : Bool, (b = true → VC n l) ∧ (∀ ks : List Int, ks.length ≤ 1048576 → F_impl_clockCode n l ks = some (cdF b l ks)) ∧ F_spec_IsClocks n l = some b ∧ F_impl_IsClocks n l = some b := by
  have h1 := SC (n := n) hm hs hn
  have h3 := (PC (n := n) hm hs hn).eq h1
  obtain ⟨b, hb, hv⟩ := h1
  rw [hb] at h3
  have ew : IntKind.wrap IntKind.i64 ((l.length : Int) - 1) = (l.length : Int) - 1 := wrap64 (by omega) (by omega)
  refine ⟨b, hv.1, fun ks hk => ?_, hb, h3⟩
  rw [F_impl_clockCode, h3]
  simp only [F_impl_length_impl_Clock, Option.bind_some, ew, AW hk hn, cdF]
  cases b <;> simp only [Bool.not_true, Bool.not_false, cond_true, cond_false]
  have : (ks.all fun k => decide (k ≥ 0) && decide (k ≤ (l.length : Int) - 1)) = ks.all (inL l) := rfl
  rw [this]
  cases ks.all (inL l) <;> rfl
theorem CC {n : Nat} {l : List S_Clock} (hm : l.length ≤ 1048576) (hs : ∀ x ∈ l, SM_Clock x) (hn : 1048577 ≤ n) : ∃ b : Bool, (b = true → VC n l) ∧ (∀ k, F_spec_l14Code n l k = some (cdF b l [k])) ∧ (∀ ks : List Int, ks.length ≤ 1048576 → F_impl_clockCode n l ks = some (cdF b l ks)) ∧ F_spec_IsClocks n l = some b ∧ F_impl_IsClocks n l = some b := by
  obtain ⟨b, h1, h2, hb, h3⟩ := CC0 (n := n) hm hs hn
  have ew : IntKind.wrap IntKind.i64 ((l.length : Int) - 1) = (l.length : Int) - 1 := wrap64 (by omega) (by omega)
  refine ⟨b, h1, fun k => ?_, h2, hb, h3⟩
  rw [F_spec_l14Code, hb]
  simp only [F_spec_l01In, Option.bind_some, ew, cdF, inL, List.all_cons, List.all_nil, Bool.and_true]
  cases b <;> simp only [Bool.not_true, Bool.not_false, cond_true, cond_false]
  cases (decide (k ≥ 0) && decide (k ≤ (l.length : Int) - 1)) <;> rfl
theorem CW {n : Nat} {l : List S_Clock} (hv : VC n l) (hn : 1048577 ≤ n) {k : Int} (hk : inL l k = true) : ∃ (j : Nat) (w : S_l14Wave), k = (j : Int) ∧ j < l.length ∧ WOK 100000 w ∧ F_spec_l14Of n l k = some w ∧ F_impl_waveOf n l k = some (toW w) := by
  have few := hv.few
  simp only [inL, Bool.and_eq_true, decide_eq_true_eq] at hk
  obtain ⟨j, rfl⟩ := Int.eq_ofNat_of_zero_le hk.1
  obtain ⟨w, h1, h2⟩ := WA l.length (Nat.le_refl _) (by omega) (fun j hj _ => hv.ck j hj) j (by omega)
  have h3 := h2 n (by omega)
  exact ⟨j, w, rfl, by omega, h1, h3, by rw [wv_eq, h3]; rfl⟩
theorem tmm {a p : Int} (hp : 0 < p) : Int.tmod (Int.tmod a p + p) p = a % p := by
  have h1 : -p < Int.tmod a p := by
    have := Int.lt_tmod_of_pos a hp; omega
  rw [Int.tmod_eq_emod_of_nonneg (by omega), Int.add_emod_right, Int.tmod_def, Int.sub_mul_emod_self_left]
theorem tm_rng {a p : Int} (hp : 0 < p) : -p < Int.tmod a p ∧ Int.tmod a p < p := ⟨by have := Int.lt_tmod_of_pos a hp; omega, Int.tmod_lt_of_pos a hp⟩
def edg (w : S_l14Wave) (e : Int) : Int := if e = 0 then w.rise_ else w.fall_
def nxt (w : S_l14Wave) (e t : Int) : Int := t + (edg w e - t) % w.period_
theorem edg_rng {B : Int} {w : S_l14Wave} (h : WOK B w) (e : Int) : 0 ≤ edg w e ∧ edg w e < w.period_ := by
  unfold edg; split
  · exact h.r
  · exact h.f
theorem em_rng {a p : Int} (hp : 0 < p) : 0 ≤ a % p ∧ a % p < p := ⟨Int.emod_nonneg _ (by omega), Int.emod_lt_of_pos _ hp⟩
theorem Mo {n : Nat} {a p : Int} (hp : 0 < p ∧ p ≤ 1000000) : F_impl_modulo n a p = some (a % p) := by
  have h0 : (p == 0) = false := beq_eq_false_iff_ne.2 (by omega)
  have := tm_rng (a := a) hp.1
  rw [F_impl_modulo, h0, cond_false, cond_false, wrap64 (by omega) (by omega), tmm hp.1]
theorem Nx2 {n : Nat} {w : S_l14Wave} (h : WOK 100000 w) {e t : Int} (he : e = 0 ∨ e = 1) (ht : -2000000000 ≤ t ∧ t ≤ 200000000000) : F_impl_wave_next n (toW w) e t = some (nxt w e t) := by
  have hp := h.p
  have hr := edg_rng h e
  have e1 : getI ([(toW w).edges_.e0, (toW w).edges_.e1] : List Int) e = some (edg w e) := by
    rcases he with rfl | rfl <;> rfl
  have m := em_rng (a := edg w e - t) (p := w.period_) (by omega)
  rw [F_impl_wave_next, e1, Option.bind_some, wrap64 (x := edg w e - t) (by omega) (by omega)]
  show Option.bind (F_impl_modulo n _ w.period_) _ = _
  rw [Mo ⟨by omega, by omega⟩, Option.bind_some, wrap64 (by omega) (by omega)]; rfl
theorem isT {n : Nat} {e : Int} : F_impl_isTransition n e = some (decide (e ≥ 0) && decide (e ≤ 1)) := by
  rw [F_impl_isTransition]
  congr 1
  rw [Bool.eq_iff_iff]
  simp only [Bool.or_eq_true, beq_iff_eq, Bool.and_eq_true, decide_eq_true_eq]; omega
theorem isTm {n : Nat} {t : Int} : F_impl_isTime n t = some (decide (t ≥ -1000000000) && decide (t ≤ 1000000000)) := by
  rw [F_impl_isTime, F_impl_within]; rfl
/-- the two answers of a function of a clock agree -/
theorem X1 {n : Nat} {l : List S_Clock} (hm : l.length ≤ 1048576) (hs : ∀ x ∈ l, SM_Clock x) (hn : 1048577 ≤ n) {α : Type} {k : Int} {z : Int → α} {f g : Option α} {S P : Option α}
    (hS : S = Option.bind (F_spec_l14Code n l k) fun r => bif (r != 0) then some (z r) else f) (hP : P = Option.bind (F_impl_clockCode n l [k]) fun r => bif (r != 0) then some (z r) else g)
    (h : VC n l → inL l k = true → ∃ r, f = some r ∧ g = some r) : ∃ r, S = some r ∧ P = some r := by
  obtain ⟨b, h1, h2, h3, _⟩ := CC (n := n) hm hs hn
  rw [hS, hP, h2, h3 [k] (by simp)]
  simp only [Option.bind_some]
  cases b with
  | false => exact ⟨_, rfl, rfl⟩
  | true =>
    cases hk : inL l k with
    | false => simp only [cdF, List.all_cons, hk, Bool.false_and, cond_false, cond_true]; exact ⟨_, rfl, rfl⟩
    | true => simp only [cdF, List.all_cons, List.all_nil, hk, Bool.true_and, cond_true]; exact h (h1 rfl) hk
theorem WvX {n : Nat} {l : List S_Clock} (hm : l.length ≤ 1048576) (hs : ∀ x ∈ l, SM_Clock x) (hn : 1048577 ≤ n) (k : Int) : ∃ r, F_spec_WaveOf n l k = some r ∧ F_impl_WaveOf n l k = some r := by
  refine X1 hm hs hn rfl rfl fun hv hk => ?_
  obtain ⟨j, w, rfl, hj, hw, h1, h2⟩ := CW hv hn hk
  rw [h1, h2]; exact ⟨_, rfl, rfl⟩
theorem Ed1 (to : Int) (w : S_l14Wave) (k : List Int → Int → Option (List Int × Int)) : ∀ m l i, F_impl_EdgesIn_L1 to (toW w) k m l i = F_spec_EdgesIn_L1 to w k m l i
  | 0, _, _ => rfl
  | m + 1, l, i => by
    rw [F_impl_EdgesIn_L1_s, F_spec_EdgesIn_L1_s]
    simp only [Ed1 to w k m, show (toW w).period_ = w.period_ from rfl]
theorem WvP {n : Nat} {l : List S_Clock} (hv : VC n l) (hn : 1048577 ≤ n) (h3 : ∀ ks : List Int, ks.length ≤ 1048576 → F_impl_clockCode n l ks = some (cdF true l ks)) {k : Int} (hk : inL l k = true) : ∃ w, WOK 100000 w ∧ F_spec_l14Of n l k = some w ∧ F_impl_WaveOf n l k = some (w.period_, w.rise_, w.fall_, 0) := by
  obtain ⟨j, w, rfl, hj, hw, h1, h2⟩ := CW hv hn hk
  refine ⟨w, hw, h1, ?_⟩
  rw [F_impl_WaveOf, h3 [(j : Int)] (by simp), Option.bind_some, h2]
  simp only [cdF, List.all_cons, List.all_nil, hk, Bool.and_true, cond_true, bne_self_eq_false, cond_false, Option.bind_some, toW]

theorem Nb {n0 : Nat} : ∀ (j n : Nat) (k : Int), 0 ≤ k → k < (10 : Int) ^ (j + 1) → k ≤ 1000000000000000000 → j < n → j ≤ 100 → Tot (fun t => t.size ≤ j + 1) (F_spec_l01Number n k)
  | j, 0, k, _, _, _, h, _ => by omega
  | j, n + 1, k, k0, k1, k2, h, hj => by
    rw [F_spec_l01Number_s, decide_eq_false (show ¬ k < 0 by omega), cond_false]
    by_cases hk : k < 10
    · rw [decide_eq_true hk, cond_true]
      exact Tot.some (by rw [strB_size]; simp)
    · rw [decide_eq_false hk, cond_false]
      match j, k1 with
      | 0, k1 => simp at k1; omega
      | j + 1, k1 =>
        have e : IntKind.wrap IntKind.i64 (Int.tdiv k 10) = k / 10 := by rw [Int.tdiv_eq_ediv_of_nonneg k0]; exact wrap64 (by omega) (by omega)
        rw [e]
        rw [Int.pow_succ] at k1
        refine Tot.bind (Nb (n0 := n0) j n (k / 10) (by omega) (by omega) (by omega) (by omega) (by omega)) fun r _ hr => ?_
        rw [catS_ok (by rw [strB_size]; simp; omega)]
        exact Tot.some (by rw [ByteArray.size_append, strB_size]; simp; omega)
theorem Nb2 {n : Nat} {k : Nat} (hk : k ≤ 1000) (hn : 1048577 ≤ n) : Tot (fun t => t.size ≤ 4) (F_spec_l01Number n (k : Int)) :=
  (Nb (n0 := 0) 3 n k (by omega) (by show _ < (10000 : Int); omega) (by omega) (by omega) (by omega))
/-- a short list of clocks of short names -/
def CL (l : List S_Clock) : Prop := l.length ≤ 8 ∧ ∀ x ∈ l, x.Name.size ≤ 100
theorem CL.sm {l : List S_Clock} (h : CL l) : l.length ≤ 1048576 ∧ ∀ x ∈ l, SM_Clock x := ⟨by have := h.1; omega, fun x hx => ⟨by have := h.2 x hx; show x.Name.size ≤ 1048576; omega, trivial, trivial, trivial, trivial, trivial, trivial, trivial, trivial, trivial, trivial⟩⟩
theorem CL.set {l : List S_Clock} (h : CL l) (i : Nat) {c : S_Clock} (hc : c.Name.size ≤ 100) : CL (l.set i c) := ⟨by rw [List.length_set]; exact h.1, fun x hx => by
  rcases List.mem_or_eq_of_mem_set hx with hx | rfl
  · exact h.2 x hx
  · exact hc⟩
theorem CL.app {l : List S_Clock} (h : CL l) (hl : l.length ≤ 7) {c : S_Clock} (hc : c.Name.size ≤ 100) : CL (l ++ [c]) := ⟨by simp; omega, fun x hx => by
  rcases List.mem_append.1 hx with hx | hx
  · exact h.2 x hx
  · rw [List.mem_singleton.1 hx]; exact hc⟩
theorem cat_tot {a b : ByteArray} (ha : a.size ≤ 50) (hb : b.size ≤ 50) : Tot (fun t => t.size ≤ 100) (catS a b) := by
  rw [catS_ok (by omega)]
  exact Tot.some (by rw [ByteArray.size_append]; omega)
theorem DC {n : Nat} {c : List Int} (hc : Cde c) (hn : 1048577 ≤ n) {s : S_l01Source} (hs : Src c s) : Tot (fun r => (CL r.1 ∧ 1 ≤ r.1.length) ∧ Src c r.2) (F_spec_l14Draw n s) := by
  have hk := hs.code
  rw [F_spec_l14Draw]
  refine Tot.bind (Nx hc hs 5) fun q hq ⟨q1, q2, q3⟩ => ?_
  rw [wrap64 (x := 1 + q.1) (by omega) (by omega)]
  refine loopm (L := fun m (p : List S_Clock × Int × Int × Int) => F_spec_l14Draw_L1 n s _ m p.1 p.2.1 p.2.2.1 p.2.2.2) (fun p => p.2.1.toNat) (fun p => 0 ≤ p.2.1 ∧ (p.1.length : Int) + p.2.1 = 1 + q.1 ∧ CL p.1 ∧ Src c (S_l01Source.mk s.code_ p.2.2.1 p.2.2.2)) _ ?_ n ([], 1 + q.1, q.2.at_, q.2.seed_) (by dsimp only; omega) ⟨by dsimp only; omega, by simp, ⟨by simp, by simp⟩, q1.mk2 hk⟩
  intro m ⟨l, i, a, d⟩ ⟨i1, i2, i3, i4⟩ ih
  dsimp only at i1 i2 i3 i4 ih ⊢
  rw [F_spec_l14Draw_L1_s]
  refine Tot.bif (fun hi => ?_) fun hi => ?_
  · have hi := of_decide_eq_true hi
    have hw : IntKind.wrap IntKind.i64 (i - 1) = i - 1 := wrap64 (by omega) (by omega)
    refine Tot.bind (Nx hc i4 _) fun x1 _ ⟨y1, _⟩ => ?_
    refine Tot.bind (Nb2 (k := l.length) (by omega) hn) fun t1 _ ht1 => ?_
    refine Tot.bind (cat_tot (by decide) (by omega)) fun t2 _ ht2 => ?_
    refine Tot.bind (Nx hc (y1.mk2 hk) _) fun x2 _ ⟨y2, _⟩ => ?_
    refine Tot.bind (Nx hc (y2.mk2 hk) _) fun x3 _ ⟨y3, _⟩ => ?_
    refine Tot.bind (Nx hc (y3.mk2 hk) _) fun x4 _ ⟨y4, _⟩ => ?_
    refine Tot.bind (A := fun z => Src c (S_l01Source.mk s.code_ z.2.1 z.2.2)) (Tot.bif (fun _ => Tot.some (y4.mk2 hk)) fun _ => Tot.bind (Nx hc (y4.mk2 hk) _) fun x5 _ ⟨y5, _⟩ => Tot.some (y5.mk2 hk)) fun z _ hz => ?_
    refine Tot.bif (fun _ => ?_) fun _ => ?_
    · refine Tot.bind (Nx hc hz 7) fun x5 _ ⟨y5, g2, g3⟩ => ?_
      refine Tot.bind (Tot.get (Q := fun v => 2 ≤ v) g2 (by simp; omega) (by decide)) fun p _ hp => ?_
      have e0 : (p == 0) = false := beq_eq_false_iff_ne.2 (by omega)
      refine Tot.bind (Nx hc (y5.mk2 hk) _) fun x6 _ ⟨y6, _⟩ => ?_
      refine Tot.bind (Nx hc (y6.mk2 hk) _) fun x7 _ ⟨y7, _⟩ => ?_
      rw [e0, cond_false]
      refine Tot.bind (Tot.app (by simp; omega) (by omega)) fun v _ hv => ?_
      rw [hw]
      subst hv
      exact ih (_, i - 1, x7.2.at_, x7.2.seed_) ⟨by dsimp only; omega, by simp; omega, i3.app (by omega) ht2, y7.mk2 hk⟩ (by dsimp only; omega)
    · refine Tot.bind (Nx hc hz _) fun x5 _ ⟨y5, _⟩ => ?_
      refine Tot.bind (Nx hc (y5.mk2 hk) _) fun x6 _ ⟨y6, _⟩ => ?_
      refine Tot.bind (Nx hc (y6.mk2 hk) _) fun x7 _ ⟨y7, _⟩ => ?_
      refine Tot.bind (Tot.app (by simp; omega) (by omega)) fun v _ hv => ?_
      rw [hw]
      subst hv
      exact ih (_, i - 1, x7.2.at_, x7.2.seed_) ⟨by dsimp only; omega, by simp; omega, i3.app (by omega) ht2, y7.mk2 hk⟩ (by dsimp only; omega)
  have hi := of_decide_eq_false hi
  have hl : 1 ≤ l.length := by omega
  refine Tot.bind (Nx hc i4 _) fun k _ ⟨k1, k2, k3⟩ => ?_
  have hkl : k.1 < (l.length : Int) := by omega
  refine Tot.bind (Nx hc (k1.mk2 hk) _) fun w _ ⟨w1, w2, w3⟩ => ?_
  have S2 := w1.mk2 hk
  have nm : ∀ x ∈ l, x.Name.size ≤ 100 := i3.2
  refine Tot.bif (fun _ => ?_) fun _ => Tot.bif (fun _ => ?_) fun _ => Tot.bif (fun _ => ?_) fun _ => Tot.bif (fun _ => ?_) fun _ => Tot.bif (fun _ => ?_) fun _ => Tot.bif (fun _ => ?_) fun _ => Tot.bif (fun _ => ?_) fun _ => ?_
  · exact Tot.bind (Nx hc S2 _) fun y _ ⟨y1, _⟩ => Tot.bind (Tot.get k2 hkl nm) fun x _ hx => Tot.some ⟨⟨i3.set _ hx, by rw [List.length_set]; exact hl⟩, y1.mk2 hk⟩
  · exact Tot.bind (Tot.get k2 hkl nm) fun x _ hx => Tot.bind (Tot.get k2 hkl nm) fun x _ hx => Tot.some ⟨⟨i3.set _ hx, by rw [List.length_set]; exact hl⟩, S2⟩
  · exact Tot.bind (Tot.get (Int.le_refl _) (by omega) nm) fun x _ hx => Tot.bind (Tot.get k2 hkl nm) fun _ _ _ => Tot.some ⟨⟨i3.set _ hx, by rw [List.length_set]; exact hl⟩, S2⟩
  · exact Tot.bind (Tot.get k2 hkl nm) fun x _ hx => Tot.some ⟨⟨i3.set _ hx, by rw [List.length_set]; exact hl⟩, S2⟩
  · exact Tot.bind (Tot.get k2 hkl nm) fun x _ hx => Tot.bind (Tot.get k2 hkl nm) fun x _ hx => Tot.some ⟨⟨i3.set _ hx, by rw [List.length_set]; exact hl⟩, S2⟩
  · exact Tot.bind (Nx hc S2 _) fun y _ ⟨y1, _⟩ => Tot.bind (Tot.get (Int.le_refl _) (by omega) nm) fun x _ hx => Tot.some ⟨⟨i3.set _ hx, by rw [List.length_set]; exact hl⟩, y1.mk2 hk⟩
  · refine loopm (L := fun m (p : List S_Clock) => F_spec_l14Draw_L2 n _ m p) (fun p => 8 - p.length) (fun p => CL p ∧ 1 ≤ p.length) _ ?_ n l (by omega) ⟨i3, hl⟩
    intro m p ⟨j1, j2⟩ ih2
    rw [F_spec_l14Draw_L2_s]
    refine Tot.bif (fun hp => ?_) fun _ => Tot.some ⟨⟨j1, j2⟩, S2⟩
    have hp := of_decide_eq_true hp
    refine Tot.bind (Tot.get' (Int.le_refl _) (by omega)) fun x _ _ => ?_
    refine Tot.bind (Nb2 (k := p.length) (by omega) hn) fun t1 _ ht1 => ?_
    refine Tot.bind (cat_tot (by decide) (by omega)) fun t2 _ ht2 => ?_
    refine Tot.bind (Tot.app (by simp; omega) (by omega)) fun v _ hv => ?_
    subst hv
    exact ih2 _ ⟨j1.app (by omega) ht2, by simp⟩ (by simp; omega)
  · exact Tot.some ⟨⟨i3, hl⟩, S2⟩
theorem DI {n : Nat} {c : List Int} (hc : Cde c) {s : S_l01Source} (hs : Src c s) (l : List S_Clock) : Tot (fun r => Src c r.2) (F_spec_l14DrawIndex n s l) := by
  have hk := hs.code
  rw [F_spec_l14DrawIndex]
  refine Tot.bind (Nx hc hs _) fun x _ ⟨x1, _⟩ => ?_
  refine Tot.bif (fun _ => ?_) fun _ => Tot.bind (Nx hc (x1.mk2 hk) _) fun y _ ⟨y1, _⟩ => Tot.some (y1.mk2 hk)
  exact Tot.bind (Nx hc (x1.mk2 hk) _) fun y _ ⟨y1, y2, y3⟩ => Tot.bind (Tot.get' y2 (by simp; omega)) fun _ _ _ => Tot.some (y1.mk2 hk)
theorem CLsrc {n : Nat} {code : List Int} (hc : Cde code) (hn : 1048577 ≤ n) : Tot (fun r : S_l01Source => Src code (S_l01Source.mk code r.at_ r.seed_)) (F_spec_l01From n code) := (Fr hc hn).weaken fun r hr => hr.mk2 rfl
theorem mod_ne {a b p : Int} (ha : 0 ≤ a ∧ a < p) (hb : 0 ≤ b ∧ b < p) (h : a ≠ b) : (a - b) % p ≠ 0 := by
  intro h0
  have e := Int.emod_add_mul_ediv (a - b) p
  rw [h0] at e
  have : (a - b) / p = 0 := by
    generalize (a - b) / p = z at e
    by_cases hz : z = 0
    · exact hz
    · exfalso
      rcases Int.lt_or_gt_of_ne hz with hz | hz
      · have := Int.mul_le_mul_of_nonneg_left (show z ≤ -1 by omega) (show 0 ≤ p by omega); omega
      · have := Int.mul_le_mul_of_nonneg_left (show 1 ≤ z by omega) (show 0 ≤ p by omega); omega
  rw [this] at e; omega
/-- the edges from t to u, where the first one behind t stands before u and the second does not, or none does -/
theorem EdIn {n : Nat} {l : List S_Clock} (hv : VC n l) (hn : 1048577 ≤ n) (h3 : ∀ ks : List Int, ks.length ≤ 1048576 → F_impl_clockCode n l ks = some (cdF true l ks)) {k e t u : Int} (hk : inL l k = true) (he : e = 0 ∨ e = 1) (ht : -1000000000 ≤ t ∧ t ≤ 1000000000) (hu : -1000000000 ≤ u ∧ u ≤ 1000000000) {w : S_l14Wave} (hw : F_spec_l14Of n l k = some w)
    (hlt : u < nxt w e t + w.period_) : F_impl_EdgesIn n l k e t u = some (if nxt w e t ≤ u then [nxt w e t] else [], 0) := by
  obtain ⟨j, w', rfl, hj, hw', h1, h2⟩ := CW hv hn hk
  obtain rfl : w' = w := Option.some.inj (h1.symm.trans hw)
  have hp := hw'.p
  have e1 : (decide (e ≥ 0) && decide (e ≤ 1)) = true := by simp only [Bool.and_eq_true, decide_eq_true_eq]; omega
  have e2 : (decide (t ≥ -1000000000) && decide (t ≤ 1000000000)) = true := by simp only [Bool.and_eq_true, decide_eq_true_eq]; omega
  have e3 : (decide (u ≥ -1000000000) && decide (u ≤ 1000000000)) = true := by simp only [Bool.and_eq_true, decide_eq_true_eq]; omega
  rw [F_impl_EdgesIn, h3 [(j : Int)] (by simp), Option.bind_some]
  simp only [cdF, List.all_cons, List.all_nil, hk, Bool.and_true, cond_true, bne_self_eq_false, cond_false, isT, isTm, e1, e2, e3, Option.bind_some, Bool.not_true, h2, Nx2 (n := n) hw' (e := e) (t := t) he (by omega), Ed1]
  have m := em_rng (a := edg w' e - t) (p := w'.period_) (by omega)
  have hb : nxt w' e t ≤ 2000000000 ∧ -2000000000 ≤ nxt w' e t := by unfold nxt; omega
  obtain ⟨q, rfl⟩ : ∃ q, n = q + 2 := ⟨n - 2, by omega⟩
  generalize nxt w' e t = z at *
  rw [F_spec_EdgesIn_L1_s]
  by_cases hz : z ≤ u
  · rw [decide_eq_true hz, if_pos hz]
    have a1 : appN ([] : List Int) [z] 8 = some [z] := by rw [appN_ok (by simp) (by omega)]; rfl
    simp only [cond_true, List.length_nil, show (((0 : Nat) : Int) == 200) = false from rfl, cond_false, a1, Option.bind_some, wrap64 (x := z + w'.period_) (by omega) (by omega)]
    rw [F_spec_EdgesIn_L1_s, decide_eq_false (show ¬ z + w'.period_ ≤ u by omega), cond_false]
  · rw [decide_eq_false hz, if_neg hz, cond_false]
theorem LvV {n : Nat} {l : List S_Clock} (hv : VC n l) (hn : 1048577 ≤ n) (h3 : ∀ ks : List Int, ks.length ≤ 1048576 → F_impl_clockCode n l ks = some (cdF true l ks)) {k t : Int} (hk : inL l k = true) (ht : -1000000000 ≤ t ∧ t ≤ 1000000000) {w : S_l14Wave} (hw : F_spec_l14Of n l k = some w) :
    F_impl_LevelAt n l k t = some (if (t - w.rise_) % w.period_ < (t - w.fall_) % w.period_ then 1 else 0, 0) := by
  obtain ⟨j, w', rfl, hj, hw', h1, h2⟩ := CW hv hn hk
  obtain rfl : w' = w := Option.some.inj (h1.symm.trans hw)
  have hp := hw'.p
  have hr := hw'.r
  have hf := hw'.f
  have e2 : (decide (t ≥ -1000000000) && decide (t ≤ 1000000000)) = true := by simp only [Bool.and_eq_true, decide_eq_true_eq]; omega
  have x1 : IntKind.wrap IntKind.i64 (t - (toW w').edges_.e0) = t - w'.rise_ := wrap64 (x := t - w'.rise_) (by omega) (by omega)
  have x2 : IntKind.wrap IntKind.i64 (t - (toW w').edges_.e1) = t - w'.fall_ := wrap64 (x := t - w'.fall_) (by omega) (by omega)
  have x3 : (toW w').period_ = w'.period_ := rfl
  rw [F_impl_LevelAt, h3 [(j : Int)] (by simp), Option.bind_some]
  simp only [cdF, List.all_cons, List.all_nil, hk, Bool.and_true, cond_true, bne_self_eq_false, cond_false, isTm, e2, Option.bind_some, Bool.not_true, h2, x1, x2, x3, Mo (n := n) (a := t - w'.rise_) (p := w'.period_) ⟨by omega, by omega⟩, Mo (n := n) (a := t - w'.fall_) (p := w'.period_) ⟨by omega, by omega⟩]
  by_cases q : (t - w'.rise_) % w'.period_ < (t - w'.fall_) % w'.period_
  · rw [decide_eq_true q, if_pos q]; rfl
  · rw [decide_eq_false q, if_neg q]; rfl
theorem neg_mod {x p : Int} (hp : 0 < p) : (-x) % p = if x % p = 0 then 0 else p - x % p := by
  have e := Int.emod_add_mul_ediv x p
  have m := em_rng (a := x) hp
  by_cases h : x % p = 0
  · rw [if_pos h]
    rw [h] at e
    rw [show -x = p * (-(x / p)) by rw [Int.mul_neg]; omega]
    exact Int.mul_emod_right _ _
  · rw [if_neg h]
    rw [show -x = (p - x % p) + p * (-(x / p) - 1) by rw [Int.mul_sub, Int.mul_neg, Int.mul_one]; omega, Int.add_mul_emod_self_left]
    exact Int.emod_eq_of_lt (by omega) (by omega)
theorem sub_add {x y p : Int} : (y % p - x) % p = (y - x) % p := by
  have e := Int.emod_add_mul_ediv y p
  rw [show y - x = (y % p - x) + p * (y / p) by omega, Int.add_mul_emod_self_left]
theorem at_edge {t r s p : Int} : (t + (r - t) % p - s) % p = (r - s) % p := by
  have := sub_add (x := s - t) (y := r - t) (p := p)
  rw [show t + (r - t) % p - s = (r - t) % p - (s - t) by omega, this]
  congr 1; omega
theorem PFnWaves {code : List Int} (hR : code.length ≤ 9223372036854775807 ∧ ∀ x ∈ code, inK .u8 x) : ∃ n, F_laws_FnWaves n code = some true := by
  obtain ⟨n, hn⟩ : ∃ n, 1048577 ≤ n := ⟨_, Nat.le_refl _⟩
  refine ⟨n, ?_⟩
  rw [F_laws_FnWaves, F_laws_big, Option.bind_some]
  by_cases hb : (code.length : Int) > 4096
  · rw [decide_eq_true hb]; rfl
  rw [decide_eq_false hb, cond_false]
  have hc := Cde.of hR hb
  have hd : Tot (fun r => CL r.1) (F_spec_DrawLevelAt n code) := by
    rw [F_spec_DrawLevelAt]
    refine Tot.bind (CLsrc hc hn) fun r _ hr => Tot.bind (DC hc hn hr) fun p _ ⟨⟨hp, _⟩, hp2⟩ => Tot.bind (Nx hc (hp2.mk2 rfl) 16) fun q _ ⟨q1, _, _⟩ => Tot.bif (fun _ => ?_) fun _ => ?_
    · exact Tot.bind (DI hc (q1.mk2 rfl) _) fun x _ hx => Tot.bind (Nx hc (hx.mk2 rfl) 4) fun y _ ⟨y1, y2, y3⟩ => Tot.bind (Tot.get' y2 (by simp; omega)) fun z _ _ => Tot.some hp
    · exact Tot.bind (DI hc (q1.mk2 rfl) _) fun x _ hx => Tot.bind (Nx hc (hx.mk2 rfl) 200) fun y _ _ => Tot.some hp
  obtain ⟨⟨l, k, t⟩, d1, hl⟩ := hd
  obtain ⟨hm, hs⟩ := CL.sm hl
  dsimp only at hm hs
  obtain ⟨b, h1, h2, h3, _⟩ := CC (n := n) hm hs hn
  obtain ⟨wv, w1, w2⟩ := WvX hm hs hn k
  rw [d1, Option.bind_some, w2, Option.bind_some, w1, Option.bind_some]
  simp only [bne_self_eq_false, Bool.or_self, cond_false]
  by_cases e0 : wv.2.2.2 = 0
  · have hbk : b = true ∧ inL l k = true := by
      rw [F_impl_WaveOf, h3 [k] (by simp), Option.bind_some] at w2
      cases b with
      | false =>
        simp only [cdF, cond_false, show ((1 : Int) != 0) = true from rfl, cond_true] at w2
        have := Option.some.inj w2; subst this; cases e0
      | true =>
        cases hk : inL l k with
        | true => exact ⟨rfl, rfl⟩
        | false =>
          simp only [cdF, List.all_cons, hk, Bool.false_and, cond_false, cond_true, show ((4 : Int) != 0) = true from rfl] at w2
          have := Option.some.inj w2; subst this; cases e0
    obtain ⟨rfl, hk⟩ := hbk
    have hv := h1 rfl
    obtain ⟨w, hw, hw1, hw2⟩ := WvP hv hn h3 hk
    rw [w2] at hw2
    obtain rfl := Option.some.inj hw2
    simp only [bne_self_eq_false, cond_false]
    by_cases ht : t > 900000000 ∨ t < -900000000
    · have : (decide (t > 900000000) || decide (t < -900000000)) = true := by simpa using ht
      rw [this]; rfl
    have : (decide (t > 900000000) || decide (t < -900000000)) = false := by
      simp only [Bool.or_eq_false_iff, decide_eq_false_iff_not]; omega
    rw [this, cond_false]
    have hp := hw.p
    have hr := hw.r
    have hf := hw.f
    have ma := em_rng (a := w.rise_ - t) (p := w.period_) (by omega)
    have mb := em_rng (a := w.fall_ - t) (p := w.period_) (by omega)
    have n0 : nxt w 0 t = t + (w.rise_ - t) % w.period_ := rfl
    have n1 : nxt w 1 t = t + (w.fall_ - t) % w.period_ := rfl
    have n2 : nxt w 0 (t + w.period_) = t + w.period_ + (w.rise_ - t) % w.period_ := by
      show t + w.period_ + (w.rise_ - (t + w.period_)) % w.period_ = _
      rw [show w.rise_ - (t + w.period_) = (w.rise_ - t) + w.period_ * (-1) by omega, Int.add_mul_emod_self_left]
    have U := EdIn hv hn h3 hk (e := 0) (t := t) (u := t + w.period_ - 1) (.inl rfl) (by omega) (by omega) hw1 (by omega)
    have D := EdIn hv hn h3 hk (e := 1) (t := t) (u := t + w.period_ - 1) (.inr rfl) (by omega) (by omega) hw1 (by omega)
    have A := EdIn hv hn h3 hk (e := 0) (t := t + w.period_) (u := t + 2 * w.period_ - 1) (.inl rfl) (by omega) (by omega) hw1 (by omega)
    rw [n0, if_pos (by omega)] at U
    rw [n1, if_pos (by omega)] at D
    rw [n2, if_pos (by omega)] at A
    have L0 := LvV hv hn h3 hk (t := t) (by omega) hw1
    have L1 := LvV hv hn h3 hk (t := t + (w.rise_ - t) % w.period_) (by omega) hw1
    have L2 := LvV hv hn h3 hk (t := t + (w.fall_ - t) % w.period_) (by omega) hw1
    have x1 := mod_ne hr hf hw.d
    have x2 := mod_ne hf hr fun e => hw.d e.symm
    rw [at_edge, at_edge, Int.sub_self, Int.zero_emod] at L1 L2
    have y1 := em_rng (a := w.rise_ - w.fall_) (p := w.period_) (by omega)
    have y2 := em_rng (a := w.fall_ - w.rise_) (p := w.period_) (by omega)
    rw [if_pos (by omega)] at L1
    rw [if_neg (by omega)] at L2
    have z1 := neg_mod (x := w.rise_ - t) (p := w.period_) (by omega)
    have z2 := neg_mod (x := w.fall_ - t) (p := w.period_) (by omega)
    rw [show -(w.rise_ - t) = t - w.rise_ by omega] at z1
    rw [show -(w.fall_ - t) = t - w.fall_ by omega] at z2
    rw [z1, z2] at L0
    have hab : (w.rise_ - t) % w.period_ ≠ (w.fall_ - t) % w.period_ := by
      intro h
      apply x1
      have e1 := Int.emod_add_mul_ediv (w.rise_ - t) w.period_
      have e2 := Int.emod_add_mul_ediv (w.fall_ - t) w.period_
      rw [show w.rise_ - w.fall_ = w.period_ * ((w.rise_ - t) / w.period_ - (w.fall_ - t) / w.period_) by rw [Int.mul_sub]; omega]
      exact Int.mul_emod_right _ _
    clear z1 z2 x1 x2 y1 y2 n0 n1 n2
    have g1 : IntKind.wrap IntKind.i64 (t + w.period_ - 1) = t + w.period_ - 1 := wrap64 (by omega) (by omega)
    have g2 : IntKind.wrap IntKind.i64 (t + w.period_) = t + w.period_ := wrap64 (by omega) (by omega)
    have g3 : IntKind.wrap IntKind.i64 (IntKind.wrap IntKind.i64 (t + IntKind.wrap IntKind.i64 (2 * w.period_)) - 1) = t + 2 * w.period_ - 1 := by rw [wrap64 (x := 2 * w.period_) (by omega) (by omega), wrap64 (x := t + 2 * w.period_) (by omega) (by omega), wrap64 (by omega) (by omega)]
    have o1 : ∀ x : Int, getI [x] 0 = some x := fun _ => rfl
    have o2 : ∀ x : Int, ((([x] : List Int).length : Int) != 1) = false := fun _ => rfl
    generalize (w.rise_ - t) % w.period_ = a at *
    generalize (w.fall_ - t) % w.period_ = c at *
    have g4 : IntKind.wrap IntKind.i64 (t + a + w.period_) = t + w.period_ + a := by rw [wrap64 (by omega) (by omega)]; omega
    have g5 : IntKind.wrap IntKind.i64 (IntKind.wrap IntKind.i64 (0 + 0) + 0) = 0 := rfl
    simp only [g1, g2, g3, U, D, A, Option.bind_some, o1, o2, bne_self_eq_false, Bool.or_self, cond_false, g4, L0, L1, L2, g5]
    have q1 : (t + a == t) = decide (a = 0) := by
      by_cases h : a = 0
      · subst h; simp
      · rw [decide_eq_false h, beq_eq_false_iff_ne]; omega
    have q2 : (t + c == t) = decide (c = 0) := by
      by_cases h : c = 0
      · subst h; simp
      · rw [decide_eq_false h, beq_eq_false_iff_ne]; omega
    have q3 : decide (t + c < t + a) = decide (c < a) := by
      by_cases h : c < a
      · rw [decide_eq_true h, decide_eq_true (by omega)]
      · rw [decide_eq_false h, decide_eq_false (by omega)]
    rw [q1, q2, q3]
    by_cases ha : a = 0
    · have hc0 : c ≠ 0 := by omega
      rw [if_pos ha, if_neg hc0, if_pos (by omega)]
      simp only [decide_eq_true ha, decide_eq_false hc0, cond_true, cond_false]
      cases decide (c < a) <;> rfl
    · by_cases hc0 : c = 0
      · rw [if_neg ha, if_pos hc0, if_neg (by omega)]
        simp only [decide_eq_true hc0, decide_eq_false ha, cond_true, cond_false]
        cases decide (c < a) <;> rfl
      · rw [if_neg ha, if_neg hc0]
        simp only [decide_eq_false hc0, decide_eq_false ha, cond_false]
        by_cases h : c < a
        · rw [decide_eq_true h, if_pos (by omega)]; rfl
        · rw [decide_eq_false h, if_neg (by omega)]; rfl
  · have : (wv.2.2.2 != 0) = true := by simpa using e0
    rw [this]; rfl

end Go.Proofs.YthjagnioabgceaaDoor
