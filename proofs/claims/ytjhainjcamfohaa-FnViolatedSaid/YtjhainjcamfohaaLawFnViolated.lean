/- The plain law behind FnViolated: the plain function answers true; no condition. -/
import Derived.Test.YtjhainjcamfohaaWalkFnViolated
set_option linter.all false
namespace Go.Proofs.Ytjhainjcamfohaa
open Go Go.RowKit Go.Eng
theorem dlt {i N:Nat} (h:i < N):decide ((i:Int) < (N:Int)) = true:=decide_eq_true (by omega)
theorem dnl (N:Nat):decide ((N:Int) < (N:Int)) = false:=decide_eq_false (by omega)
theorem wS {i:Nat} (h:i < 4611686018427387904):IntKind.wrap .i64 ((i:Int) + 1) = ((i + 1:Nat):Int):=by rw [wrap64 (by omega) (by omega)]; simp
theorem getI_el {α:Type} {xs:List α} {i:Nat} (h:i < xs.length):getI xs (i:Int) = some xs[i]:=by rw [getI_nat]; exact List.getElem?_eq_getElem h
theorem loop {σ R:Type} {L:Nat → Int → σ → Option R} (N:Nat) (I:Nat → σ → Prop) (Post:Option R → Prop)
 (hs:∀ (m i:Nat) (st:σ),i < N → I i st → (∃ st',I (i + 1) st' ∧ L (m + 1) (i:Int) st = L m ((i + 1:Nat):Int) st') ∨ Post (L (m + 1) (i:Int) st))
 (he:∀ (m:Nat) (st:σ),I N st → Post (L (m + 1) (N:Int) st)):∀ (m i:Nat) (st:σ),i ≤ N → N - i < m → I i st → Post (L m (i:Int) st)
 | 0,i,st,_,hm,_=>by omega
 | m + 1,i,st,hi,hm,h=>by
  by_cases hlt:i < N
  ·rcases hs m i st hlt h with ⟨st',h1,h2⟩ | h1
   ·rw [h2]; exact loop N I Post hs he m (i + 1) st' (by omega) (by omega) h1
   ·exact h1
  ·obtain rfl:i = N:=by omega
   exact he m st h
theorem appN_ok {α:Type} {xs ys:List α} {b:Nat} (h:xs.length + ys.length ≤ 16777216) (hb:b ≤ 1048576):appN xs ys b = some (xs ++ ys):=by
 unfold appN
 have:(xs.length + ys.length) * b ≤ 16777216 * 1048576:=Nat.mul_le_mul h hb
 rw [if_pos ⟨by omega,by omega⟩]
theorem loopw {σ R:Type} {L:Nat → Int → σ → Option R} (N:Nat) (I:Nat → σ → Prop) (Post:Option R → Prop)
 (hs:∀ (m i:Nat) (st:σ),i < N → I i st → (∀ st',I (i + 1) st' → Post (L m ((i + 1:Nat):Int) st')) → Post (L (m + 1) (i:Int) st))
 (he:∀ (m:Nat) (st:σ),I N st → Post (L (m + 1) (N:Int) st)):∀ (m i:Nat) (st:σ),i ≤ N → N - i < m → I i st → Post (L m (i:Int) st)
 | 0,i,st,_,hm,_=>by omega
 | m + 1,i,st,hi,hm,h=>by
  by_cases hlt:i < N
  ·exact hs m i st hlt h fun st' h'=>loopw N I Post hs he m (i + 1) st' (by omega) (by omega) h'
  ·obtain rfl:i = N:=by omega
   exact he m st h
def Tot {α:Type} (Q:α → Prop) (o:Option α):Prop:=∃ v,o = some v ∧ Q v
theorem Tot.some {α:Type} {Q:α → Prop} {v:α} (h:Q v):Tot Q (some v):=⟨v,rfl,h⟩
theorem Tot.bind {α β:Type} {A:α → Prop} {Q:β → Prop} {o:Option α} {f:α → Option β} (h:Tot A o) (k:∀ v,o = Option.some v → A v → Tot Q (f v)):Tot Q (Option.bind o f):=by
 obtain ⟨v,e,hv⟩:=h
 rw [e]; exact k v e hv
theorem Tot.bif {α:Type} {Q:α → Prop} {c:Bool} {x y:Option α} (h1:c = true → Tot Q x) (h2:c = false → Tot Q y):Tot Q (bif c then x else y):=by
 cases c
 ·exact h2 rfl
 ·exact h1 rfl
theorem Tot.get {α:Type} {Q:α → Prop} {xs:List α} {i:Int} (h0:0 ≤ i) (h1:i < xs.length) (h:∀ x ∈ xs,Q x):Tot Q (getI xs i):=by
 obtain ⟨x,hx,hm⟩:=getI_in h0 h1
 exact ⟨x,hx,h x hm⟩
structure Src (c:List Int) (s:S_l01Source):Prop where
 code:s.code_ = c
 at0:0 ≤ s.at_ ∧ s.at_ ≤ c.length
 sd:0 ≤ s.seed_ ∧ s.seed_ < 2147483647
def Cde (c:List Int):Prop:=c.length ≤ 4096 ∧ ∀ x ∈ c,0 ≤ x ∧ x ≤ 255
theorem tmod_in {a b:Int} (ha:0 ≤ a) (hb:0 < b):0 ≤ Int.tmod a b ∧ Int.tmod a b < b:=⟨Int.tmod_nonneg _ ha,Int.tmod_lt_of_pos _ hb⟩
theorem Nx {n:Nat} {c:List Int} (hc:Cde c) {s:S_l01Source} (h:Src c s) (k:Int):Tot (fun r=>Src c r.2 ∧ 0 ≤ r.1 ∧ (r.1 < k ∨ r.1 = 0 ∧ k ≤ 1)) (F_9 n s k):=by
 obtain ⟨h1,h2,h3⟩:=h
 have hl:=hc.1
 rw [F_9]
 refine Tot.bif (fun hk=>Tot.some ⟨⟨h1,h2,h3⟩,Int.le_refl _,.inr ⟨rfl,of_decide_eq_true hk⟩⟩) fun hk=>?_
 have hk:=of_decide_eq_false hk
 have hk0:(k == 0) = false:=by rw [beq_eq_false_iff_ne]; omega
 refine Tot.bif (fun ha=>?_) fun ha=>?_
 ·have ha:=of_decide_eq_true ha
  rw [h1] at ha ⊢
  refine Tot.bind (Tot.get h2.1 ha hc.2) fun x _ hx=>?_
  have wx:IntKind.wrap .i64 x = x:=wrap64 (by omega) (by omega)
  have wa:IntKind.wrap .i64 (s.at_ + 1) = s.at_ + 1:=wrap64 (by omega) (by omega)
  have wm:IntKind.wrap .i64 (s.seed_ * 48271) = s.seed_ * 48271:=wrap64 (by omega) (by omega)
  simp only [hk0,cF,wx,wa,wm,wrap64 (x:=s.seed_ * 48271 + x) (by omega) (by omega),wrap64 (x:=s.seed_ * 48271 + x + 1) (by omega) (by omega)]
  have m1:=tmod_in (a:=s.seed_ * 48271 + x + 1) (b:=2147483647) (by omega) (by omega)
  refine Tot.bif (fun _=>Tot.some ⟨⟨rfl,⟨?_,?_⟩,h3⟩,?_⟩) fun _=>Tot.some ⟨⟨rfl,⟨?_,?_⟩,m1⟩,?_⟩
  ·show 0 ≤ s.at_ + 1; omega
  ·show s.at_ + 1 ≤ _; omega
  ·exact ⟨(tmod_in hx.1 (by omega)).1,.inl (tmod_in hx.1 (by omega)).2⟩
  ·show 0 ≤ s.at_ + 1; omega
  ·show s.at_ + 1 ≤ _; omega
  ·exact ⟨(tmod_in m1.1 (by omega)).1,.inl (tmod_in m1.1 (by omega)).2⟩
 ·have wm:IntKind.wrap .i64 (s.seed_ * 48271) = s.seed_ * 48271:=wrap64 (by omega) (by omega)
  have m1:=tmod_in (a:=s.seed_ * 48271 + 11) (b:=2147483647) (by omega) (by omega)
  simp only [hk0,cF,wm,wrap64 (x:=s.seed_ * 48271 + 11) (by omega) (by omega)]
  generalize Int.tmod (s.seed_ * 48271 + 11) 2147483647 = q at *
  have d0:0 ≤ Int.tdiv q 7:=Int.tdiv_nonneg m1.1 (by omega)
  have d1:Int.tdiv q 7 ≤ q:=Int.tdiv_le_self _ m1.1
  rw [wrap64 (x:=Int.tdiv q 7) (by omega) (by omega)]
  exact Tot.some ⟨⟨h1,h2,m1⟩,(tmod_in d0 (by omega)).1,.inl (tmod_in d0 (by omega)).2⟩
theorem Src.mk2 {c d:List Int} {s:S_l01Source} (h:Src c s) (e:d = c):Src c (S_l01Source.mk d s.at_ s.seed_):=⟨e,h.at0,h.sd⟩
theorem Fr {n:Nat} {c:List Int} (hc:Cde c) (hn:1048577 ≤ n):Tot (fun r=>Src c r) (F_8 n c):=by
 have hl:=hc.1
 rw [F_8]
 refine loopw (L:=fun m i (p:Int × Int)=>F_8_L1 c (fun i12 i14 i15=>(some ((S_l01Source.mk c i14 i15)))) m i p.1 p.2) (min c.length 64) (fun _ p=>p.1 = 0 ∧ 0 ≤ p.2 ∧ p.2 < 2147483647) _ ?_ ?_ n 0 (0,12345) (by omega) (by omega) ⟨rfl,by omega,by omega⟩
 ·intro m i ⟨a,sd⟩ hi ⟨h1,h2⟩ ih
  dsimp only at h1 h2 ⊢
  have hi1:i < c.length:=by omega
  have hx:=hc.2 _ (List.getElem_mem hi1)
  simp only [F_8_L1.eq_2,dlt hi1,dlt (show i < 64 by omega),Bool.and_self,cT,getI_el hi1,obs,show ((64:Int)) = ((64:Nat):Int) from rfl,wT i]
  generalize c[i] = x at *
  rw [wrap64 (x:=sd * 31) (by omega) (by omega),wrap64 (x:=x) (by omega) (by omega),wrap64 (x:=sd * 31 + x) (by omega) (by omega)]
  have m1:=tmod_in (a:=sd * 31 + x) (b:=2147483647) (by omega) (by omega)
  exact ih (a,_) ⟨h1,m1⟩
 ·intro m ⟨a,sd⟩ ⟨h1,h2⟩
  dsimp only at h1 h2 ⊢
  have:(decide (((min c.length 64:Nat):Int) < (c.length:Int)) && decide (((min c.length 64:Nat):Int) < 64)) = false:=by
   rw [Bool.and_eq_false_iff,decide_eq_false_iff_not,decide_eq_false_iff_not]; omega
  simp only [F_8_L1.eq_2,this,cF]
  exact Tot.some ⟨rfl,⟨by subst h1; exact Int.le_refl _,by subst h1; exact Int.natCast_nonneg _⟩,h2⟩
theorem Cde.of {code:List Int} (hR:code.length ≤ 9223372036854775807 ∧ ∀ x ∈ code,inK .u8 x) (h:¬ (code.length:Int) > 4096):Cde code:=⟨by omega,fun x hx=>hR.2 x hx⟩
def mgL {α:Type} (k:α → Int) (A B:List α):List α:=List.merge A B (fun a b=>decide (k a ≤ k b))
theorem mgL_nl {α:Type} (k:α → Int) (B:List α):mgL k [] B = B:=by simp [mgL]
theorem mgL_nr {α:Type} (k:α → Int) (A:List α):mgL k A [] = A:=by simp [mgL]
theorem mgL_le {α:Type} (k:α → Int) {a b:α} {A B:List α} (h:k a ≤ k b):mgL k (a :: A) (b :: B) = a :: mgL k A (b :: B):=by
 simp [mgL,List.cons_merge_cons,h]
theorem mgL_gt {α:Type} (k:α → Int) {a b:α} {A B:List α} (h:k b < k a):mgL k (a :: A) (b :: B) = b :: mgL k (a :: A) B:=by
 have h':¬ k a ≤ k b:=by omega
 simp [mgL,List.cons_merge_cons,h']
theorem mgL_split {α:Type} (k:α → Int) {Lb Mb:List α}:∀ {La Ma:List α},(∀ a ∈ La,∀ b ∈ Mb,k a ≤ k b) → (∀ b ∈ Ma,∀ a ∈ Lb,k b < k a) → mgL k (La ++ Lb) (Ma ++ Mb) = mgL k La Ma ++ mgL k Lb Mb:=by
 intro La
 induction La with
 | nil =>
  intro Ma
  induction Ma with
  | nil=>intro _ _; simp [mgL_nl]
  | cons b Ma ih =>
   intro h1 h2
   have e:=ih (fun a ha=>nomatch ha) (fun b hb=>h2 b (List.mem_cons_of_mem _ hb))
   simp only [List.nil_append,mgL_nl] at e ⊢
   cases Lb with
   | nil=>simp [mgL_nl]
   | cons a Lb =>
    rw [List.cons_append,mgL_gt k (h2 b (List.mem_cons_self ..) a (List.mem_cons_self ..)),e]; rfl
 | cons a La iLa =>
  intro Ma
  induction Ma with
  | nil =>
   intro h1 h2
   have e:=iLa (Ma:=[]) (fun a ha=>h1 a (List.mem_cons_of_mem _ ha)) (fun b hb=>nomatch hb)
   simp only [List.nil_append,mgL_nr] at e ⊢
   cases Mb with
   | nil=>simp [mgL_nr]
   | cons b Mb =>
    rw [List.cons_append,mgL_le k (h1 a (List.mem_cons_self ..) b (List.mem_cons_self ..)),e]; rfl
  | cons b Ma iLb =>
   intro h1 h2
   have e1:=iLa (Ma:=b :: Ma) (fun a ha=>h1 a (List.mem_cons_of_mem _ ha)) h2
   have e2:=iLb h1 (fun b hb=>h2 b (List.mem_cons_of_mem _ hb))
   simp only [List.cons_append] at e1 e2 ⊢
   by_cases h:k a ≤ k b
   ·rw [mgL_le k h,mgL_le k h,e1]; rfl
   ·have h:k b < k a:=by omega
    rw [mgL_gt k h,mgL_gt k h,e2]; rfl
theorem mgL_assoc {α:Type} (k:α → Int):∀ (n:Nat) (X Y Z:List α),X.length + Y.length + Z.length ≤ n → mgL k (mgL k X Y) Z = mgL k X (mgL k Y Z):=by
 intro n
 induction n with
 | zero =>
  intro X Y Z h
  have hx:X = []:=List.eq_nil_of_length_eq_zero (by omega)
  have hy:Y = []:=List.eq_nil_of_length_eq_zero (by omega)
  subst hx; subst hy; simp [mgL_nl]
 | succ n ih =>
  intro X Y Z h
  cases X with
  | nil=>simp [mgL_nl]
  | cons x X =>
   cases Y with
   | nil=>simp [mgL_nl,mgL_nr]
   | cons y Y =>
    cases Z with
    | nil=>simp [mgL_nr]
    | cons z Z =>
     simp only [List.length_cons] at h
     by_cases h1:k x ≤ k y
     ·rw [mgL_le k h1]
      by_cases h2:k y ≤ k z
      ·have h3:k x ≤ k z:=by omega
       rw [mgL_le k h3,mgL_le k h2,mgL_le k h1,ih _ _ _ (by simp only [List.length_cons]; omega),mgL_le k h2]
      ·have h2:k z < k y:=by omega
       rw [mgL_gt k h2]
       by_cases h3:k x ≤ k z
       ·rw [mgL_le k h3,mgL_le k h3,ih _ _ _ (by simp only [List.length_cons]; omega),mgL_gt k h2]
       ·have h3:k z < k x:=by omega
        rw [mgL_gt k h3,mgL_gt k h3,← mgL_le k h1,ih _ _ _ (by simp only [List.length_cons]; omega)]
     ·have h1:k y < k x:=by omega
      rw [mgL_gt k h1]
      by_cases h2:k y ≤ k z
      ·rw [mgL_le k h2,mgL_le k h2,mgL_gt k h1,ih _ _ _ (by simp only [List.length_cons]; omega)]
      ·have h2:k z < k y:=by omega
       have h3:k z < k x:=by omega
       rw [mgL_gt k h2,mgL_gt k h2,mgL_gt k h3,← mgL_gt k h1,ih _ _ _ (by simp only [List.length_cons]; omega)]
theorem mgL_mem {α:Type} (k:α → Int) {A B:List α} {x:α}:x ∈ mgL k A B ↔ x ∈ A ∨ x ∈ B:=by
 unfold mgL; exact List.mem_merge
theorem mgL_len {α:Type} (k:α → Int) (A B:List α):(mgL k A B).length = A.length + B.length:=by
 unfold mgL; exact List.length_merge ..
abbrev Ord {α:Type} (k:α → Int) (L:List α):Prop:=L.Pairwise (fun a b=>k a ≤ k b)
theorem mgL_ord {α:Type} (k:α → Int):∀ {A B:List α},Ord k A → Ord k B → Ord k (mgL k A B):=by
 intro A
 induction A with
 | nil=>intro B _ h; rw [mgL_nl]; exact h
 | cons a A iLa =>
  intro B
  induction B with
  | nil=>intro h _; rw [mgL_nr]; exact h
  | cons b B iLb =>
   intro hA hB
   have hA':=List.pairwise_cons.1 hA
   have hB':=List.pairwise_cons.1 hB
   by_cases h:k a ≤ k b
   ·rw [mgL_le k h]
    refine List.pairwise_cons.2 ⟨fun c hc=>?_,iLa hA'.2 hB⟩
    rcases (mgL_mem k).1 hc with hc | hc
    ·exact hA'.1 c hc
    ·rcases List.mem_cons.1 hc with e | hc
     ·rw [e]; exact h
     ·exact Int.le_trans h (hB'.1 c hc)
   ·have h:k b < k a:=by omega
    rw [mgL_gt k h]
    refine List.pairwise_cons.2 ⟨fun c hc=>?_,iLb hA hB'.2⟩
    rcases (mgL_mem k).1 hc with hc | hc
    ·rcases List.mem_cons.1 hc with e | hc
     ·rw [e]; omega
     ·have:=hA'.1 c hc; omega
    ·exact hB'.1 c hc
def srtL {α:Type} (k:α → Int) (L:List α):List α:=L.foldl (fun o x=>mgL k o [x]) []
theorem srtL_foldl {α:Type} (k:α → Int) (B:List α):∀ A:List α,B.foldl (fun o x=>mgL k o [x]) A = mgL k A (srtL k B):=by
 have key:∀ (B A C:List α),B.foldl (fun o x=>mgL k o [x]) (mgL k A C) = mgL k A (B.foldl (fun o x=>mgL k o [x]) C):=by
  intro B
  induction B with
  | nil=>intro A C; rfl
  | cons b B ih=>intro A C; rw [List.foldl_cons,List.foldl_cons,mgL_assoc k _ A C [b] (Nat.le_refl _),ih]
 intro A
 have:=key B A []
 rw [mgL_nr] at this; exact this
theorem srtL_app {α:Type} (k:α → Int) (A B:List α):srtL k (A ++ B) = mgL k (srtL k A) (srtL k B):=by
 rw [srtL,List.foldl_append,srtL_foldl]; rfl
theorem srtL_ord {α:Type} (k:α → Int) (L:List α):Ord k (srtL k L):=by
 have key:∀ (L A:List α),Ord k A → Ord k (L.foldl (fun o x=>mgL k o [x]) A):=by
  intro L
  induction L with
  | nil=>intro A h; exact h
  | cons b L ih=>intro A h; exact ih _ (mgL_ord k h (List.pairwise_singleton ..))
 exact key L [] List.Pairwise.nil
theorem srtL_len {α:Type} (k:α → Int) (L:List α):(srtL k L).length = L.length:=by
 have key:∀ (L A:List α),(L.foldl (fun o x=>mgL k o [x]) A).length = A.length + L.length:=by
  intro L
  induction L with
  | nil=>intro A; rfl
  | cons b L ih=>intro A; rw [List.foldl_cons,ih,mgL_len]; simp only [List.length_cons,List.length_nil]; omega
 have:=key L []; simp only [List.length_nil] at this; rw [srtL,this]; omega
theorem srtL_snoc {α:Type} (k:α → Int) (A:List α) (x:α):srtL k (A ++ [x]) = mgL k (srtL k A) [x]:=by
 rw [srtL,List.foldl_append]; rfl
theorem mgL_ins_lt {α:Type} (k:α → Int) {A:List α} {x y:α} (h:k x < k y):mgL k (A ++ [y]) [x] = mgL k A [x] ++ [y]:=by
 have:=mgL_split k (La:=A) (Lb:=[y]) (Ma:=[x]) (Mb:=[]) (fun a _ b hb=>nomatch hb) (fun b hb a ha=>by
  rw [List.mem_singleton.1 hb,List.mem_singleton.1 ha]; exact h)
 rw [List.append_nil,mgL_nr] at this; exact this
theorem mgL_ins_ge {α:Type} (k:α → Int) {A:List α} {x:α} (h:∀ a ∈ A,k a ≤ k x):mgL k A [x] = A ++ [x]:=by
 have:=mgL_split k (La:=A) (Lb:=[]) (Ma:=[]) (Mb:=[x]) (fun a ha b hb=>by
  rw [List.mem_singleton.1 hb]; exact h a ha) (fun b hb=>nomatch hb)
 rw [List.append_nil,mgL_nl,mgL_nr] at this; exact this
theorem hlf {i j:Nat} (h:i + j ≤ 4611686018427387904):IntKind.wrap .i64 (shrK .u64 (IntKind.wrap IntKind.u64 (IntKind.wrap .i64 ((i:Int) + (j:Int)))) 1) = (((i + j) / 2:Nat):Int):=by
 rw [wrap64 (show -9223372036854775808 ≤ (i:Int) + (j:Int) by omega) (by omega)]
 have h1:IntKind.wrap IntKind.u64 ((i:Int) + (j:Int)) = (i:Int) + (j:Int):=by
  simp [IntKind.wrap,IntKind.signed,IntKind.bits]
  omega
 rw [h1]
 have h2:shrK .u64 ((i:Int) + (j:Int)) 1 = (((i + j) / 2:Nat):Int):=by
  have:(2:Int) ^ (min (1:Int).toNat IntKind.u64.bits) = 2:=by decide
  unfold shrK
  rw [this,Int.fdiv_eq_ediv_of_nonneg _ (by omega)]
  omega
 rw [h2,wrap64 (by omega) (by omega)]
theorem By {n:Nat} (x y:S_Check):∃ r,F_d n x y = some r ∧ decide (r < 0) = decide (x.Slack < y.Slack):=by
 simp only [F_d,F_j,F_f,obs,bne_self_eq_false,cF]
 by_cases h:x.Slack < y.Slack
 ·rw [decide_eq_true h,cT]; exact ⟨_,rfl,rfl⟩
 ·rw [decide_eq_false h,cF]
  by_cases h2:x.Slack > y.Slack
  ·rw [decide_eq_true h2,cT]; exact ⟨_,rfl,rfl⟩
  ·rw [decide_eq_false h2,cF]; exact ⟨_,rfl,rfl⟩
abbrev kS (x:S_Check):Int:=x.Slack
theorem gM {α:Type} {A B:List α} {x:α} {m:Nat} (h:m = A.length):getI (A ++ x :: B) (m:Int) = some x:=by
 subst h; rw [getI_nat]; simp
theorem sM {α:Type} {A B:List α} {x y:α} {m:Nat} (h:m = A.length):(A ++ x :: B).set m y = A ++ y :: B:=by
 subst h; simp
theorem wAd {a b:Nat} (h:a + b ≤ 4611686018427387904):IntKind.wrap .i64 ((a:Int) + (b:Int)) = ((a + b:Nat):Int):=by rw [wrap64 (by omega) (by omega)]; omega
theorem wD {a b:Nat} (h:b ≤ a) (ha:a ≤ 4611686018427387904):IntKind.wrap .i64 ((a:Int) - (b:Int)) = ((a - b:Nat):Int):=by rw [wrap64 (by omega) (by omega)]; omega
theorem wPr {a:Nat} (h:1 ≤ a) (ha:a ≤ 4611686018427387904):IntKind.wrap .i64 ((a:Int) - 1) = ((a - 1:Nat):Int):=by rw [wrap64 (by omega) (by omega)]; omega
theorem InsB {n a:Nat} {P:List S_Check} {k:Int → List S_Check → Option (List S_Check)} (ha:a = P.length) {x:S_Check}:∀ (m:Nat) (O T:List S_Check),O.length < m → P.length + O.length ≤ 1048576 → Ord kS O →
 ∃ j:Int,F_2_L2 n (a:Int) k m ((P.length + O.length:Nat):Int) (P ++ O ++ x :: T) = k j (P ++ mgL kS O [x] ++ T)
 | 0,O,T,hm,_,_=>by omega
 | m + 1,O,T,hm,hl,ho=>by
  rw [F_2_L2.eq_2]
  rcases List.eq_nil_or_concat O with e | ⟨O',y,e⟩
  ·subst e
   rw [show decide (((P.length + ([]:List S_Check).length:Nat):Int) > (a:Int)) = false from decide_eq_false (by simp [ha]),cF,mgL_nl]
   exact ⟨((P.length + ([]:List S_Check).length:Nat):Int),by simp⟩
  ·subst e
   rw [List.concat_eq_append] at *
   have e1:(O' ++ [y]).length = O'.length + 1:=by simp
   rw [e1] at hm hl ⊢
   have hp:decide (((P.length + (O'.length + 1):Nat):Int) > (a:Int)) = true:=decide_eq_true (by omega)
   have l1:P ++ (O' ++ [y]) ++ x :: T = (P ++ O' ++ [y]) ++ x :: T:=by simp
   have l2:P ++ (O' ++ [y]) ++ x :: T = (P ++ O') ++ y :: x :: T:=by simp
   have g1:getI (P ++ (O' ++ [y]) ++ x :: T) ((P.length + (O'.length + 1):Nat):Int) = some x:=by rw [l1]; exact gM (by simp <;> omega)
   have g2:getI (P ++ (O' ++ [y]) ++ x :: T) ((P.length + (O'.length + 1) - 1:Nat):Int) = some y:=by rw [l2]; exact gM (by simp <;> omega)
   have s1:(P ++ (O' ++ [y]) ++ x :: T).set (P.length + (O'.length + 1)) y = (P ++ O') ++ y :: y :: T:=by rw [l1,sM (by simp <;> omega)]; simp
   have g3:getI ((P ++ O') ++ y :: y :: T) ((P.length + (O'.length + 1) - 1:Nat):Int) = some y:=gM (by simp <;> omega)
   have s2:((P ++ O') ++ y :: y :: T).set (P.length + (O'.length + 1) - 1) x = P ++ O' ++ x :: (y :: T):=by rw [sM (by simp <;> omega)]
   have ho':=List.pairwise_append.1 ho
   obtain ⟨r,f,hr⟩:=By (n:=n) x y
   simp only [hp,cT,wPr (show 1 ≤ P.length + (O'.length + 1) by omega) (by omega),g1,g2,obs,f,hr]
   by_cases c:x.Slack < y.Slack
   ·simp only [decide_eq_true c,cT,Int.toNat_natCast,s1,g3,s2,obs]
    obtain ⟨j,e⟩:=InsB (k:=k) (x:=x) (n:=n) ha m O' (y :: T) (by omega) (by omega) ho'.1
    rw [show P.length + (O'.length + 1) - 1 = P.length + O'.length by omega,e,mgL_ins_lt kS c]
    exact ⟨j,by simp⟩
   ·simp only [decide_eq_false c,cF]
    rw [mgL_ins_ge kS (A:=O' ++ [y]) (x:=x) fun z hz=>?_]
    ·exact ⟨((P.length + (O'.length + 1):Nat):Int),by simp⟩
    ·have:kS y ≤ kS x:=by show y.Slack ≤ x.Slack; omega
     rcases List.mem_append.1 hz with h | h
     ·exact Int.le_trans (ho'.2.2 z h y (List.mem_singleton.2 rfl)) this
     ·rw [List.mem_singleton.1 h]; exact this
theorem Ins1 {n a b:Nat} {P:List S_Check} (ha:a = P.length) (hn:8388608 ≤ n) (S:List S_Check):∀ (m:Nat) (X Y:List S_Check),Y.length < m → b = P.length + X.length + Y.length → b ≤ 1048576 → 
 F_2_L1 n (a:Int) (b:Int) (fun _ l=>some l) m ((P.length + X.length:Nat):Int) (P ++ srtL kS X ++ Y ++ S) = some (P ++ srtL kS (X ++ Y) ++ S)
 | 0,X,Y,hm,_,_=>by omega
 | m + 1,X,[],hm,hb,hl=>by
  rw [F_2_L1.eq_2]
  have:decide (((P.length + X.length:Nat):Int) < (b:Int)) = false:=decide_eq_false (by simp at hb; omega)
  rw [this,cF]; simp
 | m + 1,X,y :: Y,hm,hb,hl=>by
  rw [F_2_L1.eq_2]
  rw [List.length_cons] at hm hb
  have:decide (((P.length + X.length:Nat):Int) < (b:Int)) = true:=decide_eq_true (by omega)
  rw [this,cT]
  have e1:P.length + X.length = P.length + (srtL kS X).length:=by rw [srtL_len]
  obtain ⟨j,e⟩:=InsB (n:=n) (k:=fun _ l=>F_2_L1 n (a:Int) (b:Int) (fun _ l=>some l) m (IntKind.wrap .i64 (((P.length + X.length:Nat):Int) + 1)) l) ha (x:=y) n (srtL kS X) (Y ++ S) (by rw [srtL_len]; omega) (by rw [srtL_len]; omega) (srtL_ord kS X)
  rw [← e1] at e
  rw [show P ++ srtL kS X ++ y :: Y ++ S = P ++ srtL kS X ++ y :: (Y ++ S) by simp,e,← srtL_snoc,wS (by omega)]
  have:=Ins1 (b:=b) ha hn S m (X ++ [y]) Y (by omega) (by simp <;> omega) hl
  rw [show P ++ srtL kS (X ++ [y]) ++ (Y ++ S) = P ++ srtL kS (X ++ [y]) ++ Y ++ S by simp,show P.length + X.length + 1 = P.length + (X ++ [y]).length by simp; omega,this]
  simp
theorem Ins {n a b:Nat} {P X S:List S_Check} (ha:a = P.length) (hb:b = P.length + X.length) (hl:b ≤ 1048576) (hn:8388608 ≤ n):F_2 n (P ++ X ++ S) (a:Int) (b:Int) = some (P ++ srtL kS X ++ S):=by
 rw [F_2,wS (by omega)]
 cases X with
 | nil =>
  obtain ⟨m,rfl⟩:∃ m,n = m + 1:=⟨n - 1,by omega⟩
  rw [F_2_L1.eq_2]
  have:decide (((a + 1:Nat):Int) < (b:Int)) = false:=decide_eq_false (by simp at hb; omega)
  rw [this,cF]; simp [srtL]
 | cons x X =>
  have:=Ins1 (a:=a) (b:=b) ha hn S n [x] X (by simp at hb; omega) (by simp at hb ⊢; omega) hl
  rw [show a + 1 = P.length + [x].length by simp [ha]]
  rw [show P ++ x :: X ++ S = P ++ srtL kS [x] ++ X ++ S by simp [srtL,mgL]]
  exact this
theorem Swr {n b:Nat} {P M S:List S_Check} {a:Nat}:∀ (m:Nat) (Na Oa Nb Ob:List S_Check) (N:Nat),Nb.length < m → Na.length = Oa.length → Nb.length = Ob.length → a = P.length → b = P.length + Na.length + Nb.length + M.length → N = Na.length + Nb.length → b + N ≤ 4194304 →
 F_5_L1 (a:Int) (b:Int) (N:Int) (fun _ l=>some l) m (Na.length:Int) (P ++ Oa ++ Nb ++ M ++ Na ++ Ob ++ S) = some (P ++ Oa ++ Ob ++ M ++ Na ++ Nb ++ S)
 | 0,Na,Oa,Nb,Ob,N,hm,_,_,_,_,_,_=>by omega
 | m + 1,Na,Oa,[],Ob,N,hm,h1,h2,ha,hb,hN,hl=>by
  rw [F_5_L1.eq_2]
  have:decide ((Na.length:Int) < (N:Int)) = false:=decide_eq_false (by simp at hN; omega)
  rw [this,cF]
  have:Ob = []:=List.eq_nil_of_length_eq_zero (by simpa using h2.symm)
  subst this; simp
 | m + 1,Na,Oa,x :: Nb,[],N,hm,h1,h2,ha,hb,hN,hl=>by simp at h2
 | m + 1,Na,Oa,x :: Nb,y :: Ob,N,hm,h1,h2,ha,hb,hN,hl=>by
  rw [F_5_L1.eq_2]
  simp only [List.length_cons] at hm h2 hb hN
  have hd:decide ((Na.length:Int) < (N:Int)) = true:=decide_eq_true (by omega)
  have l1:P ++ Oa ++ x :: Nb ++ M ++ Na ++ y :: Ob ++ S = (P ++ Oa ++ x :: Nb ++ M ++ Na) ++ y :: (Ob ++ S):=by simp
  have l2:P ++ Oa ++ x :: Nb ++ M ++ Na ++ y :: Ob ++ S = (P ++ Oa) ++ x :: (Nb ++ M ++ Na ++ y :: Ob ++ S):=by simp
  have g1:getI (P ++ Oa ++ x :: Nb ++ M ++ Na ++ y :: Ob ++ S) ((b + Na.length:Nat):Int) = some y:=by rw [l1]; exact gM (by simp <;> omega)
  have g2:getI (P ++ Oa ++ x :: Nb ++ M ++ Na ++ y :: Ob ++ S) ((a + Na.length:Nat):Int) = some x:=by rw [l2]; exact gM (by simp <;> omega)
  have s1:(P ++ Oa ++ x :: Nb ++ M ++ Na ++ y :: Ob ++ S).set (a + Na.length) y = (P ++ Oa ++ y :: Nb ++ M ++ Na) ++ y :: (Ob ++ S):=by rw [l2,sM (by simp <;> omega)]; simp
  have g3:getI ((P ++ Oa ++ y :: Nb ++ M ++ Na) ++ y :: (Ob ++ S)) ((b + Na.length:Nat):Int) = some y:=gM (by simp <;> omega)
  have s2:((P ++ Oa ++ y :: Nb ++ M ++ Na) ++ y :: (Ob ++ S)).set (b + Na.length) x = (P ++ Oa ++ y :: Nb ++ M ++ Na) ++ x :: (Ob ++ S):=sM (by simp <;> omega)
  simp only [hd,cT,wAd (show b + Na.length ≤ 4611686018427387904 by omega),wAd (show a + Na.length ≤ 4611686018427387904 by omega),g1,g2,obs,Int.toNat_natCast,s1,g3,s2,wS (show Na.length < 4611686018427387904 by omega)]
  have:=Swr (n:=n) (a:=a) (b:=b) (P:=P) (M:=M) (S:=S) m (Na ++ [x]) (Oa ++ [y]) Nb Ob N (by omega) (by simp <;> omega) (by omega) ha (by simp <;> omega) (by simp <;> omega) hl
  rw [show ((P ++ Oa ++ y :: Nb ++ M ++ Na) ++ x :: (Ob ++ S)) = P ++ (Oa ++ [y]) ++ Nb ++ M ++ (Na ++ [x]) ++ Ob ++ S by simp,show Na.length + 1 = (Na ++ [x]).length by simp,this]
  simp
theorem Sw {n a b N:Nat} {P X M Y S:List S_Check} (hx:X.length = N) (hy:Y.length = N) (ha:a = P.length) (hb:b = P.length + X.length + M.length) (hl:b + N ≤ 4194304) (hn:8388608 ≤ n):F_5 n (P ++ X ++ M ++ Y ++ S) (a:Int) (b:Int) (N:Int) = some (P ++ Y ++ M ++ X ++ S):=by
 rw [F_5]
 have:=Swr (n:=n) (a:=a) (b:=b) (P:=P) (M:=M) (S:=S) n [] [] X Y N (by omega) rfl (by omega) ha (by simp <;> omega) (by simp <;> omega) hl
 simpa using this
theorem Rot1 {n m0:Nat} (hn:8388608 ≤ n):∀ (m:Nat) (P X Y S:List S_Check),X.length + Y.length < m → 0 < X.length → 0 < Y.length → m0 = P.length + X.length → P.length + X.length + Y.length ≤ 2097152 →
 F_4_L1 n (m0:Int) (fun i _ l=>(Option.bind (F_5 n l (IntKind.wrap .i64 ((m0:Int) - i)) (m0:Int) i) fun r=>(some r))) m (X.length:Int) (Y.length:Int) (P ++ X ++ Y ++ S) = some (P ++ Y ++ X ++ S)
 | 0,P,X,Y,S,hm,_,_,_,_=>by omega
 | m + 1,P,X,Y,S,hm,hx,hy,h0,hl=>by
  rw [F_4_L1.eq_2]
  have wm:IntKind.wrap .i64 ((m0:Int) - (X.length:Int)) = (P.length:Int):=by rw [wD (by omega) (by omega)]; exact congrArg Nat.cast (by omega)
  by_cases e:X.length = Y.length
  ·rw [show ((X.length:Int) != (Y.length:Int)) = false by rw [e]; simp,cF,wm]
   have:=Sw (n:=n) (a:=P.length) (b:=m0) (N:=X.length) (P:=P) (X:=X) (M:=[]) (Y:=Y) (S:=S) rfl e.symm rfl (by simp <;> omega) (by omega) hn
   simp only [List.append_nil] at this
   rw [this]; rfl
  ·rw [show ((X.length:Int) != (Y.length:Int)) = true by rw [bne_iff_ne]; omega,cT]
   by_cases c:X.length > Y.length
   ·rw [decide_eq_true (show (X.length:Int) > (Y.length:Int) by omega),cT,wm,wD (show Y.length ≤ X.length by omega) (by omega)]
    have eX:X = X.take Y.length ++ X.drop Y.length:=(List.take_append_drop _ _).symm
    have t1:(X.take Y.length).length = Y.length:=by rw [List.length_take]; omega
    have t2:(X.drop Y.length).length = X.length - Y.length:=List.length_drop ..
    generalize X.take Y.length = Na at eX t1
    generalize X.drop Y.length = Nb at eX t2
    subst eX
    have:=Sw (n:=n) (a:=P.length) (b:=m0) (N:=Y.length) (P:=P) (X:=Na) (M:=Nb) (Y:=Y) (S:=S) t1 rfl rfl (by rw [h0]; simp; omega) (by omega) hn
    rw [show P ++ (Na ++ Nb) ++ Y ++ S = P ++ Na ++ Nb ++ Y ++ S by simp,this,obs,← t2]
    have:=Rot1 (m0:=m0) hn m (P ++ Y) Nb Na S (by simp at hm; omega) (by omega) (by omega) (by rw [h0]; simp; omega) (by simp at hl ⊢; omega)
    rw [show P ++ Y ++ Nb ++ Na ++ S = (P ++ Y) ++ Nb ++ Na ++ S by simp,show ((Y.length:Nat):Int) = (Na.length:Int) by rw [t1],this]
    simp
   ·rw [decide_eq_false (show ¬ (X.length:Int) > (Y.length:Int) by omega),cF,wm,wAd (show m0 + Y.length ≤ _ by omega),wD (show X.length ≤ m0 + Y.length by omega) (by omega),wD (show X.length ≤ Y.length by omega) (by omega)]
    have eY:Y = Y.take (Y.length - X.length) ++ Y.drop (Y.length - X.length):=(List.take_append_drop _ _).symm
    have t1:(Y.take (Y.length - X.length)).length = Y.length - X.length:=by rw [List.length_take]; omega
    have t2:(Y.drop (Y.length - X.length)).length = X.length:=by rw [List.length_drop]; omega
    generalize Y.take (Y.length - X.length) = Oa at eY t1
    generalize Y.drop (Y.length - X.length) = Ob at eY t2
    subst eY
    have:=Sw (n:=n) (a:=P.length) (b:=m0 + (Oa ++ Ob).length - X.length) (N:=X.length) (P:=P) (X:=X) (M:=Oa) (Y:=Ob) (S:=S) rfl t2 rfl (by simp <;> omega) (by simp at hl ⊢; omega) hn
    rw [show P ++ X ++ (Oa ++ Ob) ++ S = P ++ X ++ Oa ++ Ob ++ S by simp,this,obs,← t1]
    have:=Rot1 (m0:=m0) hn m P Ob Oa (X ++ S) (by simp at hm; omega) (by omega) (by simp at e c hy; omega) (by omega) (by simp at hl; omega)
    rw [show P ++ Ob ++ Oa ++ X ++ S = P ++ Ob ++ Oa ++ (X ++ S) by simp,show ((X.length:Nat):Int) = (Ob.length:Int) by rw [t2],this]
    simp
theorem Rot {n a m b:Nat} {P X Y S:List S_Check} (ha:a = P.length) (hm:m = P.length + X.length) (hb:b = P.length + X.length + Y.length) (hx:0 < X.length) (hy:0 < Y.length) (hl:b ≤ 2097152) (hn:8388608 ≤ n):F_4 n (P ++ X ++ Y ++ S) (a:Int) (m:Int) (b:Int) = some (P ++ Y ++ X ++ S):=by
 rw [F_4,wD (show a ≤ m by omega) (by omega),wD (show m ≤ b by omega) (by omega),show m - a = X.length by omega,show b - m = Y.length by omega]
 exact Rot1 hn n P X Y S (by omega) hx hy hm (by omega)
theorem bsrch {R:Type} {L:Nat → Int → Int → Option R} {k:Int → Int → Option R} (p:Nat → Bool) (lo hi:Nat)
 (hs:∀ (m i j:Nat),lo ≤ i → i < j → j ≤ hi → L (m + 1) (i:Int) (j:Int) = bif p ((i + j) / 2) then L m (((i + j) / 2 + 1:Nat):Int) (j:Int) else L m (i:Int) (((i + j) / 2:Nat):Int))
 (he:∀ (m i:Nat),L (m + 1) (i:Int) (i:Int) = k (i:Int) (i:Int))
 (mono:∀ h h',lo ≤ h → h ≤ h' → h' < hi → p h' = true → p h = true):∀ (m i j:Nat),j - i < m → lo ≤ i → i ≤ j → j ≤ hi → (∀ h,lo ≤ h → h < i → p h = true) → (∀ h,j ≤ h → h < hi → p h = false) →
 ∃ t:Nat,lo ≤ t ∧ t ≤ hi ∧ (∀ h,lo ≤ h → h < t → p h = true) ∧ (∀ h,t ≤ h → h < hi → p h = false) ∧ L m (i:Int) (j:Int) = k (t:Int) (t:Int)
 | 0,i,j,hm,_,_,_,_,_=>by omega
 | m + 1,i,j,hm,h1,h2,h3,h4,h5=>by
  by_cases e:i = j
  ·subst e
   exact ⟨i,h1,h3,h4,h5,he m i⟩
  ·have hlt:i < j:=by omega
   rw [hs m i j h1 hlt h3]
   cases c:p ((i + j) / 2) with
   | true =>
    rw [cT]
    exact bsrch p lo hi hs he mono m ((i + j) / 2 + 1) j (by omega) (by omega) (by omega) h3 (fun h a b=>mono h ((i + j) / 2) a (by omega) (by omega) c) h5
   | false =>
    rw [cF]
    refine bsrch p lo hi hs he mono m i ((i + j) / 2) (by omega) h1 (by omega) (by omega) h4 (fun h a b=>?_)
    cases q:p h with
    | false=>rfl
    | true=>rw [mono ((i + j) / 2) h (by omega) a b q] at c; cases c
theorem Shf1 {i:Nat}:∀ (m:Nat) (P B T:List S_Check) (x:S_Check),B.length < m → i = P.length + 1 + B.length → i ≤ 1048576 →
 F_0_L2 (i:Int) (fun _ l=>some l) m (P.length:Int) (P ++ x :: (B ++ T)) = some (P ++ B ++ x :: T)
 | 0,P,B,T,x,hm,_,_=>by omega
 | m + 1,P,[],T,x,hm,hi,hl=>by
  rw [F_0_L2.eq_2,wPr (by omega) (by omega)]
  have:decide ((P.length:Int) < ((i - 1:Nat):Int)) = false:=decide_eq_false (by simp at hi; omega)
  rw [this,cF]; simp
 | m + 1,P,y :: B,T,x,hm,hi,hl=>by
  rw [F_0_L2.eq_2,wPr (by omega) (by omega)]
  rw [List.length_cons] at hm hi
  have hd:decide ((P.length:Int) < ((i - 1:Nat):Int)) = true:=decide_eq_true (by omega)
  have l1:P ++ x :: (y :: B ++ T) = (P ++ [x]) ++ y :: (B ++ T):=by simp
  have g1:getI (P ++ x :: (y :: B ++ T)) ((P.length + 1:Nat):Int) = some y:=by rw [l1]; exact gM (by simp)
  have g2:getI (P ++ x :: (y :: B ++ T)) (P.length:Int) = some x:=gM rfl
  have s1:(P ++ x :: (y :: B ++ T)).set P.length y = (P ++ [y]) ++ y :: (B ++ T):=by rw [sM rfl]; simp
  have g3:getI ((P ++ [y]) ++ y :: (B ++ T)) ((P.length + 1:Nat):Int) = some y:=gM (by simp)
  have s2:((P ++ [y]) ++ y :: (B ++ T)).set (P.length + 1) x = (P ++ [y]) ++ x :: (B ++ T):=sM (by simp)
  simp only [hd,cT,wS (show P.length < 4611686018427387904 by omega),g1,g2,obs,Int.toNat_natCast,s1,g3,s2]
  have:=Shf1 (i:=i) m (P ++ [y]) B T x (by omega) (by simp <;> omega) hl
  rw [show P.length + 1 = (P ++ [y]).length by simp,this]
  simp
theorem Shf2 {i:Nat}:∀ (m:Nat) (P A T:List S_Check) (x:S_Check),A.length < m → i = P.length → P.length + A.length ≤ 1048576 →
 F_0_L4 (i:Int) (fun _ l=>some l) m ((P.length + A.length:Nat):Int) (P ++ A ++ x :: T) = some (P ++ x :: (A ++ T))
 | 0,P,A,T,x,hm,_,_=>by omega
 | m + 1,P,A,T,x,hm,hi,hl=>by
  rw [F_0_L4.eq_2]
  rcases List.eq_nil_or_concat A with e | ⟨A',y,e⟩
  ·subst e
   have:decide (((P.length + ([]:List S_Check).length:Nat):Int) > (i:Int)) = false:=decide_eq_false (by simp [hi])
   rw [this,cF]; simp
  ·subst e
   rw [List.concat_eq_append] at *
   have e1:(A' ++ [y]).length = A'.length + 1:=by simp
   rw [e1] at hm hl ⊢
   have hd:decide (((P.length + (A'.length + 1):Nat):Int) > (i:Int)) = true:=decide_eq_true (by omega)
   have l1:P ++ (A' ++ [y]) ++ x :: T = (P ++ A' ++ [y]) ++ x :: T:=by simp
   have l2:P ++ (A' ++ [y]) ++ x :: T = (P ++ A') ++ y :: x :: T:=by simp
   have g1:getI (P ++ (A' ++ [y]) ++ x :: T) ((P.length + (A'.length + 1):Nat):Int) = some x:=by rw [l1]; exact gM (by simp <;> omega)
   have g2:getI (P ++ (A' ++ [y]) ++ x :: T) ((P.length + (A'.length + 1) - 1:Nat):Int) = some y:=by rw [l2]; exact gM (by simp <;> omega)
   have s1:(P ++ (A' ++ [y]) ++ x :: T).set (P.length + (A'.length + 1)) y = (P ++ A') ++ y :: y :: T:=by rw [l1,sM (by simp <;> omega)]; simp
   have g3:getI ((P ++ A') ++ y :: y :: T) ((P.length + (A'.length + 1) - 1:Nat):Int) = some y:=gM (by simp <;> omega)
   have s2:((P ++ A') ++ y :: y :: T).set (P.length + (A'.length + 1) - 1) x = P ++ A' ++ x :: (y :: T):=by rw [sM (by simp <;> omega)]
   simp only [hd,cT,wPr (show 1 ≤ P.length + (A'.length + 1) by omega) (by omega),g1,g2,obs,Int.toNat_natCast,s1,g3,s2]
   have:=Shf2 (i:=i) m P A' (y :: T) x (by omega) hi (by omega)
   rw [show P.length + (A'.length + 1) - 1 = P.length + A'.length by omega,this]
   simp
theorem gA {P A S:List S_Check} {h:Nat} (h1:P.length ≤ h) (h2:h < P.length + A.length):getI (P ++ A ++ S) (h:Int) = some (A[h - P.length]'(by omega)):=by
 rw [getI_nat,List.append_assoc,List.getElem?_append_right h1,List.getElem?_append_left (by omega)]
 exact List.getElem?_eq_getElem _
theorem Ord.le {L:List S_Check} (h:Ord kS L) {i j:Nat} (hij:i ≤ j) (hj:j < L.length):(L[i]'(by omega)).Slack ≤ L[j].Slack:=by
 rcases Nat.lt_or_eq_of_le hij with c | c
 ·exact List.pairwise_iff_getElem.1 h i j (by omega) hj c
 ·subst c; exact Int.le_refl _
theorem drop_all {α:Type} {Q:α → Prop} {L:List α} {t:Nat} (h:∀ j (hj:j < L.length),t ≤ j → Q L[j]):∀ x ∈ L.drop t,Q x:=fun x hx=>by
 obtain ⟨j,hj,rfl⟩:=List.mem_iff_getElem.1 hx
 rw [List.length_drop] at hj
 rw [List.getElem_drop]; exact h _ (by omega) (by omega)
theorem take_all {α:Type} {Q:α → Prop} {L:List α} {t:Nat} (h:∀ j (hj:j < L.length),j < t → Q L[j]):∀ x ∈ L.take t,Q x:=fun x hx=>by
 obtain ⟨j,hj,rfl⟩:=List.mem_iff_getElem.1 hx
 rw [List.length_take] at hj
 rw [List.getElem_take]; exact h _ (by omega) (by omega)
def SymOk (n:Nat) (s:Nat):Prop:=∀ (P A B S:List S_Check) (a m b:Nat),A.length + B.length ≤ s → 0 < A.length → 0 < B.length → Ord kS A → Ord kS B → a = P.length → m = P.length + A.length → b = P.length + A.length + B.length → b ≤ 1048576 →
 F_0 n (P ++ A ++ B ++ S) (a:Int) (m:Int) (b:Int) = some (P ++ mgL kS A B ++ S)
def symT (n a st md en b:Nat) (q:List S_Check):Option (List S_Check) :=
 (bif (decide ((a:Int) < (st:Int)) && decide ((st:Int) < (md:Int))) then (Option.bind (F_0 n q (a:Int) (st:Int) (md:Int)) fun r=>(bif (decide ((md:Int) < (en:Int)) && decide ((en:Int) < (b:Int))) then (Option.bind (F_0 n r (md:Int) (en:Int) (b:Int)) fun r2=>(some r2)) else (some r)))
  else (bif (decide ((md:Int) < (en:Int)) && decide ((en:Int) < (b:Int))) then (Option.bind (F_0 n q (md:Int) (en:Int) (b:Int)) fun r2=>(some r2)) else (some q)))
theorem Two {n s:Nat} (ih:SymOk n s) {P La Ma Lb Mb S:List S_Check} {a st md en b:Nat} (o1:Ord kS La) (o2:Ord kS Ma) (o3:Ord kS Lb) (o4:Ord kS Mb) (h1:La.length + Ma.length ≤ s) (h2:Lb.length + Mb.length ≤ s)
 (ha:a = P.length) (hst:st = a + La.length) (hmd:md = st + Ma.length) (hen:en = md + Lb.length) (hb:b = en + Mb.length) (hl:b ≤ 1048576)
 (hA:∀ x ∈ La,∀ y ∈ Mb,kS x ≤ kS y) (hB:∀ y ∈ Ma,∀ x ∈ Lb,kS y < kS x) :
 symT n a st md en b (P ++ La ++ Ma ++ (Lb ++ Mb ++ S)) = some (P ++ mgL kS (La ++ Lb) (Ma ++ Mb) ++ S):=by
 rw [mgL_split kS hA hB]
 unfold symT
 have second:∀ Q:List S_Check,Q.length = md → (bif (decide ((md:Int) < (en:Int)) && decide ((en:Int) < (b:Int))) then (Option.bind (F_0 n (Q ++ (Lb ++ Mb ++ S)) (md:Int) (en:Int) (b:Int)) fun r2=>(some r2)) else (some (Q ++ (Lb ++ Mb ++ S)))) = some (Q ++ (mgL kS Lb Mb ++ S)):=by
  intro Q hQ
  cases c:(decide ((md:Int) < (en:Int)) && decide ((en:Int) < (b:Int))) with
  | true =>
   rw [Bool.and_eq_true,decide_eq_true_eq,decide_eq_true_eq] at c
   have:=ih Q Lb Mb S md en b h2 (by omega) (by omega) o3 o4 hQ.symm (by omega) (by omega) hl
   rw [cT,show Q ++ (Lb ++ Mb ++ S) = Q ++ Lb ++ Mb ++ S by simp,this]; simp
  | false =>
   rw [cF]
   rw [Bool.and_eq_false_iff,decide_eq_false_iff_not,decide_eq_false_iff_not] at c
   rcases c with c | c
   ·obtain rfl:Lb = []:=List.eq_nil_of_length_eq_zero (by omega)
    rw [mgL_nl]; simp
   ·obtain rfl:Mb = []:=List.eq_nil_of_length_eq_zero (by omega)
    rw [mgL_nr]; simp
 cases c:(decide ((a:Int) < (st:Int)) && decide ((st:Int) < (md:Int))) with
 | true =>
  rw [Bool.and_eq_true,decide_eq_true_eq,decide_eq_true_eq] at c
  have:=ih P La Ma (Lb ++ Mb ++ S) a st md h1 (by omega) (by omega) o1 o2 ha (by omega) (by omega) (by omega)
  rw [cT,this,obs,second (P ++ mgL kS La Ma) (by rw [List.length_append,mgL_len]; omega)]; simp
 | false =>
  rw [cF,second (P ++ La ++ Ma) (by simp <;> omega)]
  rw [Bool.and_eq_false_iff,decide_eq_false_iff_not,decide_eq_false_iff_not] at c
  rcases c with c | c
  ·obtain rfl:La = []:=List.eq_nil_of_length_eq_zero (by omega)
   rw [mgL_nl]; simp
  ·obtain rfl:Ma = []:=List.eq_nil_of_length_eq_zero (by omega)
   rw [mgL_nr]; simp
def kAt (L:List S_Check) (j:Nat):Int:=((L[j]?).map kS).getD 0
theorem kAt_el {L:List S_Check} {j:Nat} (h:j < L.length):kAt L j = L[j].Slack:=by
 unfold kAt; rw [List.getElem?_eq_getElem h]; rfl
theorem notlt {x y:Int}:(!decide (x < y)) = decide (y ≤ x):=by
 by_cases h:x < y
 ·rw [decide_eq_true h,decide_eq_false (by omega)]; rfl
 ·rw [decide_eq_false h,decide_eq_true (by omega)]; rfl
theorem Sym5 {n a m b md lo hi:Nat} {P A B S:List S_Check} {k8:Int → Int → Option (List S_Check)} (oA:Ord kS A) (oB:Ord kS B) (ha:a = P.length) (hm:m = P.length + A.length) (hb:b = P.length + A.length + B.length) (hl:b ≤ 1048576) (hmd:md = (a + b) / 2) (hn:8388608 ≤ n)
 (h1:a ≤ lo) (h2:lo ≤ hi) (h3:hi ≤ m) (h4:hi ≤ md) (h5:md + m ≤ lo + b) (h6:0 < md) :
 ∃ t:Nat,lo ≤ t ∧ t ≤ hi ∧ (∀ h,lo ≤ h → h < t → kAt A (h - a) ≤ kAt B (md - 1 - h)) ∧ (∀ h,t ≤ h → h < hi → kAt B (md - 1 - h) < kAt A (h - a)) ∧
  F_0_L5 n (P ++ A ++ B ++ S) (a:Int) (m:Int) (b:Int) k8 n (lo:Int) (hi:Int) = k8 (t:Int) (t:Int):=by
 have hA:∀ h (h1:lo ≤ h) (h2:h < hi),getI (P ++ A ++ B ++ S) (h:Int) = some (A[h - P.length]'(by omega)):=fun h a1 a2=>by
  rw [show P ++ A ++ B ++ S = P ++ A ++ (B ++ S) by simp]; exact gA (by omega) (by omega)
 have hB:∀ h (h1:lo ≤ h) (h2:h < hi),getI (P ++ A ++ B ++ S) ((md + m - 1 - h:Nat):Int) = some (B[md - 1 - h]'(by omega)):=fun h a1 a2=>by
  rw [show P ++ A ++ B ++ S = (P ++ A) ++ B ++ S by simp]
  have:=gA (P:=P ++ A) (A:=B) (S:=S) (h:=md + m - 1 - h) (by simp <;> omega) (by simp <;> omega)
  rw [this]
  congr 1
  congr 1
  simp; omega
 obtain ⟨t,t1,t2,t3,t4,t5⟩:=bsrch (L:=fun m' i j=>F_0_L5 n (P ++ A ++ B ++ S) (a:Int) (m:Int) (b:Int) k8 m' i j) (k:=k8) (fun h=>decide (kAt A (h - a) ≤ kAt B (md - 1 - h))) lo hi
  (fun m' i j a1 a2 a3=>by
   obtain ⟨r,f,hr⟩:=By (n:=n) (B[md - 1 - (i + j) / 2]'(by omega)) (A[(i + j) / 2 - P.length]'(by omega))
   have hr:(!decide (r < 0)) = _:=(congrArg Bool.not hr).trans notlt
   simp only [F_0_L5.eq_2,decide_eq_true (show (i:Int) < (j:Int) by omega),cT,hlf (show i + j ≤ 4611686018427387904 by omega),hlf (show a + b ≤ 4611686018427387904 by omega),← hmd,wAd (show md + m ≤ 4611686018427387904 by omega),wPr (show 1 ≤ md + m by omega) (by omega),wD (show (i + j) / 2 ≤ md + m - 1 by omega) (by omega),hA ((i + j) / 2) (by omega) (by omega),hB ((i + j) / 2) (by omega) (by omega),obs,f,hr,wS (show (i + j) / 2 < 4611686018427387904 by omega)]
   rw [kAt_el (show (i + j) / 2 - a < A.length by omega),kAt_el (show md - 1 - (i + j) / 2 < B.length by omega)]
   simp only [ha])
  (fun m' i=>by
   simp only [F_0_L5.eq_2,decide_eq_false (show ¬ (i:Int) < (i:Int) by omega),cF])
  (fun h h' a1 a2 a3 hp=>by
   rw [decide_eq_true_eq] at hp ⊢
   rw [kAt_el (show h' - a < A.length by omega),kAt_el (show md - 1 - h' < B.length by omega)] at hp
   rw [kAt_el (show h - a < A.length by omega),kAt_el (show md - 1 - h < B.length by omega)]
   have:=oA.le (show h - a ≤ h' - a by omega) (by omega)
   have:=oB.le (show md - 1 - h' ≤ md - 1 - h by omega) (by omega)
   omega) n lo hi (by omega) (Nat.le_refl _) h2 (Nat.le_refl _) (fun h x y=>by omega) (fun h x y=>by omega)
 refine ⟨t,t1,t2,fun h x y=>?_,fun h x y=>?_,t5⟩
 ·have:=t3 h x y; rwa [decide_eq_true_eq] at this
 ·have:=t4 h x y; rw [decide_eq_false_iff_not] at this; omega
theorem Sym6 {Q:Option (List S_Check) → Prop} {n a m b md lo hi:Nat} {P A B S:List S_Check} {k8:Int → Int → Option (List S_Check)} (oA:Ord kS A) (oB:Ord kS B) (ha:a = P.length) (hm:m = P.length + A.length) (hb:b = P.length + A.length + B.length) (hl:b ≤ 1048576) (hmd:md = (a + b) / 2) (hn:8388608 ≤ n)
 (h1:a ≤ lo) (h2:lo ≤ hi) (h3:hi ≤ m) (h4:hi ≤ md) (h5:md + m ≤ lo + b) (h6:0 < md)
 (h:∀ t:Nat,lo ≤ t → t ≤ hi → (∀ h,lo ≤ h → h < t → kAt A (h - a) ≤ kAt B (md - 1 - h)) → (∀ h,t ≤ h → h < hi → kAt B (md - 1 - h) < kAt A (h - a)) → Q (k8 (t:Int) (t:Int))) :
 Q (F_0_L5 n (P ++ A ++ B ++ S) (a:Int) (m:Int) (b:Int) k8 n (lo:Int) (hi:Int)):=by
 obtain ⟨t,t1,t2,t3,t4,t5⟩:=Sym5 (k8:=k8) (S:=S) oA oB ha hm hb hl hmd hn h1 h2 h3 h4 h5 h6
 rw [t5]; exact h t t1 t2 t3 t4
theorem SymK {n s a m b md t en lo hi:Nat} (ih:SymOk n s) {P A B S:List S_Check} (oA:Ord kS A) (oB:Ord kS B) (hs:A.length + B.length ≤ s + 1) (ha:a = P.length) (hm:m = P.length + A.length) (hb:b = P.length + A.length + B.length) (hl:b ≤ 1048576) (hmd:md = (a + b) / 2) (hn:8388608 ≤ n)
 (hA0:1 < A.length) (hB0:1 < B.length) (h1:a ≤ lo) (h2:lo ≤ t) (h3:t ≤ hi) (h4:hi ≤ m) (h5:hi ≤ md) (h6:md + m ≤ lo + b) (h7:lo = a ∨ md + m = lo + b) (h8:hi = m ∨ hi = md) (hen:en = md + m - t)
 (tA:∀ h,lo ≤ h → h < t → kAt A (h - a) ≤ kAt B (md - 1 - h)) (tB:∀ h,t ≤ h → h < hi → kAt B (md - 1 - h) < kAt A (h - a)) :
 (bif (decide ((t:Int) < (m:Int)) && decide ((m:Int) < (en:Int))) then (Option.bind (F_4 n (P ++ A ++ B ++ S) (t:Int) (m:Int) (en:Int)) fun r=>symT n a t md en b r) else symT n a t md en b (P ++ A ++ B ++ S)) = some (P ++ mgL kS A B ++ S):=by
 have eA:A = A.take (t - a) ++ A.drop (t - a):=(List.take_append_drop _ _).symm
 have eB:B = B.take (md - t) ++ B.drop (md - t):=(List.take_append_drop _ _).symm
 have a1:(A.take (t - a)).length = t - a:=by rw [List.length_take]; omega
 have a2:(A.drop (t - a)).length = m - t:=by rw [List.length_drop]; omega
 have b1:(B.take (md - t)).length = md - t:=by rw [List.length_take]; omega
 have b2:(B.drop (md - t)).length = b - en:=by rw [List.length_drop]; omega
 have cA:∀ x ∈ A.take (t - a),∀ y ∈ B.drop (md - t),kS x ≤ kS y:=by
  rcases Nat.lt_or_eq_of_le h2 with c | c
  ·have c1:=tA (t - 1) (by omega) (by omega)
   refine take_all fun i hi hit=>drop_all fun j hj hjt=>?_
   rw [kAt_el (show t - 1 - a < A.length by omega),kAt_el (show md - 1 - (t - 1) < B.length by omega)] at c1
   have:=oA.le (show i ≤ t - 1 - a by omega) (by omega)
   have:=oB.le (show md - 1 - (t - 1) ≤ j by omega) hj
   show A[i].Slack ≤ B[j].Slack
   omega
  ·rcases h7 with c2 | c2
   ·intro x hx
    rw [show t - a = 0 by omega] at hx; cases hx
   ·intro x _ y hy
    rw [List.drop_eq_nil_of_le (by omega)] at hy; cases hy
 have cB:∀ y ∈ B.take (md - t),∀ x ∈ A.drop (t - a),kS y < kS x:=by
  rcases Nat.lt_or_eq_of_le h3 with c | c
  ·have c1:=tB t (Nat.le_refl _) c
   refine take_all fun j hj hjt=>drop_all fun i hi hit=>?_
   rw [kAt_el (show t - a < A.length by omega),kAt_el (show md - 1 - t < B.length by omega)] at c1
   have:=oA.le (show t - a ≤ i by omega) hi
   have:=oB.le (show j ≤ md - 1 - t by omega) (by omega)
   show B[j].Slack < A[i].Slack
   omega
  ·rcases h8 with c2 | c2
   ·intro y _ x hx
    rw [List.drop_eq_nil_of_le (by omega)] at hx; cases hx
   ·intro y hy
    rw [show md - t = 0 by omega] at hy; cases hy
 have o1:=oA.sublist (List.take_sublist (t - a) A)
 have o2:=oA.sublist (List.drop_sublist (t - a) A)
 have o3:=oB.sublist (List.take_sublist (md - t) B)
 have o4:=oB.sublist (List.drop_sublist (md - t) B)
 generalize A.take (t - a) = La at *
 generalize A.drop (t - a) = Lb at *
 generalize B.take (md - t) = Ma at *
 generalize B.drop (md - t) = Mb at *
 subst eA eB
 rw [List.length_append] at *
 have two:=Two (S:=S) ih o1 o3 o2 o4 (a:=a) (st:=t) (md:=md) (en:=en) (b:=b) (P:=P) (by omega) (by omega) ha (by omega) (by omega) (by omega) (by omega) hl cA cB
 cases c:(decide ((t:Int) < (m:Int)) && decide ((m:Int) < (en:Int))) with
 | true =>
  rw [Bool.and_eq_true,decide_eq_true_eq,decide_eq_true_eq] at c
  have:=Rot (n:=n) (a:=t) (m:=m) (b:=en) (P:=P ++ La) (X:=Lb) (Y:=Ma) (S:=Mb ++ S) (by simp <;> omega) (by simp <;> omega) (by simp <;> omega) (by omega) (by omega) (by omega) hn
  rw [cT,show P ++ (La ++ Lb) ++ (Ma ++ Mb) ++ S = P ++ La ++ Lb ++ Ma ++ (Mb ++ S) by simp,this,obs,show P ++ La ++ Ma ++ Lb ++ (Mb ++ S) = P ++ La ++ Ma ++ (Lb ++ Mb ++ S) by simp,two]
 | false =>
  rw [cF]
  rw [Bool.and_eq_false_iff,decide_eq_false_iff_not,decide_eq_false_iff_not] at c
  have:P ++ (La ++ Lb) ++ (Ma ++ Mb) ++ S = P ++ La ++ Ma ++ (Lb ++ Mb ++ S):=by
   rcases c with c | c
   ·obtain rfl:Lb = []:=List.eq_nil_of_length_eq_zero (by omega)
    simp
   ·obtain rfl:Ma = []:=List.eq_nil_of_length_eq_zero (by omega)
    simp
  rw [this,two]
theorem bs1 {n m b a:Nat} {P B S:List S_Check} {x:S_Check} {k0:Int → Int → Option (List S_Check)} (oB:Ord kS B) (ha:a = P.length) (hm:m = P.length + 1) (hb:b = P.length + 1 + B.length) (hl:b ≤ 1048576) (hn:8388608 ≤ n) :
 ∃ t:Nat,m ≤ t ∧ t ≤ b ∧ (∀ h,m ≤ h → h < t → kAt B (h - m) < x.Slack) ∧ (∀ h,t ≤ h → h < b → x.Slack ≤ kAt B (h - m)) ∧ F_0_L1 n (P ++ [x] ++ B ++ S) (a:Int) k0 n (m:Int) (b:Int) = k0 (t:Int) (t:Int):=by
 have hX:getI (P ++ [x] ++ B ++ S) (a:Int) = some x:=by rw [show P ++ [x] ++ B ++ S = P ++ x :: (B ++ S) by simp]; exact gM ha
 have hB:∀ h (h1:m ≤ h) (h2:h < b),getI (P ++ [x] ++ B ++ S) (h:Int) = some (B[h - m]'(by omega)):=fun h a1 a2=>by
  have:=gA (P:=P ++ [x]) (A:=B) (S:=S) (h:=h) (by simp <;> omega) (by simp <;> omega)
  rw [this]
  congr 1
  congr 1
  simp; omega
 obtain ⟨t,t1,t2,t3,t4,t5⟩:=bsrch (L:=fun m' i j=>F_0_L1 n (P ++ [x] ++ B ++ S) (a:Int) k0 m' i j) (k:=k0) (fun h=>decide (kAt B (h - m) < x.Slack)) m b
  (fun m' i j a1 a2 a3=>by
   obtain ⟨r,f,hr⟩:=By (n:=n) (B[(i + j) / 2 - m]'(by omega)) x
   simp only [F_0_L1.eq_2,decide_eq_true (show (i:Int) < (j:Int) by omega),cT,hlf (show i + j ≤ 4611686018427387904 by omega),hB ((i + j) / 2) (by omega) (by omega),hX,obs,f,hr,wS (show (i + j) / 2 < 4611686018427387904 by omega)]
   rw [kAt_el (show (i + j) / 2 - m < B.length by omega)])
  (fun m' i=>by
   simp only [F_0_L1.eq_2,decide_eq_false (show ¬ (i:Int) < (i:Int) by omega),cF])
  (fun h h' a1 a2 a3 hp=>by
   rw [decide_eq_true_eq] at hp ⊢
   rw [kAt_el (show h' - m < B.length by omega)] at hp
   rw [kAt_el (show h - m < B.length by omega)]
   have:=oB.le (show h - m ≤ h' - m by omega) (by omega)
   omega) n m b (by omega) (Nat.le_refl _) (by omega) (Nat.le_refl _) (fun h x y=>by omega) (fun h x y=>by omega)
 refine ⟨t,t1,t2,fun h x y=>?_,fun h x y=>?_,t5⟩
 ·have:=t3 h x y; rwa [decide_eq_true_eq] at this
 ·have:=t4 h x y; rw [decide_eq_false_iff_not] at this; omega
theorem bs3 {n m a:Nat} {P A S:List S_Check} {x:S_Check} {k4:Int → Int → Option (List S_Check)} (oA:Ord kS A) (ha:a = P.length) (hm:m = P.length + A.length) (hl:m ≤ 1048576) (hn:8388608 ≤ n) :
 ∃ t:Nat,a ≤ t ∧ t ≤ m ∧ (∀ h,a ≤ h → h < t → kAt A (h - a) ≤ x.Slack) ∧ (∀ h,t ≤ h → h < m → x.Slack < kAt A (h - a)) ∧ F_0_L3 n (P ++ A ++ [x] ++ S) (m:Int) k4 n (a:Int) (m:Int) = k4 (t:Int) (t:Int):=by
 have hX:getI (P ++ A ++ [x] ++ S) (m:Int) = some x:=by rw [show P ++ A ++ [x] ++ S = (P ++ A) ++ x :: S by simp]; exact gM (by simp <;> omega)
 have hA:∀ h (h1:a ≤ h) (h2:h < m),getI (P ++ A ++ [x] ++ S) (h:Int) = some (A[h - a]'(by omega)):=fun h a1 a2=>by
  subst ha
  rw [show P ++ A ++ [x] ++ S = P ++ A ++ (x :: S) by simp]; exact gA a1 (by omega)
 obtain ⟨t,t1,t2,t3,t4,t5⟩:=bsrch (L:=fun m' i j=>F_0_L3 n (P ++ A ++ [x] ++ S) (m:Int) k4 m' i j) (k:=k4) (fun h=>decide (kAt A (h - a) ≤ x.Slack)) a m
  (fun m' i j a1 a2 a3=>by
   obtain ⟨r,f,hr⟩:=By (n:=n) x (A[(i + j) / 2 - a]'(by omega))
   have hr:(!decide (r < 0)) = _:=(congrArg Bool.not hr).trans notlt
   simp only [F_0_L3.eq_2,decide_eq_true (show (i:Int) < (j:Int) by omega),cT,hlf (show i + j ≤ 4611686018427387904 by omega),hA ((i + j) / 2) (by omega) (by omega),hX,obs,f,hr,wS (show (i + j) / 2 < 4611686018427387904 by omega)]
   rw [kAt_el (show (i + j) / 2 - a < A.length by omega)])
  (fun m' i=>by
   simp only [F_0_L3.eq_2,decide_eq_false (show ¬ (i:Int) < (i:Int) by omega),cF])
  (fun h h' a1 a2 a3 hp=>by
   rw [decide_eq_true_eq] at hp ⊢
   rw [kAt_el (show h' - a < A.length by omega)] at hp
   rw [kAt_el (show h - a < A.length by omega)]
   have:=oA.le (show h - a ≤ h' - a by omega) (by omega)
   omega) n a m (by omega) (Nat.le_refl _) (by omega) (Nat.le_refl _) (fun h x y=>by omega) (fun h x y=>by omega)
 refine ⟨t,t1,t2,fun h x y=>?_,fun h x y=>?_,t5⟩
 ·have:=t3 h x y; rwa [decide_eq_true_eq] at this
 ·have:=t4 h x y; rw [decide_eq_false_iff_not] at this; omega
theorem SymAll:∀ s n,8388608 + s ≤ n → SymOk n s
 | 0,n,hn=>fun P A B S a m b h1 h2 h3 oA oB ha hm hb hl=>by omega
 | s + 1,0,hn=>by omega
 | s + 1,n + 1,hn=>fun P A B S a m b h1 h2 h3 oA oB ha hm hb hl=>by
  rw [F_m,wD (show a ≤ m by omega) (by omega),wD (show m ≤ b by omega) (by omega)]
  by_cases c1:A.length = 1
  ·rw [show (((m - a:Nat):Int) == 1) = true by rw [beq_iff_eq]; omega,cT]
   obtain ⟨x,rfl⟩:=List.length_eq_one_iff.1 c1
   have c1:[x].length = 1:=rfl
   obtain ⟨t,t1,t2,t3,t4,t5⟩:=bs1 (n:=n) (m:=m) (b:=b) (a:=a) (P:=P) (B:=B) (S:=S) (x:=x) (k0:=fun i8 _=>(F_0_L2 i8 (fun i13 l14=>(some l14)) n (a:Int) (P ++ [x] ++ B ++ S))) oB ha (by omega) (by omega) hl (by omega)
   rw [t5]
   have eB:B = B.take (t - m) ++ B.drop (t - m):=(List.take_append_drop _ _).symm
   have b1:(B.take (t - m)).length = t - m:=by rw [List.length_take]; omega
   have cA:∀ y ∈ B.drop (t - m),x.Slack ≤ kS y:=drop_all fun j hj hjt=>by
    have:=t4 (m + j) (by omega) (by omega)
    rwa [show m + j - m = j by omega,kAt_el hj] at this
   have cB:∀ y ∈ B.take (t - m),kS y < x.Slack:=take_all fun j hj hjt=>by
    have:=t3 (m + j) (by omega) (by omega)
    rwa [show m + j - m = j by omega,kAt_el hj] at this
   generalize B.take (t - m) = Ma at *
   generalize B.drop (t - m) = Mb at *
   subst eB
   have sp:=mgL_split kS (La:=[]) (Lb:=[x]) (Ma:=Ma) (Mb:=Mb) (fun a h=>nomatch h) (fun y hy z hz=>by rw [List.mem_singleton.1 hz]; exact cB y hy)
   have sq:=mgL_split kS (La:=[x]) (Lb:=[]) (Ma:=[]) (Mb:=Mb) (fun z hz y hy=>by rw [List.mem_singleton.1 hz]; exact cA y hy) (fun a h=>nomatch h)
   simp only [List.nil_append,mgL_nl,mgL_nr,List.append_nil] at sp sq
   rw [sp,sq,ha]
   have:=Shf1 (i:=t) n P Ma (Mb ++ S) x (by rw [List.length_append] at hb; omega) (by omega) (by omega)
   rw [show P ++ [x] ++ (Ma ++ Mb) ++ S = P ++ x :: (Ma ++ (Mb ++ S)) by simp,this]
   simp
  ·rw [show (((m - a:Nat):Int) == 1) = false by rw [beq_eq_false_iff_ne]; omega,cF]
   by_cases c2:B.length = 1
   ·rw [show (((b - m:Nat):Int) == 1) = true by rw [beq_iff_eq]; omega,cT]
    obtain ⟨x,rfl⟩:=List.length_eq_one_iff.1 c2
    have c2:[x].length = 1:=rfl
    obtain ⟨t,t1,t2,t3,t4,t5⟩:=bs3 (n:=n) (m:=m) (a:=a) (P:=P) (A:=A) (S:=S) (x:=x) (k4:=fun i172 _=>(F_0_L4 i172 (fun i177 l178=>(some l178)) n (m:Int) (P ++ A ++ [x] ++ S))) oA ha hm (by omega) (by omega)
    rw [t5]
    have eA:A = A.take (t - a) ++ A.drop (t - a):=(List.take_append_drop _ _).symm
    have a1:(A.take (t - a)).length = t - a:=by rw [List.length_take]; omega
    have a2:(A.drop (t - a)).length = m - t:=by rw [List.length_drop]; omega
    have cA:∀ y ∈ A.take (t - a),kS y ≤ x.Slack:=take_all fun j hj hjt=>by
     have:=t3 (a + j) (by omega) (by omega)
     rwa [show a + j - a = j by omega,kAt_el hj] at this
    have cB:∀ y ∈ A.drop (t - a),x.Slack < kS y:=drop_all fun j hj hjt=>by
     have:=t4 (a + j) (by omega) (by omega)
     rwa [show a + j - a = j by omega,kAt_el hj] at this
    generalize A.take (t - a) = La at *
    generalize A.drop (t - a) = Lb at *
    subst eA
    have sp:=mgL_split kS (La:=La) (Lb:=Lb) (Ma:=[x]) (Mb:=[]) (fun a _ b h=>nomatch h) (fun y hy z hz=>by rw [List.mem_singleton.1 hy]; exact cB z hz)
    simp only [List.append_nil,mgL_nr] at sp
    rw [sp,mgL_ins_ge kS cA]
    rw [List.length_append] at hm hb
    have:=Shf2 (i:=t) n (P ++ La) Lb S x (by omega) (by simp <;> omega) (by simp <;> omega)
    rw [show P ++ (La ++ Lb) ++ [x] ++ S = (P ++ La) ++ Lb ++ x :: S by simp,show m = (P ++ La).length + Lb.length by simp; omega,this]
    simp
   ·rw [show (((b - m:Nat):Int) == 1) = false by rw [beq_eq_false_iff_ne]; omega,cF]
    have ih:=SymAll s n (by omega)
    simp only [hlf (show a + b ≤ 4611686018427387904 by omega),wAd (show (a + b) / 2 + m ≤ 4611686018427387904 by omega)]
    by_cases c3:m > (a + b) / 2
    ·rw [decide_eq_true (show (m:Int) > (((a + b) / 2:Nat):Int) by omega),cT]
     have c4:b ≤ (a + b) / 2 + m:=by omega
     rw [wD c4 (by omega)]
     refine Sym6 (Q:=fun o=>o = some (P ++ mgL kS A B ++ S)) (n:=n) (a:=a) (m:=m) (b:=b) (md:=(a + b) / 2) (lo:=(a + b) / 2 + m - b) (hi:=(a + b) / 2) (P:=P) (A:=A) (B:=B) (S:=S) oA oB ha hm hb hl rfl (by omega) (by omega) (by omega) (by omega) (Nat.le_refl _) (by omega) (by omega) fun t t1 t2 t3 t4=>?_
     simp only [wD (show t ≤ (a + b) / 2 + m by omega) (show (a + b) / 2 + m ≤ 4611686018427387904 by omega)]
     exact SymK ih oA oB h1 ha hm hb hl rfl (by omega) (by omega) (by omega) (by omega) t1 t2 (by omega) (Nat.le_refl _) (by omega) (.inr (by omega)) (.inr rfl) rfl t3 t4
    ·rw [decide_eq_false (show ¬ (m:Int) > (((a + b) / 2:Nat):Int) by omega),cF]
     refine Sym6 (Q:=fun o=>o = some (P ++ mgL kS A B ++ S)) (n:=n) (a:=a) (m:=m) (b:=b) (md:=(a + b) / 2) (lo:=a) (hi:=m) (P:=P) (A:=A) (B:=B) (S:=S) oA oB ha hm hb hl rfl (by omega) (by omega) (by omega) (by omega) (by omega) (by omega) (by omega) fun t t1 t2 t3 t4=>?_
     simp only [wD (show t ≤ (a + b) / 2 + m by omega) (show (a + b) / 2 + m ≤ 4611686018427387904 by omega)]
     exact SymK ih oA oB h1 ha hm hb hl rfl (by omega) (by omega) (by omega) (Nat.le_refl _) t1 t2 (Nat.le_refl _) (by omega) (by omega) (.inl rfl) (.inl rfl) rfl t3 t4
def blkL (s:Nat):Nat → List S_Check → List S_Check
 | 0,_=>[]
 | f + 1,L=>srtL kS (L.take s) ++ blkL s f (L.drop s)
theorem blkL_nil (s:Nat):∀ f,blkL s f [] = []
 | 0=>rfl
 | f + 1=>by rw [blkL,List.take_nil,List.drop_nil,blkL_nil s f]; rfl
theorem blkL_app {s f:Nat} {X Y:List S_Check} (h:X.length = s):blkL s (f + 1) (X ++ Y) = srtL kS X ++ blkL s f Y:=by
 rw [blkL,List.take_left' h,List.drop_left' h]
theorem blkL_one {s f:Nat} {L:List S_Check} (h:L.length ≤ s):blkL s (f + 1) L = srtL kS L:=by
 rw [blkL,List.take_of_length_le h,List.drop_eq_nil_of_le h,blkL_nil,List.append_nil]
theorem blkL_fuel {s:Nat} (hs:0 < s):∀ (f g:Nat) (L:List S_Check),L.length ≤ f → L.length ≤ g → blkL s f L = blkL s g L
 | 0,g,L,h1,_=>by
  obtain rfl:L = []:=List.eq_nil_of_length_eq_zero (by omega)
  rw [blkL_nil,blkL_nil]
 | f + 1,0,L,_,h2=>by
  obtain rfl:L = []:=List.eq_nil_of_length_eq_zero (by omega)
  rw [blkL_nil,blkL_nil]
 | f + 1,g + 1,L,h1,h2=>by
  by_cases e:L.length = 0
  ·obtain rfl:L = []:=List.eq_nil_of_length_eq_zero e
   rw [blkL_nil,blkL_nil]
  ·rw [blkL,blkL,blkL_fuel hs f g (L.drop s) (by rw [List.length_drop]; omega) (by rw [List.length_drop]; omega)]
theorem Stb1 {n N:Nat} {k0:Int → Int → List S_Check → Option (List S_Check)} (hn:8388608 ≤ n) (hN:N ≤ 1048576):∀ (m:Nat) (Q R:List S_Check),R.length < m → N = Q.length + R.length →
 (∀ (Q' X:List S_Check) (j:Int),N = Q'.length + X.length → X.length < 20 → k0 (Q'.length:Int) j (Q' ++ X) = (Option.bind (F_2 n (Q' ++ X) (Q'.length:Int) (N:Int)) fun r=>F_1_L2 n (N:Int) (fun _ l=>some l) n 20 r)) →
 F_1_L1 n (N:Int) k0 m (Q.length:Int) ((Q.length + 20:Nat):Int) (Q ++ R) = F_1_L2 n (N:Int) (fun _ l=>some l) n 20 (Q ++ blkL 20 (R.length + 1) R)
 | 0,Q,R,hm,_,_=>by omega
 | m + 1,Q,R,hm,hQ,hk=>by
  rw [F_1_L1.eq_2]
  by_cases c:Q.length + 20 ≤ N
  ·rw [decide_eq_true (show ((Q.length + 20:Nat):Int) ≤ (N:Int) by omega),cT]
   have eR:R = R.take 20 ++ R.drop 20:=(List.take_append_drop _ _).symm
   have t1:(R.take 20).length = 20:=by rw [List.length_take]; omega
   generalize R.take 20 = X at eR t1
   generalize R.drop 20 = Y at eR
   subst eR
   have:=Ins (n:=n) (a:=Q.length) (b:=Q.length + 20) (P:=Q) (X:=X) (S:=Y) rfl (by omega) (by omega) hn
   rw [List.length_append] at hm hQ
   have wa:IntKind.wrap .i64 (((Q.length + 20:Nat):Int) + 20) = ((Q.length + 20 + 20:Nat):Int):=by rw [wrap64 (by omega) (by omega)]; omega
   rw [← List.append_assoc,this,obs,wa]
   have:=Stb1 (k0:=k0) hn hN m (Q ++ srtL kS X) Y (by omega) (by rw [List.length_append,srtL_len]; omega) hk
   rw [List.length_append,srtL_len,t1] at this
   rw [this,List.append_assoc,List.length_append,t1,show 20 + Y.length + 1 = (Y.length + 20) + 1 by omega,blkL_app t1,blkL_fuel (by omega) (Y.length + 20) (Y.length + 1) Y (by omega) (by omega)]
  ·rw [decide_eq_false (show ¬ ((Q.length + 20:Nat):Int) ≤ (N:Int) by omega),cF,hk Q R _ hQ (by omega)]
   have:=Ins (n:=n) (a:=Q.length) (b:=N) (P:=Q) (X:=R) (S:=[]) rfl hQ (by omega) hn
   rw [List.append_nil,List.append_nil] at this
   rw [this,obs,blkL_one (by omega)]
theorem Stb3 {n N s:Nat} {k4:Int → Int → List S_Check → Option (List S_Check)} (hn:16777216 ≤ n) (hN:N ≤ 1048576) (hs:0 < s) (hsN:s < N):∀ (m:Nat) (Q R:List S_Check),R.length < m → N = Q.length + R.length →
 ∀ post:List S_Check → Option (List S_Check),(∀ (Q' X:List S_Check) (j:Int),N = Q'.length + X.length → X.length < 2 * s → k4 (Q'.length:Int) j (Q' ++ blkL s (X.length + 1) X) = post (Q' ++ srtL kS X)) →
 F_1_L3 n (N:Int) (s:Int) k4 m (Q.length:Int) ((Q.length + 2 * s:Nat):Int) (Q ++ blkL s (R.length + 1) R) = post (Q ++ blkL (2 * s) (R.length + 1) R)
 | 0,Q,R,hm,_,_,_=>by omega
 | m + 1,Q,R,hm,hQ,post,hk=>by
  rw [F_1_L3.eq_2]
  by_cases c:Q.length + 2 * s ≤ N
  ·rw [decide_eq_true (show ((Q.length + 2 * s:Nat):Int) ≤ (N:Int) by omega),cT]
   have eR:R = R.take s ++ ((R.drop s).take s ++ (R.drop s).drop s):=by rw [List.take_append_drop,List.take_append_drop]
   have t1:(R.take s).length = s:=by rw [List.length_take]; omega
   have t2:((R.drop s).take s).length = s:=by rw [List.length_take,List.length_drop]; omega
   generalize R.take s = X at eR t1
   generalize (R.drop s).take s = Z at eR t2
   generalize (R.drop s).drop s = Y at eR
   subst eR
   rw [List.length_append,List.length_append] at hm hQ
   have e1:blkL s ((X ++ (Z ++ Y)).length + 1) (X ++ (Z ++ Y)) = srtL kS X ++ (srtL kS Z ++ blkL s (Y.length + 1) Y):=by
    rw [blkL_app t1,List.length_append,List.length_append,t2,show X.length + (s + Y.length) = (X.length + Y.length + s - 1) + 1 by omega,blkL_app t2,blkL_fuel hs _ (Y.length + 1) Y (by omega) (by omega)]
   have e2:blkL (2 * s) ((X ++ (Z ++ Y)).length + 1) (X ++ (Z ++ Y)) = srtL kS (X ++ Z) ++ blkL (2 * s) (Y.length + 1) Y:=by
    rw [← List.append_assoc,blkL_app (by rw [List.length_append]; omega),blkL_fuel (by omega) _ (Y.length + 1) Y (by simp <;> omega) (by omega)]
   have sym:=SymAll (2 * s) n (by omega) Q (srtL kS X) (srtL kS Z) (blkL s (Y.length + 1) Y) Q.length (Q.length + s) (Q.length + 2 * s) (by rw [srtL_len,srtL_len]; omega) (by rw [srtL_len]; omega) (by rw [srtL_len]; omega) (srtL_ord kS X) (srtL_ord kS Z) rfl (by rw [srtL_len]; omega) (by rw [srtL_len,srtL_len]; omega) (by omega)
   have wa:IntKind.wrap .i64 (((Q.length + 2 * s:Nat):Int) + ((2 * s:Nat):Int)) = ((Q.length + 2 * s + 2 * s:Nat):Int):=wAd (by omega)
   have w2:IntKind.wrap .i64 (2 * (s:Int)) = ((2 * s:Nat):Int):=by rw [wrap64 (by omega) (by omega)]; omega
   rw [e1,e2,wAd (show Q.length + s ≤ _ by omega),show Q ++ (srtL kS X ++ (srtL kS Z ++ blkL s (Y.length + 1) Y)) = Q ++ srtL kS X ++ srtL kS Z ++ blkL s (Y.length + 1) Y by simp,sym,obs,← srtL_app,w2,wa]
   have:=Stb3 (k4:=k4) hn hN hs hsN m (Q ++ srtL kS (X ++ Z)) Y (by omega) (by rw [List.length_append,srtL_len,List.length_append]; omega) post hk
   rw [List.length_append,srtL_len,List.length_append,t1,t2,show Q.length + (s + s) = Q.length + 2 * s by omega] at this
   rw [this,List.append_assoc]
  ·rw [decide_eq_false (show ¬ ((Q.length + 2 * s:Nat):Int) ≤ (N:Int) by omega),cF,hk Q R _ hQ (by omega),blkL_one (by omega)]
theorem Stb2 {n N:Nat} (hn:16777216 ≤ n) (hN:N ≤ 1048576) {L:List S_Check} (hL:L.length = N):∀ (m s:Nat),0 < s → s ≤ 2 * N + 20 → N - s < m → F_1_L2 n (N:Int) (fun _ l=>some l) m (s:Int) (blkL s (L.length + 1) L) = some (srtL kS L)
 | 0,s,hs,h2,hm=>by omega
 | m + 1,s,hs,h2,hm=>by
  rw [F_1_L2.eq_2]
  by_cases c:s < N
  ·have w2:IntKind.wrap .i64 (2 * (s:Int)) = ((2 * s:Nat):Int):=by rw [wrap64 (by omega) (by omega)]; omega
   have w3:IntKind.wrap .i64 ((s:Int) * 2) = ((2 * s:Nat):Int):=by rw [wrap64 (by omega) (by omega)]; omega
   rw [decide_eq_true (show (s:Int) < (N:Int) by omega),cT,w2]
   have ih:=Stb2 hn hN hL m (2 * s) (by omega) (by omega) (by omega)
   have:=Stb3 (n:=n) (N:=N) (s:=s) (k4:=fun i26 i27 l28=>(bif decide (IntKind.wrap .i64 (i26 + (s:Int)) < (N:Int)) then (Option.bind (F_0 n l28 i26 (IntKind.wrap .i64 (i26 + (s:Int))) (N:Int)) fun r30=>(F_1_L2 n (N:Int) (fun _ l=>some l) m (IntKind.wrap .i64 ((s:Int) * 2)) r30)) else (F_1_L2 n (N:Int) (fun _ l=>some l) m (IntKind.wrap .i64 ((s:Int) * 2)) l28))) hn hN hs c n [] L (by omega) (by simp [hL]) (fun q=>F_1_L2 n (N:Int) (fun _ l=>some l) m ((2 * s:Nat):Int) q) (fun Q' X j h3 h4=>by
    simp only [wAd (show Q'.length + s ≤ 4611686018427387904 by omega),w3]
    by_cases c2:Q'.length + s < N
    ·rw [decide_eq_true (show ((Q'.length + s:Nat):Int) < (N:Int) by omega),cT]
     have eX:X = X.take s ++ X.drop s:=(List.take_append_drop _ _).symm
     have t1:(X.take s).length = s:=by rw [List.length_take]; omega
     have t2:0 < (X.drop s).length:=by rw [List.length_drop]; omega
     generalize X.take s = Y at eX t1
     generalize X.drop s = Z at eX t2
     subst eX
     rw [List.length_append] at h3 h4
     have sym:=SymAll (2 * s) n (by omega) Q' (srtL kS Y) (srtL kS Z) [] Q'.length (Q'.length + s) N (by rw [srtL_len,srtL_len]; omega) (by rw [srtL_len]; omega) (by rw [srtL_len]; omega) (srtL_ord kS Y) (srtL_ord kS Z) rfl (by rw [srtL_len]; omega) (by rw [srtL_len,srtL_len]; omega) hN
     have e1:blkL s ((Y ++ Z).length + 1) (Y ++ Z) = srtL kS Y ++ srtL kS Z:=by
      rw [blkL_app t1,List.length_append,show Y.length + Z.length = (Y.length + Z.length - 1) + 1 by omega,blkL_one (by omega)]
     rw [List.append_nil,List.append_nil] at sym
     rw [e1,← List.append_assoc,sym,obs,srtL_app]
    ·rw [decide_eq_false (show ¬ ((Q'.length + s:Nat):Int) < (N:Int) by omega),cF,blkL_one (by omega)])
   rw [List.nil_append,List.nil_append] at this
   have e0:((0:Nat):Int) = 0:=rfl
   simp only [List.length_nil,Nat.zero_add] at this
   exact this.trans ih
  ·rw [decide_eq_false (show ¬ (s:Int) < (N:Int) by omega),cF,blkL_one (by omega)]
theorem Stb {n:Nat} {L:List S_Check} (hL:L.length ≤ 1048576) (hn:16777216 ≤ n):F_h n L = some (srtL kS L):=by
 rw [F_h,F_1]
 have:=Stb1 (n:=n) (N:=L.length) (k0:=fun i8 i9 l10=>(Option.bind (F_2 n l10 i8 (L.length:Int)) fun r12=>(F_1_L2 n (L.length:Int) (fun i21 l22=>(some l22)) n 20 r12))) (by omega) hL n [] L (by omega) (by simp) (fun Q' X j h1 h2=>rfl)
 simp only [List.nil_append,List.length_nil,Nat.zero_add] at this
 have e2:=Stb2 (n:=n) hn hL (L:=L) rfl n 20 (by omega) (by omega) (by omega)
 have e:F_1_L1 n (L.length:Int) (fun i8 i9 l10=>(Option.bind (F_2 n l10 i8 (L.length:Int)) fun r12=>(F_1_L2 n (L.length:Int) (fun i21 l22=>(some l22)) n 20 r12))) n 0 20 L = some (srtL kS L):=this.trans e2
 rw [e]; rfl
abbrev negS (x:S_Check):Bool:=decide (x.Slack < 0)
theorem Vio1 (n:Nat) (x:S_Check):F_e n x = some (!negS x):=by
 rw [F_e]
 congr 1
 by_cases h:x.Slack < 0
 ·rw [show negS x = true from decide_eq_true h,decide_eq_false (by omega)]; rfl
 ·rw [show negS x = false from decide_eq_false h,decide_eq_true (by omega)]; rfl
theorem VioI {n:Nat} {L:List S_Check} (hl:L.length ≤ 1048576) (hn:1048577 ≤ n):∃ r,F_a n L = some r ∧
 (r = -1 ∧ L.filter negS = L ∨ ∃ i:Nat,r = (i:Int) ∧ i < L.length ∧ (L.take (i + 1)).filter negS = L.take i):=by
 rw [F_a]
 refine loop (L:=fun m i (_:Unit)=>F_a_L1 n L (fun i5=>(some (-1))) m i) L.length (fun i _=>(L.take i).filter negS = L.take i) (fun o=>∃ r,o = some r ∧ (r = -1 ∧ L.filter negS = L ∨ ∃ i:Nat,r = (i:Int) ∧ i < L.length ∧ (L.take (i + 1)).filter negS = L.take i)) ?_ ?_ n 0 () (by omega) (by omega) (by simp)
 ·intro m i _ hi h
  simp only [F_a_L1.eq_2,dlt hi,cT,getI_el hi,obs,Vio1,wT i]
  cases c:negS L[i] with
  | true =>
   refine .inl ⟨(),?_,by rw [Bool.not_true,cF]⟩
   rw [List.take_succ_eq_append_getElem hi,List.filter_append,h,List.filter_cons,if_pos c]; rfl
  | false =>
   rw [Bool.not_false,cT]
   refine .inr ⟨_,rfl,.inr ⟨i,rfl,hi,?_⟩⟩
   rw [List.take_succ_eq_append_getElem hi,List.filter_append,h,List.filter_cons,if_neg (by rw [c]; simp),List.filter_nil,List.append_nil]
 ·intro m _ h
  simp only [F_a_L1.eq_2,dnl,cF]
  rw [List.take_length] at h
  exact ⟨-1,rfl,.inl ⟨rfl,h⟩⟩
theorem VioD1 {n:Nat} {L:List S_Check} {k0:Int → Int → List S_Check → Option (List S_Check)} (hl:L.length ≤ 1048576) (hk:∀ (p:Nat) (q:Int) (l:List S_Check),l.length = L.length → p ≤ L.length → k0 (p:Int) q l = some (l.take p)) :
 ∀ (m p q:Nat) (l:List S_Check),L.length - q < m → l.length = L.length → p < q → q ≤ L.length → (∀ j,q ≤ j → l[j]? = L[j]?) → l.take p = (L.take q).filter negS →
 F_7_L1 n k0 m (p:Int) (q:Int) l = some (L.filter negS)
 | 0,p,q,l,hm,_,_,_,_,_=>by omega
 | m + 1,p,q,l,hm,h1,h2,h3,h4,h5=>by
  rw [F_7_L1.eq_2,h1]
  by_cases c:q < L.length
  ·have e1:getI l (q:Int) = some L[q]:=by rw [getI_nat,h4 q (Nat.le_refl _)]; exact List.getElem?_eq_getElem c
   have e2:getI l (p:Int) = some l[p]:=getI_el (by omega)
   simp only [dlt c,cT,e1,obs,Vio1,Bool.not_not,e2,wT p,wT q,Int.toNat_natCast]
   have tk:=List.take_succ_eq_append_getElem c
   cases d:negS L[q] with
   | true =>
    rw [cT]
    refine VioD1 hl hk m (p + 1) (q + 1) (l.set p L[q]) (by omega) (by rw [List.length_set]; exact h1) (by omega) (by omega) (fun j hj=>?_) ?_
    ·rw [List.getElem?_set_ne (by omega)]; exact h4 j (by omega)
    ·rw [tk,List.filter_append,← h5,List.take_succ_eq_append_getElem (by rw [List.length_set]; omega)]
     simp [List.take_set_of_le,d]
   | false =>
    rw [cF]
    refine VioD1 hl hk m p (q + 1) l (by omega) h1 (by omega) (by omega) (fun j hj=>h4 j (by omega)) ?_
    rw [tk,List.filter_append,← h5]
    simp [d]
  ·obtain rfl:q = L.length:=by omega
   rw [dnl,cF,hk p _ l h1 (by omega),h5,List.take_length]
theorem VioD {n:Nat} {L:List S_Check} (hl:L.length ≤ 1048576) (hn:1048577 ≤ n):F_7 n L = some (L.filter negS):=by
 obtain ⟨r,f,h | ⟨i,e,hi,h⟩⟩:=VioI (n:=n) hl hn
 ·rw [F_7,f,h.1,h.2]; rfl
 ·have e3:((i:Int) == -1) = false:=by rw [beq_eq_false_iff_ne]; omega
  rw [F_7,f,e,obs,e3,cF,wS (by omega)]
  refine VioD1 hl (fun p q l e1 e2=>?_) n i (i + 1) L (by omega) rfl (by omega) (by omega) (fun _ _=>rfl) h.symm
  have a1:subL l (p:Int) (l.length:Int) = some ((l.take (l.length:Int).toNat).drop (p:Int).toNat):=if_pos ⟨by omega,by omega,by omega⟩
  have a2:subL (l.take p ++ List.replicate (l.length - p) (S_Check.mk 0 0 0 0)) 0 (p:Int) = some (((l.take p ++ List.replicate (l.length - p) (S_Check.mk 0 0 0 0)).take (p:Int).toNat).drop (0:Int).toNat):=if_pos ⟨by omega,by omega,by simp; omega⟩
  simp only [a1,obs,Int.toNat_natCast,a2]
  have:(l.take p).length = p:=by rw [List.length_take]; omega
  rw [List.take_append_of_le_length (by omega)]
  simp
  rw [List.take_take,Nat.min_self]
theorem VioS2 {L l:List S_Check} {i:Nat} {k2:Int → Option (List S_Check)} {x:S_Check} (hx:getI L (i:Int) = some x) (hl:l.length ≤ 1048576):∀ (m t:Nat),t < m → t ≤ l.length → (∀ j (h:j < l.length),t ≤ j → x.Slack < l[j].Slack) →
 ∃ q:Nat,F_b_L2 L l (i:Int) k2 m (t:Int) = k2 (q:Int) ∧ q ≤ l.length ∧ (∀ j (h:j < l.length),q ≤ j → x.Slack < l[j].Slack) ∧ (∀ h:q - 1 < l.length,0 < q → l[q - 1].Slack ≤ x.Slack)
 | 0,t,hm,_,_=>by omega
 | m + 1,t,hm,h1,h2=>by
  rw [F_b_L2.eq_2]
  by_cases c:0 < t
  ·have hp:decide ((t:Int) > 0) = true:=decide_eq_true (by omega)
   have w:IntKind.wrap .i64 ((t:Int) - 1) = ((t - 1:Nat):Int):=by rw [wrap64 (by omega) (by omega)]; omega
   simp only [hp,cT,w,getI_el (show t - 1 < l.length by omega),hx,obs]
   by_cases d:l[t - 1].Slack > x.Slack
   ·rw [decide_eq_true d,cT]
    refine VioS2 hx hl m (t - 1) (by omega) (by omega) fun j h hj=>?_
    by_cases e:j = t - 1
    ·subst e; exact d
    ·exact h2 j h (by omega)
   ·rw [decide_eq_false d,cF]
    exact ⟨t,rfl,h1,h2,fun _ _=>by omega⟩
  ·have hp:decide ((t:Int) > 0) = false:=decide_eq_false (by omega)
   simp only [hp,cF,obs]
   exact ⟨t,rfl,h1,h2,fun _ h=>by omega⟩
theorem VioS {n:Nat} {L:List S_Check} (hl:L.length ≤ 1048576) (hn:1048577 ≤ n):F_b n L = some (srtL kS (L.filter negS)):=by
 rw [F_b]
 refine loop (L:=fun m i l=>F_b_L1 n L (fun l17 i21=>(some l17)) m l i) L.length (fun i l=>l = srtL kS ((L.take i).filter negS)) (fun o=>o = some (srtL kS (L.filter negS))) ?_ ?_ n 0 _ (by omega) (by omega) (by simp [srtL])
 ·intro m i l hi h
  have ll:l.length ≤ i:=by
   rw [h,srtL_len]
   have:=List.length_filter_le negS (L.take i)
   rw [List.length_take] at this; omega
  have tk:=List.take_succ_eq_append_getElem hi
  refine .inl ?_
  simp only [F_b_L1.eq_2,dlt hi,cT,getI_el hi,obs,wT i]
  by_cases c:L[i].Slack ≥ 0
  ·rw [decide_eq_true c,cT]
   refine ⟨l,?_,rfl⟩
   rw [h,tk,List.filter_append,List.filter_cons,if_neg (by rw [decide_eq_true_eq]; omega),List.filter_nil,List.append_nil]
  ·rw [decide_eq_false c,cF]
   obtain ⟨q,e,q1,q2,q3⟩:=VioS2 (L:=L) (l:=l) (i:=i) (k2:=fun i33=>(Option.bind (subL l i33 (l.length:Int)) fun z56=>(Option.bind (appN [L[i]] z56 32) fun z62=>(Option.bind (subL l 0 i33) fun z127=>(Option.bind (appN (([]:List S_Check)) z127 32) fun z135=>(Option.bind (appN z135 z62 32) fun z151=>(F_b_L1 n L (fun l17 i21=>(some l17)) m z151 ((i + 1:Nat):Int)))))))) (getI_el hi) (by omega) n l.length (by omega) (Nat.le_refl _) (fun j h hj=>by omega)
   have a1:subL l (q:Int) (l.length:Int) = some (l.drop q):=by
    rw [show subL l (q:Int) (l.length:Int) = some ((l.take (l.length:Int).toNat).drop (q:Int).toNat) from if_pos ⟨by omega,by omega,by omega⟩]
    simp
   have a2:subL l 0 (q:Int) = some (l.take q):=by
    rw [show subL l 0 (q:Int) = some ((l.take (q:Int).toNat).drop (0:Int).toNat) from if_pos ⟨by omega,by omega,by omega⟩]
    simp
   have d1:(l.drop q).length ≤ i:=by rw [List.length_drop]; omega
   have d2:(l.take q).length ≤ i:=by rw [List.length_take]; omega
   simp only [a1,obs,appN_ok (show [L[i]].length + (l.drop q).length ≤ 16777216 by simp; omega) (show 32 ≤ 1048576 by omega),a2,appN_ok (show ([]:List S_Check).length + (l.take q).length ≤ 16777216 by simp; omega) (show 32 ≤ 1048576 by omega),appN_ok (show ([] ++ l.take q).length + ([L[i]] ++ l.drop q).length ≤ 16777216 by simp; omega) (show 32 ≤ 1048576 by omega)] at e
   refine ⟨_,?_,e⟩
   have sp:=mgL_split kS (La:=l.take q) (Lb:=l.drop q) (Ma:=[L[i]]) (Mb:=[]) (fun a _ b h=>nomatch h) (fun y hy=>by
    rw [List.mem_singleton.1 hy]
    exact drop_all fun j hj hq=>q2 j hj hq)
   have oL:Ord kS l:=by rw [h]; exact srtL_ord kS _
   have sg:=mgL_ins_ge kS (A:=l.take q) (x:=L[i]) (take_all fun j hj hq=>by
    have:=oL.le (show j ≤ q - 1 by omega) (by omega)
    have:=q3 (by omega) (by omega)
    show l[j].Slack ≤ L[i].Slack
    omega)
   rw [List.take_append_drop,List.append_nil,mgL_nr,sg] at sp
   rw [tk,List.filter_append,List.filter_cons,if_pos (decide_eq_true (by omega)),List.filter_nil,srtL_snoc,← h,sp]
   simp
 ·intro m l h
  simp only [F_b_L1.eq_2,dnl,cF]
  rw [List.take_length] at h
  rw [h]
theorem VioE {n:Nat} {L:List S_Check} (hl:L.length ≤ 1048576) (hn:16777216 ≤ n):F_i n L = some (srtL kS (L.filter negS)):=by
 have:=List.length_filter_le negS L
 rw [F_i,F_l,appN_ok (by simp; omega) (by omega)]
 simp only [obs,List.nil_append,VioD hl (show 1048577 ≤ n by omega),Stb (show (L.filter negS).length ≤ 1048576 by omega) hn]
theorem srtL_mem {L:List S_Check}:∀ {x:S_Check},x ∈ srtL kS L ↔ x ∈ L:=by
 have key:∀ (L A:List S_Check) (x:S_Check),x ∈ L.foldl (fun o x=>mgL kS o [x]) A ↔ x ∈ A ∨ x ∈ L:=by
  intro L
  induction L with
  | nil=>intro A x; simp
  | cons y L ih=>intro A x; rw [List.foldl_cons,ih,mgL_mem,List.mem_singleton,List.mem_cons,or_assoc]
 intro x
 have:=key L [] x
 rw [srtL,this]; simp
theorem srtL_hd {Q R:List S_Check} {y:S_Check} (h1:∀ x ∈ Q,y.Slack < x.Slack) (h2:∀ x ∈ R,y.Slack ≤ x.Slack):∃ T,srtL kS (Q ++ y :: R) = y :: T:=by
 have e:Q ++ y :: R = (Q ++ [y]) ++ R:=by simp
 have sp:=mgL_split kS (La:=[]) (Lb:=srtL kS Q) (Ma:=[y]) (Mb:=[]) (fun a h=>nomatch h) (fun z hz x hx=>by
  rw [List.mem_singleton.1 hz]; exact h1 x (srtL_mem.1 hx))
 simp only [List.nil_append,List.append_nil,mgL_nl,mgL_nr] at sp
 rw [e,srtL_app,srtL_snoc,sp]
 cases c:srtL kS R with
 | nil=>exact ⟨_,by rw [mgL_nr]; rfl⟩
 | cons z Z =>
  have:kS y ≤ kS z:=h2 z (srtL_mem.1 (by rw [c]; exact List.mem_cons_self ..))
  exact ⟨_,by rw [List.singleton_append,mgL_le kS this]⟩
theorem Wst {n:Nat} {L:List S_Check} (hl:L.length ≤ 1048576) (hn:1048577 ≤ n):∃ j:Int,F_6 n L = some j ∧ (L = [] ∧ j = -1 ∨ ∃ Q y R,L = Q ++ y :: R ∧ j = (Q.length:Int) ∧ (∀ x ∈ Q,y.Slack < x.Slack) ∧ ∀ x ∈ R,y.Slack ≤ x.Slack):=by
 rw [F_6]
 refine loop (L:=fun m i (j:Int)=>F_6_L1 L (fun i5 i6=>(some i5)) m j i) L.length (fun i j=>i = 0 ∧ j = -1 ∨ ∃ k:Nat,j = (k:Int) ∧ k < i ∧ (∀ t (h:t < L.length),t < k → kAt L k < L[t].Slack) ∧ ∀ t (h:t < L.length),k < t → t < i → kAt L k ≤ L[t].Slack) (fun o=>∃ j:Int,o = some j ∧ (L = [] ∧ j = -1 ∨ ∃ Q y R,L = Q ++ y :: R ∧ j = (Q.length:Int) ∧ (∀ x ∈ Q,y.Slack < x.Slack) ∧ ∀ x ∈ R,y.Slack ≤ x.Slack)) ?_ ?_ n 0 (-1) (by omega) (by omega) (.inl ⟨rfl,rfl⟩)
 ·intro m i j hi hI
  refine .inl ?_
  simp only [F_6_L1.eq_2,dlt hi,cT,getI_el hi,obs,wT i]
  rcases hI with ⟨rfl,rfl⟩ | ⟨k,rfl,hk,k1,k2⟩
  ·refine ⟨0,.inr ⟨0,rfl,by omega,fun t _ h=>by omega,fun t _ h h2=>by omega⟩,rfl⟩
  ·have hn:decide ((k:Int) < 0) = false:=decide_eq_false (by omega)
   have hkl:k < L.length:=by omega
   simp only [hn,cF,getI_el hkl,obs]
   by_cases c:L[i].Slack < L[k].Slack
   ·rw [decide_eq_true c,cT]
    refine ⟨(i:Int),.inr ⟨i,rfl,by omega,fun t h ht=>?_,fun t _ h h2=>by omega⟩,rfl⟩
    rw [kAt_el hi]
    rw [kAt_el hkl] at k1 k2
    rcases Nat.lt_trichotomy t k with q | q | q
    ·have:=k1 t h q; omega
    ·subst q; exact c
    ·have:=k2 t h q ht; omega
   ·rw [decide_eq_false c,cF]
    refine ⟨(k:Int),.inr ⟨k,rfl,by omega,k1,fun t h h1 h2=>?_⟩,rfl⟩
    by_cases q:t = i
    ·subst q; rw [kAt_el hkl]; omega
    ·exact k2 t h h1 (by omega)
 ·intro m j hI
  simp only [F_6_L1.eq_2,dnl,cF]
  refine ⟨j,rfl,?_⟩
  rcases hI with ⟨h0,rfl⟩ | ⟨k,rfl,hk,k1,k2⟩
  ·exact .inl ⟨List.eq_nil_of_length_eq_zero h0,rfl⟩
  ·refine .inr ⟨L.take k,L[k],L.drop (k + 1),?_,?_,take_all fun t h ht=>?_,drop_all fun t h ht=>?_⟩
   ·rw [← List.drop_eq_getElem_cons hk,List.take_append_drop]
   ·rw [List.length_take]; exact congrArg Nat.cast (by omega)
   ·have:=k1 t h ht; rwa [kAt_el hk] at this
   ·have:=k2 t h (by omega) h; rwa [kAt_el hk] at this
theorem Dlst {n:Nat} {c:List Int} (hc:Cde c) {s0:S_l01Source}:∀ (m k:Nat) (l:List S_Check) (s:S_l01Source),k < m → l.length + k ≤ 8 → s0.code_ = s.code_ → Src c s → Tot (fun r=>r.1.length ≤ 8) (F_c_L1 n s0 (fun l30 i34 i36 i37=>(some (l30,(S_l01Source.mk s0.code_ i36 i37)))) m l (k:Int) s.at_ s.seed_)
 | 0,k,l,s,hm,_,_,_=>by omega
 | m + 1,0,l,s,hm,hl,e,hs=>by
  rw [F_c_L1.eq_2]
  exact Tot.some (by show l.length ≤ 8; omega)
 | m + 1,k + 1,l,s,hm,hl,e,hs=>by
  have hp:decide (((k + 1:Nat):Int) > 0) = true:=decide_eq_true (by omega)
  have w:IntKind.wrap .i64 (((k + 1:Nat):Int) - 1) = (k:Int):=by rw [wrap64 (by omega) (by omega)]; omega
  have e0:=e.trans hs.code
  rw [F_c_L1.eq_2,hp,cT]
  refine Tot.bind (Nx hc (hs.mk2 e0) 4) fun r1 _ ⟨h1,_⟩=>Tot.bind (Nx hc (h1.mk2 e0) 3) fun r2 _ ⟨h2,_⟩=>Tot.bind (Nx hc (h2.mk2 e0) 2) fun r3 _ ⟨h3,_⟩=>Tot.bind (Nx hc (h3.mk2 e0) 12) fun r4 _ ⟨h4,_⟩=>?_
  rw [appN_ok (by simp; omega) (by omega),obs,w]
  refine Dlst hc m k _ r4.2 (by omega) ?_ (e.trans (hs.code.trans h4.code.symm)) h4
  rw [List.length_append,List.length_singleton]; omega
theorem Dvio {n:Nat} {c:List Int} (hc:Cde c) (hn:1048577 ≤ n):Tot (fun r=>r.length ≤ 8) (F_g n c):=by
 rw [F_g]
 refine Tot.bind (Fr hc hn) fun s _ hs=>?_
 rw [F_c]
 refine Tot.bind (A:=fun r=>r.1.length ≤ 8) (Tot.bind (Nx hc (hs.mk2 rfl) 8) fun r _ ⟨h1,h2,h3⟩=>?_) fun r _ hr=>Tot.some hr
 have:=Dlst (n:=n) hc (s0:=⟨c,s.at_,s.seed_⟩) n r.1.toNat [] r.2 (by omega) (by simp; omega) h1.code.symm h1
 rwa [Int.toNat_of_nonneg h2] at this
theorem PFnViolated {code:List Int} (hR:code.length ≤ 9223372036854775807 ∧ ∀ x ∈ code,inK .u8 x):∃ n,F_3 n code = some true:=by
 obtain ⟨n,hn⟩:∃ n,16777216 ≤ n:=⟨_,Nat.le_refl _⟩
 have hn2:1048577 ≤ n:=by omega
 refine ⟨n,?_⟩
 rw [F_3,F_k,obs]
 by_cases hb:(code.length:Int) > 4096
 ·rw [decide_eq_true hb]; rfl
 rw [decide_eq_false hb,cF]
 obtain ⟨L,d1,hl⟩:=Dvio (n:=n) (Cde.of hR hb) hn2
 have fl:=List.length_filter_le negS L
 have ol:(srtL kS (L.filter negS)).length = (L.filter negS).length:=srtL_len kS _
 rw [d1,obs,VioE (show L.length ≤ 1048576 by omega) hn,obs]
 obtain ⟨j,fw,hw⟩:=Wst (n:=n) (L:=L) (by omega) hn2
 have oL:Ord kS (srtL kS (L.filter negS)):=srtL_ord kS _
 have neg:∀ x ∈ srtL kS (L.filter negS),x.Slack < 0:=fun x hx=>of_decide_eq_true (List.mem_filter.1 (srtL_mem.1 hx)).2
 have hd:∀ Q y R,L = Q ++ y :: R → (∀ x ∈ Q,y.Slack < x.Slack) → (∀ x ∈ R,y.Slack ≤ x.Slack) → (y.Slack < 0 ∧ getI (srtL kS (L.filter negS)) 0 = some y ∧ 0 < (L.filter negS).length) ∨ (0 ≤ y.Slack ∧ (L.filter negS).length = 0):=fun Q y R e h1 h2=>by
  by_cases c:y.Slack < 0
  ·have ef:L.filter negS = Q.filter negS ++ y :: R.filter negS:=by rw [e,List.filter_append,List.filter_cons,if_pos (decide_eq_true c)]
   obtain ⟨T,eT⟩:=srtL_hd (Q:=Q.filter negS) (R:=R.filter negS) (y:=y) (fun x hx=>h1 x (List.mem_filter.1 hx).1) (fun x hx=>h2 x (List.mem_filter.1 hx).1)
   refine .inl ⟨c,?_,by rw [ef,List.length_append,List.length_cons]; omega⟩
   rw [ef,eT]; rfl
  ·refine .inr ⟨by omega,?_⟩
   rw [List.length_eq_zero_iff,List.filter_eq_nil_iff]
   intro x hx
   rw [decide_eq_true_eq]
   rw [e,List.mem_append,List.mem_cons] at hx
   rcases hx with hx | rfl | hx
   ·have:=h1 x hx; omega
   ·exact c
   ·have:=h2 x hx; omega
 generalize srtL kS (L.filter negS) = out at *
 refine loop (L:=fun m i (k:Int)=>F_3_L1 L _ m k i) L.length (fun i k=>k = (((L.take i).filter negS).length:Int)) (fun o=>o = some true) ?_ ?_ n 0 0 (by omega) (by omega) (by simp)
 ·intro m i k hi hk
  refine .inl ?_
  have tk:=List.take_succ_eq_append_getElem hi
  have:=List.length_filter_le negS (L.take i)
  have:=List.length_take_le i L
  simp only [F_3_L1.eq_2,dlt hi,cT,getI_el hi,obs,wT i]
  by_cases c:L[i].Slack < 0
  ·rw [decide_eq_true c,cT,hk,wS (by omega)]
   exact ⟨_,by rw [tk,List.filter_append,List.filter_cons,if_pos (decide_eq_true c)]; simp,rfl⟩
  ·rw [decide_eq_false c,cF]
   exact ⟨k,by rw [tk,List.filter_append,List.filter_cons,if_neg (by rw [decide_eq_true_eq]; exact c),hk]; simp,rfl⟩
 ·intro m k hk
  rw [List.take_length] at hk
  subst hk
  simp only [F_3_L1.eq_2,dnl,cF,ol,bne_self_eq_false]
  refine loop (L:=fun m i (_:Unit)=>F_3_L2 out ((L.filter negS).length:Int) _ m i) (L.filter negS).length (fun i _=>True) (fun o=>o = some true) ?_ ?_ n 0 () (by omega) (by omega) trivial
  ·intro m i _ hi _
   refine .inl ⟨(),trivial,?_⟩
   have hi2:i < out.length:=by omega
   have hneg:¬ out[i].Slack ≥ 0:=by have:=neg _ (List.getElem_mem hi2); omega
   simp only [F_3_L2.eq_2,dlt hi,cT,getI_el hi2,obs,decide_eq_false hneg,cF,wT i]
   by_cases c:0 < i
   ·have w:IntKind.wrap .i64 ((i:Int) - 1) = ((i - 1:Nat):Int):=by rw [wrap64 (by omega) (by omega)]; omega
    have le:=oL.le (show i - 1 ≤ i by omega) hi2
    rw [decide_eq_true (show (i:Int) > 0 by omega),cT,w,getI_el (show i - 1 < out.length by omega),obs,decide_eq_false (show ¬ out[i - 1].Slack > out[i].Slack by omega)]
    rfl
   ·rw [decide_eq_false (show ¬ (i:Int) > 0 by omega)]; rfl
  ·intro m _ _
   simp only [F_3_L2.eq_2,dnl,cF,fw,obs]
   rcases hw with ⟨e,rfl⟩ | ⟨Q,y,R,e,rfl,h1,h2⟩
   ·subst e; rfl
   ·have hp:((L.length:Int) == 0) = false:=by rw [beq_eq_false_iff_ne,e]; simp; omega
    have gy:getI L (Q.length:Int) = some y:=by rw [e]; exact gM rfl
    have ql:(Q.length:Int) < (L.length:Int):=by rw [e]; simp; omega
    have q0:(decide ((Q.length:Int) ≥ 0) && decide ((Q.length:Int) < (L.length:Int))) = true:=by rw [decide_eq_true ql,decide_eq_true (by omega)]; rfl
    rw [hp,cF,q0,cT]
    rcases hd Q y R e h1 h2 with ⟨c,g,p⟩ | ⟨c,p⟩
    ·have z:(((L.filter negS).length:Int) == 0) = false:=by rw [beq_eq_false_iff_ne]; omega
     rw [z,cF,decide_eq_true (show ((L.filter negS).length:Int) > 0 by omega),gy,g]
     simp
    ·rw [p,gy]
     simp [c]
end Go.Proofs.Ytjhainjcamfohaa
