/- The plain law behind FnExactEdgePairs: the plain function answers true; no condition. -/
import Derived.Test.YtiaobghojdehbaaDoorWalkFnExactEdgePairs
set_option linter.all false
namespace Go.Proofs.YtiaobghojdehbaaDoor
open Go Go.RowKit Go.Eng
theorem bif_or {b c:Bool}:(bif b then some true else some c) = some (b || c):=by cases b <;> rfl
theorem bif_and {b c:Bool}:(bif b then some c else some false) = some (b && c):=by cases b <;> rfl
theorem dlt {i N:Nat} (h:i < N):decide ((i:Int) < (N:Int)) = true:=decide_eq_true (by omega)
theorem dnl (N:Nat):decide ((N:Int) < (N:Int)) = false:=decide_eq_false (by omega)
theorem wS {i:Nat} (h:i < 4611686018427387904):IntKind.wrap IntKind.i64 ((i:Int) + 1) = ((i + 1:Nat):Int):=by rw [wrap64 (by omega) (by omega)]; simp
theorem getI_el {α:Type} {xs:List α} {i:Nat} (h:i < xs.length):getI xs (i:Int) = some xs[i]:=by rw [getI_nat]; exact List.getElem?_eq_getElem h
theorem loop {σ R:Type} {L:Nat → Int → σ → Option R} (N:Nat) (I:Nat → σ → Prop) (Post:Option R → Prop)
 (hs:∀ (m i:Nat) (st:σ),i < N → I i st → (∃ st',I (i + 1) st' ∧ L (m + 1) (i:Int) st = L m ((i + 1:Nat):Int) st') ∨ Post (L (m + 1) (i:Int) st))
 (he:∀ (m:Nat) (st:σ),I N st → Post (L (m + 1) (N:Int) st)):∀ (m i:Nat) (st:σ),i ≤ N → N - i < m → I i st → Post (L m (i:Int) st)
 | 0,i,st,_,hm,_=>by omega
 | m + 1,i,st,hi,hm,h=>by
  by_cases hlt:i < N
  ·rcases hs m i st hlt h with ⟨st',h1,h2⟩ | h1
   ·rw [h2]; exact loop N I Post hs he m (i + 1) st' (by omega) (by omega) h1
   ·exact h1
  ·obtain rfl:i = N:=by omega
   exact he m st h
theorem appN_ok {α:Type} {xs ys:List α} {b:Nat} (h:xs.length + ys.length ≤ 16777216) (hb:b ≤ 1048576):appN xs ys b = some (xs ++ ys):=by
 unfold appN
 have:(xs.length + ys.length) * b ≤ 16777216 * 1048576:=Nat.mul_le_mul h hb
 rw [if_pos ⟨by omega,by omega⟩]
theorem loopw {σ R:Type} {L:Nat → Int → σ → Option R} (N:Nat) (I:Nat → σ → Prop) (Post:Option R → Prop)
 (hs:∀ (m i:Nat) (st:σ),i < N → I i st → (∀ st',I (i + 1) st' → Post (L m ((i + 1:Nat):Int) st')) → Post (L (m + 1) (i:Int) st))
 (he:∀ (m:Nat) (st:σ),I N st → Post (L (m + 1) (N:Int) st)):∀ (m i:Nat) (st:σ),i ≤ N → N - i < m → I i st → Post (L m (i:Int) st)
 | 0,i,st,_,hm,_=>by omega
 | m + 1,i,st,hi,hm,h=>by
  by_cases hlt:i < N
  ·exact hs m i st hlt h fun st' h'=>loopw N I Post hs he m (i + 1) st' (by omega) (by omega) h'
  ·obtain rfl:i = N:=by omega
   exact he m st h
def Tot {α:Type} (Q:α → Prop) (o:Option α):Prop:=∃ v,o = some v ∧ Q v
theorem Tot.some {α:Type} {Q:α → Prop} {v:α} (h:Q v):Tot Q (some v):=⟨v,rfl,h⟩
theorem Tot.bind {α β:Type} {A:α → Prop} {Q:β → Prop} {o:Option α} {f:α → Option β} (h:Tot A o) (k:∀ v,o = Option.some v → A v → Tot Q (f v)):Tot Q (Option.bind o f):=by
 obtain ⟨v,e,hv⟩:=h
 rw [e]; exact k v e hv
theorem loop_has {α:Type} {xs:List α} {L:Nat → Int → Option Int} (p:α → Bool) (hs:∀ (m i:Nat) (h:i < xs.length),L (m + 1) (i:Int) = bif p xs[i] then some (i:Int) else L m ((i + 1:Nat):Int))
 (he:∀ m:Nat,L (m + 1) (xs.length:Int) = some (-1)) (m:Nat) (hm:xs.length < m):∃ r,L m 0 = some r ∧ decide (r ≥ 0) = xs.any p:=by
 refine loop (L:=fun m i (_:Unit)=>L m i) xs.length (fun i _=>xs.any p = (xs.drop i).any p) (fun o=>∃ r,o = some r ∧ decide (r ≥ 0) = xs.any p) ?_ ?_ m 0 () (by omega) (by omega) (by simp)
 ·intro m i _ hi h
  rw [List.drop_eq_getElem_cons hi,List.any_cons] at h
  cases hp:p xs[i] with
  | false=>refine .inl ⟨(),by rw [h,hp]; simp,?_⟩; simp only [hs m i hi,hp,cond_false]
  | true=>refine .inr ⟨(i:Int),?_,?_⟩
          ·simp only [hs m i hi,hp,cond_true]
          ·rw [h,hp]; simp
 ·intro m _ h
  rw [List.drop_length] at h
  exact ⟨-1,he m,by rw [h]; rfl⟩
def lowB (b:UInt8):Bool:=decide ((b.toNat:Int) ≥ 97) && decide ((b.toNat:Int) ≤ 122)
def digB (b:UInt8):Bool:=decide ((b.toNat:Int) ≥ 48) && decide ((b.toNat:Int) ≤ 57)
def nameB (s:ByteArray):Bool:=(decide ((s.size:Int) ≥ 1) && decide ((s.size:Int) ≤ 8)) && (s.data.toList.all fun b=>lowB b || digB b) && (s.data.toList.take 1).all lowB
theorem size_list (s:ByteArray):s.size = s.data.toList.length:=by rw [Array.length_toList]; rfl
theorem getB_el {s:ByteArray} {i:Nat} (h:i < s.data.toList.length):getB s (i:Int) = some ((s.data.toList[i].toNat:Nat):Int):=by
 unfold getB
 rw [if_pos (by omega),Int.toNat_natCast]
 have:s[i]? = some s.data.toList[i]:=by
  have hs:i < s.size:=by rw [size_list]; exact h
  rw [show s[i]? = some s[i] from getElem?_pos s i hs]
  rfl
 rw [this]; rfl
theorem all_u8 (p q:UInt8 → Bool) (h:(List.range 256).all (fun i=>p (UInt8.ofNat i) == q (UInt8.ofNat i)) = true) (b:UInt8):p b = q b:=by
 have:=List.all_eq_true.1 h b.toNat (List.mem_range.2 b.toNat_lt)
 rw [UInt8.ofNat_toNat] at this
 exact eq_of_beq this
def lettersL:List UInt8:=[97,98,99,100,101,102,103,104,105,106,107,108,109,110,111,112,113,114,115,116,117,118,119,120,121,122]
def nameL:List UInt8:=[97,98,99,100,101,102,103,104,105,106,107,108,109,110,111,112,113,114,115,116,117,118,119,120,121,122,48,49,50,51,52,53,54,55,56,57]
theorem nameL_is (b:UInt8):nameL.contains b = (lowB b || digB b):=all_u8 (fun b=>nameL.contains b) (fun b=>lowB b || digB b) (by decide +kernel) b
theorem lettersL_is (b:UInt8):lettersL.contains b = lowB b:=all_u8 (fun b=>lettersL.contains b) (fun b=>lowB b) (by decide +kernel) b
theorem take1_all {p:UInt8 → Bool}:∀ {l:List UInt8} (h:0 < l.length),(l.take 1).all p = p l[0]
 | [],h=>by simp at h
 | a :: r,_=>by simp
theorem dropWhile_nil {p:UInt8 → Bool}:∀ (l:List UInt8),(l.dropWhile p = []) ↔ l.all p = true
 | []=>by simp
 | a :: l=>by
  rw [List.dropWhile_cons,List.all_cons]
  cases h:p a with
  | true=>simpa using dropWhile_nil l
  | false=>simp
theorem dropWhile_head {p:UInt8 → Bool}:∀ {l:List UInt8} {a:UInt8} {r:List UInt8},l.dropWhile p = a :: r → p a = false
 | b :: l,a,r,h=>by
  rw [List.dropWhile_cons] at h
  split at h
  ·exact dropWhile_head h
  ·next q=>simp only [List.cons.injEq] at h; rw [← h.1]; simpa using q
theorem trim_nil (l cs:List UInt8):(Lib.trimS l cs == []) = l.all (cs.contains ·):=by
 rw [Bool.eq_iff_iff,beq_iff_eq]
 unfold Lib.trimS Lib.trimLeftS Lib.trimRightS
 rw [dropWhile_nil,List.all_reverse]
 rw [show l.all (cs.contains ·) = l.reverse.all (cs.contains ·) by rw [List.all_reverse]]
 constructor
 ·intro h
  cases hd:l.reverse.dropWhile (cs.contains ·) with
  | nil=>exact (dropWhile_nil _).1 hd
  | cons a r =>
   have h1:=dropWhile_head hd
   rw [hd,List.all_cons,h1] at h
   cases h
 ·intro h
  rw [(dropWhile_nil _).2 h]; rfl
theorem indexByte_ge:∀ (l:List UInt8) (c:UInt8),decide (Lib.indexByte l c ≥ 0) = l.contains c ∧ Lib.indexByte l c ≥ -1
 | [],c=>by simp [Lib.indexByte]
 | b :: l,c=>by
  obtain ⟨h1,h2⟩:=indexByte_ge l c
  rw [Lib.indexByte,List.contains_cons]
  by_cases e:b = c
  ·subst e; simp
  ·have e1:(b == c) = false:=beq_eq_false_iff_ne.2 e
   have e2:(c == b) = false:=beq_eq_false_iff_ne.2 fun q=>e q.symm
   rw [e1,e2,Bool.false_or,← h1]
   by_cases h:Lib.indexByte l c = -1
   ·rw [h]; simp
   ·have:(Lib.indexByte l c == -1) = false:=beq_eq_false_iff_ne.2 h
    rw [this]
    have hge:Lib.indexByte l c ≥ 0:=by omega
    rw [decide_eq_true hge]
    simp only [Bool.false_eq_true,if_false]
    exact ⟨decide_eq_true (by omega),by omega⟩
theorem Nm1 {n:Nat} {s:ByteArray} (hs:s.size ≤ 1048576) (hn:1048577 ≤ n):F_0a n s = some (nameB s):=by
 rw [F_0a,F_3,Option.bind_some]
 unfold nameB
 cases hw:(decide ((s.size:Int) ≥ 1) && decide ((s.size:Int) ≤ 8)) with
 | false=>simp
 | true =>
  have hsz:1 ≤ s.size:=by simp only [Bool.and_eq_true,decide_eq_true_eq] at hw; omega
  have ht:F_01 n s ((ByteArray.mk #[97,98,99,100,101,102,103,104,105,106,107,108,109,110,111,112,113,114,115,116,117,118,119,120,121,122,48,49,50,51,52,53,54,55,56,57])) = some ⟨(Lib.trimS s.data.toList nameL).toArray⟩:=by
   unfold F_01
   rw [if_pos ⟨by omega,by decide,by decide⟩]; rfl
  simp only [cond_true,ht,Option.bind_some,Bool.true_and]
  have hb:((⟨(Lib.trimS s.data.toList nameL).toArray⟩:ByteArray).toList == ((ByteArray.mk #[])).toList) = (s.data.toList.all fun b=>lowB b || digB b):=by
   rw [Lib.toList_data,Lib.toList_data]
   show ((Lib.trimS s.data.toList nameL) == []) = _
   rw [trim_nil]
   congr 1
   funext b; exact nameL_is b
  rw [hb]
  cases (s.data.toList.all fun b=>lowB b || digB b) with
  | false=>simp
  | true =>
   rw [size_list] at hsz
   have hg:=getB_el (s:=s) (i:=0) (by omega)
   simp only [cond_true,show ((0:Int)) = ((0:Nat):Int) from rfl,hg,Option.bind_some,F_0h,Bool.true_and]
   have h1:=(indexByte_ge lettersL (s.data.toList[0])).1
   rw [lettersL_is] at h1
   have e1:(((s.data.toList[0].toNat:Nat):Int).toNat.toUInt8) = s.data.toList[0]:=by rw [Int.toNat_natCast]; exact UInt8.ofNat_toNat
   rw [e1]
   have e2:(s.data.toList.take 1).all lowB = lowB s.data.toList[0]:=take1_all (by omega)
   rw [e2,← h1]; rfl
theorem Nm2 {n:Nat} {s:ByteArray} (hs:s.size ≤ 1048576) (hn:1048577 ≤ n):F_5 n s = some (nameB s):=by
 rw [F_5]
 have hl:=size_list s
 refine loop (L:=fun m i (_:Unit)=>F_5_L1 s _ m i) s.data.toList.length (fun i _=>nameB s = ((decide ((s.size:Int) ≥ 1) && decide ((s.size:Int) ≤ 8)) && ((s.data.toList.drop i).all fun b=>lowB b || digB b) && ((s.data.toList.take 1).drop i).all lowB)) (fun r=>r = some (nameB s)) ?_ ?_ n 0 () (by omega) (by omega) (by simp [nameB])
 ·intro m i _ hi hI
  have g:=getB_el hi
  have hd:decide ((i:Int) < (s.size:Int)) = true:=decide_eq_true (by omega)
  have key:F_5_L1 s (fun i3=>(some (((decide ((s.size:Int) ≥ 1)) && (decide ((s.size:Int) ≤ 8)))))) (m + 1) (i:Int) = bif (!lowB s.data.toList[i] && !(digB s.data.toList[i] && decide (0 < i))) then some false else F_5_L1 s (fun i3=>(some (((decide ((s.size:Int) ≥ 1)) && (decide ((s.size:Int) ≤ 8)))))) m ((i + 1:Nat):Int):=by
   have e0:decide ((i:Int) > 0) = decide (0 < i):=by by_cases h:0 < i <;> simp [h] <;> omega
   simp only [F_5_L1.eq_2,hd,cond_true,g,Option.bind_some,bif_and,wS (show i < 4611686018427387904 by omega),e0]
   rfl
  by_cases hc:(!lowB s.data.toList[i] && !(digB s.data.toList[i] && decide (0 < i))) = true
  ·refine .inr ?_
   show F_5_L1 s _ (m + 1) (i:Int) = _
   rw [key,hc,cond_true]
   have:nameB s = false:=by
    rw [hI,List.drop_eq_getElem_cons hi,List.all_cons]
    simp only [Bool.and_eq_true,Bool.not_eq_true',Bool.and_eq_false_iff,decide_eq_false_iff_not] at hc
    obtain ⟨h1,h2⟩:=hc
    rw [h1]
    rcases h2 with h2 | h2
    ·rw [h2]; simp
    ·obtain rfl:i = 0:=by omega
     rw [List.drop_zero,take1_all hi,h1]; simp
   rw [this]
  ·refine .inl ⟨(),?_,?_⟩
   ·rw [hI,List.drop_eq_getElem_cons hi,List.all_cons]
    have hc:=Bool.eq_false_iff.2 hc
    simp only [Bool.and_eq_false_iff,Bool.not_eq_false',Bool.and_eq_true,decide_eq_true_eq] at hc
    by_cases h0:i = 0
    ·subst h0
     have h1:lowB s.data.toList[0] = true:=by
      rcases hc with h | h
      ·exact h
      ·omega
     have e2:(s.data.toList.take 1).drop (0 + 1) = []:=List.drop_eq_nil_of_le (by simp; omega)
     rw [List.drop_zero,take1_all hi,e2,h1]; simp
    ·have e1:(s.data.toList.take 1).drop i = []:=List.drop_eq_nil_of_le (by simp; omega)
     have e2:(s.data.toList.take 1).drop (i + 1) = []:=List.drop_eq_nil_of_le (by simp; omega)
     rw [e1,e2]
     have:(lowB s.data.toList[i] || digB s.data.toList[i]) = true:=by
      rcases hc with h | h
      ·rw [h]; rfl
      ·rw [h.1]; simp
     rw [this]; simp
   ·show F_5_L1 s _ (m + 1) (i:Int) = F_5_L1 s _ m ((i + 1:Nat):Int)
    rw [key,Bool.eq_false_iff.2 hc,cond_false]
 ·intro m _ hI
  have hd:decide (((s.data.toList.length:Nat):Int) < (s.size:Int)) = false:=decide_eq_false (by omega)
  simp only [F_5_L1.eq_2,hd,cond_false]
  rw [hI,List.drop_length,List.drop_eq_nil_of_le (by simp; omega)]
  simp
def toW (w:S_l14Wave):S_wave:=S_wave.mk w.period_ (A2_Int.mk w.rise_ w.fall_)
theorem wv_eq:∀ (n:Nat) (l:List S_Clock) (k:Int),F_6 n l k = (F_1 n l k).map toW
 | 0,l,k=>rfl
 | n + 1,l,k=>by
  rw [F_0k,F_0i]
  cases getI l k with
  | none=>rfl
  | some x =>
   simp only [Option.bind_some]
   cases decide (x.Source < 0) with
   | true=>rfl
   | false =>
    simp only [cond_false,wv_eq n l]
    cases F_1 n l x.Source with
    | none=>rfl
    | some w =>
     simp only [Option.map_some,Option.bind_some,toW]
     cases decide (x.Divide > 1) <;> cases x.Invert <;> simp [toW,Int.mul_comm]
def ctlB (c:S_Clock):Bool:=(((decide (c.Place ≥ 0) && (decide (c.EarlyLatency ≥ 0) && decide (c.EarlyLatency ≤ 100000))) && (decide (c.LateLatency ≥ c.EarlyLatency) && decide (c.LateLatency ≤ 100000))) && (decide (c.Uncertainty ≥ 0) && decide (c.Uncertainty ≤ 100000)))
def primB (c:S_Clock):Bool:=((((((decide (c.Period ≥ 2) && decide (c.Period ≤ 100000)) && (decide (c.RiseAt ≥ 0) && decide (c.RiseAt ≤ IntKind.wrap IntKind.i64 (c.Period - 1)))) && (decide (c.FallAt ≥ 0) && decide (c.FallAt ≤ IntKind.wrap IntKind.i64 (c.Period - 1)))) && (c.RiseAt != c.FallAt)) && (c.Divide == 1)) && (!c.Invert))
def genB (c:S_Clock) (k:Nat):Bool:=(((((decide (c.Source ≥ 0) && decide (c.Source ≤ (k:Int) - 1)) && (decide (c.Divide ≥ 1) && decide (c.Divide ≤ 8))) && (c.Period == 0)) && (c.RiseAt == 0)) && (c.FallAt == 0))
def perB (n:Nat) (l:List S_Clock) (k:Nat):Bool:=match F_1 n l k with
 | some w=>decide (w.period_ ≤ 100000)
 | none=>false
def clkB (n:Nat) (l:List S_Clock) (k:Nat) (c:S_Clock):Bool:=ctlB c && (bif c.Source == -1 then primB c else genB c k && perB n l k)
theorem Pl1 (n:Nat) (c:S_Clock) (hs:c.Name.size ≤ 1048576) (hn:1048577 ≤ n):F_04 n c = some (nameB c.Name && ctlB c):=by
 rw [F_04,Nm2 hs hn]
 simp only [F_0,Option.bind_some,bif_and,ctlB,Bool.and_assoc]
theorem Pr1 (n:Nat) (c:S_Clock):F_x n c = some (primB c):=by
 rw [F_x]
 simp only [F_0,Option.bind_some,bif_and,primB,Bool.and_assoc]
theorem Pr2 (n:Nat) (c:S_Clock):F_08 n c = some (primB c):=by
 rw [F_08]
 simp only [F_3,Option.bind_some,bif_and,primB,Bool.and_assoc]
structure WOK (B:Int) (w:S_l14Wave):Prop where
 p:2 ≤ w.period_ ∧ w.period_ ≤ B
 r:0 ≤ w.rise_ ∧ w.rise_ < w.period_
 f:0 ≤ w.fall_ ∧ w.fall_ < w.period_
 d:w.rise_ ≠ w.fall_
def Wv (l:List S_Clock) (k:Nat) (w:S_l14Wave):Prop:=∀ m,k < m → F_1 m l (k:Int) = some w
theorem prim_of {c:S_Clock} (h:primB c = true):(2 ≤ c.Period ∧ c.Period ≤ 100000) ∧ (0 ≤ c.RiseAt ∧ c.RiseAt < c.Period) ∧ (0 ≤ c.FallAt ∧ c.FallAt < c.Period) ∧ c.RiseAt ≠ c.FallAt:=by
 simp only [primB,Bool.and_eq_true,decide_eq_true_eq,bne_iff_ne,ne_eq] at h
 obtain ⟨⟨⟨⟨⟨h1,h2⟩,h3⟩,h4⟩,h5⟩,h6⟩:=h
 rw [wrap64 (by omega) (by omega)] at h2 h3
 exact ⟨by omega,by omega,by omega,h4⟩
theorem gen_of {c:S_Clock} {k:Nat} (h:genB c k = true):(0 ≤ c.Source ∧ c.Source < k) ∧ (1 ≤ c.Divide ∧ c.Divide ≤ 8):=by
 simp only [genB,Bool.and_eq_true,decide_eq_true_eq] at h
 omega
theorem wave_div {p r D:Int} (hp:2 ≤ p ∧ p ≤ 100000) (hr:0 ≤ r ∧ r < p) (hD:1 < D ∧ D ≤ 8) :
 IntKind.wrap IntKind.i64 (p * D) = p * D ∧ IntKind.wrap IntKind.i64 (r + IntKind.wrap IntKind.i64 (IntKind.wrap IntKind.i64 (Int.tdiv D 2) * p)) = r + D / 2 * p ∧ (2 ≤ p * D ∧ p * D ≤ 800000) ∧ r < p * D ∧ (0 ≤ r + D / 2 * p ∧ r + D / 2 * p < p * D) ∧ r ≠ r + D / 2 * p:=by
 have:D = 2 ∨ D = 3 ∨ D = 4 ∨ D = 5 ∨ D = 6 ∨ D = 7 ∨ D = 8:=by omega
 rw [Int.tdiv_eq_ediv_of_nonneg (by omega),wrap64 (x:=D / 2) (by omega) (by omega)]
 rcases this with rfl | rfl | rfl | rfl | rfl | rfl | rfl <;>
  (rw [wrap64 (x:=p * _) (by omega) (by omega),wrap64 (x:=_ / 2 * p) (by omega) (by omega),wrap64 (by omega) (by omega)]; omega)
theorem WE {l:List S_Clock} {k:Nat} (hk:k < l.length) (prior:∀ s,s < k → ∃ w,WOK 100000 w ∧ Wv l s w) (hc:(l[k].Source = -1 ∧ primB l[k] = true) ∨ genB l[k] k = true):∃ w,WOK 800000 w ∧ Wv l k w:=by
 rcases hc with ⟨h1,h2⟩ | h1
 ·have:=prim_of h2
  refine ⟨S_l14Wave.mk l[k].Period l[k].RiseAt l[k].FallAt,⟨⟨this.1.1,by show l[k].Period ≤ _; omega⟩,this.2.1,this.2.2.1,this.2.2.2⟩,fun m hm=>?_⟩
  obtain ⟨m,rfl⟩:∃ q,m = q + 1:=⟨m - 1,by omega⟩
  rw [F_0i,getI_el hk,Option.bind_some,decide_eq_true (by omega)]; rfl
 ·obtain ⟨g1,g2⟩:=gen_of h1
  obtain ⟨s,hs⟩:=Int.eq_ofNat_of_zero_le g1.1
  obtain ⟨w,hw,hW⟩:=prior s (by omega)
  have key:∀ m,k < m + 1 → F_1 (m + 1) l (k:Int) = (bif decide (l[k].Divide > 1) then (bif l[k].Invert then (some ((S_l14Wave.mk (IntKind.wrap IntKind.i64 (w.period_ * l[k].Divide)) (IntKind.wrap IntKind.i64 (w.rise_ + (IntKind.wrap IntKind.i64 ((IntKind.wrap IntKind.i64 (Int.tdiv l[k].Divide 2)) * w.period_)))) w.rise_))) else (some ((S_l14Wave.mk (IntKind.wrap IntKind.i64 (w.period_ * l[k].Divide)) w.rise_ (IntKind.wrap IntKind.i64 (w.rise_ + (IntKind.wrap IntKind.i64 ((IntKind.wrap IntKind.i64 (Int.tdiv l[k].Divide 2)) * w.period_)))))))) else (bif l[k].Invert then (some ((S_l14Wave.mk w.period_ w.fall_ w.rise_))) else (some w))):=by
   intro m hm
   rw [F_0i,getI_el hk,Option.bind_some,decide_eq_false (by omega),cond_false,hs,hW m (by omega),Option.bind_some]
  by_cases hd:l[k].Divide > 1
  ·obtain ⟨e1,e2,b1,b2,b3,b4⟩:=wave_div hw.p hw.r ⟨hd,g2.2⟩
   rw [decide_eq_true hd] at key
   simp only [cond_true,e1,e2] at key
   have h0:=hw.r.1
   cases hi:l[k].Invert with
   | true=>exact ⟨S_l14Wave.mk _ _ _,⟨b1,b3,⟨h0,b2⟩,fun e=>b4 e.symm⟩,fun m hm=>by
    obtain ⟨m,rfl⟩:∃ q,m = q + 1:=⟨m - 1,by omega⟩
    rw [key m hm,hi]; rfl⟩
   | false=>exact ⟨S_l14Wave.mk _ _ _,⟨b1,⟨h0,b2⟩,b3,b4⟩,fun m hm=>by
    obtain ⟨m,rfl⟩:∃ q,m = q + 1:=⟨m - 1,by omega⟩
    rw [key m hm,hi]; rfl⟩
  ·rw [decide_eq_false hd] at key
   simp only [cond_false] at key
   have hp:=hw.p
   cases hi:l[k].Invert with
   | true=>exact ⟨S_l14Wave.mk w.period_ w.fall_ w.rise_,⟨⟨hp.1,by show w.period_ ≤ _; omega⟩,hw.f,hw.r,fun e=>hw.d e.symm⟩,fun m hm=>by
    obtain ⟨m,rfl⟩:∃ q,m = q + 1:=⟨m - 1,by omega⟩
    rw [key m hm,hi]; rfl⟩
   | false=>exact ⟨w,⟨⟨hp.1,by omega⟩,hw.r,hw.f,hw.d⟩,fun m hm=>by
    obtain ⟨m,rfl⟩:∃ q,m = q + 1:=⟨m - 1,by omega⟩
    rw [key m hm,hi]; rfl⟩
theorem clk_of {n:Nat} {l:List S_Clock} {k:Nat} {c:S_Clock} (h:clkB n l k c = true):(c.Source = -1 ∧ primB c = true) ∨ (c.Source ≠ -1 ∧ genB c k = true ∧ perB n l k = true):=by
 simp only [clkB,Bool.and_eq_true] at h
 by_cases e:c.Source = -1
 ·rw [e] at h; exact .inl ⟨e,h.2⟩
 ·have:(c.Source == -1) = false:=beq_eq_false_iff_ne.2 e
  rw [this,cond_false,Bool.and_eq_true] at h
  exact .inr ⟨e,h.2⟩
theorem WA {n:Nat} {l:List S_Clock}:∀ (k:Nat),k ≤ l.length → k ≤ n → (∀ j (h:j < l.length),j < k → clkB n l j l[j] = true) → ∀ s,s < k → ∃ w,WOK 100000 w ∧ Wv l s w
 | 0,_,_,_,s,hs=>by omega
 | k + 1,hk,hn,h,s,hs=>by
  have ih:=WA k (by omega) (by omega) (fun j hj hjk=>h j hj (by omega))
  by_cases e:s = k
  ·subst e
   have hc:=clk_of (h s (by omega) (by omega))
   obtain ⟨w,hw,hW⟩:=WE (l:=l) (k:=s) (by omega) ih (hc.elim .inl fun q=>.inr q.2.1)
   refine ⟨w,⟨⟨hw.p.1,?_⟩,hw.r,hw.f,hw.d⟩,hW⟩
   rcases hc with ⟨h1,h2⟩ | ⟨_,_,h3⟩
   ·have:=prim_of h2
    have q:=hW (s + 1) (by omega)
    rw [F_0i,getI_el (by omega),Option.bind_some,decide_eq_true (by omega),cond_true] at q
    have:=Option.some.inj q
    rw [← this]; show l[s].Period ≤ _; omega
   ·rw [perB,hW n (by omega)] at h3
    exact of_decide_eq_true h3
  ·exact ih s (by omega)
theorem IC1 {n:Nat} {l:List S_Clock} {k:Nat} (hk:k < l.length) (hm:l.length ≤ 1048576) (hn:1048577 ≤ n) (prior:∀ s,s < k → ∃ w,WOK 100000 w ∧ Wv l s w):F_09 n l k = some (clkB n l k l[k]):=by
 rw [F_09,getI_el hk,Option.bind_some]
 have ew:IntKind.wrap IntKind.i64 ((k:Int) - 1) = (k:Int) - 1:=wrap64 (by omega) (by omega)
 simp only [F_3,Option.bind_some,bif_or,bif_and,ew]
 generalize hc:l[k] = c
 have e1:((((((decide (c.Place < 0)) || (decide (c.EarlyLatency < 0)))) || (decide (c.EarlyLatency > c.LateLatency)))) || (decide (c.LateLatency > 100000)) || !(decide (c.Uncertainty ≥ 0) && decide (c.Uncertainty ≤ 100000))) = !ctlB c:=by
  rw [Bool.eq_iff_iff]
  simp only [ctlB,Bool.or_eq_true,Bool.not_eq_true',Bool.and_eq_false_iff,decide_eq_true_eq,decide_eq_false_iff_not]
  omega
 rw [e1]
 unfold clkB
 cases ctlB c with
 | false=>rfl
 | true =>
  simp only [Bool.not_true,cond_false,Bool.true_and]
  cases hs:(c.Source == -1) with
  | true=>simp only [cond_true,Pr2,Option.bind_some]
  | false =>
   simp only [cond_false]
   have e2:(((((decide (c.Source ≥ 0) && decide (c.Source ≤ (k:Int) - 1)) && (decide (c.Divide ≥ 1) && decide (c.Divide ≤ 8))) && (c.Period == 0)) && (c.RiseAt == 0)) && (c.FallAt == 0)) = genB c k:=rfl
   simp only [Bool.and_assoc] at e2 ⊢
   rw [e2]
   cases hg:genB c k with
   | false=>rfl
   | true =>
    obtain ⟨w,hw,hW⟩:=WE hk prior (.inr (by rw [hc]; exact hg))
    simp only [cond_true,wv_eq,perB,hW n (by omega),Option.map_some,Option.bind_some,Bool.true_and,toW]
structure VC (n:Nat) (l:List S_Clock):Prop where
 few:l.length ≤ 6
 nm:∀ k (h:k < l.length),nameB l[k].Name = true
 ck:∀ k (h:k < l.length),clkB n l k l[k] = true
 df:∀ k (h:k < l.length) i (hi:i < k),(l[i].Name.toList == l[k].Name.toList) = false
def Tells (P:Prop) (r:Option Bool):Prop:=∃ b:Bool,r = some b ∧ (b = true ↔ P)
theorem Tells.no {P:Prop} (h:¬ P):Tells P (some false):=⟨false,rfl,by simp [h]⟩
theorem Tells.yes {P:Prop} (h:P):Tells P (some true):=⟨true,rfl,by simp [h]⟩
theorem Tells.eq {P:Prop} {r q:Option Bool} (h:Tells P r) (k:Tells P q):r = q:=by
 obtain ⟨b,rfl,h⟩:=h
 obtain ⟨c,rfl,k⟩:=k
 have:b = c:=Bool.eq_iff_iff.2 (h.trans k.symm)
 rw [this]
theorem SC {n:Nat} {l:List S_Clock} (hm:l.length ≤ 1048576) (hs:∀ x ∈ l,SM_Clock x) (hn:1048577 ≤ n):Tells (VC n l) (F_2 n l):=by
 rw [F_2]
 by_cases h6:l.length ≤ 6
 ·have d6:decide ((l.length:Int) ≤ 6) = true:=decide_eq_true (by omega)
  refine loopw (L:=fun m i (_:Unit)=>F_2_L1 n l _ m i) l.length (fun i _=>∀ k (h:k < l.length),k < i → nameB l[k].Name = true ∧ clkB n l k l[k] = true ∧ ∀ q (hq:q < k),(l[q].Name.toList == l[k].Name.toList) = false) (Tells (VC n l)) ?_ ?_ n 0 () (by omega) (by omega) (fun k h hk=>by omega)
  ·intro m i _ hi hI ih
   have hN:l[i].Name.size ≤ 1048576:=(hs _ (List.getElem_mem hi)).1
   rw [F_2_L1.eq_2,dlt hi,d6]
   simp only [d6] at ih
   simp only [Bool.and_self,cond_true,getI_el hi,Option.bind_some,Pl1 n l[i] hN hn]
   cases hp:(nameB l[i].Name && ctlB l[i]) with
   | false =>
    refine Tells.no fun hv=>?_
    have h1:=hv.nm i hi
    have h2:=hv.ck i hi
    rw [h1,Bool.true_and] at hp
    simp only [clkB,hp,Bool.false_and] at h2
    cases h2
   | true =>
    simp only [Bool.and_eq_true] at hp
    simp only [Bool.not_true,cond_false]
    refine loop (L:=fun m j (_:Unit)=>F_2_L2 l (i:Int) l[i] _ m j) i (fun j _=>∀ q (hq:q < i),q < j → (l[q].Name.toList == l[i].Name.toList) = false) _ ?_ ?_ n 0 () (by omega) (by omega) (fun q _ h=>by omega)
    ·intro m j _ hj hJ
     cases he:(l[j].Name.toList == l[i].Name.toList) with
     | true =>
      refine .inr ?_
      simp only [F_2_L2.eq_2,dlt hj,cond_true,getI_el (show j < l.length by omega),Option.bind_some,he]
      refine Tells.no fun hv=>?_
      rw [hv.df i hi j hj] at he; cases he
     | false =>
      refine .inl ⟨(),fun q hq hqj=>?_,?_⟩
      ·by_cases e:q = j
       ·subst e; exact he
       ·exact hJ q hq (by omega)
      ·simp only [F_2_L2.eq_2,dlt hj,cond_true,getI_el (show j < l.length by omega),Option.bind_some,he,cond_false,wS (show j < 4611686018427387904 by omega)]
    ·intro m _ hJ
     have ew:IntKind.wrap IntKind.i64 ((i:Int) - 1) = (i:Int) - 1:=wrap64 (by omega) (by omega)
     simp only [F_2_L2.eq_2,dnl,cond_false,Pr1,F_0,Option.bind_some,ew,wS (show i < 4611686018427387904 by omega),bif_or]
     have prior:∀ s,s < i → ∃ w,WOK 100000 w ∧ Wv l s w:=WA i (by omega) (by omega) fun j hj hji=>(hI j hj hji).2.1
     have go:clkB n l i l[i] = true → ∀ k (h:k < l.length),k < i + 1 → nameB l[k].Name = true ∧ clkB n l k l[k] = true ∧ ∀ q (hq:q < k),(l[q].Name.toList == l[k].Name.toList) = false:=by
      intro hc k h hk
      by_cases e:k = i
      ·subst e; exact ⟨hp.1,hc,fun q hq=>hJ q hq hq⟩
      ·exact hI k h (by omega)
     cases hsrc:(l[i].Source == -1) with
     | true =>
      simp only [cond_true]
      cases hpr:primB l[i] with
      | false =>
       refine Tells.no fun hv=>?_
       have h2:=hv.ck i hi
       simp only [clkB,hsrc,cond_true,hpr,Bool.and_false] at h2; cases h2
      | true =>
       simp only [Bool.not_true,cond_false]
       exact ih () (go (by simp only [clkB,hsrc,cond_true,hpr,hp.2,Bool.and_self]))
     | false =>
      simp only [cond_false]
      have eg:(((((!((decide (l[i].Source ≥ 0)) && (decide (l[i].Source ≤ (i:Int) - 1))) || !((decide (l[i].Divide ≥ 1)) && (decide (l[i].Divide ≤ 8)))) || (l[i].Period != 0)) || (l[i].RiseAt != 0)) || (l[i].FallAt != 0))) = !genB l[i] i:=by
       simp only [genB,Bool.not_and,bne]
      rw [eg]
      cases hg:genB l[i] i with
      | false =>
       simp only [Bool.not_false,cond_true,Option.bind_some]
       refine Tells.no fun hv=>?_
       have h2:=hv.ck i hi
       simp only [clkB,hsrc,cond_false,hg,Bool.false_and,Bool.and_false] at h2; cases h2
      | true =>
       obtain ⟨w,hw,hW⟩:=WE hi prior (.inr hg)
       simp only [Bool.not_true,cond_false,hW n (by omega),Option.bind_some]
       by_cases hpd:w.period_ ≤ 100000
       ·rw [decide_eq_false (show ¬ w.period_ > 100000 by omega)]
        simp only [cond_false]
        exact ih () (go (by simp only [clkB,hsrc,cond_false,hg,hp.2,perB,hW n (show i < n by omega),decide_eq_true hpd,Bool.and_self]))
       ·rw [decide_eq_true (show w.period_ > 100000 by omega)]
        refine Tells.no fun hv=>?_
        have h2:=hv.ck i hi
        simp only [clkB,hsrc,cond_false,perB,hW n (show i < n by omega),decide_eq_false hpd,Bool.and_false] at h2; cases h2
  ·intro m _ hI
   simp only [F_2_L1.eq_2,dnl,Bool.false_and,cond_false,d6]
   exact Tells.yes (VC.mk h6 (fun k h=>(hI k h h).1) (fun k h=>(hI k h h).2.1) (fun k h i hi=>(hI k h h).2.2 i hi))
 ·have d6:decide ((l.length:Int) ≤ 6) = false:=decide_eq_false (by omega)
  obtain ⟨q,rfl⟩:∃ q,n = q + 1:=⟨n - 1,by omega⟩
  rw [F_2_L1.eq_2,d6]
  simp only [Bool.and_false,cond_false]
  exact Tells.no fun hv=>h6 hv.few
theorem Ct1 {n:Nat} {xs:List ByteArray} {x:ByteArray} (h:xs.length ≤ 1048576) (hn:1048577 ≤ n):F_02 n xs x = some (xs.any fun y=>x.toList == y.toList):=by
 rw [F_02,F_g]
 obtain ⟨r,e1,e2⟩:=loop_has (xs:=xs) (L:=fun m i=>F_g_L1 xs x (fun i5=>(some (-1))) m i) (fun y=>x.toList == y.toList) (fun m i hi=>by
  simp only [F_g_L1.eq_2,dlt hi,cond_true,getI_el hi,Option.bind_some,wS (show i < 4611686018427387904 by omega)]) (fun m=>by
  simp only [F_g_L1.eq_2,dnl,cond_false]) n (by omega)
 have e1:F_g_L1 xs x (fun i5=>(some (-1))) n 0 = some r:=e1
 rw [e1,Option.bind_some,e2]
theorem AN {n:Nat} {xs:List ByteArray} (h:xs.length ≤ 1048576) (hs:∀ x ∈ xs,x.size ≤ 1048576) (hn:1048577 ≤ n):Tells (∀ k (h:k < xs.length),nameB xs[k] = true ∧ ∀ i (hi:i < k),(xs[i].toList == xs[k].toList) = false) (F_e n xs):=by
 rw [F_e]
 refine loop (L:=fun m i (_:Unit)=>F_e_L1 n xs _ m i) xs.length (fun i _=>∀ k (h:k < xs.length),k < i → nameB xs[k] = true ∧ ∀ i (hi:i < k),(xs[i].toList == xs[k].toList) = false) _ ?_ ?_ n 0 () (by omega) (by omega) (fun k h hk=>by omega)
 ·intro m i _ hi hI
  have hsub:subL xs 0 (i:Int) = some (xs.take i):=by
   unfold subL
   rw [if_pos ⟨by omega,by omega,by omega⟩]; simp
  have hct:=Ct1 (n:=n) (xs:=xs.take i) (x:=xs[i]) (by simp; omega) hn
  simp only [F_e_L1.eq_2,dlt hi,cond_true,getI_el hi,Option.bind_some,Nm1 (hs _ (List.getElem_mem hi)) hn,hsub,hct,bif_or,wS (show i < 4611686018427387904 by omega)]
  cases hb:(!nameB xs[i] || (xs.take i).any fun y=>xs[i].toList == y.toList) with
  | true =>
   refine .inr (Tells.no fun hv=>?_)
   obtain ⟨h1,h2⟩:=hv i hi
   rw [h1,Bool.not_true,Bool.false_or,List.any_eq_true] at hb
   obtain ⟨y,hy,he⟩:=hb
   obtain ⟨j,hj,rfl⟩:=List.mem_iff_getElem.1 hy
   rw [List.length_take] at hj
   rw [List.getElem_take] at he
   have:=h2 j (by omega)
   rw [beq_eq_false_iff_ne] at this
   exact this (eq_of_beq he).symm
  | false =>
   simp only [Bool.or_eq_false_iff,Bool.not_eq_false'] at hb
   refine .inl ⟨(),fun k h hk=>?_,rfl⟩
   by_cases e:k = i
   ·subst e
    refine ⟨hb.1,fun j hj=>?_⟩
    rw [beq_eq_false_iff_ne]
    intro he
    have:=List.any_eq_false.1 hb.2 xs[j] (List.mem_iff_getElem.2 ⟨j,by rw [List.length_take]; omega,by rw [List.getElem_take]⟩)
    exact this (by rw [he]; simp)
   ·exact hI k h (by omega)
 ·intro m _ hI
  simp only [F_e_L1.eq_2,dnl,cond_false]
  exact Tells.yes fun k h=>hI k h h
theorem PC {n:Nat} {l:List S_Clock} (hm:l.length ≤ 1048576) (hs:∀ x ∈ l,SM_Clock x) (hn:1048577 ≤ n):Tells (VC n l) (F_f n l):=by
 rw [F_f]
 by_cases h6:l.length ≤ 6
 ·rw [decide_eq_false (show ¬ (l.length:Int) > 6 by omega),cond_false]
  refine loop (L:=fun m i (a:List ByteArray)=>F_f_L1 n l _ m a i) l.length (fun i a=>a = (l.take i).map (·.Name) ∧ ∀ k (h:k < l.length),k < i → clkB n l k l[k] = true) _ ?_ ?_ n 0 [] (by omega) (by omega) ⟨by simp,fun k h hk=>by omega⟩
  ·intro m i a hi ⟨ha,hI⟩
   have hal:a.length = i:=by rw [ha]; simp; omega
   simp only [F_f_L1.eq_2,dlt hi,cond_true,getI_el hi,Option.bind_some,IC1 hi hm hn (WA i (by omega) (by omega) hI),appN_ok (show a.length + [l[i].Name].length ≤ 16777216 by simp; omega) (show 16 ≤ 1048576 by omega),wS (show i < 4611686018427387904 by omega)]
   cases hc:clkB n l i l[i] with
   | false =>
    refine .inr (Tells.no fun hv=>?_)
    rw [hv.ck i hi] at hc; cases hc
   | true =>
    refine .inl ⟨a ++ [l[i].Name],⟨?_,fun k h hk=>?_⟩,rfl⟩
    ·rw [ha,List.take_succ,List.getElem?_eq_getElem hi,List.map_append]; rfl
    ·by_cases e:k = i
     ·subst e; exact hc
     ·exact hI k h (by omega)
  ·intro m a ⟨ha,hI⟩
   simp only [F_f_L1.eq_2,dnl,cond_false]
   rw [List.take_length] at ha
   subst ha
   obtain ⟨b,e,hb⟩:=AN (n:=n) (xs:=l.map (·.Name)) (by simpa using hm) (fun x hx=>by
    obtain ⟨c,hc,rfl⟩:=List.mem_map.1 hx
    exact (hs c hc).1) hn
   rw [e,Option.bind_some]
   refine ⟨b,rfl,hb.trans ?_⟩
   constructor
   ·intro h
    exact ⟨h6,fun k hk=>by have:=(h k (by simpa using hk)).1; simpa using this,fun k hk=>hI k hk hk,fun k hk i hi=>by have:=(h k (by simpa using hk)).2 i hi; simpa using this⟩
   ·intro h k hk
    have hk:k < l.length:=by simpa using hk
    refine ⟨by simpa using h.nm k hk,fun i hi=>by simpa using h.df k hk i hi⟩
 ·rw [decide_eq_true (show (l.length:Int) > 6 by omega),cond_true]
  exact Tells.no fun hv=>h6 hv.few
def inL (l:List S_Clock) (k:Int):Bool:=decide (k ≥ 0) && decide (k ≤ (l.length:Int) - 1)
def cdF (b:Bool) (l:List S_Clock) (ks:List Int):Int:=bif b then (bif ks.all (inL l) then 0 else 4) else 1
theorem AW {n:Nat} {ks:List Int} {lo hi:Int} (h:ks.length ≤ 1048576) (hn:1048577 ≤ n):F_0b n ks lo hi = some (ks.all fun k=>decide (k ≥ lo) && decide (k ≤ hi)):=by
 rw [F_0b,F_0f,F_l]
 obtain ⟨r,e1,e2⟩:=loop_has (xs:=ks) (L:=fun m i=>F_l_L1 n ks lo hi (fun i7=>(some (-1))) m i) (fun k=>!(decide (k ≥ lo) && decide (k ≤ hi))) (fun m i hi=>by
  simp only [F_l_L1.eq_2,dlt hi,cond_true,getI_el hi,Option.bind_some,F_0e,F_3,wS (show i < 4611686018427387904 by omega)]) (fun m=>by
  simp only [F_l_L1.eq_2,dnl,cond_false]) n (by omega)
 have e1:F_l_L1 n ks lo hi (fun i7=>(some (-1))) n 0 = some r:=e1
 rw [e1,Option.bind_some,Option.bind_some,e2]
 congr 1
 rw [List.not_any_eq_all_not]
 congr 1
 funext k; rw [Bool.not_not]
theorem CC0 {n:Nat} {l:List S_Clock} (hm:l.length ≤ 1048576) (hs:∀ x ∈ l,SM_Clock x) (hn:1048577 ≤ n):∃ b:Bool,(b = true → VC n l) ∧ (∀ ks:List Int,ks.length ≤ 1048576 → F_0c n l ks = some (cdF b l ks)) ∧ F_2 n l = some b ∧ F_f n l = some b:=by
 have h1:=SC (n:=n) hm hs hn
 have h3:=(PC (n:=n) hm hs hn).eq h1
 obtain ⟨b,hb,hv⟩:=h1
 rw [hb] at h3
 have ew:IntKind.wrap IntKind.i64 ((l.length:Int) - 1) = (l.length:Int) - 1:=wrap64 (by omega) (by omega)
 refine ⟨b,hv.1,fun ks hk=>?_,hb,h3⟩
 rw [F_0c,h3]
 simp only [F_0g,Option.bind_some,ew,AW hk hn,cdF]
 cases b <;> simp only [Bool.not_true,Bool.not_false,cond_true,cond_false]
 have:(ks.all fun k=>decide (k ≥ 0) && decide (k ≤ (l.length:Int) - 1)) = ks.all (inL l):=rfl
 rw [this]
 cases ks.all (inL l) <;> rfl
theorem CW {n:Nat} {l:List S_Clock} (hv:VC n l) (hn:1048577 ≤ n) {k:Int} (hk:inL l k = true):∃ (j:Nat) (w:S_l14Wave),k = (j:Int) ∧ j < l.length ∧ WOK 100000 w ∧ F_1 n l k = some w ∧ F_6 n l k = some (toW w):=by
 have few:=hv.few
 simp only [inL,Bool.and_eq_true,decide_eq_true_eq] at hk
 obtain ⟨j,rfl⟩:=Int.eq_ofNat_of_zero_le hk.1
 obtain ⟨w,h1,h2⟩:=WA l.length (Nat.le_refl _) (by omega) (fun j hj _=>hv.ck j hj) j (by omega)
 have h3:=h2 n (by omega)
 exact ⟨j,w,rfl,by omega,h1,h3,by rw [wv_eq,h3]; rfl⟩
theorem tmm {a p:Int} (hp:0 < p):Int.tmod (Int.tmod a p + p) p = a % p:=by
 have h1:-p < Int.tmod a p:=by
  have:=Int.lt_tmod_of_pos a hp; omega
 rw [Int.tmod_eq_emod_of_nonneg (by omega),Int.add_emod_right,Int.tmod_def,Int.sub_mul_emod_self_left]
theorem tm_rng {a p:Int} (hp:0 < p):-p < Int.tmod a p ∧ Int.tmod a p < p:=⟨by have:=Int.lt_tmod_of_pos a hp; omega,Int.tmod_lt_of_pos a hp⟩
def edg (w:S_l14Wave) (e:Int):Int:=if e = 0 then w.rise_ else w.fall_
def nxt (w:S_l14Wave) (e t:Int):Int:=t + (edg w e - t) % w.period_
theorem edg_rng {B:Int} {w:S_l14Wave} (h:WOK B w) (e:Int):0 ≤ edg w e ∧ edg w e < w.period_:=by
 unfold edg; split
 ·exact h.r
 ·exact h.f
theorem em_rng {a p:Int} (hp:0 < p):0 ≤ a % p ∧ a % p < p:=⟨Int.emod_nonneg _ (by omega),Int.emod_lt_of_pos _ hp⟩
theorem Mo {n:Nat} {a p:Int} (hp:0 < p ∧ p ≤ 1000000):F_z n a p = some (a % p):=by
 have h0:(p == 0) = false:=beq_eq_false_iff_ne.2 (by omega)
 have:=tm_rng (a:=a) hp.1
 rw [F_z,h0,cond_false,cond_false,wrap64 (by omega) (by omega),tmm hp.1]
theorem Af {n:Nat} {w:S_l14Wave} (h:WOK 100000 w) {e t:Int} (ht:-2000000000 ≤ t ∧ t ≤ 200000000000):F_t n w e t = some (nxt w e t):=by
 have hp:=h.p
 have he:=edg_rng h e
 have h0:(w.period_ == 0) = false:=beq_eq_false_iff_ne.2 (by omega)
 have e1:F_06 n w e = some (edg w e):=by
  unfold edg
  rw [F_06]
  by_cases q:e = 0
  ·subst q; rfl
  ·rw [beq_eq_false_iff_ne.2 q,if_neg q]; rfl
 have:=tm_rng (a:=edg w e - t) (p:=w.period_) (by omega)
 have m:=em_rng (a:=edg w e - t) (p:=w.period_) (by omega)
 rw [F_t,e1,Option.bind_some,h0,cond_false,cond_false,wrap64 (x:=edg w e - t) (by omega) (by omega),wrap64 (x:=_ + w.period_) (by omega) (by omega),tmm (by omega),wrap64 (by omega) (by omega)]
 rfl
theorem Nx2 {n:Nat} {w:S_l14Wave} (h:WOK 100000 w) {e t:Int} (he:e = 0 ∨ e = 1) (ht:-2000000000 ≤ t ∧ t ≤ 200000000000):F_00 n (toW w) e t = some (nxt w e t):=by
 have hp:=h.p
 have hr:=edg_rng h e
 have e1:getI ([(toW w).edges_.e0,(toW w).edges_.e1]:List Int) e = some (edg w e):=by
  rcases he with rfl | rfl <;> rfl
 have m:=em_rng (a:=edg w e - t) (p:=w.period_) (by omega)
 rw [F_00,e1,Option.bind_some,wrap64 (x:=edg w e - t) (by omega) (by omega)]
 show Option.bind (F_z n _ w.period_) _ = _
 rw [Mo ⟨by omega,by omega⟩,Option.bind_some,wrap64 (by omega) (by omega)]; rfl
theorem isT {n:Nat} {e:Int}:F_u n e = some (decide (e ≥ 0) && decide (e ≤ 1)):=by
 rw [F_u]
 congr 1
 rw [Bool.eq_iff_iff]
 simp only [Bool.or_eq_true,beq_iff_eq,Bool.and_eq_true,decide_eq_true_eq]; omega
theorem Rt1 (l:List S_Clock) (k:Int → Option Int):∀ m i,F_d_L1 l k m i = F_9_L1 l k m i
 | 0,_=>rfl
 | m + 1,i=>by
  rw [F_d_L1.eq_2,F_9_L1.eq_2]
  simp only [Rt1 l k m]
theorem src_of {n:Nat} {l:List S_Clock} (hv:VC n l) {k:Nat} (hk:k < l.length):l[k].Source = -1 ∨ (0 ≤ l[k].Source ∧ l[k].Source < k):=by
 rcases clk_of (hv.ck k hk) with h | h
 ·exact .inl h.1
 ·exact .inr (gen_of h.2.1).1
theorem Rt2 {n:Nat} {l:List S_Clock} (hv:VC n l):∀ (m k:Nat),k < m → k < l.length → ∃ r:Nat,F_9_L1 l (fun i5=>(some i5)) m (k:Int) = some (r:Int) ∧ r < l.length
 | 0,k,h,_=>by omega
 | m + 1,k,h,hk=>by
  rw [F_9_L1.eq_2,getI_el hk,Option.bind_some]
  rcases src_of hv hk with h1 | h1
  ·rw [h1]; exact ⟨k,rfl,hk⟩
  ·obtain ⟨s,hs⟩:=Int.eq_ofNat_of_zero_le h1.1
   rw [decide_eq_true (show l[k].Source ≥ 0 by omega),cond_true,Option.bind_some,hs]
   exact Rt2 hv m s (by omega) (by omega)
theorem Rt {n:Nat} {l:List S_Clock} (hv:VC n l) (hn:1048577 ≤ n) {k:Int} (hk:inL l k = true):∃ r:Nat,F_d n l k = some (r:Int) ∧ F_9 n l k = some (r:Int) ∧ r < l.length:=by
 have few:=hv.few
 obtain ⟨j,_,rfl,hj,_⟩:=CW hv hn hk
 obtain ⟨r,h1,h2⟩:=Rt2 hv n j (by omega) hj
 refine ⟨r,?_,h1,h2⟩
 rw [F_d,Rt1]; exact h1
theorem Gc1:∀ (m a b:Nat),b < m → F_q_L1 (fun i3 i4=>(some i3)) m (a:Int) (b:Int) = some ((Nat.gcd a b:Nat):Int) ∧ F_o_L1 (fun i3 i4=>(some i3)) m (a:Int) (b:Int) = some ((Nat.gcd a b:Nat):Int)
 | 0,a,b,h=>by omega
 | m + 1,a,b,h=>by
  rw [F_q_L1.eq_2,F_o_L1.eq_2]
  by_cases h0:b = 0
  ·subst h0
   rw [Nat.gcd_zero_right]; exact ⟨rfl,rfl⟩
  ·have e1:decide ((b:Int) > 0) = true:=decide_eq_true (by omega)
   have e2:((b:Int) == 0) = false:=beq_eq_false_iff_ne.2 (by omega)
   have e3:((b:Int) != 0) = true:=by rw [bne,e2]; rfl
   have e4:Int.tmod (a:Int) (b:Int) = ((a % b:Nat):Int):=by rw [Int.tmod_eq_emod_of_nonneg (by omega)]; rfl
   have hlt:=Nat.mod_lt a (show b > 0 by omega)
   rw [e1,e2,e3,e4]
   simp only [cond_true,cond_false]
   obtain ⟨g1,g2⟩:=Gc1 m b (a % b) (by omega)
   rw [g1,g2]
   have:Nat.gcd b (a % b) = Nat.gcd a b:=by rw [Nat.gcd_comm a b,Nat.gcd_rec b a,Nat.gcd_comm]
   rw [this]; exact ⟨rfl,rfl⟩
theorem Hy {n:Nat} {l:List S_Clock} (hv:VC n l) (hn:1048577 ≤ n) {a b:Int} (ha:inL l a = true) (hb:inL l b = true):∃ h x y,F_r n l a b = some h ∧ F_0d n l a b = some h ∧ WOK 100000 x ∧ WOK 100000 y ∧ F_1 n l a = some x ∧ F_1 n l b = some y ∧ x.period_ ≤ h ∧ h ≤ 10000000000:=by
 obtain ⟨i,x,rfl,hi,hx,h1,h2⟩:=CW hv hn ha
 obtain ⟨j,y,rfl,hj,hy,h3,h4⟩:=CW hv hn hb
 have px:=hx.p
 have py:=hy.p
 obtain ⟨p,hp⟩:=Int.eq_ofNat_of_zero_le (show 0 ≤ x.period_ by omega)
 obtain ⟨q,hq⟩:=Int.eq_ofNat_of_zero_le (show 0 ≤ y.period_ by omega)
 obtain ⟨g1,g2⟩:=Gc1 n p q (by omega)
 have gp:0 < Nat.gcd p q:=Nat.gcd_pos_of_pos_left _ (by omega)
 have gd1:p / Nat.gcd p q * Nat.gcd p q = p:=Nat.div_mul_cancel (Nat.gcd_dvd_left p q)
 have gq:Nat.gcd p q ≤ q:=Nat.le_of_dvd (by omega) (Nat.gcd_dvd_right p q)
 have dl:p / Nat.gcd p q ≤ p:=Nat.div_le_self _ _
 have up:p / Nat.gcd p q * q ≤ 100000 * 100000:=Nat.mul_le_mul (by omega) (by omega)
 have lo:p ≤ p / Nat.gcd p q * q:=by
  have:=Nat.mul_le_mul_left (p / Nat.gcd p q) gq
  omega
 have e0:(((Nat.gcd p q:Nat):Int) == 0) = false:=beq_eq_false_iff_ne.2 (by omega)
 have et:Int.tdiv (p:Int) ((Nat.gcd p q:Nat):Int) = ((p / Nat.gcd p q:Nat):Int):=by rw [Int.tdiv_eq_ediv_of_nonneg (by omega)]; rfl
 generalize p / Nat.gcd p q = d at *
 have ew:IntKind.wrap IntKind.i64 ((d:Nat):Int) = ((d:Nat):Int):=wrap64 (by omega) (by omega)
 have em:((d:Nat):Int) * (q:Int) = ((d * q:Nat):Int):=(Int.natCast_mul _ _).symm
 have ex:IntKind.wrap IntKind.i64 ((d * q:Nat):Int) = ((d * q:Nat):Int):=by
  generalize d * q = z at *
  exact wrap64 (by omega) (by omega)
 refine ⟨((d * q:Nat):Int),x,y,?_,?_,hx,hy,h1,h3,by rw [hp]; exact Int.ofNat_le.2 lo,by generalize d * q = z at up ⊢; omega⟩
 ·rw [F_r,h1,Option.bind_some,h3,Option.bind_some,hp,hq,F_q,g1,Option.bind_some,e0,cond_false,et,ew,em,ex]
 ·rw [F_0d,h2,Option.bind_some,h4,Option.bind_some]
  show Option.bind (F_o n x.period_ y.period_) _ = _
  rw [hp,hq,F_o,g2,Option.bind_some,e0,cond_false]
  show some (IntKind.wrap IntKind.i64 (IntKind.wrap IntKind.i64 (Int.tdiv x.period_ _) * y.period_)) = _
  rw [hp,hq,et,ew,em,ex]
theorem C1 {a:List S_Clock} (hR:a.length ≤ 9223372036854775807 ∧ ∀ x ∈ a,R_Clock x):∃ r,F_a 1048577 a 1048576 = some r ∧ (¬ r < 0 → a.length ≤ 1048576 ∧ ∀ x ∈ a,SM_Clock x):=by
 obtain ⟨r,e,_,hs⟩:=Z_ClockS (n:=1048577) (left:=1048576) hR (by omega) (by omega) (by omega)
 exact ⟨r,e,fun h=>hs (by omega)⟩
structure EO (n:Nat) (l:List S_Clock) (a ea b eb:Int) (E:S_edges) (x y:S_l14Wave) (h:Int):Prop where
 e:E = S_edges.mk (toW x) (toW y) ea eb h
 wx:WOK 100000 x
 wy:WOK 100000 y
 ax:F_1 n l a = some x
 ay:F_1 n l b = some y
 hy:F_r n l a b = some h
 ea:ea = 0 ∨ ea = 1
 eb:eb = 0 ∨ eb = 1
 h0:x.period_ ≤ h
 h1:h ≤ 100000000
 h2:h / x.period_ ≤ 200
theorem EOf {n:Nat} {l:List S_Clock} (hm:l.length ≤ 1048576) (hs:∀ x ∈ l,SM_Clock x) (hn:1048577 ≤ n) (a ea b eb:Int):∃ (c:Int) (E:S_edges),F_05 n l a ea b eb = some c ∧ F_y n l a ea b eb = some (E,c) ∧ (c = 0 → ∃ x y h,EO n l a ea b eb E x y h):=by
 obtain ⟨v,h1,h3,h4,h5⟩:=CC0 (n:=n) hm hs hn
 have ew:IntKind.wrap IntKind.i64 ((l.length:Int) - 1) = (l.length:Int) - 1:=wrap64 (by omega) (by omega)
 rw [F_05,F_y,h4,h3 [a,b] (by simp)]
 simp only [Option.bind_some,F_0,ew,isT,bif_or]
 have i1:(decide (a ≥ 0) && decide (a ≤ (l.length:Int) - 1)) = inL l a:=rfl
 have i2:(decide (b ≥ 0) && decide (b ≤ (l.length:Int) - 1)) = inL l b:=rfl
 rw [i1,i2]
 cases v with
 | false=>exact ⟨1,_,rfl,rfl,fun h=>by omega⟩
 | true =>
  have hv:=h1 rfl
  cases ha:inL l a with
  | false=>simp only [cdF,List.all_cons,ha,Bool.false_and,cond_false,cond_true]; exact ⟨4,_,rfl,rfl,fun h=>by omega⟩
  | true =>
   cases hb:inL l b with
   | false=>simp only [cdF,List.all_cons,List.all_nil,ha,hb,Bool.false_and,Bool.true_and,cond_false,cond_true]; exact ⟨4,_,rfl,rfl,fun h=>by omega⟩
   | true =>
    simp only [cdF,List.all_cons,List.all_nil,ha,hb,Bool.true_and,cond_true,Bool.not_true,Bool.or_self,cond_false,bne_self_eq_false]
    cases hc:(!(decide (ea ≥ 0) && decide (ea ≤ 1)) || !(decide (eb ≥ 0) && decide (eb ≤ 1))) with
    | true=>exact ⟨2,_,rfl,rfl,fun h=>by omega⟩
    | false =>
     simp only [Bool.or_eq_false_iff,Bool.not_eq_false',Bool.and_eq_true,decide_eq_true_eq] at hc
     obtain ⟨r1,p1,p2,_⟩:=Rt hv hn ha
     obtain ⟨r2,q1,q2,_⟩:=Rt hv hn hb
     obtain ⟨h,x,y,g1,g2,hx,hy,g3,g4,g5,g6⟩:=Hy hv hn ha hb
     simp only [cond_false,p1,p2,q1,q2,g1,g2,g3,wv_eq,g4,Option.map_some,Option.bind_some]
     cases hr:((r1:Int) != (r2:Int)) with
     | true=>exact ⟨5,_,rfl,rfl,fun h=>by omega⟩
     | false =>
      have px:=hx.p
      have e0:(x.period_ == 0) = false:=beq_eq_false_iff_ne.2 (by omega)
      have e1:((toW x).period_ == 0) = false:=e0
      have et:IntKind.wrap IntKind.i64 (Int.tdiv h x.period_) = h / x.period_:=by
       have d1:=Int.ediv_nonneg (show 0 ≤ h by omega) (show 0 ≤ x.period_ by omega)
       have d2:=Int.ediv_le_self x.period_ (show 0 ≤ h by omega)
       rw [Int.tdiv_eq_ediv_of_nonneg (by omega)]; exact wrap64 (by omega) (by omega)
      have e2:IntKind.wrap IntKind.i64 (Int.tdiv h (toW x).period_) = h / x.period_:=et
      simp only [cond_false,e0,e1,et,e2,bif_or]
      cases hd:(decide (h > 100000000) || decide (h / x.period_ > 200)) with
      | true=>exact ⟨3,_,rfl,rfl,fun h=>by omega⟩
      | false =>
       simp only [Bool.or_eq_false_iff,decide_eq_false_iff_not] at hd
       exact ⟨0,_,rfl,rfl,fun _=>⟨x,y,h,rfl,hx,hy,g3,g4,g1,by omega,by omega,g5,by omega,by omega⟩⟩
def PrOK (y:S_l14Wave) (h:Int) (q:Int × Int):Prop:=0 ≤ q.1 ∧ q.1 < h ∧ 1 ≤ q.2 - q.1 ∧ q.2 - q.1 ≤ y.period_
def PrI (x y:S_l14Wave) (ea eb:Int) (ps:List (Int × Int)):Prop:=∀ j (h:j < ps.length),ps[j].1 = edg x ea + j * x.period_ ∧ ps[j].2 = nxt y eb (ps[j].1 + 1)
def prL (ps:List (Int × Int)):List (List Int):=ps.map fun q=>[q.1,q.2]
theorem Pr15 {n:Nat} {x y:S_l14Wave} {ea eb h:Int} (hx:WOK 100000 x) (hy:WOK 100000 y) (he:eb = 0 ∨ eb = 1) (hh:h ≤ 100000000) (hq:h / x.period_ ≤ 200) (hn:1048577 ≤ n):∀ (m:Nat) (ps:List (Int × Int)) (i:Int),i = edg x ea + ps.length * x.period_ → 202 - ps.length < m → ps.length ≤ 201 → (∀ q ∈ ps,PrOK y h q) → PrI x y ea eb ps →
 ∃ qs,PrI x y ea eb (ps ++ qs) ∧ F_n_L1 n eb h x y (fun l66 i70=>(some l66)) m (prL ps) i = some (prL (ps ++ qs)) ∧ F_p_L1 n (S_edges.mk (toW x) (toW y) ea eb h) (fun l15 i19=>(some l15)) m (prL ps) i = some (prL (ps ++ qs)) ∧ (∀ q ∈ ps ++ qs,PrOK y h q) ∧ (ps ++ qs).length ≤ 201 ∧ (i < h → qs ≠ [])
 | 0,ps,i,_,hm,hl,_,_=>by omega
 | m + 1,ps,i,hi,hm,hl,hps,hI=>by
  have px:=hx.p
  have py:=hy.p
  have hr:=edg_rng hx ea
  have hp0:0 ≤ (ps.length:Int) * x.period_:=Int.mul_nonneg (by omega) (by omega)
  rw [F_n_L1.eq_2,F_p_L1.eq_2]
  show ∃ qs,_ ∧ (bif decide (i < h) then _ else _) = _ ∧ (bif decide (i < h) then _ else _) = _ ∧ _
  by_cases hlt:i < h
  ·have hlen:(ps.length:Int) < 201:=by
    refine Int.not_le.1 fun hge=>?_
    have m1:=Int.mul_le_mul_of_nonneg_right hge (show 0 ≤ x.period_ by omega)
    have m2:=Int.emod_add_mul_ediv h x.period_
    have m3:=em_rng (a:=h) (p:=x.period_) (by omega)
    have m4:x.period_ * (h / x.period_) ≤ x.period_ * 200:=Int.mul_le_mul_of_nonneg_left hq (by omega)
    omega
   have ma:=em_rng (a:=edg y eb - (i + 1)) (p:=y.period_) (by omega)
   have hok:PrOK y h (i,nxt y eb (i + 1)):=by unfold PrOK nxt; dsimp only; omega
   have w1:IntKind.wrap IntKind.i64 (i + 1) = i + 1:=wrap64 (by omega) (by omega)
   have w2:IntKind.wrap IntKind.i64 (i + x.period_) = i + x.period_:=wrap64 (by omega) (by omega)
   have w3:IntKind.wrap IntKind.i64 (i + (S_edges.mk (toW x) (toW y) ea eb h).from_.period_) = i + x.period_:=w2
   have a1:appN (prL ps) [[i,nxt y eb (i + 1)]] 24 = some (prL (ps ++ [(i,nxt y eb (i + 1))])):=by
    rw [appN_ok (by simp [prL]; omega) (by omega)]; simp [prL]
   have n1:=Nx2 (n:=n) hy he (t:=i + 1) (by omega)
   have n2:F_00 n (S_edges.mk (toW x) (toW y) ea eb h).to_ (S_edges.mk (toW x) (toW y) ea eb h).eb_ (i + 1) = some (nxt y eb (i + 1)):=n1
   simp only [decide_eq_true hlt,cond_true,w1,w2,w3,Af (n:=n) hy (e:=eb) (t:=i + 1) (by omega),n2,a1,Option.bind_some]
   obtain ⟨qs,s0,s1,s2,s3,s4,_⟩:=Pr15 (ea:=ea) hx hy he hh hq hn m (ps ++ [(i,nxt y eb (i + 1))]) (i + x.period_) (by rw [hi,List.length_append,List.length_singleton,Int.natCast_add,Int.add_mul]; omega) (by simp; omega) (by simp; omega) (fun q hq=>by
    rcases List.mem_append.1 hq with hq | hq
    ·exact hps q hq
    ·rw [List.mem_singleton.1 hq]; exact hok) (fun j hj=>by
    by_cases e:j < ps.length
    ·rw [List.getElem_append_left e]; exact hI j e
    ·obtain rfl:j = ps.length:=by simp at hj; omega
     rw [List.getElem_concat_length rfl]; exact ⟨hi,rfl⟩)
   refine ⟨(i,nxt y eb (i + 1)) :: qs,by simpa using s0,?_,?_,?_,?_,fun _=>by simp⟩
   ·rw [s1]; simp
   ·rw [s2]; simp
   ·simpa using s3
   ·simpa using s4
  ·simp only [decide_eq_false hlt,cond_false]
   exact ⟨[],by simpa using hI,by simp,by simp,by simpa using hps,by simpa using hl,fun h=>absurd h hlt⟩
theorem Prs {n:Nat} {l:List S_Clock} {a ea b eb h:Int} {E:S_edges} {x y:S_l14Wave} (H:EO n l a ea b eb E x y h) (hn:1048577 ≤ n):∃ ps,F_n n l a ea b eb = some (prL ps) ∧ F_p n E = some (prL ps) ∧ (∀ q ∈ ps,PrOK y h q) ∧ ps.length ≤ 201 ∧ ps ≠ [] ∧ PrI x y ea eb ps:=by
 have hr:=edg_rng H.wx ea
 have px:=H.wx.p
 have h0:=H.h0
 obtain ⟨qs,s0,s1,s2,s3,s4,s5⟩:=Pr15 (n:=n) (ea:=ea) H.wx H.wy H.eb H.h1 H.h2 hn n [] (edg x ea) (by simp) (by simp; omega) (by simp) (by simp) (fun j hj=>by simp at hj)
 have e0:nxt x ea 0 = edg x ea:=by
  unfold nxt
  rw [Int.sub_zero,Int.zero_add]; exact Int.emod_eq_of_lt hr.1 hr.2
 refine ⟨qs,?_,?_,by simpa using s3,by simpa using s4,s5 (by omega),by simpa using s0⟩
 ·rw [F_n,H.hy,Option.bind_some,H.ax,Option.bind_some,H.ay,Option.bind_some,Af H.wx (by omega),Option.bind_some,e0]
  exact s1
 ·have e1:getI ([(toW x).edges_.e0,(toW x).edges_.e1]:List Int) ea = some (edg x ea):=by
   rcases H.ea with rfl | rfl <;> rfl
  rw [H.e,F_p]
  show Option.bind (getI ([(toW x).edges_.e0,(toW x).edges_.e1]:List Int) ea) _ = _
  rw [e1,Option.bind_some]
  exact s2
theorem prL_len (ps:List (Int × Int)):(prL ps).length = ps.length:=by simp [prL]
def CL (l:List S_Clock):Prop:=l.length ≤ 8 ∧ ∀ x ∈ l,x.Name.size ≤ 100
theorem CL.set {l:List S_Clock} (h:CL l) (i:Nat) {c:S_Clock} (hc:c.Name.size ≤ 100):CL (l.set i c):=⟨by rw [List.length_set]; exact h.1,fun x hx=>by
 rcases List.mem_or_eq_of_mem_set hx with hx | rfl
 ·exact h.2 x hx
 ·exact hc⟩
theorem EpX {n:Nat} {l:List S_Clock} (hm:l.length ≤ 1048576) (hs:∀ x ∈ l,SM_Clock x) (hn:1048577 ≤ n) (a ea b eb:Int):∃ (c:Int) (E:S_edges) (ps:List (Int × Int)),F_y n l a ea b eb = some (E,c) ∧ F_07 n l a ea b eb = some (prL ps,c) ∧ F_v n l a ea b eb = some (prL ps,c) ∧ ps.length ≤ 201 ∧
 (c = 0 → ∃ x y h,EO n l a ea b eb E x y h ∧ (∀ q ∈ ps,PrOK y h q) ∧ ps ≠ [] ∧ PrI x y ea eb ps):=by
 obtain ⟨c,E,h1,h2,h3⟩:=EOf (n:=n) hm hs hn a ea b eb
 rw [F_07,F_v,h1,h2]
 simp only [Option.bind_some]
 by_cases hc:c = 0
 ·subst hc
  obtain ⟨x,y,h,H⟩:=h3 rfl
  obtain ⟨ps,p1,p2,p3,p4,p5,p6⟩:=Prs H hn
  simp only [bne_self_eq_false,cond_false,p1,p2,Option.bind_some]
  exact ⟨0,E,ps,rfl,rfl,rfl,p4,fun _=>⟨x,y,h,H,p3,p5,p6⟩⟩
 ·have:(c != 0) = true:=by simpa using hc
  rw [this]
  exact ⟨c,E,[],rfl,rfl,rfl,by simp,fun h=>absurd h hc⟩
theorem Tells.bind {P R:Prop} {o:Option Bool} {f:Bool → Option Bool} (h:Tells P o) (h1:P → Tells R (f true)) (h0:¬ P → Tells R (f false)):Tells R (Option.bind o f):=by
 obtain ⟨b,rfl,h⟩:=h
 cases b with
 | true=>exact h1 (h.1 rfl)
 | false=>exact h0 fun p=>by have:=h.2 p; cases this
def Ch (n:Nat):List (List Int) → Int → Int → Prop
 | [],k,k'=>k = k'
 | x :: xs,k,k'=>∃ k1,F_c n x k = some k1 ∧ 0 ≤ k1 ∧ Ch n xs k1 k'
theorem mrkR {n:Nat} (hn:1048577 ≤ n):∀ (m i:Nat) (k:Int) (l:List (List Int)),i ≤ l.length → l.length - i < m → l.length ≤ 1048576 → (∀ j (h:j < l.length),i ≤ j → l[j].length ≤ 1048576) → 0 ≤ k → k + 67108864 * ((l.length - i:Nat):Int) ≤ 1152921504606846976 →
 ∃ k' bs,F_k_L1 n (fun i5 i6 l7=>some (i5,l7)) m k (i:Int) l = some (k',l.take i ++ bs) ∧ k ≤ k' ∧ Ch n bs k k' ∧ bs.length = l.length - i
 | 0,i,_,_,_,hm,_,_,_,_=>by omega
 | m + 1,i,k,l,hi,hm,hl,he,h0,hk=>by
  by_cases h:i < l.length
  ·obtain ⟨r,e1,e2,e3,e4⟩:=M_Int64S (n:=n) (a:=l[i]) (k:=k) (he i h (Nat.le_refl _)) h0 (by omega) hn
   obtain ⟨k',bs,f1,f2,f3,f4⟩:=mrkR hn m (i + 1) r.1 (l.set i r.2) (by simp; omega) (by simp; omega) (by simpa using hl) (fun j hj hij=>by
    rw [List.getElem_set_ne (by omega)]; exact he j (by simpa using hj) (by omega)) (by omega) (by simp only [List.length_set]; omega)
   refine ⟨k',r.2 :: bs,?_,by omega,⟨r.1,e4,by omega,f3⟩,by rw [List.length_cons,f4,List.length_set]; omega⟩
   simp only [F_k_L1.eq_2,dlt h,cond_true,getI_el h,Option.bind_some,e1,Int.toNat_natCast,wS (show i < 4611686018427387904 by omega)]
   rw [f1]
   have:(l.set i r.2).take (i + 1) = l.take i ++ [r.2]:=by
    rw [List.take_succ_eq_append_getElem (by simpa using h),List.getElem_set_self,List.take_set_of_le (Nat.le_refl _)]
   rw [this]; simp
  ·obtain rfl:i = l.length:=by omega
   refine ⟨k,[],?_,Int.le_refl _,rfl,by simp⟩
   simp only [F_k_L1.eq_2,dnl,cond_false,List.take_length,List.append_nil]
theorem hldR {n:Nat}:∀ (m i:Nat) (k k':Int) (b:List (List Int)),i ≤ b.length → b.length - i < m → b.length ≤ 1048576 → Ch n (b.drop i) k k' → F_8_L1 n b (fun i5 i6=>some i5) m k (i:Int) = some k'
 | 0,i,_,_,_,_,hm,_,_=>by omega
 | m + 1,i,k,k',b,hi,hm,hl,h=>by
  by_cases hlt:i < b.length
  ·rw [List.drop_eq_getElem_cons hlt] at h
   obtain ⟨k1,e1,e2,e3⟩:=h
   simp only [F_8_L1.eq_2,dlt hlt,cond_true,getI_el hlt,Option.bind_some,e1,decide_eq_false (show ¬ k1 < 0 by omega),cond_false,wS (show i < 4611686018427387904 by omega)]
   exact hldR m (i + 1) k1 k' b (by omega) (by omega) hl e3
  ·obtain rfl:i = b.length:=by omega
   rw [List.drop_length] at h
   obtain rfl:k = k':=h
   simp only [F_8_L1.eq_2,dnl,cond_false]
theorem MkRows {n:Nat} {a:List (List Int)} (hl:a.length ≤ 1048576) (he:∀ x ∈ a,x.length ≤ 1048576) (hn:1048577 ≤ n):∃ r,F_k n a 1 = some r ∧ 1 ≤ r.1 ∧ F_8 n r.2 1 = some r.1:=by
 obtain ⟨k',bs,f1,f2,f3,f4⟩:=mrkR (n:=n) hn n 0 1 a (by omega) (by omega) hl (fun j h _=>he _ (List.getElem_mem h)) (by omega) (by omega)
 rw [List.take_zero,List.nil_append] at f1
 refine ⟨(k',bs),?_,f2,?_⟩
 ·rw [F_k]; exact f1
 ·rw [F_8]; exact hldR n 0 1 k' bs (by omega) (by omega) (by omega) f3
theorem PFnExactEdgePairs {a:List S_Clock} {b0:Int} {b1:Int} {b2:Int} {b3:Int} (hR:a.length ≤ 9223372036854775807 ∧ ∀ x ∈ a,R_Clock x) (_h0:inK .i64 b0) (_h1:inK .i64 b1) (_h2:inK .i64 b2) (_h3:inK .i64 b3):∃ n,F_0j n a b0 b1 b2 b3 = some true:=by
 refine ⟨1048577,?_⟩
 obtain ⟨r,e,hs⟩:=C1 hR
 rw [F_0j,e,Option.bind_some]
 by_cases h0:r < 0
 ·rw [decide_eq_true h0]; rfl
 have hS:=hs h0
 obtain ⟨c,E,ps,_,h1,h2,h3,_⟩:=EpX (n:=1048577) hS.1 hS.2 (Nat.le_refl _) b0 b1 b2 b3
 obtain ⟨q,m1,mm⟩:=M_ClockS (n:=1048577) (a:=a) (k:=1) hS.1 (by omega) (by omega) (Nat.le_refl _)
 have hrow:∀ x ∈ prL ps,x.length ≤ 1048576:=fun x hx=>by
  obtain ⟨y,_,rfl⟩:=List.mem_map.1 hx
  simp
 obtain ⟨p,p1,p2,p3⟩:=MkRows (n:=1048577) (a:=prL ps) (by rw [prL_len]; omega) hrow (Nat.le_refl _)
 have hE:=E_Int64SS (n:=1048577) (a:=prL ps) ⟨by rw [prL_len]; omega,fun x hx=>⟨hrow x hx,fun _ _=>trivial⟩⟩ (Nat.le_refl _)
 have q0:¬ q.1 < 0:=by have:=mm.1; omega
 rw [decide_eq_false h0,cond_false]
 simp [T_ClockS hS (Nat.le_refl _),E_ClockS hS (Nat.le_refl _),hE,h1,h2,m1,p1,p3,q0,show ¬ p.1 < 0 by omega]
end Go.Proofs.YtiaobghojdehbaaDoor
