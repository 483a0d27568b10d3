/- The plain law behind FnExactClockPinsOf: the plain function answers true; no condition. -/
import Derived.Test.YtpfgoednlfjebaaGreatDoorWalkFnExactClockPinsOf
set_option linter.all false
namespace Go.Proofs.YtpfgoednlfjebaaGreatDoor
open Go Go.RowKit Go.Eng
theorem bif_or {b c:Bool}:(bif b then some true else some c) = some (b || c):=by cases b <;> rfl
theorem bif_and {b c:Bool}:(bif b then some c else some false) = some (b && c):=by cases b <;> rfl
theorem dlt {i N:Nat} (h:i < N):decide ((i:Int) < (N:Int)) = true:=decide_eq_true (by omega)
theorem dnl (N:Nat):decide ((N:Int) < (N:Int)) = false:=decide_eq_false (by omega)
theorem wS {i:Nat} (h:i < 4611686018427387904):IntKind.wrap .i64 ((i:Int) + 1) = ((i + 1:Nat):Int):=by rw [wrap64 (by omega) (by omega)]; simp
theorem getI_el {α:Type} {xs:List α} {i:Nat} (h:i < xs.length):getI xs (i:Int) = some xs[i]:=by rw [getI_nat]; exact List.getElem?_eq_getElem h
theorem getI_ok {α:Type} {xs:List α} {i:Int} (h0:0 ≤ i) (h1:i < xs.length):∃ x,getI xs i = some x ∧ xs[i.toNat]? = some x:=by
 obtain ⟨x,hx,_⟩:=getI_in h0 h1
 exact ⟨x,hx,(getI_lt hx).2.2⟩
theorem loop {σ R:Type} {L:Nat → Int → σ → Option R} (N:Nat) (I:Nat → σ → Prop) (Post:Option R → Prop)
 (hs:∀ (m i:Nat) (st:σ),i < N → I i st → (∃ st',I (i + 1) st' ∧ L (m + 1) (i:Int) st = L m ((i + 1:Nat):Int) st') ∨ Post (L (m + 1) (i:Int) st))
 (he:∀ (m:Nat) (st:σ),I N st → Post (L (m + 1) (N:Int) st)):∀ (m i:Nat) (st:σ),i ≤ N → N - i < m → I i st → Post (L m (i:Int) st)
 | 0,i,st,_,hm,_=>by omega
 | m + 1,i,st,hi,hm,h=>by
  by_cases hlt:i < N
  ·rcases hs m i st hlt h with ⟨st',h1,h2⟩ | h1
   ·rw [h2]; exact loop N I Post hs he m (i + 1) st' (by omega) (by omega) h1
   ·exact h1
  ·obtain rfl:i = N:=by omega
   exact he m st h
theorem loop_fold {α σ R:Type} {xs:List α} {L:Nat → Int → σ → Option R} {k:σ → Option R} (f:σ → α → σ) (I:Nat → σ → Prop)
 (hs:∀ (m i:Nat) (h:i < xs.length) (st:σ),I i st → L (m + 1) (i:Int) st = L m ((i + 1:Nat):Int) (f st xs[i]) ∧ I (i + 1) (f st xs[i]))
 (he:∀ (m:Nat) (st:σ),I xs.length st → L (m + 1) (xs.length:Int) st = k st) (m:Nat) (st:σ) (h:I 0 st) (hm:xs.length < m):L m 0 st = k (xs.foldl f st) ∧ I xs.length (xs.foldl f st):=by
 refine loop xs.length (fun i s=>I i s ∧ (xs.drop i).foldl f s = xs.foldl f st) (fun o=>o = k (xs.foldl f st) ∧ I xs.length (xs.foldl f st)) ?_ ?_ m 0 st (by omega) (by omega) ⟨h,by simp⟩
 ·intro m i s hi ⟨h1,h2⟩
  obtain ⟨e,h3⟩:=hs m i hi s h1
  exact .inl ⟨_,⟨h3,by rw [List.drop_eq_getElem_cons hi] at h2; exact h2⟩,e⟩
 ·intro m s ⟨h1,h2⟩
  rw [List.drop_length] at h2
  have h2:s = xs.foldl f st:=h2
  rw [← h2]
  exact ⟨he m s h1,h1⟩
theorem appN_ok {α:Type} {xs ys:List α} {b:Nat} (h:xs.length + ys.length ≤ 16777216) (hb:b ≤ 1048576):appN xs ys b = some (xs ++ ys):=by
 unfold appN
 have:(xs.length + ys.length) * b ≤ 16777216 * 1048576:=Nat.mul_le_mul h hb
 rw [if_pos ⟨by omega,by omega⟩]
theorem loop_all {α R:Type} {xs:List α} {L:Nat → Int → Option R} {k no:Option R} (p:α → Bool) (hs:∀ (m i:Nat) (h:i < xs.length),L (m + 1) (i:Int) = bif p xs[i] then L m ((i + 1:Nat):Int) else no)
 (he:∀ m:Nat,L (m + 1) (xs.length:Int) = k) (m:Nat) (hm:xs.length < m):L m 0 = bif xs.all p then k else no:=by
 refine loop (L:=fun m i (_:Unit)=>L m i) xs.length (fun i _=>xs.all p = (xs.drop i).all p) (fun o=>o = bif xs.all p then k else no) ?_ ?_ m 0 () (by omega) (by omega) (by simp)
 ·intro m i _ hi h
  rw [List.drop_eq_getElem_cons hi,List.all_cons] at h
  cases hp:p xs[i] with
  | false=>refine .inr ?_; rw [h,hp]; simp only [hs m i hi,hp,cF,Bool.false_and]
  | true=>refine .inl ⟨(),by rw [h,hp]; simp,?_⟩; simp only [hs m i hi,hp,cT]
 ·intro m _ h
  rw [List.drop_length] at h
  rw [h]; simp [he m]
theorem loopm {σ R:Type} {L:Nat → σ → Option R} (μ:σ → Nat) (I:σ → Prop) (Post:Option R → Prop)
 (hs:∀ (m:Nat) (st:σ),I st → (∀ st',I st' → μ st' < μ st → Post (L m st')) → Post (L (m + 1) st)):∀ (m:Nat) (st:σ),μ st < m → I st → Post (L m st)
 | 0,st,h,_=>by omega
 | m + 1,st,h,hI=>hs m st hI fun st' h1 h2=>loopm μ I Post hs m st' (by omega) h1
theorem loopw {σ R:Type} {L:Nat → Int → σ → Option R} (N:Nat) (I:Nat → σ → Prop) (Post:Option R → Prop)
 (hs:∀ (m i:Nat) (st:σ),i < N → I i st → (∀ st',I (i + 1) st' → Post (L m ((i + 1:Nat):Int) st')) → Post (L (m + 1) (i:Int) st))
 (he:∀ (m:Nat) (st:σ),I N st → Post (L (m + 1) (N:Int) st)):∀ (m i:Nat) (st:σ),i ≤ N → N - i < m → I i st → Post (L m (i:Int) st)
 | 0,i,st,_,hm,_=>by omega
 | m + 1,i,st,hi,hm,h=>by
  by_cases hlt:i < N
  ·exact hs m i st hlt h fun st' h'=>loopw N I Post hs he m (i + 1) st' (by omega) (by omega) h'
  ·obtain rfl:i = N:=by omega
   exact he m st h
def Tot {α:Type} (Q:α → Prop) (o:Option α):Prop:=∃ v,o = some v ∧ Q v
theorem Tot.bind {α β:Type} {A:α → Prop} {Q:β → Prop} {o:Option α} {f:α → Option β} (h:Tot A o) (k:∀ v,o = Option.some v → A v → Tot Q (f v)):Tot Q (Option.bind o f):=by
 obtain ⟨v,e,hv⟩:=h
 rw [e]; exact k v e hv
theorem loop_has {α:Type} {xs:List α} {L:Nat → Int → Option Int} (p:α → Bool) (hs:∀ (m i:Nat) (h:i < xs.length),L (m + 1) (i:Int) = bif p xs[i] then some (i:Int) else L m ((i + 1:Nat):Int))
 (he:∀ m:Nat,L (m + 1) (xs.length:Int) = some (-1)) (m:Nat) (hm:xs.length < m):∃ r,L m 0 = some r ∧ decide (r ≥ 0) = xs.any p:=by
 refine loop (L:=fun m i (_:Unit)=>L m i) xs.length (fun i _=>xs.any p = (xs.drop i).any p) (fun o=>∃ r,o = some r ∧ decide (r ≥ 0) = xs.any p) ?_ ?_ m 0 () (by omega) (by omega) (by simp)
 ·intro m i _ hi h
  rw [List.drop_eq_getElem_cons hi,List.any_cons] at h
  cases hp:p xs[i] with
  | false=>refine .inl ⟨(),by rw [h,hp]; simp,?_⟩; simp only [hs m i hi,hp,cF]
  | true=>refine .inr ⟨(i:Int),?_,?_⟩
          ·simp only [hs m i hi,hp,cT]
          ·rw [h,hp]; simp
 ·intro m _ h
  rw [List.drop_length] at h
  exact ⟨-1,he m,by rw [h]; rfl⟩
def gd (t:List Int) (j:Nat):Int:=t.getD j 0
theorem gd_get {t:List Int} {j:Nat} {v:Int} (h:t[j]? = some v):gd t j = v:=by simp [gd,h]
theorem get_gd {t:List Int} {j:Nat} (h:j < t.length):t[j]? = some (gd t j):=by simp [gd,h]
theorem gd_set {t:List Int} {i j:Nat} {v:Int} (h:i < t.length):gd (t.set i v) j = if i = j then v else gd t j:=by
 unfold gd
 rw [List.getD_eq_getElem?_getD,List.getD_eq_getElem?_getD,List.getElem?_set]
 by_cases e:i = j
 ·subst e; simp [h]
 ·simp [e]
theorem getI_gd {t:List Int} {i:Int} (h0:0 ≤ i) (h1:i < t.length):getI t i = some (gd t i.toNat):=by
 obtain ⟨x,hx,h⟩:=getI_ok h0 h1
 rw [hx,gd_get h]
def gb (t:List Bool) (j:Nat):Bool:=t.getD j false
theorem gb_set {t:List Bool} {i j:Nat} {v:Bool} (h:i < t.length):gb (t.set i v) j = if i = j then v else gb t j:=by
 unfold gb
 rw [List.getD_eq_getElem?_getD,List.getD_eq_getElem?_getD,List.getElem?_set]
 by_cases e:i = j
 ·subst e; simp [h]
 ·simp [e]
theorem gb_ext {t u:List Bool} (h:t.length = u.length) (e:∀ j,j < t.length → gb t j = gb u j):t = u:=by
 apply List.ext_getElem?
 intro j
 by_cases hj:j < t.length
 ·have:=e j hj
  simp only [gb,List.getD_eq_getElem?_getD,List.getElem?_eq_getElem hj,List.getElem?_eq_getElem (h ▸ hj),Option.getD_some] at this
  rw [List.getElem?_eq_getElem hj,List.getElem?_eq_getElem (h ▸ hj),this]
 ·rw [List.getElem?_eq_none (by omega),List.getElem?_eq_none (by omega)]
theorem gb_rep {n j:Nat}:gb (List.replicate n false) j = false:=by
 simp only [gb,List.getD_eq_getElem?_getD,List.getElem?_replicate]; split <;> rfl
theorem gd_rep {n j:Nat}:gd (List.replicate n 0) j = 0:=by
 simp only [gd,List.getD_eq_getElem?_getD,List.getElem?_replicate]; split <;> rfl
def lowB (b:UInt8):Bool:=decide ((b.toNat:Int) ≥ 97) && decide ((b.toNat:Int) ≤ 122)
def digB (b:UInt8):Bool:=decide ((b.toNat:Int) ≥ 48) && decide ((b.toNat:Int) ≤ 57)
def nameB (s:ByteArray):Bool:=(decide ((s.size:Int) ≥ 1) && decide ((s.size:Int) ≤ 8)) && (s.data.toList.all fun b=>lowB b || digB b) && (s.data.toList.take 1).all lowB
theorem size_list (s:ByteArray):s.size = s.data.toList.length:=by rw [Array.length_toList]; rfl
theorem getB_el {s:ByteArray} {i:Nat} (h:i < s.data.toList.length):getB s (i:Int) = some ((s.data.toList[i].toNat:Nat):Int):=by
 unfold getB
 rw [if_pos (by omega),Int.toNat_natCast]
 have:s[i]? = some s.data.toList[i]:=by
  have hs:i < s.size:=by rw [size_list]; exact h
  rw [show s[i]? = some s[i] from getElem?_pos s i hs]
  rfl
 rw [this]; rfl
theorem all_u8 (p q:UInt8 → Bool) (h:(List.range 256).all (fun i=>p (UInt8.ofNat i) == q (UInt8.ofNat i)) = true) (b:UInt8):p b = q b:=by
 have:=List.all_eq_true.1 h b.toNat (List.mem_range.2 b.toNat_lt)
 rw [UInt8.ofNat_toNat] at this
 exact eq_of_beq this
def lettersL:List UInt8:=[97,98,99,100,101,102,103,104,105,106,107,108,109,110,111,112,113,114,115,116,117,118,119,120,121,122]
def nameL:List UInt8:=[97,98,99,100,101,102,103,104,105,106,107,108,109,110,111,112,113,114,115,116,117,118,119,120,121,122,48,49,50,51,52,53,54,55,56,57]
theorem nameL_is (b:UInt8):nameL.contains b = (lowB b || digB b):=all_u8 (fun b=>nameL.contains b) (fun b=>lowB b || digB b) (by decide +kernel) b
theorem lettersL_is (b:UInt8):lettersL.contains b = lowB b:=all_u8 (fun b=>lettersL.contains b) (fun b=>lowB b) (by decide +kernel) b
theorem take1_all {p:UInt8 → Bool}:∀ {l:List UInt8} (h:0 < l.length),(l.take 1).all p = p l[0]
 | [],h=>by simp at h
 | a :: r,_=>by simp
theorem dropWhile_nil {p:UInt8 → Bool}:∀ (l:List UInt8),(l.dropWhile p = []) ↔ l.all p = true
 | []=>by simp
 | a :: l=>by
  rw [List.dropWhile_cons,List.all_cons]
  cases h:p a with
  | true=>simpa using dropWhile_nil l
  | false=>simp
theorem dropWhile_head {p:UInt8 → Bool}:∀ {l:List UInt8} {a:UInt8} {r:List UInt8},l.dropWhile p = a :: r → p a = false
 | b :: l,a,r,h=>by
  rw [List.dropWhile_cons] at h
  split at h
  ·exact dropWhile_head h
  ·next q=>simp only [List.cons.injEq] at h; rw [← h.1]; simpa using q
theorem trim_nil (l cs:List UInt8):(Lib.trimS l cs == []) = l.all (cs.contains ·):=by
 rw [Bool.eq_iff_iff,beq_iff_eq]
 unfold Lib.trimS Lib.trimLeftS Lib.trimRightS
 rw [dropWhile_nil,List.all_reverse]
 rw [show l.all (cs.contains ·) = l.reverse.all (cs.contains ·) by rw [List.all_reverse]]
 constructor
 ·intro h
  cases hd:l.reverse.dropWhile (cs.contains ·) with
  | nil=>exact (dropWhile_nil _).1 hd
  | cons a r =>
   have h1:=dropWhile_head hd
   rw [hd,List.all_cons,h1] at h
   cases h
 ·intro h
  rw [(dropWhile_nil _).2 h]; rfl
theorem indexByte_ge:∀ (l:List UInt8) (c:UInt8),decide (Lib.indexByte l c ≥ 0) = l.contains c ∧ Lib.indexByte l c ≥ -1
 | [],c=>by simp [Lib.indexByte]
 | b :: l,c=>by
  obtain ⟨h1,h2⟩:=indexByte_ge l c
  rw [Lib.indexByte,List.contains_cons]
  by_cases e:b = c
  ·subst e; simp
  ·have e1:(b == c) = false:=beq_eq_false_iff_ne.2 e
   have e2:(c == b) = false:=beq_eq_false_iff_ne.2 fun q=>e q.symm
   rw [e1,e2,Bool.false_or,← h1]
   by_cases h:Lib.indexByte l c = -1
   ·rw [h]; simp
   ·have:(Lib.indexByte l c == -1) = false:=beq_eq_false_iff_ne.2 h
    rw [this]
    have hge:Lib.indexByte l c ≥ 0:=by omega
    rw [decide_eq_true hge]
    simp only [Bool.false_eq_true,if_false]
    exact ⟨decide_eq_true (by omega),by omega⟩
theorem Nm1 {n:Nat} {s:ByteArray} (hs:s.size ≤ 1048576) (hn:1048577 ≤ n):F_2l n s = some (nameB s):=by
 rw [F_2l,F_5,obs]
 unfold nameB
 cases hw:(decide ((s.size:Int) ≥ 1) && decide ((s.size:Int) ≤ 8)) with
 | false=>simp
 | true =>
  have hsz:1 ≤ s.size:=by simp only [Bool.and_eq_true,decide_eq_true_eq] at hw; omega
  have ht:F_2z n s ((ByteArray.mk #[97,98,99,100,101,102,103,104,105,106,107,108,109,110,111,112,113,114,115,116,117,118,119,120,121,122,48,49,50,51,52,53,54,55,56,57])) = some ⟨(Lib.trimS s.data.toList nameL).toArray⟩:=by
   unfold F_2z
   rw [if_pos ⟨by omega,by decide,by decide⟩]; rfl
  simp only [cT,ht,obs,Bool.true_and]
  have hb:((⟨(Lib.trimS s.data.toList nameL).toArray⟩:ByteArray).toList == ((ByteArray.mk #[])).toList) = (s.data.toList.all fun b=>lowB b || digB b):=by
   rw [Lib.toList_data,Lib.toList_data]
   show ((Lib.trimS s.data.toList nameL) == []) = _
   rw [trim_nil]
   congr 1
   funext b; exact nameL_is b
  rw [hb]
  cases (s.data.toList.all fun b=>lowB b || digB b) with
  | false=>simp
  | true =>
   rw [size_list] at hsz
   have hg:=getB_el (s:=s) (i:=0) (by omega)
   simp only [cT,show ((0:Int)) = ((0:Nat):Int) from rfl,hg,obs,F_46,Bool.true_and]
   have h1:=(indexByte_ge lettersL (s.data.toList[0])).1
   rw [lettersL_is] at h1
   have e1:(((s.data.toList[0].toNat:Nat):Int).toNat.toUInt8) = s.data.toList[0]:=by rw [Int.toNat_natCast]; exact UInt8.ofNat_toNat
   rw [e1]
   have e2:(s.data.toList.take 1).all lowB = lowB s.data.toList[0]:=take1_all (by omega)
   rw [e2,← h1]; rfl
theorem Nm2 {n:Nat} {s:ByteArray} (hs:s.size ≤ 1048576) (hn:1048577 ≤ n):F_p n s = some (nameB s):=by
 rw [F_p]
 have hl:=size_list s
 refine loop (L:=fun m i (_:Unit)=>F_p_L1 s _ m i) s.data.toList.length (fun i _=>nameB s = ((decide ((s.size:Int) ≥ 1) && decide ((s.size:Int) ≤ 8)) && ((s.data.toList.drop i).all fun b=>lowB b || digB b) && ((s.data.toList.take 1).drop i).all lowB)) (fun r=>r = some (nameB s)) ?_ ?_ n 0 () (by omega) (by omega) (by simp [nameB])
 ·intro m i _ hi hI
  have g:=getB_el hi
  have hd:decide ((i:Int) < (s.size:Int)) = true:=decide_eq_true (by omega)
  have key:F_p_L1 s (fun i3=>(some (((decide ((s.size:Int) ≥ 1)) && (decide ((s.size:Int) ≤ 8)))))) (m + 1) (i:Int) = bif (!lowB s.data.toList[i] && !(digB s.data.toList[i] && decide (0 < i))) then some false else F_p_L1 s (fun i3=>(some (((decide ((s.size:Int) ≥ 1)) && (decide ((s.size:Int) ≤ 8)))))) m ((i + 1:Nat):Int):=by
   have e0:decide ((i:Int) > 0) = decide (0 < i):=by by_cases h:0 < i <;> simp [h] <;> omega
   simp only [F_p_L1.eq_2,hd,cT,g,obs,bif_and,wT i,e0]
   rfl
  by_cases hc:(!lowB s.data.toList[i] && !(digB s.data.toList[i] && decide (0 < i))) = true
  ·refine .inr ?_
   show F_p_L1 s _ (m + 1) (i:Int) = _
   rw [key,hc,cT]
   have:nameB s = false:=by
    rw [hI,List.drop_eq_getElem_cons hi,List.all_cons]
    simp only [Bool.and_eq_true,Bool.not_eq_true',Bool.and_eq_false_iff,decide_eq_false_iff_not] at hc
    obtain ⟨h1,h2⟩:=hc
    rw [h1]
    rcases h2 with h2 | h2
    ·rw [h2]; simp
    ·obtain rfl:i = 0:=by omega
     rw [List.drop_zero,take1_all hi,h1]; simp
   rw [this]
  ·refine .inl ⟨(),?_,?_⟩
   ·rw [hI,List.drop_eq_getElem_cons hi,List.all_cons]
    have hc:=Bool.eq_false_iff.2 hc
    simp only [Bool.and_eq_false_iff,Bool.not_eq_false',Bool.and_eq_true,decide_eq_true_eq] at hc
    by_cases h0:i = 0
    ·subst h0
     have h1:lowB s.data.toList[0] = true:=by
      rcases hc with h | h
      ·exact h
      ·omega
     have e2:(s.data.toList.take 1).drop (0 + 1) = []:=List.drop_eq_nil_of_le (by simp; omega)
     rw [List.drop_zero,take1_all hi,e2,h1]; simp
    ·have e1:(s.data.toList.take 1).drop i = []:=List.drop_eq_nil_of_le (by simp; omega)
     have e2:(s.data.toList.take 1).drop (i + 1) = []:=List.drop_eq_nil_of_le (by simp; omega)
     rw [e1,e2]
     have:(lowB s.data.toList[i] || digB s.data.toList[i]) = true:=by
      rcases hc with h | h
      ·rw [h]; rfl
      ·rw [h.1]; simp
     rw [this]; simp
   ·show F_p_L1 s _ (m + 1) (i:Int) = F_p_L1 s _ m ((i + 1:Nat):Int)
    rw [key,Bool.eq_false_iff.2 hc,cF]
 ·intro m _ hI
  have hd:decide (((s.data.toList.length:Nat):Int) < (s.size:Int)) = false:=decide_eq_false (by omega)
  simp only [F_p_L1.eq_2,hd,cF]
  rw [hI,List.drop_length,List.drop_eq_nil_of_le (by simp; omega)]
  simp
def Tells (P:Prop) (r:Option Bool):Prop:=∃ b:Bool,r = some b ∧ (b = true ↔ P)
theorem Tells.no {P:Prop} (h:¬ P):Tells P (some false):=⟨false,rfl,by simp [h]⟩
theorem Tells.yes {P:Prop} (h:P):Tells P (some true):=⟨true,rfl,by simp [h]⟩
theorem Ct1 {n:Nat} {xs:List ByteArray} {x:ByteArray} (h:xs.length ≤ 1048576) (hn:1048577 ≤ n):F_30 n xs x = some (xs.any fun y=>x.toList == y.toList):=by
 rw [F_30,F_0r]
 obtain ⟨r,e1,e2⟩:=loop_has (xs:=xs) (L:=fun m i=>F_0r_L1 xs x (fun i5=>(some (-1))) m i) (fun y=>x.toList == y.toList) (fun m i hi=>by
  simp only [F_0r_L1.eq_2,dlt hi,cT,getI_el hi,obs,wT i]) (fun m=>by
  simp only [F_0r_L1.eq_2,dnl,cF]) n (by omega)
 have e1:F_0r_L1 xs x (fun i5=>(some (-1))) n 0 = some r:=e1
 rw [e1,obs,e2]
theorem AN {n:Nat} {xs:List ByteArray} (h:xs.length ≤ 1048576) (hs:∀ x ∈ xs,x.size ≤ 1048576) (hn:1048577 ≤ n):Tells (∀ k (h:k < xs.length),nameB xs[k] = true ∧ ∀ i (hi:i < k),(xs[i].toList == xs[k].toList) = false) (F_h n xs):=by
 rw [F_h]
 refine loop (L:=fun m i (_:Unit)=>F_h_L1 n xs _ m i) xs.length (fun i _=>∀ k (h:k < xs.length),k < i → nameB xs[k] = true ∧ ∀ i (hi:i < k),(xs[i].toList == xs[k].toList) = false) _ ?_ ?_ n 0 () (by omega) (by omega) (fun k h hk=>by omega)
 ·intro m i _ hi hI
  have hsub:subL xs 0 (i:Int) = some (xs.take i):=by
   unfold subL
   rw [if_pos ⟨by omega,by omega,by omega⟩]; simp
  have hct:=Ct1 (n:=n) (xs:=xs.take i) (x:=xs[i]) (by simp; omega) hn
  simp only [F_h_L1.eq_2,dlt hi,cT,getI_el hi,obs,Nm1 (hs _ (List.getElem_mem hi)) hn,hsub,hct,bif_or,wT i]
  cases hb:(!nameB xs[i] || (xs.take i).any fun y=>xs[i].toList == y.toList) with
  | true =>
   refine .inr (Tells.no fun hv=>?_)
   obtain ⟨h1,h2⟩:=hv i hi
   rw [h1,Bool.not_true,Bool.false_or,List.any_eq_true] at hb
   obtain ⟨y,hy,he⟩:=hb
   obtain ⟨j,hj,rfl⟩:=List.mem_iff_getElem.1 hy
   rw [List.length_take] at hj
   rw [List.getElem_take] at he
   have:=h2 j (by omega)
   rw [beq_eq_false_iff_ne] at this
   exact this (eq_of_beq he).symm
  | false =>
   simp only [Bool.or_eq_false_iff,Bool.not_eq_false'] at hb
   refine .inl ⟨(),fun k h hk=>?_,rfl⟩
   by_cases e:k = i
   ·subst e
    refine ⟨hb.1,fun j hj=>?_⟩
    rw [beq_eq_false_iff_ne]
    intro he
    have:=List.any_eq_false.1 hb.2 xs[j] (List.mem_iff_getElem.2 ⟨j,by rw [List.length_take]; omega,by rw [List.getElem_take]⟩)
    exact this (by rw [he]; simp)
   ·exact hI k h (by omega)
 ·intro m _ hI
  simp only [F_h_L1.eq_2,dnl,cF]
  exact Tells.yes fun k h=>hI k h h
theorem AW {n:Nat} {ks:List Int} {lo hi:Int} (h:ks.length ≤ 1048576) (hn:1048577 ≤ n):F_y n ks lo hi = some (ks.all fun k=>decide (k ≥ lo) && decide (k ≤ hi)):=by
 rw [F_y,F_3d,F_08]
 obtain ⟨r,e1,e2⟩:=loop_has (xs:=ks) (L:=fun m i=>F_08_L1 n ks lo hi (fun i7=>(some (-1))) m i) (fun k=>!(decide (k ≥ lo) && decide (k ≤ hi))) (fun m i hi=>by
  simp only [F_08_L1.eq_2,dlt hi,cT,getI_el hi,obs,F_3c,F_5,wT i]) (fun m=>by
  simp only [F_08_L1.eq_2,dnl,cF]) n (by omega)
 have e1:F_08_L1 n ks lo hi (fun i7=>(some (-1))) n 0 = some r:=e1
 rw [e1,obs,obs,e2]
 congr 1
 rw [List.not_any_eq_all_not]
 congr 1
 funext k; rw [Bool.not_not]
theorem Tells.iff {P Q:Prop} {o:Option Bool} (h:Tells P o) (e:P ↔ Q):Tells Q o:=by
 obtain ⟨b,rfl,h⟩:=h; exact ⟨b,rfl,h.trans e⟩
theorem Tells.val {P:Prop} {b:Bool} (h:b = true ↔ P):Tells P (some b):=⟨b,rfl,h⟩
theorem Tells.bind {P R:Prop} {o:Option Bool} {f:Bool → Option Bool} (h:Tells P o) (h1:P → Tells R (f true)) (h0:¬ P → Tells R (f false)):Tells R (Option.bind o f):=by
 obtain ⟨b,rfl,h⟩:=h
 cases b with
 | true=>exact h1 (h.1 rfl)
 | false=>exact h0 fun p=>by have:=h.2 p; cases this
theorem Tells.bif {R:Prop} {c:Bool} {x y:Option Bool} (h1:c = true → Tells R x) (h0:c = false → Tells R y):Tells R (bif c then x else y):=by
 cases c
 ·exact h0 rfl
 ·exact h1 rfl
theorem loopT {L:Nat → Int → Option Bool} {Q:Prop} (N s:Nat) (p:Nat → Prop)
 (hs:∀ (m i:Nat),s ≤ i → i < N → (p i ∧ L (m + 1) (i:Int) = L m ((i + 1:Nat):Int)) ∨ (¬ p i ∧ L (m + 1) (i:Int) = some false))
 (he:∀ (m i:Nat),N ≤ i → i ≤ N + s → (∀ j,s ≤ j → j < N → p j) → Tells Q (L (m + 1) (i:Int))):∀ (m i:Nat),s ≤ i → i ≤ N + s → N - i < m → (∀ j,s ≤ j → j < i → j < N → p j) → Tells ((∀ i,s ≤ i → i < N → p i) ∧ Q) (L m (i:Int))
 | 0,i,_,_,hm,_=>by omega
 | m + 1,i,hi,hi2,hm,hI=>by
  by_cases hlt:i < N
  ·rcases hs m i hi hlt with ⟨h1,h2⟩ | ⟨h1,h2⟩
   ·rw [h2]
    refine loopT N s p hs he m (i + 1) (by omega) (by omega) (by omega) fun j h3 h4 h5=>?_
    by_cases e:j = i
    ·subst e; exact h1
    ·exact hI j h3 (by omega) h5
   ·rw [h2]; exact Tells.no fun h=>h1 (h.1 i hi hlt)
  ·have ha:∀ j,s ≤ j → j < N → p j:=fun j h3 h4=>hI j h3 (by omega) h4
   exact (he m i (by omega) hi2 ha).iff ⟨fun q=>⟨ha,q⟩,fun q=>q.2⟩
theorem loop_any {α:Type} {xs:List α} {L:Nat → Int → Option Int} {f:α → Option Bool} {P:α → Prop} (hf:∀ x ∈ xs,Tells (P x) (f x)) (hs:∀ (m i:Nat) (h:i < xs.length),L (m + 1) (i:Int) = Option.bind (f xs[i]) fun r=>bif r then some (i:Int) else L m ((i + 1:Nat):Int))
 (he:∀ m:Nat,L (m + 1) (xs.length:Int) = some (-1)) (m:Nat) (hm:xs.length < m):∃ r,L m 0 = some r ∧ (r ≥ 0 ↔ ∃ x ∈ xs,P x) ∧ (r = -1 ∨ ∃ j:Nat,r = (j:Int) ∧ ∃ h:j < xs.length,P xs[j] ∧ ∀ i (hi:i < xs.length),i < j → ¬ P xs[i]):=by
 refine loop (L:=fun m i (_:Unit)=>L m i) xs.length (fun i _=>∀ j (h:j < xs.length),j < i → ¬ P xs[j]) (fun o=>∃ r,o = some r ∧ (r ≥ 0 ↔ ∃ x ∈ xs,P x) ∧ (r = -1 ∨ ∃ j:Nat,r = (j:Int) ∧ ∃ h:j < xs.length,P xs[j] ∧ ∀ i (hi:i < xs.length),i < j → ¬ P xs[i])) ?_ ?_ m 0 () (by omega) (by omega) (fun j _ h=>by omega)
 ·intro m i _ hi hI
  obtain ⟨b,e,hb⟩:=hf _ (List.getElem_mem hi)
  rw [hs m i hi,e,obs]
  cases b with
  | true=>exact .inr ⟨(i:Int),rfl,⟨fun _=>⟨_,List.getElem_mem hi,hb.1 rfl⟩,fun _=>by omega⟩,.inr ⟨i,rfl,hi,hb.1 rfl,hI⟩⟩
  | false =>
   refine .inl ⟨(),fun j h hj=>?_,by trivial⟩
   by_cases ej:j = i
   ·subst ej; intro hp; have:=hb.2 hp; cases this
   ·exact hI j h (by omega)
 ·intro m _ hI
  refine ⟨-1,he m,⟨fun h=>by omega,fun ⟨x,hx,hp⟩=>?_⟩,.inl rfl⟩
  obtain ⟨j,hj,rfl⟩:=List.getElem_of_mem hx
  exact absurd hp (hI j hj hj)
theorem gI {l:List Int} {i:Nat} (h:i < l.length):getI l (i:Int) = some (gd l i):=by rw [getI_nat]; exact get_gd h
def VAx (l:List Int):Prop:=(1 ≤ l.length ∧ l.length ≤ 4) ∧ (∀ i,i < l.length → 0 ≤ gd l i ∧ gd l i ≤ 100000) ∧ ∀ i,i < l.length → 0 < i → gd l (i - 1) < gd l i
def VT (t:S_Table):Prop:=(VAx t.Slews ∧ VAx t.Loads) ∧ t.Values.length = t.Slews.length * t.Loads.length ∧ ∀ i,i < t.Values.length → -1000000 ≤ gd t.Values i ∧ gd t.Values i ≤ 1000000
theorem AllGd {l:List Int} {lo hi:Int}:(l.all fun k=>decide (k ≥ lo) && decide (k ≤ hi)) = true ↔ ∀ i,i < l.length → lo ≤ gd l i ∧ gd l i ≤ hi:=by
 rw [List.all_eq_true]
 constructor
 ·intro h i hi
  have:=h _ (List.getElem_mem hi)
  simp only [Bool.and_eq_true,decide_eq_true_eq] at this
  rw [gd_get (List.getElem?_eq_getElem hi)]; omega
 ·intro h x hx
  obtain ⟨j,hj,rfl⟩:=List.getElem_of_mem hx
  have:=h j hj
  rw [gd_get (List.getElem?_eq_getElem hj)] at this
  simp only [Bool.and_eq_true,decide_eq_true_eq]; omega
theorem Ax1 {n:Nat} {l:List Int} (h:l.length ≤ 1048576) (hn:1048577 ≤ n):Tells (VAx l) (F_0g n l):=by
 rw [F_0g]
 refine (loopT (L:=fun m i=>F_0g_L1 n l _ m i) (Q:=1 ≤ l.length ∧ l.length ≤ 4) l.length 0 (fun i=>(0 ≤ gd l i ∧ gd l i ≤ 100000) ∧ (0 < i → gd l (i - 1) < gd l i)) ?_ ?_ n 0 (by omega) (by omega) (by omega) (fun j _ h=>by omega)).iff ?_
 ·intro m i _ hi
  have w1:0 < i → IntKind.wrap .i64 ((i:Int) - 1) = ((i - 1:Nat):Int):=fun h0=>by rw [wrap64 (by omega) (by omega)]; omega
  simp only [F_0g_L1.eq_2,dlt hi,cT,gI hi,obs,F_1,wT i]
  by_cases c1:0 ≤ gd l i ∧ gd l i ≤ 100000
  ·have d1:(decide (gd l i ≥ 0) && decide (gd l i ≤ 100000)) = true:=by simp only [Bool.and_eq_true,decide_eq_true_eq]; omega
   simp only [d1,Bool.not_true,cF]
   by_cases h0:0 < i
   ·have d2:decide ((i:Int) > 0) = true:=decide_eq_true (by omega)
    simp only [d2,cT,w1 h0,gI (show i - 1 < l.length by omega),obs]
    by_cases c2:gd l (i - 1) < gd l i
    ·have d3:decide (gd l (i - 1) ≥ gd l i) = false:=decide_eq_false (by omega)
     simp only [d3,cF]
     exact .inl ⟨⟨c1,fun _=>c2⟩,by trivial⟩
    ·have d3:decide (gd l (i - 1) ≥ gd l i) = true:=decide_eq_true (by omega)
     simp only [d3,cT]
     exact .inr ⟨fun h=>c2 (h.2 h0),by trivial⟩
   ·have d2:decide ((i:Int) > 0) = false:=decide_eq_false (by omega)
    simp only [d2,cF,obs]
    exact .inl ⟨⟨c1,fun h=>absurd h h0⟩,by trivial⟩
  ·have d1:(decide (gd l i ≥ 0) && decide (gd l i ≤ 100000)) = false:=by
    rw [Bool.and_eq_false_iff,decide_eq_false_iff_not,decide_eq_false_iff_not]; omega
   simp only [d1,Bool.not_false,cT,obs]
   exact .inr ⟨fun h=>c1 h.1,by trivial⟩
 ·intro m i h1 h2 _
  obtain rfl:i = l.length:=by omega
  simp only [F_0g_L1.eq_2,dnl,cF]
  exact Tells.val (by simp only [Bool.and_eq_true,decide_eq_true_eq]; omega)
 ·exact ⟨fun ⟨a,b⟩=>⟨b,fun i hi=>(a i (by omega) hi).1,fun i hi h0=>(a i (by omega) hi).2 h0⟩,fun ⟨a,b,c⟩=>⟨fun i _ hi=>⟨b i hi,c i hi⟩,a⟩⟩
theorem Inc {n:Nat} {l:List Int} (h:l.length ≤ 1048576) (hn:1048577 ≤ n):Tells (∀ i,i < l.length → 0 < i → gd l (i - 1) < gd l i) (F_0i n l):=by
 rw [F_0i]
 refine (loopT (L:=fun m i=>F_0i_L1 l _ m i) (Q:=True) l.length 1 (fun i=>gd l (i - 1) < gd l i) ?_ ?_ n 1 (by omega) (by omega) (by omega) (fun j _ h=>by omega)).iff ?_
 ·intro m i h0 hi
  have w1:IntKind.wrap .i64 ((i:Int) - 1) = ((i - 1:Nat):Int):=by rw [wrap64 (by omega) (by omega)]; omega
  simp only [F_0i_L1.eq_2,dlt hi,cT,w1,gI hi,gI (show i - 1 < l.length by omega),obs,wT i]
  by_cases c2:gd l (i - 1) < gd l i
  ·have d3:decide (gd l (i - 1) ≥ gd l i) = false:=decide_eq_false (by omega)
   simp only [d3,cF]
   exact .inl ⟨c2,by trivial⟩
  ·have d3:decide (gd l (i - 1) ≥ gd l i) = true:=decide_eq_true (by omega)
   simp only [d3,cT]
   exact .inr ⟨c2,by trivial⟩
 ·intro m i h1 h2 _
  have:decide ((i:Int) < (l.length:Int)) = false:=decide_eq_false (by omega)
  simp only [F_0i_L1.eq_2,this,cF]
  exact Tells.yes trivial
 ·exact ⟨fun a i hi h0=>a.1 i h0 hi,fun a=>⟨fun i h0 hi=>a i hi h0,trivial⟩⟩
theorem Ax2 {n:Nat} {l:List Int} (h:l.length ≤ 1048576) (hn:1048577 ≤ n):Tells (VAx l) (F_2m n l):=by
 obtain ⟨b,e,hb⟩:=Inc (n:=n) h hn
 rw [F_2m]
 simp only [F_0b,F_5,AW (n:=n) h hn,e,obs,bif_and]
 refine Tells.val ?_
 rw [Bool.and_eq_true,Bool.and_eq_true,AllGd,hb]
 simp only [Bool.and_eq_true,decide_eq_true_eq]
 exact ⟨fun ⟨⟨a,b⟩,c⟩=>⟨by omega,b,c⟩,fun ⟨a,b,c⟩=>⟨⟨by omega,b⟩,c⟩⟩
theorem mulL {a b:Nat} (ha:a ≤ 4) (hb:b ≤ 4):IntKind.wrap .i64 ((a:Int) * (b:Int)) = ((a * b:Nat):Int):=by
 have:a * b ≤ 4 * 4:=Nat.mul_le_mul ha hb
 have e:((a * b:Nat):Int) = (a:Int) * b:=by simp
 rw [← e,wrap64 (by omega) (by omega)]
def SMT (t:S_Table):Prop:=t.Slews.length ≤ 1048576 ∧ t.Loads.length ≤ 1048576 ∧ t.Values.length ≤ 1048576
theorem SM_Table.t {t:S_Table} (h:SM_Table t):SMT t:=⟨h.1.1,h.2.1.1,h.2.2.1⟩
theorem Tb1 {n:Nat} {t:S_Table} (h:SMT t) (hn:1048577 ≤ n):Tells (VT t) (F_0y n t):=by
 rw [F_0y]
 refine Tells.bind (Ax1 h.1 hn) (fun v1=>?_) fun v1=>?_
 ·simp only [Bool.not_true,cF]
  obtain ⟨b,e,hb⟩:=Ax1 (n:=n) h.2.1 hn
  rw [e,obs,obs]
  cases b with
  | false =>
   simp only [Bool.not_false,Bool.true_or,cT]
   exact Tells.no fun v=>by have:=hb.2 v.1.2; cases this
  | true =>
   have v2:=hb.1 rfl
   rw [mulL v1.1.2 v2.1.2]
   simp only [Bool.not_true,Bool.false_or]
   refine Tells.bif (fun c=>?_) fun c=>?_
   ·refine Tells.no fun v=>?_
    rw [v.2.1] at c; simp at c
   ·have c:t.Values.length = t.Slews.length * t.Loads.length:=by
     rw [bne_eq_false_iff_eq] at c; omega
    have hv:=h.2.2
    refine (loopT (L:=fun m i=>F_0y_L1 n t _ m i) (Q:=True) t.Values.length 0 (fun i=>-1000000 ≤ gd t.Values i ∧ gd t.Values i ≤ 1000000) ?_ ?_ n 0 (by omega) (by omega) (by omega) (fun j _ h=>by omega)).iff ?_
    ·intro m i _ hi
     simp only [F_0y_L1.eq_2,dlt hi,cT,gI hi,obs,F_1,wT i]
     by_cases c1:-1000000 ≤ gd t.Values i ∧ gd t.Values i ≤ 1000000
     ·have d1:(decide (gd t.Values i ≥ -1000000) && decide (gd t.Values i ≤ 1000000)) = true:=by simp only [Bool.and_eq_true,decide_eq_true_eq]; omega
      simp only [d1,Bool.not_true,cF]
      exact .inl ⟨c1,by trivial⟩
     ·have d1:(decide (gd t.Values i ≥ -1000000) && decide (gd t.Values i ≤ 1000000)) = false:=by
       rw [Bool.and_eq_false_iff,decide_eq_false_iff_not,decide_eq_false_iff_not]; omega
      simp only [d1,Bool.not_false,cT]
      exact .inr ⟨c1,by trivial⟩
    ·intro m i h1 h2 _
     obtain rfl:i = t.Values.length:=by omega
     simp only [F_0y_L1.eq_2,dnl,cF]
     exact Tells.yes trivial
    ·exact ⟨fun a=>⟨⟨v1,v2⟩,c,fun i hi=>a.1 i (by omega) hi⟩,fun a=>⟨fun i _ hi=>a.2.2 i hi,trivial⟩⟩
 ·simp only [Bool.not_false,cT,obs,Bool.true_or]
  exact Tells.no fun v=>v1 v.1.1
theorem Tb2 {n:Nat} {t:S_Table} (h:SMT t) (hn:1048577 ≤ n):Tells (VT t) (F_3e n t):=by
 rw [F_3e]
 refine Tells.bind (Ax2 h.1 hn) (fun v1=>?_) fun v1=>?_
 ·simp only [cT]
  obtain ⟨b,e,hb⟩:=Ax2 (n:=n) h.2.1 hn
  rw [e,obs,obs]
  cases b with
  | false =>
   simp only [Bool.false_and,cF,obs]
   exact Tells.no fun v=>by have:=hb.2 v.1.2; cases this
  | true =>
   have v2:=hb.1 rfl
   rw [mulL v1.1.2 v2.1.2,AW (n:=n) h.2.2 hn]
   simp only [Bool.true_and,obs,bif_and]
   refine Tells.val ?_
   rw [Bool.and_eq_true,AllGd,beq_iff_eq]
   exact ⟨fun ⟨a,b⟩=>⟨⟨v1,v2⟩,by omega,b⟩,fun a=>⟨by have:=a.2.1; omega,a.2.2⟩⟩
 ·simp only [cF,obs,Bool.false_and]
  exact Tells.no fun v=>v1 v.1.1
theorem VT.pos {t:S_Table} (h:VT t):0 < t.Values.length ∧ t.Values.length ≤ 16:=by
 have a:=h.1.1.1
 have b:=h.1.2.1
 rw [h.2.1]
 exact ⟨Nat.mul_pos (by omega) (by omega),(Nat.mul_le_mul a.2 b.2:_ ≤ 4 * 4)⟩
def VP (t:S_Table):Prop:=∀ j,j < t.Values.length → 0 ≤ gd t.Values j
theorem Bnd {n:Nat} {t:S_Table} (h:SMT t) (hn:1048577 ≤ n):(¬ VT t ∧ ∃ s:S_Span,F_0l n t = some (s,1)) ∨ (VT t ∧ ∃ s:S_Span,F_0l n t = some (s,0) ∧ (s.Early < 0 ↔ ¬ VP t)):=by
 obtain ⟨b,e,hb⟩:=Tb1 (n:=n) h hn
 rw [F_0l,e,obs]
 cases b with
 | false=>exact .inl ⟨fun v=>(by have:=hb.2 v; cases this),_,rfl⟩
 | true =>
  have v:=hb.1 rfl
  have hp:=v.pos
  have g0:getI t.Values 0 = some (gd t.Values 0):=gI (i:=0) (by omega)
  refine .inr ⟨v,?_⟩
  simp only [Bool.not_true,cF,g0,obs]
  refine loop (L:=fun m i (p:Int × Int)=>F_0l_L1 t (fun i93 i97 i98=>(some ((S_Span.mk i97 i98),0))) m i p.1 p.2) t.Values.length (fun i p=>(p.1 < 0 ↔ ¬ ∀ j,j < i → 0 ≤ gd t.Values j)) (fun o=>∃ s:S_Span,o = some (s,0) ∧ (s.Early < 0 ↔ ¬ VP t)) ?_ ?_ n 1 (gd t.Values 0,gd t.Values 0) (by omega) (by omega) ?_
  ·intro m i ⟨a,c⟩ hi hI
   dsimp only at hI ⊢
   refine .inl ⟨(min a (gd t.Values i),max c (gd t.Values i)),?_,?_⟩
   ·dsimp only
    constructor
    ·intro hm hall
     by_cases ha:a < 0
     ·exact hI.1 ha fun j hj=>hall j (by omega)
     ·have:=hall i (by omega); omega
    ·intro hna
     by_cases ha:a < 0
     ·omega
     ·have hall:∀ j,j < i → 0 ≤ gd t.Values j:=fun j hj=>by
       by_cases q:0 ≤ gd t.Values j
       ·exact q
       ·exact absurd (hI.2 fun hh=>q (hh j hj)) ha
      by_cases q:0 ≤ gd t.Values i
      ·exfalso; apply hna; intro j hj
       by_cases ej:j = i
       ·subst ej; exact q
       ·exact hall j (by omega)
      ·omega
   ·simp only [F_0l_L1.eq_2,dlt hi,cT,gI hi,obs,wT i]
  ·intro m ⟨a,c⟩ hI
   dsimp only at hI ⊢
   simp only [F_0l_L1.eq_2,dnl,cF]
   exact ⟨_,rfl,hI⟩
  ·dsimp only
   constructor
   ·intro h0 hall; have:=hall 0 (by omega); omega
   ·intro h0
    by_cases q:gd t.Values 0 < 0
    ·exact q
    ·exfalso; apply h0; intro j hj; obtain rfl:j = 0:=by omega
     omega
theorem Mn {n:Nat} {l:List Int} (h0:0 < l.length) (h:l.length ≤ 1048576) (hn:1048577 ≤ n):∃ r,F_0s n l = some r ∧ (r < 0 ↔ ¬ ∀ j,j < l.length → 0 ≤ gd l j):=by
 have g0:getI l 0 = some (gd l 0):=gI (i:=0) (by omega)
 have d0:decide ((l.length:Int) < 1) = false:=decide_eq_false (by omega)
 rw [F_0s,d0,cF,g0,obs]
 refine loop (L:=fun m i (a:Int)=>F_0s_L1 l (fun i15 i16=>(some i15)) m a i) l.length (fun i a=>(a < 0 ↔ ¬ ∀ j,j < i → 0 ≤ gd l j)) (fun o=>∃ r,o = some r ∧ (r < 0 ↔ ¬ ∀ j,j < l.length → 0 ≤ gd l j)) ?_ ?_ n 1 (gd l 0) (by omega) (by omega) ?_
 ·intro m i a hi hI
  refine .inl ⟨min a (gd l i),?_,?_⟩
  ·constructor
   ·intro hm hall
    by_cases ha:a < 0
    ·exact hI.1 ha fun j hj=>hall j (by omega)
    ·have:=hall i (by omega); omega
   ·intro hna
    by_cases ha:a < 0
    ·omega
    ·have hall:∀ j,j < i → 0 ≤ gd l j:=fun j hj=>by
      by_cases q:0 ≤ gd l j
      ·exact q
      ·exact absurd (hI.2 fun hh=>q (hh j hj)) ha
     by_cases q:0 ≤ gd l i
     ·exfalso; apply hna; intro j hj
      by_cases ej:j = i
      ·subst ej; exact q
      ·exact hall j (by omega)
     ·omega
  ·simp only [F_0s_L1.eq_2,dlt hi,cT,gI hi,obs,wT i]
 ·intro m a hI
  simp only [F_0s_L1.eq_2,dnl,cF]
  exact ⟨_,rfl,hI⟩
 ·constructor
  ·intro h0 hall; have:=hall 0 (by omega); omega
  ·intro h0
   by_cases q:gd l 0 < 0
   ·exact q
   ·exfalso; apply h0; intro j hj; obtain rfl:j = 0:=by omega
    omega
def VTs (l:List S_Table) (pos:Bool):Prop:=l.length = 2 ∧ ∀ t ∈ l,VT t ∧ (pos = true → VP t)
theorem Ts1 {n:Nat} {l:List S_Table} {pos:Bool} (h:∀ t ∈ l,SMT t) (hn:1048577 ≤ n):Tells (VTs l pos) (F_d n l pos):=by
 rw [F_d]
 refine Tells.bif (fun c=>?_) fun c=>?_
 ·refine Tells.no fun v=>?_
  rw [v.1] at c; simp at c
 ·have c:l.length = 2:=by rw [bne_eq_false_iff_eq] at c; omega
  refine (loopT (L:=fun m i=>F_d_L1 n l pos _ m i) (Q:=True) 2 0 (fun i=>∀ t,l[i]? = some t → VT t ∧ (pos = true → VP t)) ?_ ?_ n 0 (by omega) (by omega) (by omega) (fun j _ h=>by omega)).iff ?_
  ·intro m i _ hi
   have hil:i < l.length:=by omega
   have g:=List.getElem?_eq_getElem hil
   have d1:decide ((i:Int) < 2) = true:=decide_eq_true (by omega)
   simp only [F_d_L1.eq_2,d1,cT,getI_el hil,obs,wT i,g]
   rcases Bnd (n:=n) (h _ (List.getElem_mem hil)) hn with ⟨v,s,e⟩ | ⟨v,s,e,hs⟩
   ·rw [e]
    exact .inr ⟨fun q=>v (q _ rfl).1,by trivial⟩
   ·rw [e]
    simp only [obs,bne_self_eq_false,Bool.false_or]
    by_cases hp:pos = true
    ·subst hp
     by_cases q:s.Early < 0
     ·rw [decide_eq_true q]
      exact .inr ⟨fun r=>(hs.1 q) ((r _ rfl).2 rfl),by trivial⟩
     ·rw [decide_eq_false q]
      refine .inl ⟨fun t ht=>?_,by trivial⟩
      obtain rfl:=Option.some.inj ht
      exact ⟨v,fun _=>Classical.byContradiction fun r=>q (hs.2 r)⟩
    ·have hp:pos = false:=by simpa using hp
     subst hp
     refine .inl ⟨fun t ht=>?_,by trivial⟩
     obtain rfl:=Option.some.inj ht
     exact ⟨v,fun h=>by cases h⟩
  ·intro m i h1 h2 _
   obtain rfl:i = 2:=by omega
   simp only [F_d_L1.eq_2,show decide (((2:Nat):Int) < 2) = false from rfl,cF]
   exact Tells.yes trivial
  ·constructor
   ·rintro ⟨a,_⟩
    refine ⟨c,fun t ht=>?_⟩
    obtain ⟨j,hj⟩:=List.getElem?_of_mem ht
    have hjl:j < l.length:=(List.getElem?_eq_some_iff.1 hj).1
    exact a j (by omega) (by omega) t hj
   ·rintro ⟨_,a⟩
    exact ⟨fun i _ _ t ht=>a t (List.mem_of_getElem? ht),trivial⟩
theorem Ts2 {n:Nat} {l:List S_Table} {pos:Bool} (h:∀ t ∈ l,SMT t) (hl:l.length ≤ 1048576) (hn:1048577 ≤ n):Tells (VTs l pos) (F_20 n l pos):=by
 rw [F_20]
 have hf:∀ t ∈ l,Tells (¬ (VT t ∧ (pos = true → VP t))) (F_2v n t pos):=by
  intro t ht
  have hm:=h t ht
  rw [F_2v]
  refine Tells.bind (Tb2 hm hn) (fun v=>?_) fun v=>?_
  ·simp only [Bool.not_true,cF]
   by_cases hp:pos = true
   ·subst hp
    obtain ⟨r,e,hr⟩:=Mn (n:=n) v.pos.1 hm.2.2 hn
    simp only [cT,e,obs]
    refine Tells.val ?_
    rw [decide_eq_true_eq,hr]
    exact ⟨fun a b=>a (b.2 trivial),fun a b=>a ⟨v,fun _=>b⟩⟩
   ·have hp:pos = false:=by simpa using hp
    subst hp
    exact Tells.no fun a=>a ⟨v,fun h=>by cases h⟩
  ·simp only [Bool.not_false,cT,obs]
   exact Tells.yes fun a=>v a.1
 obtain ⟨r,e,hr,_⟩:=loop_any (xs:=l) (L:=fun m i=>F_12_L1 n l pos (fun i6=>(some (-1))) m i) (f:=fun t=>F_2v n t pos) hf (fun m i hi=>by
  simp only [F_12_L1.eq_2,dlt hi,cT,getI_el hi,obs,wT i]) (fun m=>by
  simp only [F_12_L1.eq_2,dnl,cF]) n (by omega)
 have e:F_12_L1 n l pos (fun i6=>(some (-1))) n 0 = some r:=e
 rw [F_3v,F_12,e]
 simp only [obs]
 by_cases c:l.length = 2
 ·have:((l.length:Int) == 2) = true:=by simp; omega
  rw [this]
  simp only [cT,obs]
  refine Tells.val ?_
  rw [Bool.not_eq_true',decide_eq_false_iff_not,hr]
  exact ⟨fun a=>⟨c,fun t ht=>Classical.byContradiction fun q=>a ⟨t,ht,q⟩⟩,fun a ⟨t,ht,q⟩=>q (a.2 t ht)⟩
 ·have:((l.length:Int) == 2) = false:=by rw [beq_eq_false_iff_ne]; omega
  rw [this]
  exact Tells.no fun v=>c v.1
def PinI (N i:Nat) (p:S_Pin):Prop:=(0 ≤ p.Cap ∧ p.Cap ≤ 500) ∧ (i + 1 = N → p.Dir = 2 ∧ p.Cap = 0 ∧ p.Clock = false) ∧ (i + 1 < N → p.Dir = 1)
structure VPins (l:List S_Pin):Prop where
 few:2 ≤ l.length ∧ l.length ≤ 5
 pin:∀ i (h:i < l.length),PinI l.length i l[i]
 nm:∀ k (h:k < l.length),nameB l[k].Name = true ∧ ∀ i (hi:i < k),(l[i].Name.toList == l[k].Name.toList) = false
def cnt (l:List S_Pin):Nat:=l.countP (·.Clock)
def SMP (l:List S_Pin):Prop:=l.length ≤ 1048576 ∧ ∀ p ∈ l,p.Name.size ≤ 1048576
theorem cnt_take {l:List S_Pin} {i:Nat} (h:i < l.length):cnt (l.take (i + 1)) = cnt (l.take i) + if l[i].Clock = true then 1 else 0:=by
 unfold cnt
 rw [List.take_succ_eq_append_getElem h,List.countP_append]
 congr 1
 by_cases e:l[i].Clock = true
 ·rw [if_pos e]; simp [e]
 ·rw [if_neg e]; simp [e]
theorem Pn1 {n:Nat} {c:S_Cell} (h:SMP c.Pins) (hn:1048577 ≤ n):∃ r:Int × Bool,F_j n c = some r ∧ (r.2 = true ↔ VPins c.Pins) ∧ (r.2 = true → r.1 = cnt c.Pins):=by
 rw [F_j]
 by_cases hl:2 ≤ c.Pins.length ∧ c.Pins.length ≤ 5
 ·have d:(decide ((c.Pins.length:Int) < 2) || decide ((c.Pins.length:Int) > 5)) = false:=by
   simp only [Bool.or_eq_false_iff,decide_eq_false_iff_not]; omega
  rw [d,cF]
  have wl:IntKind.wrap .i64 ((c.Pins.length:Int) - 1) = (c.Pins.length:Int) - 1:=wrap64 (by omega) (by omega)
  refine loop (L:=fun m i (q:Int)=>F_j_L1 n c (fun i23 i24=>(some (i23,true))) m q i) c.Pins.length (fun i q=>q = cnt (c.Pins.take i) ∧ ∀ k (h:k < c.Pins.length),k < i → PinI c.Pins.length k c.Pins[k] ∧ nameB c.Pins[k].Name = true ∧ ∀ j (hj:j < k),(c.Pins[j].Name.toList == c.Pins[k].Name.toList) = false)
   (fun o=>∃ r:Int × Bool,o = some r ∧ (r.2 = true ↔ VPins c.Pins) ∧ (r.2 = true → r.1 = cnt c.Pins)) ?_ ?_ n 0 0 (by omega) (by omega) ⟨by simp [cnt],fun k _ hk=>by omega⟩
  ·intro m i q hi ⟨hq,hI⟩
   have no:∀ o:Option (Int × Bool),o = some (0,false) → ¬ VPins c.Pins → ∃ r:Int × Bool,o = some r ∧ (r.2 = true ↔ VPins c.Pins) ∧ (r.2 = true → r.1 = cnt c.Pins):=fun o e hv=>⟨_,e,by simp [hv],fun h=>by cases h⟩
   have wi:decide ((i:Int) < (c.Pins.length:Int)) = true:=dlt hi
   rw [F_j_L1.eq_2]
   simp only [wi,cT,getI_el hi,obs]
   have inner:∀ k2:Int → Option (Int × Bool),(∀ j (hj:j < i),(c.Pins[j].Name.toList == c.Pins[i].Name.toList) = false) ∧ F_j_L2 c i c.Pins[i] k2 n 0 = k2 i ∨ (¬ ∀ j (hj:j < i),(c.Pins[j].Name.toList == c.Pins[i].Name.toList) = false) ∧ F_j_L2 c i c.Pins[i] k2 n 0 = some (0,false):=by
    intro k2
    refine loop (L:=fun m j (_:Unit)=>F_j_L2 c i c.Pins[i] k2 m j) i (fun b _=>∀ j (hj:j < i),j < b → (c.Pins[j].Name.toList == c.Pins[i].Name.toList) = false) (fun o=>(∀ j (hj:j < i),(c.Pins[j].Name.toList == c.Pins[i].Name.toList) = false) ∧ o = k2 i ∨ (¬ ∀ j (hj:j < i),(c.Pins[j].Name.toList == c.Pins[i].Name.toList) = false) ∧ o = some (0,false)) ?_ ?_ n 0 () (by omega) (by omega) (fun j _ hj=>by omega)
    ·intro m j _ hj hJ
     simp only [F_j_L2.eq_2,dlt hj,cT,getI_el (show j < c.Pins.length by omega),obs,wT j]
     cases e:(c.Pins[j].Name.toList == c.Pins[i].Name.toList) with
     | true=>exact .inr (.inr ⟨fun h=>(by rw [h j hj] at e; cases e),by trivial⟩)
     | false =>
      refine .inl ⟨(),fun a ha hb=>?_,by trivial⟩
      by_cases ea:a = j
      ·subst ea; exact e
      ·exact hJ a ha (by omega)
    ·intro m _ hJ
     simp only [F_j_L2.eq_2,dnl,cF]
     exact .inl ⟨fun j hj=>hJ j hj hj,by trivial⟩
   rcases inner _ with ⟨g1,g2⟩ | ⟨g1,g2⟩
   ·rw [g2]
    have hsz:=h.2 _ (List.getElem_mem hi)
    simp only [Nm2 hsz hn,obs,F_1,bif_or,wl]
    cases hnm:nameB c.Pins[i].Name with
    | false =>
     simp only [Bool.not_false,Bool.true_or,cT]
     exact .inr (no _ rfl fun v=>by have:=(v.nm i hi).1; rw [hnm] at this; cases this)
    | true =>
     simp only [Bool.not_true,Bool.false_or]
     by_cases c1:0 ≤ c.Pins[i].Cap ∧ c.Pins[i].Cap ≤ 500
     ·have d1:(decide (c.Pins[i].Cap ≥ 0) && decide (c.Pins[i].Cap ≤ 500)) = true:=by simp only [Bool.and_eq_true,decide_eq_true_eq]; omega
      simp only [d1,Bool.not_true,cF]
      have pI:PinI c.Pins.length i c.Pins[i] ↔ ((((i:Int) == (c.Pins.length:Int) - 1) && ((((c.Pins[i].Dir != 2)) || ((c.Pins[i].Cap != 0))) || c.Pins[i].Clock)) || ((decide ((i:Int) < (c.Pins.length:Int) - 1)) && ((c.Pins[i].Dir != 1)))) = false:=by
       unfold PinI
       by_cases e1:i + 1 = c.Pins.length
       ·have t1:((i:Int) == (c.Pins.length:Int) - 1) = true:=by rw [beq_iff_eq]; omega
        have t2:decide ((i:Int) < (c.Pins.length:Int) - 1) = false:=decide_eq_false (by omega)
        simp only [t1,t2,Bool.true_and,Bool.false_and,Bool.or_false,Bool.or_eq_false_iff,bne_eq_false_iff_eq]
        exact ⟨fun ⟨_,a,_⟩=>⟨⟨(a e1).1,(a e1).2.1⟩,(a e1).2.2⟩,fun ⟨⟨a,b⟩,d⟩=>⟨c1,fun _=>⟨a,b,d⟩,fun h=>by omega⟩⟩
       ·have t1:((i:Int) == (c.Pins.length:Int) - 1) = false:=by rw [beq_eq_false_iff_ne]; omega
        have t2:decide ((i:Int) < (c.Pins.length:Int) - 1) = true:=decide_eq_true (by omega)
        simp only [t1,t2,Bool.true_and,Bool.false_and,Bool.false_or,bne_eq_false_iff_eq]
        exact ⟨fun ⟨_,_,a⟩=>a (by omega),fun a=>⟨c1,fun h=>absurd h e1,fun _=>a⟩⟩
      cases hc:((((i:Int) == (c.Pins.length:Int) - 1) && ((((c.Pins[i].Dir != 2)) || ((c.Pins[i].Cap != 0))) || c.Pins[i].Clock)) || ((decide ((i:Int) < (c.Pins.length:Int) - 1)) && ((c.Pins[i].Dir != 1)))) with
      | true =>
       rw [hc] at pI
       simp only [cT]
       exact .inr (no _ rfl fun v=>by have:=pI.1 (v.pin i hi); cases this)
      | false =>
       have hp:=pI.2 hc
       simp only [cF]
       have hI':∀ k (h:k < c.Pins.length),k < i + 1 → PinI c.Pins.length k c.Pins[k] ∧ nameB c.Pins[k].Name = true ∧ ∀ j (hj:j < k),(c.Pins[j].Name.toList == c.Pins[k].Name.toList) = false:=fun k hk hki=>by
        by_cases ek:k = i
        ·subst ek; exact ⟨hp,hnm,g1⟩
        ·exact hI k hk (by omega)
       have ct:=cnt_take hi
       have cl:cnt (c.Pins.take i) ≤ 5:=Nat.le_trans List.countP_le_length (by simp; omega)
       cases hk:c.Pins[i].Clock with
       | true =>
        rw [hk,if_pos rfl] at ct
        refine .inl ⟨q + 1,⟨by rw [ct,hq]; simp,hI'⟩,?_⟩
        simp only [cT,wT i,wrap64 (x:=q + 1) (by omega) (by omega)]
       | false =>
        rw [hk] at ct
        refine .inl ⟨q,⟨by rw [ct,hq]; simp,hI'⟩,?_⟩
        simp only [cF,wT i]
     ·have d1:(decide (c.Pins[i].Cap ≥ 0) && decide (c.Pins[i].Cap ≤ 500)) = false:=by
       rw [Bool.and_eq_false_iff,decide_eq_false_iff_not,decide_eq_false_iff_not]; omega
      simp only [d1,Bool.not_false,cT]
      exact .inr (no _ rfl fun v=>c1 (v.pin i hi).1)
   ·rw [g2]
    exact .inr (no _ rfl fun v=>g1 (v.nm i hi).2)
  ·intro m q ⟨hq,hI⟩
   simp only [F_j_L1.eq_2,dnl,cF]
   rw [List.take_length] at hq
   exact ⟨_,rfl,⟨fun _=>⟨hl,fun i h=>(hI i h h).1,fun k h=>(hI k h h).2⟩,fun _=>rfl⟩,fun _=>hq⟩
 ·have d:(decide ((c.Pins.length:Int) < 2) || decide ((c.Pins.length:Int) > 5)) = true:=by
   rw [Bool.or_eq_true,decide_eq_true_eq,decide_eq_true_eq]; omega
  rw [d,cT]
  exact ⟨_,rfl,⟨fun h=>(by cases h),fun v=>absurd v.few hl⟩,fun h=>(by cases h)⟩
theorem Pn2 {n:Nat} {l:List S_Pin} (h:SMP l) (hn:1048577 ≤ n):Tells (VPins l) (F_0n n l):=by
 have hl:=h.1
 rw [F_0n]
 have wl:0 < l.length → IntKind.wrap .i64 ((l.length:Int) - 1) = (l.length:Int) - 1:=fun h0=>wrap64 (by omega) (by omega)
 refine loop (L:=fun m i (q:List ByteArray)=>F_0n_L1 n l _ m q i) l.length (fun i q=>q = (l.take i).map (·.Name) ∧ ∀ k (h:k < l.length),k < i → PinI l.length k l[k]) _ ?_ ?_ n 0 [] (by omega) (by omega) ⟨by simp,fun k _ hk=>by omega⟩
 ·intro m i q hi ⟨hq,hI⟩
  have hql:q.length ≤ 1048576:=by rw [hq]; simp; omega
  have ha:=appN_ok (xs:=q) (ys:=[l[i].Name]) (b:=16) (by simp; omega) (by omega)
  have hq':q ++ [l[i].Name] = (l.take (i + 1)).map (·.Name):=by rw [hq,List.take_succ_eq_append_getElem hi,List.map_append]; rfl
  simp only [F_0n_L1.eq_2,dlt hi,cT,getI_el hi,obs,ha,wl (by omega),F_5,wT i]
  have stepI:PinI l.length i l[i] → ∀ k (h:k < l.length),k < i + 1 → PinI l.length k l[k]:=fun hp k hk hki=>by
   by_cases ek:k = i
   ·subst ek; exact hp
   ·exact hI k hk (by omega)
  by_cases e1:i + 1 = l.length
  ·have t1:((i:Int) == (l.length:Int) - 1) = true:=by rw [beq_iff_eq]; omega
   simp only [t1,cT]
   cases hc:((((l[i].Dir != 2)) || ((l[i].Cap != 0))) || l[i].Clock) with
   | true =>
    refine .inr (Tells.no fun v=>?_)
    have:=(v.pin i hi).2.1 e1
    rw [this.1,this.2.1,this.2.2] at hc; cases hc
   | false =>
    simp only [Bool.or_eq_false_iff,bne_eq_false_iff_eq] at hc
    exact .inl ⟨_,⟨hq',stepI ⟨by omega,fun _=>⟨hc.1.1,hc.1.2,hc.2⟩,fun h=>by omega⟩⟩,by trivial⟩
  ·have t1:((i:Int) == (l.length:Int) - 1) = false:=by rw [beq_eq_false_iff_ne]; omega
   simp only [t1,cF,bif_or,obs]
   by_cases c1:l[i].Dir = 1 ∧ 0 ≤ l[i].Cap ∧ l[i].Cap ≤ 500
   ·have d1:((l[i].Dir != 1) || !(decide (l[i].Cap ≥ 0) && decide (l[i].Cap ≤ 500))) = false:=by
     simp only [Bool.or_eq_false_iff,bne_eq_false_iff_eq,Bool.not_eq_false',Bool.and_eq_true,decide_eq_true_eq]; omega
    simp only [d1,cF]
    exact .inl ⟨_,⟨hq',stepI ⟨by omega,fun h=>absurd h e1,fun _=>c1.1⟩⟩,by trivial⟩
   ·have d1:((l[i].Dir != 1) || !(decide (l[i].Cap ≥ 0) && decide (l[i].Cap ≤ 500))) = true:=by
     simp only [Bool.or_eq_true,bne_iff_ne,Bool.not_eq_true',Bool.and_eq_false_iff,decide_eq_false_iff_not]; omega
    simp only [d1,cT]
    exact .inr (Tells.no fun v=>c1 ⟨(v.pin i hi).2.2 (by omega),(v.pin i hi).1⟩)
 ·intro m q ⟨hq,hI⟩
  rw [List.take_length] at hq
  obtain ⟨b,e,hb⟩:=AN (n:=n) (xs:=q) (by rw [hq]; simpa using hl) (by rw [hq]; intro x hx; obtain ⟨p,hp,rfl⟩:=List.mem_map.1 hx; exact h.2 p hp) hn
  simp only [F_0n_L1.eq_2,dnl,cF,F_1z,F_5,e,obs,bif_and]
  refine Tells.val ?_
  rw [Bool.and_eq_true,hb,Bool.and_eq_true,decide_eq_true_eq,decide_eq_true_eq]
  subst hq
  simp only [List.length_map,List.getElem_map]
  exact ⟨fun ⟨a,b⟩=>⟨by omega,fun i hi=>hI i hi hi,b⟩,fun v=>⟨by have:=v.few; omega,v.nm⟩⟩
def clkAt (l:List S_Pin) (i:Int):Bool:=((l[i.toNat]?).map (·.Clock)).getD false
theorem clkI {l:List S_Pin} {i:Int} (h0:0 ≤ i) (h1:i < l.length):∃ x,getI l i = some x ∧ x.Clock = clkAt l i:=by
 obtain ⟨x,e,h⟩:=getI_ok h0 h1
 exact ⟨x,e,by simp [clkAt,h]⟩
theorem clk_el {l:List S_Pin} {j:Nat} (h:j < l.length):clkAt l (j:Int) = l[j].Clock:=by simp [clkAt,h]
theorem one_clk {l:List S_Pin} (hc:cnt l ≤ 1) {i j:Nat} (hi:i < l.length) (hj:j < l.length) (h1:l[i].Clock = true) (h2:l[j].Clock = true):i = j:=by
 have key:∀ i j:Nat,∀ (hi:i < l.length) (hj:j < l.length),l[i].Clock = true → l[j].Clock = true → ¬ i < j:=by
  intro i j hi hj h1 h2 hlt
  have e:cnt l = cnt (l.take (i + 1)) + cnt (l.drop (i + 1)):=by unfold cnt; rw [← List.countP_append,List.take_append_drop]
  have p1:0 < cnt (l.take (i + 1)):=List.countP_pos_iff.2 ⟨l[i],by rw [List.mem_take_iff_getElem]; exact ⟨i,by omega,rfl⟩,h1⟩
  have p2:0 < cnt (l.drop (i + 1)):=List.countP_pos_iff.2 ⟨l[j],by rw [List.mem_drop_iff_getElem]; exact ⟨j - (i + 1),by omega,by congr 1; omega⟩,h2⟩
  omega
 have a:=key i j hi hj h1 h2
 have b:=key j i hj hi h2 h1
 omega
theorem Ck {n:Nat} {c:S_Cell} (h:c.Pins.length ≤ 1048576) (hn:1048577 ≤ n):∃ r,F_2n n c = some r ∧ (r ≥ 0 ↔ ∃ x ∈ c.Pins,x.Clock = true) ∧ (r = -1 ∨ ∃ j:Nat,r = (j:Int) ∧ ∃ h:j < c.Pins.length,c.Pins[j].Clock = true ∧ ∀ i (hi:i < c.Pins.length),i < j → ¬ c.Pins[i].Clock = true):=by
 obtain ⟨r,e,hr⟩:=loop_any (xs:=c.Pins) (L:=fun m i=>F_13_L1 n c.Pins (fun i5=>(some (-1))) m i) (f:=fun p=>F_3f n p) (P:=fun p=>p.Clock = true) (fun p _=>by rw [F_3f]; exact Tells.val Iff.rfl) (fun m i hi=>by
  simp only [F_13_L1.eq_2,dlt hi,cT,getI_el hi,obs,wT i]) (fun m=>by
  simp only [F_13_L1.eq_2,dnl,cF]) n (by omega)
 have e:F_13_L1 n c.Pins (fun i5=>(some (-1))) n 0 = some r:=e
 exact ⟨r,by rw [F_2n,F_13,e]; rfl,hr⟩
def SMA (a:S_Arc):Prop:=(a.Delay.length ≤ 1048576 ∧ ∀ t ∈ a.Delay,SMT t) ∧ (a.Slew.length ≤ 1048576 ∧ ∀ t ∈ a.Slew,SMT t)
structure SMC (c:S_Cell):Prop where
 name:c.Name.size ≤ 1048576
 pins:SMP c.Pins
 arcs:c.Arcs.length ≤ 1048576 ∧ ∀ a ∈ c.Arcs,SMA a
 truth:c.Truth.length ≤ 1048576
theorem SM_Cell.c {c:S_Cell} (h:SM_Cell c):SMC c :=
 ⟨h.1,⟨h.2.2.1.1,fun p hp=>(h.2.2.1.2 p hp).1⟩,⟨h.2.2.2.1.1,fun a ha=>⟨⟨(h.2.2.2.1.2 a ha).2.2.2.2.1.1,fun t ht=>SM_Table.t (t:=t) ((h.2.2.2.1.2 a ha).2.2.2.2.1.2 t ht)⟩,⟨(h.2.2.2.1.2 a ha).2.2.2.2.2.1,fun t ht=>SM_Table.t (t:=t) ((h.2.2.2.1.2 a ha).2.2.2.2.2.2 t ht)⟩⟩⟩,h.2.2.2.2.1.1⟩
def ArcS (c:S_Cell) (a:S_Arc):Prop:=((0 ≤ a.From ∧ a.From + 2 ≤ c.Pins.length) ∧ (0 ≤ a.To ∧ a.To + 1 ≤ c.Pins.length)) ∧
 if a.Kind = 1 then clkAt c.Pins a.From = false ∧ a.To + 1 = c.Pins.length ∧ (1 ≤ a.Sense ∧ a.Sense ≤ 3) ∧ VTs a.Delay true ∧ VTs a.Slew true
 else if a.Kind = 2 ∨ a.Kind = 3 then clkAt c.Pins a.From = true ∧ a.To + 1 = c.Pins.length ∧ a.Sense = 0 ∧ VTs a.Delay true ∧ VTs a.Slew true
 else if a.Kind = 4 ∨ a.Kind = 5 then clkAt c.Pins a.From = true ∧ a.To + 1 < c.Pins.length ∧ clkAt c.Pins a.To = false ∧ a.Sense = 0 ∧ VTs a.Delay false ∧ a.Slew.length = 0
 else False
def ArcI (c:S_Cell) (a:S_Arc) (r:Int):Prop :=
 if a.Kind = 4 ∨ a.Kind = 5 then a.Sense = 0 ∧ a.Slew.length = 0 ∧ VTs a.Delay false ∧ a.From = r ∧ 0 ≤ a.From ∧ (0 ≤ a.To ∧ a.To + 2 ≤ c.Pins.length) ∧ a.To ≠ a.From
 else VTs a.Delay true ∧ VTs a.Slew true ∧ a.To + 1 = c.Pins.length ∧ (0 ≤ a.From ∧ a.From + 2 ≤ c.Pins.length) ∧
  if a.Kind = 1 then clkAt c.Pins a.From = false ∧ 1 ≤ a.Sense ∧ a.Sense ≤ 3 else if a.Kind = 2 ∨ a.Kind = 3 then clkAt c.Pins a.From = true ∧ a.Sense = 0 else False
theorem kinds (k:Int):k = 1 ∨ k = 2 ∨ k = 3 ∨ k = 4 ∨ k = 5 ∨ (k ≠ 1 ∧ k ≠ 2 ∧ k ≠ 3 ∧ k ≠ 4 ∧ k ≠ 5):=by omega
theorem rngB {x lo hi:Int}:(decide (x ≥ lo) && decide (x ≤ hi)) = true ↔ lo ≤ x ∧ x ≤ hi:=by simp only [Bool.and_eq_true,decide_eq_true_eq,ge_iff_le]
theorem Ar1s {n:Nat} {c:S_Cell} {a:S_Arc} (hp:c.Pins.length ≤ 5) (h2:2 ≤ c.Pins.length) (h:SMA a) (hn:1048577 ≤ n):Tells (ArcS c a) (F_39 n c a):=by
 have w1:IntKind.wrap .i64 ((c.Pins.length:Int) - 1) = (c.Pins.length:Int) - 1:=wrap64 (by omega) (by omega)
 have w2:IntKind.wrap .i64 ((c.Pins.length:Int) - 1 - 1) = (c.Pins.length:Int) - 1 - 1:=wrap64 (by omega) (by omega)
 obtain ⟨t1,e1,h1⟩:=Ts1 (n:=n) (pos:=true) h.1.2 hn
 obtain ⟨t2,e2,h2'⟩:=Ts1 (n:=n) (pos:=true) h.2.2 hn
 obtain ⟨t3,e3,h3⟩:=Ts1 (n:=n) (pos:=false) h.1.2 hn
 rw [F_39]
 simp only [F_1,obs,w1,w2,bif_or]
 by_cases c1:(0 ≤ a.From ∧ a.From + 2 ≤ c.Pins.length) ∧ (0 ≤ a.To ∧ a.To + 1 ≤ c.Pins.length)
 ·have d1:(decide (a.From ≥ 0) && decide (a.From ≤ (c.Pins.length:Int) - 1 - 1)) = true:=rngB.2 (by omega)
  have d2:(decide (a.To ≥ 0) && decide (a.To ≤ (c.Pins.length:Int) - 1)) = true:=rngB.2 (by omega)
  obtain ⟨x,ex,hx⟩:=clkI (l:=c.Pins) c1.1.1 (by omega)
  obtain ⟨y,ey,hy⟩:=clkI (l:=c.Pins) c1.2.1 (by omega)
  simp only [d1,d2,Bool.not_true,Bool.or_self,cF,ex,ey,obs,hx,hy,e1,e2,e3,bif_and]
  have to1:(a.To == (c.Pins.length:Int) - 1) = true ↔ a.To + 1 = c.Pins.length:=by rw [beq_iff_eq]; omega
  have to2:decide (a.To < (c.Pins.length:Int) - 1) = true ↔ a.To + 1 < c.Pins.length:=by rw [decide_eq_true_eq]; omega
  have sl:((a.Slew.length:Int) == 0) = true ↔ a.Slew.length = 0:=by rw [beq_iff_eq]; omega
  have nb:∀ b:Bool,(!b) = true ↔ b = false:=by simp
  rcases kinds a.Kind with k | k | k | k | k | k
  ·have:ArcS c a ↔ _:=Iff.rfl
   simp only [k,show ((1:Int) == 1) = true from rfl,cT]
   refine Tells.val ?_
   unfold ArcS
   simp only [k,if_true,Bool.and_eq_true,nb,to1,rngB,h1,h2']
   exact ⟨fun ⟨⟨⟨⟨p,q⟩,s⟩,u⟩,v⟩=>⟨c1,p,q,by simpa using s,u,v⟩,fun ⟨_,p,q,s,u,v⟩=>⟨⟨⟨⟨p,q⟩,by simpa using s⟩,u⟩,v⟩⟩
  ·simp only [k,show ((2:Int) == 1) = false from rfl,show ((2:Int) == 2) = true from rfl,cT,cF]
   refine Tells.val ?_
   unfold ArcS
   simp only [k,show ¬ ((2:Int) = 1) by omega,if_false,true_or,if_true,Bool.and_eq_true,beq_iff_eq,to1,h1,h2']
   exact ⟨fun ⟨⟨⟨⟨p,q⟩,s⟩,u⟩,v⟩=>⟨c1,p,by omega,s,u,v⟩,fun ⟨_,p,q,s,u,v⟩=>⟨⟨⟨⟨p,by omega⟩,s⟩,u⟩,v⟩⟩
  ·simp only [k,show ((3:Int) == 1) = false from rfl,show ((3:Int) == 2) = false from rfl,show ((3:Int) == 3) = true from rfl,cT,cF]
   refine Tells.val ?_
   unfold ArcS
   simp only [k,show ¬ ((3:Int) = 1) by omega,if_false,or_true,if_true,Bool.and_eq_true,beq_iff_eq,to1,h1,h2']
   exact ⟨fun ⟨⟨⟨⟨p,q⟩,s⟩,u⟩,v⟩=>⟨c1,p,by omega,s,u,v⟩,fun ⟨_,p,q,s,u,v⟩=>⟨⟨⟨⟨p,by omega⟩,s⟩,u⟩,v⟩⟩
  ·simp only [k,show ((4:Int) == 1) = false from rfl,show ((4:Int) == 2) = false from rfl,show ((4:Int) == 3) = false from rfl,show ((4:Int) == 4) = true from rfl,cT,cF]
   refine Tells.val ?_
   unfold ArcS
   simp only [k,show ¬ ((4:Int) = 1) by omega,show ¬ ((4:Int) = 2 ∨ (4:Int) = 3) by omega,if_false,true_or,if_true,Bool.and_eq_true,beq_iff_eq,nb,to2,sl,h3,true_and]
   exact ⟨fun ⟨⟨⟨⟨⟨p,q⟩,z⟩,s⟩,u⟩,v⟩=>⟨c1,p,q,z,s,u,by omega⟩,fun ⟨_,p,q,z,s,u,v⟩=>⟨⟨⟨⟨⟨p,q⟩,z⟩,s⟩,u⟩,by omega⟩⟩
  ·simp only [k,show ((5:Int) == 1) = false from rfl,show ((5:Int) == 2) = false from rfl,show ((5:Int) == 3) = false from rfl,show ((5:Int) == 4) = false from rfl,show ((5:Int) == 5) = true from rfl,cT,cF]
   refine Tells.val ?_
   unfold ArcS
   simp only [k,show ¬ ((5:Int) = 1) by omega,show ¬ ((5:Int) = 2 ∨ (5:Int) = 3) by omega,if_false,or_true,if_true,Bool.and_eq_true,beq_iff_eq,nb,to2,sl,h3,true_and]
   exact ⟨fun ⟨⟨⟨⟨⟨p,q⟩,z⟩,s⟩,u⟩,v⟩=>⟨c1,p,q,z,s,u,by omega⟩,fun ⟨_,p,q,z,s,u,v⟩=>⟨⟨⟨⟨⟨p,q⟩,z⟩,s⟩,u⟩,by omega⟩⟩
  ·obtain ⟨k1,k2,k3,k4,k5⟩:=k
   simp only [beq_eq_false_iff_ne.2 k1,beq_eq_false_iff_ne.2 k2,beq_eq_false_iff_ne.2 k3,beq_eq_false_iff_ne.2 k4,beq_eq_false_iff_ne.2 k5,cF]
   refine Tells.no fun v=>?_
   have:=v.2
   rw [if_neg k1,if_neg (by omega),if_neg (by omega)] at this
   exact this
 ·have d1:(!(decide (a.From ≥ 0) && decide (a.From ≤ (c.Pins.length:Int) - 1 - 1)) || !(decide (a.To ≥ 0) && decide (a.To ≤ (c.Pins.length:Int) - 1))) = true:=by
   rw [Bool.or_eq_true,Bool.not_eq_true',Bool.not_eq_true',Bool.and_eq_false_iff,Bool.and_eq_false_iff,decide_eq_false_iff_not,decide_eq_false_iff_not,decide_eq_false_iff_not,decide_eq_false_iff_not]
   omega
  simp only [d1,cT]
  exact Tells.no fun v=>c1 v.1
theorem Ar2i {n:Nat} {c:S_Cell} {a:S_Arc} {r:Int} (hp:c.Pins.length ≤ 5) (h2:2 ≤ c.Pins.length) (h:SMA a) (hr:F_2n n c = some r) (hn:1048577 ≤ n):Tells (ArcI c a r) (F_3g n c a):=by
 have w1:IntKind.wrap .i64 ((c.Pins.length:Int) - 1) = (c.Pins.length:Int) - 1:=wrap64 (by omega) (by omega)
 have w2:IntKind.wrap .i64 ((c.Pins.length:Int) - 1 - 1) = (c.Pins.length:Int) - 1 - 1:=wrap64 (by omega) (by omega)
 obtain ⟨t1,e1,h1⟩:=Ts2 (n:=n) (pos:=true) h.1.2 h.1.1 hn
 obtain ⟨t2,e2,h2'⟩:=Ts2 (n:=n) (pos:=true) h.2.2 h.2.1 hn
 obtain ⟨t3,e3,h3⟩:=Ts2 (n:=n) (pos:=false) h.1.2 h.1.1 hn
 rw [F_3g]
 simp only [F_3u,F_2w,F_1x,F_1z,F_5,obs,w1,w2,e1,e2,e3,hr,bif_and,bif_or]
 unfold ArcI
 by_cases k:a.Kind = 4 ∨ a.Kind = 5
 ·have kb:((a.Kind == 4) || (a.Kind == 5)) = true:=by rw [Bool.or_eq_true,beq_iff_eq,beq_iff_eq]; exact k
  simp only [kb,cT,if_pos k]
  refine Tells.val ?_
  simp only [Bool.and_eq_true,beq_iff_eq,bne_iff_ne,decide_eq_true_eq,h3]
  exact ⟨fun ⟨⟨⟨⟨⟨⟨p,q⟩,s⟩,t⟩,u⟩,v⟩,x⟩=>⟨p,by omega,s,t,by omega,by omega,x⟩,fun ⟨p,q,s,t,u,v,x⟩=>⟨⟨⟨⟨⟨⟨p,by omega⟩,s⟩,t⟩,by omega⟩,by omega⟩,x⟩⟩
 ·have kb:((a.Kind == 4) || (a.Kind == 5)) = false:=by rw [Bool.or_eq_false_iff,beq_eq_false_iff_ne,beq_eq_false_iff_ne]; omega
  simp only [kb,cF,if_neg k]
  by_cases g:(VTs a.Delay true ∧ VTs a.Slew true) ∧ a.To + 1 = c.Pins.length ∧ (0 ≤ a.From ∧ a.From + 2 ≤ c.Pins.length)
  ·have gb:(((!t1 || !t2) || (a.To != (c.Pins.length:Int) - 1)) || !(decide (a.From ≥ 0) && decide (a.From ≤ (c.Pins.length:Int) - 1 - 1))) = false:=by
    rw [h1.2 g.1.1,h2'.2 g.1.2]
    simp only [Bool.not_true,Bool.or_self,Bool.false_or,Bool.or_eq_false_iff,bne_eq_false_iff_eq,Bool.not_eq_false',rngB]; omega
   obtain ⟨x,ex,hx⟩:=clkI (l:=c.Pins) g.2.2.1 (by omega)
   simp only [gb,cF,ex,obs,hx]
   have nb:∀ b:Bool,(!b) = true ↔ b = false:=by simp
   have red:∀ R:Prop,(VTs a.Delay true ∧ VTs a.Slew true ∧ a.To + 1 = c.Pins.length ∧ (0 ≤ a.From ∧ a.From + 2 ≤ c.Pins.length) ∧ R) ↔ R:=fun R=>⟨fun q=>q.2.2.2.2,fun q=>⟨g.1.1,g.1.2,g.2.1,g.2.2,q⟩⟩
   rw [red]
   by_cases k1:a.Kind = 1
   ·simp only [k1,show ((1:Int) == 1) = true from rfl,cT,if_true]
    refine Tells.val ?_
    simp only [Bool.and_eq_true,nb,decide_eq_true_eq]
   ·simp only [beq_eq_false_iff_ne.2 k1,cF,if_neg k1]
    by_cases k2:a.Kind = 2
    ·simp only [k2,show ((2:Int) == 2) = true from rfl,cT,true_or,if_true]
     refine Tells.val ?_
     simp only [Bool.and_eq_true,beq_iff_eq]
    ·simp only [beq_eq_false_iff_ne.2 k2,cF]
     by_cases k3:a.Kind = 3
     ·simp only [k3,show ((3:Int) == 3) = true from rfl,cT,or_true,if_true]
      refine Tells.val ?_
      simp only [Bool.and_eq_true,beq_iff_eq]
     ·simp only [beq_eq_false_iff_ne.2 k3,cF]
      rw [if_neg (by omega)]
      exact Tells.no fun v=>v
  ·have gb:(((!t1 || !t2) || (a.To != (c.Pins.length:Int) - 1)) || !(decide (a.From ≥ 0) && decide (a.From ≤ (c.Pins.length:Int) - 1 - 1))) = true:=by
    cases hq:(((!t1 || !t2) || (a.To != (c.Pins.length:Int) - 1)) || !(decide (a.From ≥ 0) && decide (a.From ≤ (c.Pins.length:Int) - 1 - 1))) with
    | true=>rfl
    | false =>
     exfalso; apply g
     simp only [Bool.or_eq_false_iff,Bool.not_eq_false',bne_eq_false_iff_eq,rngB] at hq
     exact ⟨⟨h1.1 hq.1.1.1,h2'.1 hq.1.1.2⟩,by omega,by omega⟩
   simp only [gb,cT]
   exact Tells.no fun v=>g ⟨⟨v.1,v.2.1⟩,v.2.2.1,v.2.2.2.1⟩
theorem Arc_iff {c:S_Cell} {a:S_Arc} {r:Int} (hv:VPins c.Pins) (hc:cnt c.Pins ≤ 1) (hr:r = -1 ∨ ∃ j:Nat,r = (j:Int) ∧ ∃ h:j < c.Pins.length,c.Pins[j].Clock = true ∧ ∀ i (hi:i < c.Pins.length),i < j → ¬ c.Pins[i].Clock = true) (hr0:r ≥ 0 ↔ ∃ x ∈ c.Pins,x.Clock = true):ArcS c a ↔ ArcI c a r:=by
 have few:=hv.few
 unfold ArcS ArcI
 by_cases k:a.Kind = 4 ∨ a.Kind = 5
 ·rw [if_neg (by omega),if_neg (by omega),if_pos k,if_pos k]
  constructor
  ·rintro ⟨⟨⟨a1,a2⟩,a3,a4⟩,b1,b2,b3,b4,b5,b6⟩
   obtain ⟨f,hf⟩:=Int.eq_ofNat_of_zero_le a1
   have hf:a.From = (f:Int):=hf
   have hfl:f < c.Pins.length:=by omega
   have cf:c.Pins[f].Clock = true:=by rw [hf,clk_el hfl] at b1; exact b1
   have hge:r ≥ 0:=hr0.2 ⟨_,List.getElem_mem hfl,cf⟩
   rcases hr with hr | ⟨j,rfl,hj,hj1,_⟩
   ·omega
   ·have:=one_clk hc hfl hj cf hj1
    subst this
    refine ⟨b4,b6,b5,hf,a1,by omega,fun e=>?_⟩
    rw [e,b1] at b3; cases b3
  ·rintro ⟨b1,b2,b3,b4,b5,⟨b6,b7⟩,b8⟩
   rcases hr with hr | ⟨j,hj0,hj,hj1,_⟩
   ·omega
   ·have cf:clkAt c.Pins a.From = true:=by rw [b4,hj0,clk_el hj]; exact hj1
    have hjl:j + 1 < c.Pins.length:=by
     by_cases q:j + 1 < c.Pins.length
     ·exact q
     ·have:=(hv.pin j hj).2.1 (by omega)
      rw [this.2.2] at hj1; cases hj1
    obtain ⟨t,ht⟩:=Int.eq_ofNat_of_zero_le b6
    have ht:a.To = (t:Int):=ht
    have htl:t < c.Pins.length:=by omega
    refine ⟨⟨⟨by omega,by omega⟩,by omega,by omega⟩,cf,by omega,?_,b1,b3,b2⟩
    rw [ht,clk_el htl]
    cases hq:c.Pins[t].Clock with
    | false=>rfl
    | true=>have:=one_clk hc htl hj hq hj1; omega
 ·rw [if_neg k,if_neg k]
  by_cases k1:a.Kind = 1
  ·rw [if_pos k1,if_pos k1]
   exact ⟨fun ⟨p,q,s,t,u,v⟩=>⟨u,v,s,p.1,q,t⟩,fun ⟨u,v,s,p,q,t⟩=>⟨⟨p,by omega,by omega⟩,q,s,t,u,v⟩⟩
  ·rw [if_neg k1,if_neg k1]
   by_cases k2:a.Kind = 2 ∨ a.Kind = 3
   ·rw [if_pos k2,if_pos k2]
    exact ⟨fun ⟨p,q,s,t,u,v⟩=>⟨u,v,s,p.1,q,t⟩,fun ⟨u,v,s,p,q,t⟩=>⟨⟨p,by omega,by omega⟩,q,s,t,u,v⟩⟩
   ·rw [if_neg k2,if_neg k2]
    exact ⟨fun h=>h.2.elim,fun h=>h.2.2.2.2.elim⟩
def sameA (a b:S_Arc):Prop:=(a.Kind = b.Kind ∧ a.From = b.From) ∧ a.To = b.To
def hasK (l:List S_Arc) (k:Int):Prop:=∃ a ∈ l,a.Kind = k
def KindOK (c:S_Cell):Prop :=
 (c.Kind = 1 ∧ cnt c.Pins = 0 ∧ c.Truth.length = 2 ^ (c.Pins.length - 1) ∧ ∀ i,i < c.Truth.length → 0 ≤ gd c.Truth i ∧ gd c.Truth i ≤ 1) ∨
 (c.Kind = 2 ∧ cnt c.Pins = 1 ∧ c.Truth.length = 0 ∧ ¬ hasK c.Arcs 1 ∧ ¬ (hasK c.Arcs 2 ↔ hasK c.Arcs 3)) ∨
 (c.Kind = 3 ∧ cnt c.Pins = 1 ∧ c.Truth.length = 0 ∧ hasK c.Arcs 1 ∧ hasK c.Arcs 2 ∧ ¬ hasK c.Arcs 3)
def ArcsOK (A:S_Arc → Prop) (l:List S_Arc):Prop:=∀ i (h:i < l.length),A l[i] ∧ ∀ j (hj:j < i),¬ sameA l[j] l[i]
structure VCell (c:S_Cell):Prop where
 name:nameB c.Name = true
 pins:VPins c.Pins
 few:c.Arcs.length ≤ 8
 leak:0 ≤ c.Leak ∧ c.Leak ≤ 100000
 energy:0 ≤ c.Energy ∧ c.Energy ≤ 100000
 arcs:ArcsOK (ArcS c) c.Arcs
 kind:KindOK c
theorem KindOK.cnt {c:S_Cell} (h:KindOK c):cnt c.Pins ≤ 1:=by
 rcases h with h | h | h <;> omega
theorem Kd {n:Nat} {c:S_Cell} (hl:c.Arcs.length ≤ 1048576) (hk:∀ a ∈ c.Arcs,0 ≤ a.Kind ∧ a.Kind < 6) (hn:1048577 ≤ n):∃ l,F_0h n c = some l ∧ l.length = 6 ∧ ∀ k:Nat,k < 6 → 0 ≤ gd l k ∧ (gd l k > 0 ↔ hasK c.Arcs k):=by
 have m6:mkN 6 8 = some 6:=mkN_ok (n:=6) (by omega) (by omega)
 rw [F_0h,m6,obs]
 refine loop (L:=fun m i (l:List Int)=>F_0h_L1 c (fun i31 l33=>(some l33)) m i l) c.Arcs.length (fun i l=>l.length = 6 ∧ ∀ k:Nat,k < 6 → (0 ≤ gd l k ∧ gd l k ≤ i) ∧ (gd l k > 0 ↔ hasK (c.Arcs.take i) k)) (fun o=>∃ l,o = some l ∧ l.length = 6 ∧ ∀ k:Nat,k < 6 → 0 ≤ gd l k ∧ (gd l k > 0 ↔ hasK c.Arcs k)) ?_ ?_ n 0 (List.replicate 6 0) (by omega) (by omega) ⟨by simp,fun k hk=>?_⟩
 ·intro m i l hi ⟨hll,hI⟩
  have hx:=hk _ (List.getElem_mem hi)
  obtain ⟨q,hq⟩:=Int.eq_ofNat_of_zero_le hx.1
  have hq:c.Arcs[i].Kind = (q:Int):=hq
  have hq6:q < 6:=by omega
  have hg:getI l c.Arcs[i].Kind = some (gd l q):=by rw [hq]; exact gI (by omega)
  have hb:=(hI q hq6).1
  refine .inl ⟨l.set q (gd l q + 1),⟨by simpa using hll,fun k hk6=>?_⟩,?_⟩
  ·have h1:=hI k hk6
   rw [gd_set (by omega)]
   have hs:hasK (c.Arcs.take (i + 1)) k ↔ hasK (c.Arcs.take i) k ∨ c.Arcs[i].Kind = (k:Int):=by
    rw [List.take_succ_eq_append_getElem hi]
    unfold hasK
    constructor
    ·rintro ⟨a,ha,e⟩
     rcases List.mem_append.1 ha with ha | ha
     ·exact .inl ⟨a,ha,e⟩
     ·obtain rfl:=List.mem_singleton.1 ha; exact .inr e
    ·rintro (⟨a,ha,e⟩ | e)
     ·exact ⟨a,List.mem_append.2 (.inl ha),e⟩
     ·exact ⟨_,List.mem_append.2 (.inr (List.mem_singleton.2 rfl)),e⟩
   rw [hs]
   by_cases e:q = k
   ·subst e
    rw [if_pos rfl]
    exact ⟨⟨by omega,by omega⟩,⟨fun _=>.inr hq,fun _=>by omega⟩⟩
   ·rw [if_neg e]
    refine ⟨⟨by omega,by omega⟩,h1.2.trans ⟨.inl,fun h=>h.resolve_right fun h=>e (by omega)⟩⟩
  ·simp only [F_0h_L1.eq_2,dlt hi,cT,getI_el hi,obs,hg,wT i,wrap64 (x:=gd l q + 1) (by omega) (by omega)]
   rw [hq,Int.toNat_natCast]
 ·intro m l ⟨hll,hI⟩
  simp only [F_0h_L1.eq_2,dnl,cF]
  refine ⟨l,rfl,hll,fun k hk6=>?_⟩
  have:=hI k hk6
  rw [List.take_length] at this
  exact ⟨this.1.1,this.2⟩
 ·have:gd (List.replicate 6 0) k = 0:=by simp only [gd,List.getD_eq_getElem?_getD,List.getElem?_replicate]; split <;> rfl
  rw [this]
  refine ⟨by omega,⟨fun h=>by omega,fun ⟨a,ha,_⟩=>by simp at ha⟩⟩
theorem Hs {n:Nat} {c:S_Cell} (hl:c.Arcs.length ≤ 1048576) (k:Int) (hn:1048577 ≤ n):Tells (hasK c.Arcs k) (F_i n c k):=by
 obtain ⟨r,e,hr,_⟩:=loop_any (xs:=c.Arcs) (L:=fun m i=>F_16_L1 n c.Arcs k (fun i6=>(some (-1))) m i) (f:=fun a=>F_3i n a k) (P:=fun a=>a.Kind = k) (fun p _=>by rw [F_3i]; exact Tells.val beq_iff_eq) (fun m i hi=>by
  simp only [F_16_L1.eq_2,dlt hi,cT,getI_el hi,obs,wT i]) (fun m=>by
  simp only [F_16_L1.eq_2,dnl,cF]) n (by omega)
 have e:F_16_L1 n c.Arcs k (fun i6=>(some (-1))) n 0 = some r:=e
 rw [F_i,F_3x,F_16,e]
 exact Tells.val (by rw [decide_eq_true_eq]; exact hr)
theorem shl_ok {L:Nat} (h1:2 ≤ L) (h2:L ≤ 5):shlK .i64 1 ((L:Int) - 1) = ((2 ^ (L - 1):Nat):Int) ∧ shlK .i64 1 (IntKind.wrap IntKind.u64 ((L:Int) - 1)) = ((2 ^ (L - 1):Nat):Int) ∧ decide (IntKind.wrap IntKind.u64 ((L:Int) - 1) < 0) = false:=by
 have:L = 2 ∨ L = 3 ∨ L = 4 ∨ L = 5:=by omega
 rcases this with rfl | rfl | rfl | rfl <;> decide
theorem Tr1 {n:Nat} {c:S_Cell} {o:Option Bool} {Q:Prop} (h:c.Truth.length ≤ 1048576) (hn:1048577 ≤ n) (hQ:Tells Q o):Tells ((∀ i,i < c.Truth.length → 0 ≤ gd c.Truth i ∧ gd c.Truth i ≤ 1) ∧ Q) (F_a_L3 n c (fun _=>o) n 0):=by
 refine (loopT (L:=fun m i=>F_a_L3 n c (fun _=>o) m i) (Q:=Q) c.Truth.length 0 (fun i=>0 ≤ gd c.Truth i ∧ gd c.Truth i ≤ 1) ?_ ?_ n 0 (by omega) (by omega) (by omega) (fun j _ h=>by omega)).iff ⟨fun a=>⟨fun i hi=>a.1 i (by omega) hi,a.2⟩,fun a=>⟨fun i _ hi=>a.1 i hi,a.2⟩⟩
 ·intro m i _ hi
  simp only [F_a_L3.eq_2,dlt hi,cT,gI hi,obs,F_1,wT i]
  by_cases c1:0 ≤ gd c.Truth i ∧ gd c.Truth i ≤ 1
  ·have d1:(decide (gd c.Truth i ≥ 0) && decide (gd c.Truth i ≤ 1)) = true:=rngB.2 c1
   simp only [d1,Bool.not_true,cF]
   exact .inl ⟨c1,by trivial⟩
  ·have d1:(decide (gd c.Truth i ≥ 0) && decide (gd c.Truth i ≤ 1)) = false:=by
    rw [Bool.and_eq_false_iff,decide_eq_false_iff_not,decide_eq_false_iff_not]; omega
   simp only [d1,Bool.not_false,cT]
   exact .inr ⟨c1,by trivial⟩
 ·intro m i h1 h2 _
  obtain rfl:i = c.Truth.length:=by omega
  simp only [F_a_L3.eq_2,dnl,cF]
  exact hQ
theorem In2 {n:Nat} {c:S_Cell} {i:Nat} (hi:i < c.Arcs.length) (hl:c.Arcs.length ≤ 1048576) (hn:1048577 ≤ n) (k2:Int → Option Bool):(∀ j (hj:j < i),¬ sameA c.Arcs[j] c.Arcs[i]) ∧ F_a_L2 c i c.Arcs[i] k2 n 0 = k2 i ∨ (¬ ∀ j (hj:j < i),¬ sameA c.Arcs[j] c.Arcs[i]) ∧ F_a_L2 c i c.Arcs[i] k2 n 0 = some false:=by
 refine loop (L:=fun m j (_:Unit)=>F_a_L2 c i c.Arcs[i] k2 m j) i (fun b _=>∀ j (hj:j < i),j < b → ¬ sameA c.Arcs[j] c.Arcs[i]) (fun o=>(∀ j (hj:j < i),¬ sameA c.Arcs[j] c.Arcs[i]) ∧ o = k2 i ∨ (¬ ∀ j (hj:j < i),¬ sameA c.Arcs[j] c.Arcs[i]) ∧ o = some false) ?_ ?_ n 0 () (by omega) (by omega) (fun j _ hj=>by omega)
 ·intro m j _ hj hJ
  have e1:sameA c.Arcs[j] c.Arcs[i] ↔ (((c.Arcs[j].Kind == c.Arcs[i].Kind) && (c.Arcs[j].From == c.Arcs[i].From)) && (c.Arcs[j].To == c.Arcs[i].To)) = true:=by
   unfold sameA; simp only [Bool.and_eq_true,beq_iff_eq]
  simp only [F_a_L2.eq_2,dlt hj,cT,getI_el (show j < c.Arcs.length by omega),obs,bif_and,wT j]
  cases e:(((c.Arcs[j].Kind == c.Arcs[i].Kind) && (c.Arcs[j].From == c.Arcs[i].From)) && (c.Arcs[j].To == c.Arcs[i].To)) with
  | true=>exact .inr (.inr ⟨fun h=>h j hj (e1.2 e),by trivial⟩)
  | false =>
   refine .inl ⟨(),fun a ha hb=>?_,by trivial⟩
   by_cases ea:a = j
   ·subst ea; intro hs; rw [e1.1 hs] at e; cases e
   ·exact hJ a ha (by omega)
 ·intro m _ hJ
  simp only [F_a_L2.eq_2,dnl,cF]
  exact .inl ⟨fun j hj=>hJ j hj hj,by trivial⟩
theorem IsC1 {n:Nat} {c:S_Cell} (h:SMC c) (hn:1048577 ≤ n):Tells (VCell c) (F_a n c):=by
 obtain ⟨r,e,hr,hc⟩:=Pn1 (n:=n) h.pins hn
 rw [F_a,e]
 simp only [obs,Nm2 h.name hn,F_1,bif_or]
 by_cases g:(VPins c.Pins ∧ nameB c.Name = true) ∧ c.Arcs.length ≤ 8 ∧ (0 ≤ c.Leak ∧ c.Leak ≤ 100000) ∧ (0 ≤ c.Energy ∧ c.Energy ≤ 100000)
 ·have rt:r.2 = true:=hr.2 g.1.1
  have gb:((((!r.2 || !nameB c.Name) || decide ((c.Arcs.length:Int) > 8)) || !(decide (c.Leak ≥ 0) && decide (c.Leak ≤ 100000))) || !(decide (c.Energy ≥ 0) && decide (c.Energy ≤ 100000))) = false:=by
   rw [rt,g.1.2]
   simp only [Bool.not_true,Bool.or_self,Bool.false_or,Bool.or_eq_false_iff,decide_eq_false_iff_not,Bool.not_eq_false',rngB]; omega
  simp only [gb,cF]
  have few:=g.1.1.few
  have hal:=h.arcs.1
  have hcnt:=hc rt
  refine (loopT (L:=fun m i=>F_a_L1 n c _ m i) (Q:=KindOK c) c.Arcs.length 0 (fun i=>∀ (hi:i < c.Arcs.length),ArcS c c.Arcs[i] ∧ ∀ j (hj:j < i),¬ sameA c.Arcs[j] c.Arcs[i]) ?_ ?_ n 0 (by omega) (by omega) (by omega) (fun j _ h=>by omega)).iff ?_
  ·intro m i _ hi
   obtain ⟨b,e,hb⟩:=Ar1s (n:=n) (c:=c) few.2 few.1 (h.arcs.2 _ (List.getElem_mem hi)) hn
   simp only [F_a_L1.eq_2,dlt hi,cT,getI_el hi,obs,e]
   cases b with
   | false=>exact .inr ⟨fun q=>(by have:=hb.2 (q hi).1; cases this),by trivial⟩
   | true =>
    simp only [Bool.not_true,cF,wT i]
    rcases In2 (n:=n) hi hal hn (fun _=>F_a_L1 n c _ m ((i + 1:Nat):Int)) with ⟨q1,q2⟩ | ⟨q1,q2⟩
    ·exact .inl ⟨fun _=>⟨hb.1 rfl,q1⟩,q2⟩
    ·exact .inr ⟨fun q=>q1 (q hi).2,q2⟩
  ·intro m i h1 h2 hA
   obtain rfl:i = c.Arcs.length:=by omega
   simp only [F_a_L1.eq_2,dnl,cF]
   obtain ⟨l,e,hl6,hl⟩:=Kd (n:=n) hal (fun a ha=>by
    obtain ⟨j,hj,rfl⟩:=List.getElem_of_mem ha
    have:=(hA j (by omega) hj hj).1.2
    rcases kinds c.Arcs[j].Kind with k | k | k | k | k | k <;> first | omega | skip
    obtain ⟨k1,k2,k3,k4,k5⟩:=k
    rw [if_neg k1,if_neg (by omega),if_neg (by omega)] at this
    exact this.elim) hn
   have g1:getI l 1 = some (gd l 1):=gI (i:=1) (by omega)
   have g2:getI l 2 = some (gd l 2):=gI (i:=2) (by omega)
   have g3:getI l 3 = some (gd l 3):=gI (i:=3) (by omega)
   have k1:0 ≤ gd l 1 ∧ (gd l 1 > 0 ↔ hasK c.Arcs 1):=hl 1 (by omega)
   have k2:0 ≤ gd l 2 ∧ (gd l 2 > 0 ↔ hasK c.Arcs 2):=hl 2 (by omega)
   have k3:0 ≤ gd l 3 ∧ (gd l 3 > 0 ↔ hasK c.Arcs 3):=hl 3 (by omega)
   have wl:IntKind.wrap .i64 ((c.Pins.length:Int) - 1) = (c.Pins.length:Int) - 1:=wrap64 (by omega) (by omega)
   obtain ⟨s1,s2,s3⟩:=shl_ok few.1 few.2
   rw [e,obs]
   simp only [g1,g2,g3,obs,wl,s2,s3,cF,bif_and]
   have tl:((c.Truth.length:Int) == 0) = true ↔ c.Truth.length = 0:=by rw [beq_iff_eq]; omega
   have tw:((c.Truth.length:Int) == ((2 ^ (c.Pins.length - 1):Nat):Int)) = true ↔ c.Truth.length = 2 ^ (c.Pins.length - 1):=by rw [beq_iff_eq]; omega
   have c0:(r.1 == 0) = true ↔ cnt c.Pins = 0:=by rw [beq_iff_eq,hcnt]; omega
   have c1:(r.1 == 1) = true ↔ cnt c.Pins = 1:=by rw [beq_iff_eq,hcnt]; omega
   have kk1:(gd l 1 == 0) = true ↔ ¬ hasK c.Arcs 1:=by rw [beq_iff_eq,← k1.2]; omega
   have kk3:(gd l 3 == 0) = true ↔ ¬ hasK c.Arcs 3:=by rw [beq_iff_eq,← k3.2]; omega
   have p1:decide (gd l 1 > 0) = true ↔ hasK c.Arcs 1:=by rw [decide_eq_true_eq]; exact k1.2
   have p2:decide (gd l 2 > 0) = true ↔ hasK c.Arcs 2:=by rw [decide_eq_true_eq]; exact k2.2
   have p3:decide (gd l 3 > 0) = true ↔ hasK c.Arcs 3:=by rw [decide_eq_true_eq]; exact k3.2
   have x23:(decide (gd l 2 > 0) != decide (gd l 3 > 0)) = true ↔ ¬ (hasK c.Arcs 2 ↔ hasK c.Arcs 3):=by
    rw [← p2,← p3]; cases decide (gd l 2 > 0) <;> cases decide (gd l 3 > 0) <;> simp
   by_cases q1:c.Kind = 1
   ·simp only [q1,show ((1:Int) == 1) = true from rfl,cT]
    refine (Tr1 (c:=c) (o:=some ((r.1 == 0) && ((c.Truth.length:Int) == ((2 ^ (c.Pins.length - 1):Nat):Int)))) (Q:=cnt c.Pins = 0 ∧ c.Truth.length = 2 ^ (c.Pins.length - 1)) h.truth hn (Tells.val (by rw [Bool.and_eq_true,c0,tw]))).iff ?_
    unfold KindOK
    constructor
    ·rintro ⟨a,b,d⟩; exact .inl ⟨q1,b,d,a⟩
    ·rintro (⟨_,b,d,a⟩ | ⟨a,_⟩ | ⟨a,_⟩)
     ·exact ⟨a,b,d⟩
     ·omega
     ·omega
   ·simp only [beq_eq_false_iff_ne.2 q1,cF]
    by_cases q2:c.Kind = 2
    ·simp only [q2,show ((2:Int) == 2) = true from rfl,cT]
     refine Tells.val ?_
     rw [Bool.and_eq_true,Bool.and_eq_true,Bool.and_eq_true,c1,kk1,x23,tl]
     unfold KindOK
     constructor
     ·rintro ⟨⟨⟨a,b⟩,d⟩,f⟩; exact .inr (.inl ⟨q2,a,f,b,d⟩)
     ·rintro (⟨a,_⟩ | ⟨_,a,f,b,d⟩ | ⟨a,_⟩)
      ·omega
      ·exact ⟨⟨⟨a,b⟩,d⟩,f⟩
      ·omega
    ·simp only [beq_eq_false_iff_ne.2 q2,cF]
     by_cases q3:c.Kind = 3
     ·simp only [q3,show ((3:Int) == 3) = true from rfl,cT]
      refine Tells.val ?_
      simp only [Bool.and_eq_true,true_and,c1,p1,p2,kk3,tl]
      unfold KindOK
      constructor
      ·rintro ⟨⟨⟨⟨a,b⟩,d⟩,x⟩,f⟩; exact .inr (.inr ⟨q3,a,f,b,d,x⟩)
      ·rintro (⟨a,_⟩ | ⟨a,_⟩ | ⟨_,a,f,b,d,x⟩)
       ·omega
       ·omega
       ·exact ⟨⟨⟨⟨a,b⟩,d⟩,x⟩,f⟩
     ·simp only [beq_eq_false_iff_ne.2 q3,cF]
      refine Tells.no ?_
      rintro (⟨a,_⟩ | ⟨a,_⟩ | ⟨a,_⟩)
      ·exact q1 a
      ·exact q2 a
      ·exact q3 a
  ·constructor
   ·rintro ⟨a,b⟩
    exact ⟨g.1.2,g.1.1,g.2.1,g.2.2.1,g.2.2.2,fun i hi=>a i (by omega) hi hi,b⟩
   ·rintro v
    exact ⟨fun i _ _ hi=>v.arcs i hi,v.kind⟩
 ·have gb:((((!r.2 || !nameB c.Name) || decide ((c.Arcs.length:Int) > 8)) || !(decide (c.Leak ≥ 0) && decide (c.Leak ≤ 100000))) || !(decide (c.Energy ≥ 0) && decide (c.Energy ≤ 100000))) = true:=by
   cases hq:((((!r.2 || !nameB c.Name) || decide ((c.Arcs.length:Int) > 8)) || !(decide (c.Leak ≥ 0) && decide (c.Leak ≤ 100000))) || !(decide (c.Energy ≥ 0) && decide (c.Energy ≤ 100000))) with
   | true=>rfl
   | false =>
    exfalso; apply g
    simp only [Bool.or_eq_false_iff,Bool.not_eq_false',decide_eq_false_iff_not,rngB] at hq
    exact ⟨⟨hr.1 hq.1.1.1.1,hq.1.1.1.2⟩,by omega,by simpa using hq.1.2,by simpa using hq.2⟩
  simp only [gb,cT]
  exact Tells.no fun v=>g ⟨⟨v.pins,v.name⟩,v.few,v.leak,v.energy⟩
theorem Cn {n:Nat} {l:List S_Pin} {K:Int → Option Bool} {c:S_Cell} (hc:c.Pins = l) (hl:l.length ≤ 1048576) (hn:1048577 ≤ n):F_0c_L1 c (fun i _=>K i) n 0 0 = K (cnt l):=by
 subst hc
 refine loop (L:=fun m i (q:Int)=>F_0c_L1 c (fun i _=>K i) m q i) c.Pins.length (fun i q=>q = cnt (c.Pins.take i)) (fun o=>o = K (cnt c.Pins)) ?_ ?_ n 0 0 (by omega) (by omega) (by simp [cnt])
 ·intro m i q hi hq
  have ct:=cnt_take hi
  have cl:cnt (c.Pins.take i) ≤ 1048576:=Nat.le_trans List.countP_le_length (by simp; omega)
  cases hk:c.Pins[i].Clock with
  | true =>
   rw [hk,if_pos rfl] at ct
   refine .inl ⟨q + 1,by rw [ct,hq]; simp,?_⟩
   simp only [F_0c_L1.eq_2,dlt hi,cT,getI_el hi,obs,hk,wT i,wrap64 (x:=q + 1) (by omega) (by omega)]
  | false =>
   rw [hk] at ct
   refine .inl ⟨q,by rw [ct,hq]; simp,?_⟩
   simp only [F_0c_L1.eq_2,dlt hi,cT,getI_el hi,obs,hk,cF,wT i]
 ·intro m q hq
  rw [List.take_length] at hq
  simp only [F_0c_L1.eq_2,dnl,cF,hq]
theorem Kn2 {n:Nat} {c:S_Cell} (h:SMC c) (hv:VPins c.Pins) (hn:1048577 ≤ n):Tells (KindOK c) (F_0c n c):=by
 have few:=hv.few
 obtain ⟨b1,e1,h1⟩:=Hs (n:=n) h.arcs.1 1 hn
 obtain ⟨b2,e2,h2⟩:=Hs (n:=n) h.arcs.1 2 hn
 obtain ⟨b3,e3,h3⟩:=Hs (n:=n) h.arcs.1 3 hn
 have wl:IntKind.wrap .i64 ((c.Pins.length:Int) - 1) = (c.Pins.length:Int) - 1:=wrap64 (by omega) (by omega)
 have o:=(Cn (n:=n) (c:=c) (l:=c.Pins) (K:=fun i16=>(bif (c.Kind == 1) then (Option.bind (bif (i16 == 0) then (Option.bind (F_1x n c) fun r20=>(bif decide (r20 < 0) then none else (some ((((c.Truth.length:Int)) == (shlK .i64 1 r20)))))) else (some false)) fun c20=>(Option.bind (bif c20 then (Option.bind (F_y n c.Truth 0 1) fun r26=>(some r26)) else (some false)) fun c26=>(some c26))) else (bif (c.Kind == 2) then (Option.bind (bif (((i16 == 1)) && ((((c.Truth.length:Int)) == 0))) then (Option.bind (F_i n c 1) fun r38=>(some (!r38))) else (some false)) fun c38=>(Option.bind (bif c38 then (Option.bind (F_i n c 2) fun r43=>(Option.bind (F_i n c 3) fun r45=>(some ((r43 != r45))))) else (some false)) fun c43=>(some c43))) else (bif (c.Kind == 3) then (Option.bind (bif (((i16 == 1)) && ((((c.Truth.length:Int)) == 0))) then (Option.bind (F_i n c 1) fun r61=>(some r61)) else (some false)) fun c61=>(Option.bind (bif c61 then (Option.bind (F_i n c 2) fun r74=>(some r74)) else (some false)) fun c74=>(Option.bind (bif c74 then (Option.bind (F_i n c 3) fun r87=>(some (!r87))) else (some false)) fun c87=>(some c87)))) else (some false))))) rfl h.pins.1 hn)
 have o2:F_0c n c = _:=o
 rw [o2]
 obtain ⟨s1,s2,s3⟩:=shl_ok few.1 few.2
 have d0:decide ((c.Pins.length:Int) - 1 < 0) = false:=decide_eq_false (by omega)
 simp only [F_1x,F_1z,obs,wl,d0,cF,s1,AW (n:=n) h.truth hn,e1,e2,e3,bif_and]
 have tl:((c.Truth.length:Int) == 0) = true ↔ c.Truth.length = 0:=by rw [beq_iff_eq]; omega
 have tw:((c.Truth.length:Int) == ((2 ^ (c.Pins.length - 1):Nat):Int)) = true ↔ c.Truth.length = 2 ^ (c.Pins.length - 1):=by rw [beq_iff_eq]; omega
 have c0:((cnt c.Pins:Int) == 0) = true ↔ cnt c.Pins = 0:=by rw [beq_iff_eq]; omega
 have c1:((cnt c.Pins:Int) == 1) = true ↔ cnt c.Pins = 1:=by rw [beq_iff_eq]; omega
 have n1:(!b1) = true ↔ ¬ hasK c.Arcs 1:=by rw [← h1]; cases b1 <;> simp
 have n3:(!b3) = true ↔ ¬ hasK c.Arcs 3:=by rw [← h3]; cases b3 <;> simp
 have x23:(b2 != b3) = true ↔ ¬ (hasK c.Arcs 2 ↔ hasK c.Arcs 3):=by rw [← h2,← h3]; cases b2 <;> cases b3 <;> simp
 by_cases q1:c.Kind = 1
 ·simp only [q1,show ((1:Int) == 1) = true from rfl,cT]
  refine Tells.val ?_
  rw [Bool.and_eq_true,Bool.and_eq_true,c0,tw,AllGd]
  unfold KindOK
  constructor
  ·rintro ⟨⟨a,b⟩,d⟩; exact .inl ⟨q1,a,b,d⟩
  ·rintro (⟨_,a,b,d⟩ | ⟨a,_⟩ | ⟨a,_⟩)
   ·exact ⟨⟨a,b⟩,d⟩
   ·omega
   ·omega
 ·simp only [beq_eq_false_iff_ne.2 q1,cF]
  by_cases q2:c.Kind = 2
  ·simp only [q2,show ((2:Int) == 2) = true from rfl,cT]
   refine Tells.val ?_
   simp only [Bool.and_eq_true,c1,tl,n1,x23]
   unfold KindOK
   constructor
   ·rintro ⟨⟨⟨a,b⟩,d⟩,f⟩; exact .inr (.inl ⟨q2,a,b,d,f⟩)
   ·rintro (⟨a,_⟩ | ⟨_,a,b,d,f⟩ | ⟨a,_⟩)
    ·omega
    ·exact ⟨⟨⟨a,b⟩,d⟩,f⟩
    ·omega
  ·simp only [beq_eq_false_iff_ne.2 q2,cF]
   by_cases q3:c.Kind = 3
   ·simp only [q3,show ((3:Int) == 3) = true from rfl,cT]
    refine Tells.val ?_
    simp only [Bool.and_eq_true,true_and,c1,tl,h1,h2,n3]
    unfold KindOK
    constructor
    ·rintro ⟨⟨⟨⟨a,b⟩,d⟩,x⟩,f⟩; exact .inr (.inr ⟨q3,a,b,d,x,f⟩)
    ·rintro (⟨a,_⟩ | ⟨a,_⟩ | ⟨_,a,b,d,x,f⟩)
     ·omega
     ·omega
     ·exact ⟨⟨⟨⟨a,b⟩,d⟩,x⟩,f⟩
   ·simp only [beq_eq_false_iff_ne.2 q3,cF]
    refine Tells.no ?_
    rintro (⟨a,_⟩ | ⟨a,_⟩ | ⟨a,_⟩)
    ·exact q1 a
    ·exact q2 a
    ·exact q3 a
theorem As2 {n:Nat} {c:S_Cell} {r:Int} (h:SMC c) (hv:VPins c.Pins) (hr:F_2n n c = some r) (hn:1048577 ≤ n):Tells (ArcsOK (fun a=>ArcI c a r) c.Arcs ∧ c.Arcs.length ≤ 8) (F_15 n c):=by
 have few:=hv.few
 have hal:=h.arcs.1
 rw [F_15]
 refine (loopT (L:=fun m i=>F_15_L1 n c _ m i) (Q:=c.Arcs.length ≤ 8) c.Arcs.length 0 (fun i=>∀ (hi:i < c.Arcs.length),ArcI c c.Arcs[i] r ∧ ∀ j (hj:j < i),¬ sameA c.Arcs[j] c.Arcs[i]) ?_ ?_ n 0 (by omega) (by omega) (by omega) (fun j _ h=>by omega)).iff ⟨fun a=>⟨fun i hi=>a.1 i (by omega) hi hi,a.2⟩,fun a=>⟨fun i _ _ hi=>a.1 i hi,a.2⟩⟩
 ·intro m i _ hi
  obtain ⟨b,e,hb⟩:=Ar2i (n:=n) (c:=c) few.2 few.1 (h.arcs.2 _ (List.getElem_mem hi)) hr hn
  have hsub:subL c.Arcs 0 (i:Int) = some (c.Arcs.take i):=by
   unfold subL
   rw [if_pos ⟨by omega,by omega,by omega⟩]; simp
  obtain ⟨q,e2,hq,_⟩:=loop_any (xs:=c.Arcs.take i) (L:=fun m j=>F_14_L1 n (c.Arcs.take i) c.Arcs[i] (fun i6=>(some (-1))) m j) (f:=fun a=>F_3h n a c.Arcs[i]) (P:=fun a=>sameA a c.Arcs[i]) (fun p _=>by rw [F_3h]; exact Tells.val (by unfold sameA; simp only [Bool.and_eq_true,beq_iff_eq])) (fun m j hj=>by
   simp only [F_14_L1.eq_2,dlt hj,cT,getI_el hj,obs,wS (show j < 4611686018427387904 by have:=hj; simp at this; omega)]) (fun m=>by
   simp only [F_14_L1.eq_2,dnl,cF]) n (by simp; omega)
  have e2:F_14_L1 n (c.Arcs.take i) c.Arcs[i] (fun i6=>(some (-1))) n 0 = some q:=e2
  simp only [F_15_L1.eq_2,dlt hi,cT,getI_el hi,obs,e,hsub,F_3w,F_14,e2,bif_or,wT i]
  have hd:(decide (q ≥ 0)) = true ↔ ¬ ∀ j (hj:j < i),¬ sameA c.Arcs[j] c.Arcs[i]:=by
   rw [decide_eq_true_eq,hq]
   constructor
   ·rintro ⟨x,hx,hs⟩ hall
    obtain ⟨j,hj,rfl⟩:=List.mem_take_iff_getElem.1 hx
    exact hall j (by omega) hs
   ·intro hna
    refine Classical.byContradiction fun hne=>hna fun j hj hs=>hne ⟨c.Arcs[j],List.mem_take_iff_getElem.2 ⟨j,by omega,rfl⟩,hs⟩
  cases hc:(!b || decide (q ≥ 0)) with
  | true =>
   refine .inr ⟨fun g=>?_,by trivial⟩
   have:=g hi
   rw [Bool.or_eq_true] at hc
   rcases hc with hc | hc
   ·rw [hb.2 this.1] at hc; cases hc
   ·exact hd.1 hc this.2
  | false =>
   rw [Bool.or_eq_false_iff] at hc
   refine .inl ⟨fun _=>⟨hb.1 (by simpa using hc.1),Classical.byContradiction fun g=>?_⟩,by trivial⟩
   have:=hd.2 g
   rw [hc.2] at this; cases this
 ·intro m i h1 h2 _
  obtain rfl:i = c.Arcs.length:=by omega
  simp only [F_15_L1.eq_2,dnl,cF]
  exact Tells.val (by rw [decide_eq_true_eq]; omega)
theorem IsC2 {n:Nat} {c:S_Cell} (h:SMC c) (hn:1048577 ≤ n):Tells (VCell c) (F_3j n c):=by
 obtain ⟨r,hr,hr0,hr1⟩:=Ck (n:=n) h.pins.1 hn
 rw [F_3j,Nm1 h.name hn,obs]
 cases hnm:nameB c.Name with
 | false =>
  simp only [cF,obs]
  exact Tells.no fun v=>(by have:=v.name; rw [hnm] at this; cases this)
 | true =>
  obtain ⟨b,e,hb⟩:=Pn2 (n:=n) h.pins hn
  simp only [cT,e,obs]
  cases b with
  | false =>
   simp only [cF,obs]
   exact Tells.no fun v=>(by have:=hb.2 v.pins; cases this)
  | true =>
   have hv:=hb.1 rfl
   obtain ⟨b1,e1,h1⟩:=As2 (n:=n) h hv hr hn
   obtain ⟨b2,e2,h2⟩:=Kn2 (n:=n) h hv hn
   simp only [cT,e1,e2,F_5,obs,bif_and]
   refine Tells.val ?_
   rw [Bool.and_eq_true,Bool.and_eq_true,Bool.and_eq_true,h1,h2,rngB,rngB]
   constructor
   ·rintro ⟨⟨⟨⟨a,a8⟩,b⟩,d⟩,f⟩
    exact ⟨hnm,hv,a8,b,d,fun i hi=>⟨(Arc_iff hv f.cnt hr1 hr0).2 (a i hi).1,(a i hi).2⟩,f⟩
   ·rintro v
    exact ⟨⟨⟨⟨fun i hi=>⟨(Arc_iff hv v.kind.cnt hr1 hr0).1 (v.arcs i hi).1,(v.arcs i hi).2⟩,v.few⟩,v.leak⟩,v.energy⟩,v.kind⟩
def NamesOK (xs:List ByteArray):Prop:=∀ k (h:k < xs.length),nameB xs[k] = true ∧ ∀ i (hi:i < k),(xs[i].toList == xs[k].toList) = false
theorem l05N {n:Nat} {xs:List ByteArray} (h:xs.length ≤ 1048576) (hs:∀ x ∈ xs,x.size ≤ 1048576) (hn:1048577 ≤ n):Tells (NamesOK xs) (F_b n xs):=by
 rw [F_b]
 refine (loopT (L:=fun m i=>F_b_L1 n xs _ m i) (Q:=True) xs.length 0 (fun i=>∀ (hi:i < xs.length),nameB xs[i] = true ∧ ∀ j (hj:j < i),(xs[j].toList == xs[i].toList) = false) ?_ ?_ n 0 (by omega) (by omega) (by omega) (fun j _ h=>by omega)).iff ⟨fun a k hk=>a.1 k (by omega) hk hk,fun a=>⟨fun i _ _ hi=>a i hi,trivial⟩⟩
 ·intro m i _ hi
  simp only [F_b_L1.eq_2,dlt hi,cT,getI_el hi,obs,Nm2 (hs _ (List.getElem_mem hi)) hn]
  cases hb:nameB xs[i] with
  | false=>simp only [Bool.not_false,cT]; exact .inr ⟨fun g=>(by have:=(g hi).1; rw [hb] at this; cases this),trivial⟩
  | true =>
   simp only [Bool.not_true,cF]
   have key:F_b_L2 xs (i:Int) (fun i22=>F_b_L1 n xs (fun i5=>some true) m (IntKind.wrap .i64 ((i:Int) + 1))) n 0 = bif (xs.take i).all (fun x=>!(x.toList == xs[i].toList)) then F_b_L1 n xs (fun i5=>some true) m (IntKind.wrap .i64 ((i:Int) + 1)) else some false:=by
    refine loop_all (xs:=xs.take i) (L:=fun q j=>F_b_L2 xs (i:Int) (fun i22=>F_b_L1 n xs (fun i5=>some true) m (IntKind.wrap .i64 ((i:Int) + 1))) q j) (fun x=>!(x.toList == xs[i].toList)) ?_ ?_ n (by simp; omega)
    ·intro q j hj
     have hj':j < i:=by simp at hj; omega
     have hd:decide ((j:Int) < (i:Int)) = true:=decide_eq_true (by omega)
     simp only [F_b_L2.eq_2,hd,cT,getI_el (show j < xs.length by omega),getI_el hi,obs,List.getElem_take,wT j]
     cases (xs[j].toList == xs[i].toList) <;> rfl
    ·intro q
     have hl:(xs.take i).length = i:=by simp; omega
     have hd:decide (((xs.take i).length:Int) < (i:Int)) = false:=decide_eq_false (by rw [hl]; omega)
     simp only [F_b_L2.eq_2,hd,cF]
   rw [key]
   cases ha:(xs.take i).all (fun x=>!(x.toList == xs[i].toList)) with
   | true =>
    rw [cT,wT i]
    refine .inl ⟨fun _=>⟨hb,fun j hj=>?_⟩,rfl⟩
    have:=List.all_eq_true.1 ha xs[j] (List.mem_take_iff_getElem.2 ⟨j,by omega,rfl⟩)
    simpa using this
   | false =>
    rw [cF]
    refine .inr ⟨fun g=>?_,rfl⟩
    have:(xs.take i).all (fun x=>!(x.toList == xs[i].toList)) = true:=by
     rw [List.all_eq_true]
     intro x hx
     obtain ⟨j,hj,rfl⟩:=List.mem_take_iff_getElem.1 hx
     have:=(g hi).2 j (by omega)
     simp [this]
    rw [ha] at this; cases this
 ·intro m i h1 h2 _
  obtain rfl:i = xs.length:=by omega
  simp only [F_b_L1.eq_2,dnl,cF]
  exact Tells.yes trivial
structure VLib (l:S_Library):Prop where
 few:l.Cells.length ≤ 8
 cells:∀ i (h:i < l.Cells.length),VCell l.Cells[i]
 names:∀ k (h:k < l.Cells.length),∀ i (hi:i < k),(l.Cells[i].Name.toList == l.Cells[k].Name.toList) = false
def SMLb (l:S_Library):Prop:=l.Cells.length ≤ 1048576 ∧ ∀ c ∈ l.Cells,SMC c
theorem Lb1 {n:Nat} {l:S_Library} (h:SMLb l) (hn:1048577 ≤ n):Tells (VLib l) (F_k n l):=by
 have h1:=h.1
 rw [F_k]
 refine (loopT (L:=fun m i=>F_k_L1 n l _ m i) (Q:=l.Cells.length ≤ 8) l.Cells.length 0 (fun i=>∀ (hi:i < l.Cells.length),VCell l.Cells[i] ∧ ∀ j (hj:j < i),(l.Cells[j].Name.toList == l.Cells[i].Name.toList) = false) ?_ ?_ n 0 (by omega) (by omega) (by omega) (fun j _ h=>by omega)).iff ⟨fun a=>⟨a.2,fun i hi=>(a.1 i (by omega) hi hi).1,fun k hk=>(a.1 k (by omega) hk hk).2⟩,fun a=>⟨fun i _ _ hi=>⟨a.cells i hi,a.names i hi⟩,a.few⟩⟩
 ·intro m i _ hi
  obtain ⟨b,e,hb⟩:=IsC1 (n:=n) (h.2 _ (List.getElem_mem hi)) hn
  simp only [F_k_L1.eq_2,dlt hi,cT,getI_el hi,obs,e]
  cases b with
  | false=>simp only [Bool.not_false,cT]; exact .inr ⟨fun g=>(by have:=hb.2 (g hi).1; cases this),trivial⟩
  | true =>
   simp only [Bool.not_true,cF]
   have key:F_k_L2 l (i:Int) (fun i36=>F_k_L1 n l (fun i12=>some (decide ((l.Cells.length:Int) ≤ 8))) m (IntKind.wrap .i64 ((i:Int) + 1))) n 0 = bif (l.Cells.take i).all (fun x=>!(x.Name.toList == l.Cells[i].Name.toList)) then F_k_L1 n l (fun i12=>some (decide ((l.Cells.length:Int) ≤ 8))) m (IntKind.wrap .i64 ((i:Int) + 1)) else some false:=by
    refine loop_all (xs:=l.Cells.take i) (L:=fun q j=>F_k_L2 l (i:Int) (fun i36=>F_k_L1 n l (fun i12=>some (decide ((l.Cells.length:Int) ≤ 8))) m (IntKind.wrap .i64 ((i:Int) + 1))) q j) (fun x=>!(x.Name.toList == l.Cells[i].Name.toList)) ?_ ?_ n (by simp; omega)
    ·intro q j hj
     have hj':j < i:=by simp at hj; omega
     have hd:decide ((j:Int) < (i:Int)) = true:=decide_eq_true (by omega)
     simp only [F_k_L2.eq_2,hd,cT,getI_el (show j < l.Cells.length by omega),getI_el hi,obs,List.getElem_take,wT j]
     cases (l.Cells[j].Name.toList == l.Cells[i].Name.toList) <;> rfl
    ·intro q
     have hl:(l.Cells.take i).length = i:=by simp; omega
     have hd:decide (((l.Cells.take i).length:Int) < (i:Int)) = false:=decide_eq_false (by rw [hl]; omega)
     simp only [F_k_L2.eq_2,hd,cF]
   rw [key]
   cases ha:(l.Cells.take i).all (fun x=>!(x.Name.toList == l.Cells[i].Name.toList)) with
   | true =>
    rw [cT,wT i]
    refine .inl ⟨fun _=>⟨hb.1 rfl,fun j hj=>?_⟩,rfl⟩
    have:=List.all_eq_true.1 ha l.Cells[j] (List.mem_take_iff_getElem.2 ⟨j,by omega,rfl⟩)
    simpa using this
   | false =>
    rw [cF]
    refine .inr ⟨fun g=>?_,rfl⟩
    have:(l.Cells.take i).all (fun x=>!(x.Name.toList == l.Cells[i].Name.toList)) = true:=by
     rw [List.all_eq_true]
     intro x hx
     obtain ⟨j,hj,rfl⟩:=List.mem_take_iff_getElem.1 hx
     have:=(g hi).2 j (by omega)
     simp [this]
    rw [ha] at this; cases this
 ·intro m i h1 h2 _
  obtain rfl:i = l.Cells.length:=by omega
  simp only [F_k_L1.eq_2,dnl,cF]
  exact Tells.val (by rw [decide_eq_true_eq]; omega)
theorem Lb2 {n:Nat} {l:S_Library} (h:SMLb l) (hn:1048577 ≤ n):Tells (VLib l) (F_17 n l):=by
 have h1:=h.1
 rw [F_17]
 refine loop (L:=fun m i (s:List ByteArray)=>F_17_L1 n l _ m s i) l.Cells.length (fun i s=>s = (l.Cells.take i).map (·.Name) ∧ ∀ j (hj:j < l.Cells.length),j < i → VCell l.Cells[j]) (fun o=>Tells (VLib l) o) ?_ ?_ n 0 [] (by omega) (by omega) ⟨by simp,fun j _ h=>by omega⟩
 ·intro m i s hi ⟨hs,hI⟩
  obtain ⟨b,e,hb⟩:=IsC2 (n:=n) (h.2 _ (List.getElem_mem hi)) hn
  have hsl:s.length = i:=by rw [hs]; simp; omega
  simp only [F_17_L1.eq_2,dlt hi,cT,getI_el hi,obs,e]
  cases b with
  | false=>simp only [Bool.not_false,cT]; exact .inr (Tells.no fun v=>by have:=hb.2 (v.cells i hi); cases this)
  | true =>
   simp only [Bool.not_true,cF,appN_ok (show s.length + [l.Cells[i].Name].length ≤ 16777216 by simp; omega) (show 16 ≤ 1048576 by omega),obs,wT i]
   refine .inl ⟨_,⟨?_,fun j hj hji=>?_⟩,rfl⟩
   ·rw [hs,List.take_succ_eq_append_getElem hi,List.map_append]; rfl
   ·by_cases ej:j = i
    ·subst ej; exact hb.1 rfl
    ·exact hI j hj (by omega)
 ·intro m s ⟨hs,hI⟩
  rw [List.take_length] at hs
  have hsl:s.length = l.Cells.length:=by rw [hs]; simp
  simp only [F_17_L1.eq_2,dnl,cF]
  by_cases c:l.Cells.length ≤ 8
  ·have d:decide ((l.Cells.length:Int) ≤ 8) = true:=decide_eq_true (by omega)
   obtain ⟨b,e,hb⟩:=AN (n:=n) (xs:=s) (by omega) (fun x hx=>by
    rw [hs] at hx
    obtain ⟨c,hc,rfl⟩:=List.mem_map.1 hx
    exact (h.2 c hc).name) hn
   simp only [d,cT,e,obs]
   refine Tells.val (hb.trans ⟨fun g=>⟨c,fun i hi=>hI i hi hi,fun k hk i hi=>?_⟩,fun v k hk=>⟨?_,fun i hi=>?_⟩⟩)
   ·have:=(g k (by omega)).2 i hi
    simpa [hs] using this
   ·have:=(v.cells k (by omega)).name
    simpa [hs] using this
   ·have:=v.names k (by omega) i hi
    simpa [hs] using this
  ·have d:decide ((l.Cells.length:Int) ≤ 8) = false:=decide_eq_false (by omega)
   simp only [d,cF,obs]
   exact Tells.no fun v=>c v.few
def Win (l:List Int) (lo hi:Int):Prop:=∀ i,i < l.length → lo ≤ gd l i ∧ gd l i ≤ hi
theorem loopW {n:Nat} {l:List Int} {lo hi:Int} (h:l.length ≤ 1048576) (hn:1048577 ≤ n):Tells (Win l lo hi) (F_y n l lo hi):=by
 rw [F_y,F_3d,F_08]
 obtain ⟨r,e,h⟩:=loop_has (xs:=l) (L:=fun m i=>F_08_L1 n l lo hi (fun i7=>(some (-1))) m i) (fun x=>!((decide (x ≥ lo)) && (decide (x ≤ hi)))) (by
  intro m i hi
  simp only [F_08_L1.eq_2,dlt hi,cT,getI_el hi,obs,F_3c,F_5,wT i]) (by
  intro m
  simp only [F_08_L1.eq_2,dnl,cF]) n (by omega)
 simp only [e,obs]
 refine Tells.val ?_
 rw [h,List.any_eq_not_all_not,Bool.not_not]
 simp only [Bool.not_not]
 exact AllGd
structure VWire (w:S_Wire) (s:Int):Prop where
 many:1 ≤ w.Parent.length ∧ w.Parent.length ≤ 8
 res:w.Res.length = w.Parent.length
 cap:w.Cap.length = w.Parent.length
 sink:(w.Sink.length:Int) = s
 root:gd w.Parent 0 = -1 ∧ gd w.Res 0 = 0
 tree:∀ i,0 < i → i < w.Parent.length → 0 ≤ gd w.Parent i ∧ gd w.Parent i ≤ (i:Int) - 1
 ress:Win w.Res 0 1000
 caps:Win w.Cap 0 500
 sinks:Win w.Sink 0 ((w.Parent.length:Int) - 1)
def Node (w:S_Wire) (i:Nat):Prop:=(i = 0 → gd w.Parent 0 = -1 ∧ gd w.Res 0 = 0) ∧ (0 < i → 0 ≤ gd w.Parent i ∧ gd w.Parent i ≤ (i:Int) - 1)
theorem Wr1 {n:Nat} {w:S_Wire} {s:Int} (h:w.Sink.length ≤ 1048576) (hn:1048577 ≤ n):Tells (VWire w s) (F_u n w s):=by
 rw [F_u]
 refine Tells.bif (fun c=>Tells.no fun v=>?_) (fun c=>?_)
 ·have:=v.many; have:=v.res; have:=v.cap; have:=v.sink
  simp only [Bool.or_eq_true,decide_eq_true_eq,bne_iff_ne,ne_eq] at c; omega
 ·simp only [Bool.or_eq_false_iff,decide_eq_false_iff_not,bne_eq_false_iff_eq] at c
  obtain ⟨⟨⟨⟨c1,c2⟩,c3⟩,c4⟩,c5⟩:=c
  refine (loopT (L:=fun m i=>F_u_L1 n w _ m i) (Q:=Win w.Sink 0 ((w.Parent.length:Int) - 1)) w.Parent.length 0 (fun i=>(0 ≤ gd w.Cap i ∧ gd w.Cap i ≤ 500) ∧ (0 ≤ gd w.Res i ∧ gd w.Res i ≤ 1000) ∧ Node w i) ?_ ?_ n 0 (by omega) (by omega) (by omega) (fun j _ h=>by omega)).iff ⟨fun a=>⟨by omega,by omega,by omega,c5,(a.1 0 (by omega) (by omega)).2.2.1 rfl,fun i h1 h2=>(a.1 i (by omega) h2).2.2.2 h1,fun i hi=>(a.1 i (by omega) (by omega)).2.1,fun i hi=>(a.1 i (by omega) (by omega)).1,a.2⟩,fun v=>⟨fun i _ hi=>⟨v.caps i (by omega),v.ress i (by omega),fun _=>v.root,fun h=>v.tree i h hi⟩,v.sinks⟩⟩
  ·intro m i _ hi
   have w1:IntKind.wrap .i64 ((i:Int) - 1) = (i:Int) - 1:=wrap64 (by omega) (by omega)
   simp only [F_u_L1.eq_2,dlt hi,cT,gI (show i < w.Parent.length by omega),gI (show i < w.Res.length by omega),gI (show i < w.Cap.length by omega),obs,F_1,bif_or,bif_and,w1,wT i]
   cases e1:(!(decide (gd w.Cap i ≥ 0) && decide (gd w.Cap i ≤ 500)) || !(decide (gd w.Res i ≥ 0) && decide (gd w.Res i ≤ 1000))) with
   | true =>
    rw [cT]
    refine .inr ⟨fun g=>?_,rfl⟩
    simp only [Bool.or_eq_true,Bool.not_eq_true',Bool.and_eq_false_iff,decide_eq_false_iff_not] at e1; omega
   | false =>
    rw [cF]
    simp only [Bool.or_eq_false_iff,Bool.not_eq_false',Bool.and_eq_true,decide_eq_true_eq] at e1
    cases e2:((((i:Int) == 0) && ((gd w.Parent i != -1) || (gd w.Res i != 0))) || (decide ((i:Int) > 0) && !(decide (gd w.Parent i ≥ 0) && decide (gd w.Parent i ≤ (i:Int) - 1)))) with
    | true =>
     rw [cT]
     refine .inr ⟨fun g=>?_,rfl⟩
     obtain ⟨_,_,g1,g2⟩:=g
     simp only [Bool.or_eq_true,Bool.not_eq_true',Bool.and_eq_false_iff,Bool.and_eq_true,decide_eq_false_iff_not,decide_eq_true_eq,beq_iff_eq,bne_iff_ne,ne_eq] at e2
     by_cases z:i = 0
     ·subst z; have:=g1 rfl; omega
     ·have:=g2 (by omega); omega
    | false =>
     rw [cF]
     refine .inl ⟨⟨by omega,by omega,?_⟩,rfl⟩
     simp only [Bool.or_eq_false_iff,Bool.not_eq_false',Bool.and_eq_false_iff,Bool.and_eq_true,decide_eq_false_iff_not,decide_eq_true_eq,beq_eq_false_iff_ne,bne_eq_false_iff_eq,ne_eq] at e2
     refine ⟨fun z=>?_,fun z=>by omega⟩
     subst z; omega
  ·intro m i h1 h2 _
   obtain rfl:i = w.Parent.length:=by omega
   have w1:IntKind.wrap .i64 ((w.Parent.length:Int) - 1) = (w.Parent.length:Int) - 1:=wrap64 (by omega) (by omega)
   simp only [F_u_L1.eq_2,dnl,cF]
   refine (loopT (L:=fun m i=>F_u_L2 n w _ m i) (Q:=True) w.Sink.length 0 (fun i=>0 ≤ gd w.Sink i ∧ gd w.Sink i ≤ (w.Parent.length:Int) - 1) ?_ ?_ n 0 (by omega) (by omega) (by omega) (fun j _ h=>by omega)).iff ⟨fun a i hi=>a.1 i (by omega) hi,fun v=>⟨fun i _ hi=>v i hi,trivial⟩⟩
   ·intro m i _ hi
    simp only [F_u_L2.eq_2,dlt hi,cT,gI hi,obs,F_1,w1,wT i]
    cases e:(!(decide (gd w.Sink i ≥ 0) && decide (gd w.Sink i ≤ (w.Parent.length:Int) - 1))) with
    | true=>refine .inr ⟨fun g=>?_,by trivial⟩; simp only [Bool.not_eq_true',Bool.and_eq_false_iff,decide_eq_false_iff_not] at e; omega
    | false=>refine .inl ⟨?_,by trivial⟩; simp only [Bool.not_eq_false',Bool.and_eq_true,decide_eq_true_eq] at e; omega
   ·intro m i h1 h2 _
    obtain rfl:i = w.Sink.length:=by omega
    simp only [F_u_L2.eq_2,dnl,cF]
    exact Tells.yes trivial
theorem Wr2t {n:Nat} {w:S_Wire} (h1:1 ≤ w.Parent.length) (h:w.Parent.length ≤ 8) (h2:w.Res.length = w.Parent.length) (hn:1048577 ≤ n):Tells (∀ i,0 ≤ i → i < w.Parent.length → Node w i) (F_18 n w):=by
 rw [F_18]
 refine (loopT (L:=fun m i=>F_18_L1 n w _ m i) (Q:=True) w.Parent.length 0 (fun i=>Node w i) ?_ ?_ n 0 (by omega) (by omega) (by omega) (fun j _ h=>by omega)).iff ⟨fun a=>a.1,fun a=>⟨a,trivial⟩⟩
 ·intro m i _ hi
  have w1:IntKind.wrap .i64 ((i:Int) - 1) = (i:Int) - 1:=wrap64 (by omega) (by omega)
  have w0:getI w.Res 0 = some (gd w.Res 0):=gI (i:=0) (by omega)
  simp only [F_18_L1.eq_2,dlt hi,cT,gI hi,w0,obs,F_5,bif_or,bif_and,w1,wT i]
  cases e2:((((i:Int) == 0) && ((gd w.Parent i != -1) || (gd w.Res 0 != 0))) || (decide ((i:Int) > 0) && !(decide (gd w.Parent i ≥ 0) && decide (gd w.Parent i ≤ (i:Int) - 1)))) with
  | true =>
   rw [cT]
   refine .inr ⟨fun g=>?_,rfl⟩
   obtain ⟨g1,g2⟩:=g
   simp only [Bool.or_eq_true,Bool.not_eq_true',Bool.and_eq_false_iff,Bool.and_eq_true,decide_eq_false_iff_not,decide_eq_true_eq,beq_iff_eq,bne_iff_ne,ne_eq] at e2
   by_cases z:i = 0
   ·subst z; have:=g1 rfl; omega
   ·have:=g2 (by omega); omega
  | false =>
   rw [cF]
   refine .inl ⟨?_,rfl⟩
   simp only [Bool.or_eq_false_iff,Bool.not_eq_false',Bool.and_eq_false_iff,Bool.and_eq_true,decide_eq_false_iff_not,decide_eq_true_eq,beq_eq_false_iff_ne,bne_eq_false_iff_eq,ne_eq] at e2
   refine ⟨fun z=>?_,fun z=>by omega⟩
   subst z; omega
 ·intro m i h1 h2 _
  obtain rfl:i = w.Parent.length:=by omega
  simp only [F_18_L1.eq_2,dnl,cF]
  exact Tells.yes trivial
theorem Tells.and {P Q:Prop} {o:Option Bool} {c:Bool} (hc:c = true ↔ P) (h:P → Tells Q o):Tells (P ∧ Q) (bif c then o else some false):=by
 cases c with
 | true=>exact (h (hc.1 rfl)).iff ⟨fun q=>⟨hc.1 rfl,q⟩,fun q=>q.2⟩
 | false=>exact Tells.no fun q=>by have:=hc.2 q.1; cases this
theorem Tells.ab {P R:Prop} {o:Option Bool} {f:Bool → Option Bool} (h:Tells P o) (k:∀ c:Bool,(c = true ↔ P) → Tells R (f c)):Tells R (Option.bind o f):=by
 obtain ⟨b,rfl,h⟩:=h
 exact k b h
theorem bind_eta {o:Option Bool}:(Option.bind o fun r=>some r) = o:=by cases o <;> rfl
theorem Wr2 {n:Nat} {w:S_Wire} {s:Int} (h:w.Sink.length ≤ 1048576) (hr:w.Res.length ≤ 1048576) (hc:w.Cap.length ≤ 1048576) (hp:w.Parent.length ≤ 1048576) (hn:1048577 ≤ n):Tells (VWire w s) (F_3l n w s):=by
 have w1:IntKind.wrap .i64 ((w.Parent.length:Int) - 1) = (w.Parent.length:Int) - 1:=wrap64 (by omega) (by omega)
 rw [F_3l]
 simp only [F_0b,F_5,obs,w1,bif_and,bind_eta]
 refine Tells.ab (Tells.and (P:=(1 ≤ w.Parent.length ∧ w.Parent.length ≤ 8) ∧ w.Res.length = w.Parent.length ∧ w.Cap.length = w.Parent.length) (Q:=∀ i,0 ≤ i → i < w.Parent.length → Node w i) ?_ fun p=>Wr2t p.1.1 p.1.2 p.2.1 hn) fun c1 e1=>?_
 ·simp only [Bool.and_eq_true,decide_eq_true_eq,beq_iff_eq]; omega
 refine Tells.ab (Tells.and e1 fun _=>loopW hr hn) fun c2 e2=>?_
 refine Tells.ab (Tells.and e2 fun _=>loopW hc hn) fun c3 e3=>?_
 refine (Tells.and (P:=(((((1 ≤ w.Parent.length ∧ w.Parent.length ≤ 8) ∧ w.Res.length = w.Parent.length ∧ w.Cap.length = w.Parent.length) ∧ ∀ i,0 ≤ i → i < w.Parent.length → Node w i) ∧ Win w.Res 0 1000) ∧ Win w.Cap 0 500) ∧ (w.Sink.length:Int) = s) ?_ fun _=>loopW h hn).iff ⟨fun ⟨⟨⟨⟨⟨⟨a,b,c⟩,t⟩,r⟩,k⟩,s1⟩,s2⟩=>⟨a,b,c,s1,(t 0 (by omega) (by omega)).1 rfl,fun i h1 h2=>(t i (by omega) h2).2 h1,r,k,s2⟩,fun v=>⟨⟨⟨⟨⟨⟨v.many,v.res,v.cap⟩,fun i _ hi=>⟨fun _=>v.root,fun h=>v.tree i h hi⟩⟩,v.ress⟩,v.caps⟩,v.sink⟩,v.sinks⟩⟩
 rw [Bool.and_eq_true,e3,beq_iff_eq]
def bumpT (t:List Int) (q:Int):List Int:=t.set q.toNat (gd t q.toNat + 1)
def lastN (x:S_Instance):Int:=gd x.Nets (x.Nets.length - 1)
def cI (t:List Int) (x:S_Instance):List Int:=bumpT t (lastN x)
def cP (t:List Int) (p:S_Port):List Int:=if p.Dir = 1 then bumpT t p.Net else t
def drv (d:S_Design):List Int:=d.Ports.foldl cP (d.Instances.foldl cI (List.replicate d.Nets.length 0))
structure VInst (l:S_Library) (d:S_Design) (x:S_Instance):Prop where
 cell:0 ≤ x.Cell ∧ x.Cell ≤ (l.Cells.length:Int) - 1
 pins:∀ c,getI l.Cells x.Cell = some c → x.Nets.length = c.Pins.length
 nets:Win x.Nets 0 ((d.Nets.length:Int) - 1)
structure VPort (d:S_Design) (p:S_Port):Prop where
 dir:p.Dir = 1 ∨ p.Dir = 2
 net:0 ≤ p.Net ∧ p.Net ≤ (d.Nets.length:Int) - 1
structure VDesign (l:S_Library) (d:S_Design):Prop where
 lib:VLib l
 few:d.Instances.length ≤ 14 ∧ d.Nets.length ≤ 30 ∧ d.Ports.length ≤ 8
 inst:∀ x ∈ d.Instances,VInst l d x
 port:∀ p ∈ d.Ports,VPort d p
 ni:NamesOK (d.Instances.map (·.Name))
 np:NamesOK (d.Ports.map (·.Name))
 nn:NamesOK d.Nets
 one:∀ i,i < d.Nets.length → gd (drv d) i = 1
structure SMDs (d:S_Design):Prop where
 inst:d.Instances.length ≤ 1048576 ∧ ∀ x ∈ d.Instances,x.Name.size ≤ 1048576 ∧ x.Nets.length ≤ 1048576
 nets:d.Nets.length ≤ 1048576 ∧ ∀ x ∈ d.Nets,x.size ≤ 1048576
 ports:d.Ports.length ≤ 1048576 ∧ ∀ p ∈ d.Ports,p.Name.size ≤ 1048576
theorem VInst.long {l:S_Library} {d:S_Design} {x:S_Instance} (v:VInst l d x) (hl:VLib l):2 ≤ x.Nets.length ∧ x.Nets.length ≤ 5:=by
 obtain ⟨c,e,hc⟩:=getI_ok (xs:=l.Cells) v.cell.1 (by have:=v.cell.2; omega)
 have h:=v.pins c e
 obtain ⟨h1,h2⟩:=List.getElem?_eq_some_iff.1 hc
 have:=(hl.cells _ h1).pins.few
 rw [h2] at this; omega
theorem VInst.last {l:S_Library} {d:S_Design} {x:S_Instance} (v:VInst l d x) (hl:VLib l):0 ≤ lastN x ∧ lastN x < d.Nets.length:=by
 have:=v.long hl
 have:=v.nets (x.Nets.length - 1) (by omega)
 unfold lastN; omega
theorem loop_names {α:Type} {xs:List α} (nm:α → ByteArray) {L:Nat → List ByteArray → Int → Option Bool} {k:List ByteArray → Option Bool} (hl:xs.length ≤ 1048576)
 (hs:∀ (m i:Nat) (h:i < xs.length) (s:List ByteArray),L (m + 1) s (i:Int) = Option.bind (appN s [nm xs[i]] 16) fun z=>L m z ((i + 1:Nat):Int))
 (he:∀ (m:Nat) (s:List ByteArray),L (m + 1) s (xs.length:Int) = k s) (m:Nat) (hm:xs.length < m):L m [] 0 = k (xs.map nm):=by
 refine loop (L:=fun m i s=>L m s i) xs.length (fun i s=>s = (xs.take i).map nm) (fun o=>o = k (xs.map nm)) ?_ ?_ m 0 [] (by omega) (by omega) (by simp)
 ·intro m i s hi e
  refine .inl ⟨s ++ [nm xs[i]],?_,?_⟩
  ·rw [e,List.take_succ_eq_append_getElem hi,List.map_append]; rfl
  ·have:s.length = i:=by rw [e]; simp; omega
   show L (m + 1) s (i:Int) = _
   rw [hs m i hi,appN_ok (by simp; omega) (by omega),obs]
 ·intro m s e
  rw [List.take_length] at e
  show L (m + 1) s (xs.length:Int) = _
  rw [he,e]
def Ctr (N B:Nat) (t:List Int):Prop:=t.length = N ∧ ∀ j,0 ≤ gd t j ∧ gd t j ≤ B
theorem Ctr.bump {N B:Nat} {t:List Int} {q:Int} (h:Ctr N B t) (h0:0 ≤ q) (h1:q < N):Ctr N (B + 1) (bumpT t q):=by
 refine ⟨by unfold bumpT; simpa using h.1,fun j=>?_⟩
 unfold bumpT
 rw [gd_set (by have:=h.1; omega)]
 have:=h.2 j; have:=h.2 q.toNat
 split <;> omega
theorem Ctr.up {N B:Nat} {t:List Int} (h:Ctr N B t):Ctr N (B + 1) t:=⟨h.1,fun j=>by have:=h.2 j; omega⟩
theorem Ctr.step {N B:Nat} {t:List Int} {q:Int} (h:Ctr N B t) (h0:0 ≤ q) (h1:q < N) (hB:B ≤ 1048576):getI t q = some (gd t q.toNat) ∧ t.set q.toNat (IntKind.wrap .i64 (gd t q.toNat + 1)) = bumpT t q:=by
 refine ⟨getI_gd h0 (by rw [h.1]; exact h1),?_⟩
 have:=h.2 q.toNat
 rw [wrap64 (by omega) (by omega)]; rfl
theorem foldl_take {α σ:Type} {f:σ → α → σ} {xs:List α} {i:Nat} {s:σ} (h:i < xs.length):(xs.take (i + 1)).foldl f s = f ((xs.take i).foldl f s) xs[i]:=by
 rw [List.take_succ_eq_append_getElem h,List.foldl_append]; rfl
theorem Pa1 {n:Nat} {l:S_Library} {d:S_Design} (hl:VLib l) (h:SMDs d) (hn:1048577 ≤ n):Tells ((∀ x ∈ d.Instances,VInst l d x) ∧ ∀ p ∈ d.Ports,VPort d p) (F_7 n l d):=by
 have hi0:=h.inst.1; have hp0:=h.ports.1; have hn0:=h.nets.1; have hl0:=hl.few
 have wN:IntKind.wrap .i64 ((d.Nets.length:Int) - 1) = (d.Nets.length:Int) - 1:=wrap64 (by omega) (by omega)
 have wL:IntKind.wrap .i64 ((l.Cells.length:Int) - 1) = (l.Cells.length:Int) - 1:=wrap64 (by omega) (by omega)
 rw [F_7]
 refine (loopT (L:=fun m i=>F_7_L1 n l d _ m i) (Q:=∀ p ∈ d.Ports,VPort d p) d.Instances.length 0 (fun i=>∀ (hi:i < d.Instances.length),VInst l d d.Instances[i]) ?_ ?_ n 0 (by omega) (by omega) (by omega) (fun j _ h=>by omega)).iff ⟨fun a=>⟨fun x hx=>?_,a.2⟩,fun a=>⟨fun i _ _ hi=>a.1 _ (List.getElem_mem hi),a.2⟩⟩
 ·intro m i _ hi
  simp only [F_7_L1.eq_2,dlt hi,cT,getI_el hi,obs,F_1,wL,wT i]
  by_cases c1:0 ≤ d.Instances[i].Cell ∧ d.Instances[i].Cell ≤ (l.Cells.length:Int) - 1
  ·obtain ⟨c,ec,hc⟩:=getI_ok (xs:=l.Cells) c1.1 (by omega)
   have d1:(decide (d.Instances[i].Cell ≥ 0) && decide (d.Instances[i].Cell ≤ (l.Cells.length:Int) - 1)) = true:=by simp only [Bool.and_eq_true,decide_eq_true_eq]; omega
   simp only [d1,Bool.not_true,cF,ec,obs]
   by_cases c2:d.Instances[i].Nets.length = c.Pins.length
   ·have d2:((d.Instances[i].Nets.length:Int) != (c.Pins.length:Int)) = false:=by rw [bne_eq_false_iff_eq]; omega
    simp only [d2,cF]
    have hnl:=(h.inst.2 _ (List.getElem_mem hi)).2
    have key:F_7_L2 n d d.Instances[i] (fun i75=>F_7_L1 n l d (fun i25=>F_7_L3 n d (fun i30=>some true) n 0) m ((i + 1:Nat):Int)) n 0 = bif d.Instances[i].Nets.all (fun k=>decide (k ≥ 0) && decide (k ≤ (d.Nets.length:Int) - 1)) then F_7_L1 n l d (fun i25=>F_7_L3 n d (fun i30=>some true) n 0) m ((i + 1:Nat):Int) else some false:=by
     refine loop_all (xs:=d.Instances[i].Nets) (L:=fun q j=>F_7_L2 n d d.Instances[i] (fun i75=>F_7_L1 n l d (fun i25=>F_7_L3 n d (fun i30=>some true) n 0) m ((i + 1:Nat):Int)) q j) _ ?_ ?_ n (by omega)
     ·intro q j hj
      simp only [F_7_L2.eq_2,dlt hj,cT,getI_el hj,obs,F_1,wN,wT j]
      cases (decide (d.Instances[i].Nets[j] ≥ 0) && decide (d.Instances[i].Nets[j] ≤ (d.Nets.length:Int) - 1)) <;> rfl
     ·intro q
      simp only [F_7_L2.eq_2,dnl,cF]
    rw [key]
    cases ha:d.Instances[i].Nets.all (fun k=>decide (k ≥ 0) && decide (k ≤ (d.Nets.length:Int) - 1)) with
    | true =>
     rw [cT]
     exact .inl ⟨fun _=>⟨c1,fun c' e'=>(by rw [ec] at e'; cases e'; exact c2),AllGd.1 ha⟩,rfl⟩
    | false =>
     rw [cF]
     exact .inr ⟨fun g=>(by have:=AllGd.2 (g hi).nets; rw [ha] at this; cases this),rfl⟩
   ·have d2:((d.Instances[i].Nets.length:Int) != (c.Pins.length:Int)) = true:=by rw [bne_iff_ne]; omega
    simp only [d2,cT]
    exact .inr ⟨fun g=>c2 ((g hi).pins c ec),by trivial⟩
  ·have d1:(decide (d.Instances[i].Cell ≥ 0) && decide (d.Instances[i].Cell ≤ (l.Cells.length:Int) - 1)) = false:=by rw [Bool.and_eq_false_iff,decide_eq_false_iff_not,decide_eq_false_iff_not]; omega
   simp only [d1,Bool.not_false,cT,obs]
   exact .inr ⟨fun g=>c1 (g hi).cell,by trivial⟩
 ·intro m i h1 h2 _
  obtain rfl:i = d.Instances.length:=by omega
  simp only [F_7_L1.eq_2,dnl,cF]
  refine (loopT (L:=fun m i=>F_7_L3 n d _ m i) (Q:=True) d.Ports.length 0 (fun i=>∀ (hi:i < d.Ports.length),VPort d d.Ports[i]) ?_ ?_ n 0 (by omega) (by omega) (by omega) (fun j _ h=>by omega)).iff ⟨fun a p hp=>?_,fun a=>⟨fun i _ _ hi=>a _ (List.getElem_mem hi),trivial⟩⟩
  ·intro m i _ hi
   simp only [F_7_L3.eq_2,dlt hi,cT,getI_el hi,obs,F_1,wN,bif_or,wT i]
   cases e1:(!(decide (d.Ports[i].Dir ≥ 1) && decide (d.Ports[i].Dir ≤ 2)) || !(decide (d.Ports[i].Net ≥ 0) && decide (d.Ports[i].Net ≤ (d.Nets.length:Int) - 1))) with
   | true =>
    rw [cT]
    refine .inr ⟨fun g=>?_,rfl⟩
    have:=(g hi).dir; have:=(g hi).net
    simp only [Bool.or_eq_true,Bool.not_eq_true',Bool.and_eq_false_iff,decide_eq_false_iff_not] at e1; omega
   | false =>
    rw [cF]
    simp only [Bool.or_eq_false_iff,Bool.not_eq_false',Bool.and_eq_true,decide_eq_true_eq] at e1
    exact .inl ⟨fun _=>⟨by omega,by omega⟩,rfl⟩
  ·intro m i h1 h2 _
   obtain rfl:i = d.Ports.length:=by omega
   simp only [F_7_L3.eq_2,dnl,cF]
   exact Tells.yes trivial
  ·obtain ⟨j,hj,rfl⟩:=List.getElem_of_mem hp
   exact a.1 j (by omega) hj hj
 ·obtain ⟨j,hj,rfl⟩:=List.getElem_of_mem hx
  exact a.1 j (by omega) hj hj
theorem Dg1 {n:Nat} {l:S_Library} {d:S_Design} (h:SMLb l) (hd:SMDs d) (hn:1048577 ≤ n):Tells (VDesign l d) (F_0 n l d):=by
 have hi0:=hd.inst.1; have hp0:=hd.ports.1; have hn0:=hd.nets.1
 rw [F_0]
 refine (Lb1 h hn).bind (fun vl=>?_) (fun vl=>?_)
 ·simp only [Bool.not_true,Bool.false_or]
  by_cases c:(d.Instances.length ≤ 14 ∧ d.Nets.length ≤ 30) ∧ d.Ports.length ≤ 8
  ·have e:(decide ((d.Instances.length:Int) > 14) || decide ((d.Nets.length:Int) > 30) || decide ((d.Ports.length:Int) > 8)) = false:=by simp only [Bool.or_eq_false_iff,decide_eq_false_iff_not]; omega
   simp only [e,cF]
   obtain ⟨b,eb,hb⟩:=Pa1 (n:=n) vl hd hn
   rw [eb,obs,obs]
   cases b with
   | false =>
    simp only [Bool.not_false,cT]
    exact Tells.no fun v=>by have:=hb.2 ⟨v.inst,v.port⟩; cases this
   | true =>
    obtain ⟨v1,v2⟩:=hb.1 rfl
    simp only [Bool.not_true,cF]
    rw [loop_names (xs:=d.Instances) (·.Name) (L:=fun m s i=>F_0_L1 d _ m s i) (k:=fun s=>F_0_L2 d _ n [] 0) hi0 (by
     intro m i hi s
     simp only [F_0_L1.eq_2,dlt hi,cT,getI_el hi,obs,wT i]) (by
     intro m s
     simp only [F_0_L1.eq_2,dnl,cF]; rfl) n (by omega)]
    rw [loop_names (xs:=d.Ports) (·.Name) (L:=fun m s i=>F_0_L2 d _ m s i) hp0 (by
     intro m i hi s
     simp only [F_0_L2.eq_2,dlt hi,cT,getI_el hi,obs,wT i]) (by
     intro m s
     simp only [F_0_L2.eq_2,dnl,cF]; rfl) n (by omega)]
    obtain ⟨b1,e1,h1⟩:=l05N (n:=n) (xs:=d.Instances.map (·.Name)) (by simpa using hi0) (fun x hx=>by obtain ⟨y,hy,rfl⟩:=List.mem_map.1 hx; exact (hd.inst.2 y hy).1) hn
    obtain ⟨b2,e2,h2⟩:=l05N (n:=n) (xs:=d.Ports.map (·.Name)) (by simpa using hp0) (fun x hx=>by obtain ⟨y,hy,rfl⟩:=List.mem_map.1 hx; exact hd.ports.2 y hy) hn
    obtain ⟨b3,e3,h3⟩:=l05N (n:=n) (xs:=d.Nets) hn0 hd.nets.2 hn
    simp only [e1,e2,e3,obs,bif_or]
    cases eb:((!b1 || !b2) || !b3) with
    | true =>
     rw [cT]
     refine Tells.no fun v=>?_
     have:=h1.2 v.ni; have:=h2.2 v.np; have:=h3.2 v.nn
     subst b1 b2 b3; cases eb
    | false =>
     rw [cF]
     simp only [Bool.or_eq_false_iff,Bool.not_eq_false'] at eb
     obtain ⟨⟨rfl,rfl⟩,rfl⟩:=eb
     rw [mkN_ok (by omega) (by omega),obs]
     have k1:=loop_fold (xs:=d.Instances) (L:=fun m i s=>F_0_L3 d (fun i149 l151=>F_0_L4 d (fun i155 l157=>F_0_L5 l157 (fun i161=>some true) n 0) n 0 l151) m i s) (k:=fun s=>F_0_L4 d (fun i155 l157=>F_0_L5 l157 (fun i161=>some true) n 0) n 0 s) cI (fun i s=>Ctr d.Nets.length i s) (by
      intro m i hi s hs
      have hv:=v1 _ (List.getElem_mem hi)
      have hv2:=hv.long vl
      obtain ⟨q0,q1⟩:=hv.last vl
      obtain ⟨g1,g2⟩:=hs.step q0 q1 (by omega)
      have wx:IntKind.wrap .i64 ((d.Instances[i].Nets.length:Int) - 1) = ((d.Instances[i].Nets.length - 1:Nat):Int):=by rw [wrap64 (by omega) (by omega)]; omega
      refine ⟨?_,hs.bump q0 q1⟩
      simp only [F_0_L3.eq_2,dlt hi,cT,getI_el hi,obs,wx,gI (show d.Instances[i].Nets.length - 1 < d.Instances[i].Nets.length by omega),wT i]
      rw [show gd d.Instances[i].Nets (d.Instances[i].Nets.length - 1) = lastN d.Instances[i] from rfl,g1,obs,obs,g2]; rfl) (by
      intro m s _
      simp only [F_0_L3.eq_2,dnl,cF]) n (List.replicate d.Nets.length 0) ⟨by simp,fun j=>by rw [gd_rep]; omega⟩ (by omega)
     rw [k1.1]
     have k2:=loop_fold (xs:=d.Ports) (L:=fun m i s=>F_0_L4 d (fun i155 l157=>F_0_L5 l157 (fun i161=>some true) n 0) m i s) (k:=fun s=>F_0_L5 s (fun i161=>some true) n 0) cP (fun i s=>Ctr d.Nets.length (d.Instances.length + i) s) (by
      intro m i hi s hs
      have hv:=v2 _ (List.getElem_mem hi)
      obtain ⟨g1,g2⟩:=hs.step hv.net.1 (by have:=hv.net.2; omega) (by omega)
      simp only [F_0_L4.eq_2,dlt hi,cT,getI_el hi,obs,wT i,g1,g2]
      by_cases c:d.Ports[i].Dir = 1
      ·have e:(d.Ports[i].Dir == 1) = true:=beq_iff_eq.2 c
       have e':cP s d.Ports[i] = bumpT s d.Ports[i].Net:=if_pos c
       rw [e,cT,e']
       exact ⟨rfl,hs.bump hv.net.1 (by have:=hv.net.2; omega)⟩
      ·have e:(d.Ports[i].Dir == 1) = false:=beq_eq_false_iff_ne.2 c
       have e':cP s d.Ports[i] = s:=if_neg c
       rw [e,cF,e']
       exact ⟨rfl,hs.up⟩) (by
      intro m s _
      simp only [F_0_L4.eq_2,dnl,cF]) n _ k1.2 (by omega)
     rw [k2.1]
     show Tells _ (F_0_L5 (drv d) (fun i161=>some true) n 0)
     have hlen:(drv d).length = d.Nets.length:=k2.2.1
     refine (loopT (L:=fun m i=>F_0_L5 (drv d) (fun i161=>some true) m i) (Q:=True) d.Nets.length 0 (fun i=>gd (drv d) i = 1) ?_ ?_ n 0 (by omega) (by omega) (by omega) (fun j _ h=>by omega)).iff ⟨fun a=>⟨vl,⟨c.1.1,c.1.2,c.2⟩,v1,v2,h1.1 rfl,h2.1 rfl,h3.1 rfl,fun i hi=>a.1 i (by omega) hi⟩,fun v=>⟨fun i _ hi=>v.one i hi,trivial⟩⟩
     ·intro m i _ hi
      have hi':i < (drv d).length:=by omega
      simp only [F_0_L5.eq_2,dlt hi',cT,gI hi',obs,wT i]
      by_cases c:gd (drv d) i = 1
      ·have e:(gd (drv d) i != 1) = false:=bne_eq_false_iff_eq.2 c
       rw [e,cF]; exact .inl ⟨c,rfl⟩
      ·have e:(gd (drv d) i != 1) = true:=bne_iff_ne.2 c
       rw [e,cT]; exact .inr ⟨c,rfl⟩
     ·intro m i q1 q2 _
      obtain rfl:i = d.Nets.length:=by omega
      rw [← hlen]
      simp only [F_0_L5.eq_2,dnl,cF]
      exact Tells.yes trivial
  ·have e:(decide ((d.Instances.length:Int) > 14) || decide ((d.Nets.length:Int) > 30) || decide ((d.Ports.length:Int) > 8)) = true:=by simp only [Bool.or_eq_true,decide_eq_true_eq]; omega
   simp only [e,cT,obs]
   exact Tells.no fun v=>c ⟨⟨v.few.1,v.few.2.1⟩,v.few.2.2⟩
 ·simp only [Bool.not_false,Bool.true_or,cT,obs]
  exact Tells.no fun v=>vl v.lib
theorem Hn2 {n:Nat} {d:S_Design} (hd:SMDs d) (hn:1048577 ≤ n):Tells (((((d.Instances.length ≤ 14 ∧ d.Nets.length ≤ 30) ∧ d.Ports.length ≤ 8) ∧ NamesOK (d.Instances.map (·.Name))) ∧ NamesOK d.Nets) ∧ NamesOK (d.Ports.map (·.Name))) (F_q n d):=by
 have hi0:=hd.inst.1; have hp0:=hd.ports.1; have hn0:=hd.nets.1
 rw [F_q]
 rw [loop_names (xs:=d.Instances) (·.Name) (L:=fun m s i=>F_q_L1 d _ m s i) (k:=fun s=>F_q_L2 d _ n [] 0) hi0 (by
  intro m i hi s
  simp only [F_q_L1.eq_2,dlt hi,cT,getI_el hi,obs,wT i]) (by
  intro m s
  simp only [F_q_L1.eq_2,dnl,cF]; rfl) n (by omega)]
 rw [loop_names (xs:=d.Ports) (·.Name) (L:=fun m s i=>F_q_L2 d _ m s i) hp0 (by
  intro m i hi s
  simp only [F_q_L2.eq_2,dlt hi,cT,getI_el hi,obs,wT i]) (by
  intro m s
  simp only [F_q_L2.eq_2,dnl,cF]; rfl) n (by omega)]
 simp only [bind_eta,List.length_map]
 refine Tells.ab (Tells.and (P:=(d.Instances.length ≤ 14 ∧ d.Nets.length ≤ 30) ∧ d.Ports.length ≤ 8) (Q:=NamesOK (d.Instances.map fun x:S_Instance=>x.Name)) ?_ fun _=>AN (xs:=d.Instances.map fun x:S_Instance=>x.Name) (by simpa using hi0) (fun x hx=>by obtain ⟨y,hy,rfl⟩:=List.mem_map.1 hx; exact (hd.inst.2 y hy).1) hn) fun c1 e1=>?_
 ·simp only [Bool.and_eq_true,decide_eq_true_eq]; omega
 refine Tells.ab (Tells.and (Q:=NamesOK d.Nets) e1 fun _=>AN hn0 hd.nets.2 hn) fun c2 e2=>?_
 exact Tells.and (Q:=NamesOK (d.Ports.map fun x:S_Port=>x.Name)) e2 fun _=>AN (xs:=d.Ports.map fun x:S_Port=>x.Name) (by simpa using hp0) (fun x hx=>by obtain ⟨y,hy,rfl⟩:=List.mem_map.1 hx; exact hd.ports.2 y hy) hn
theorem nN {n:Nat} {d:S_Design} {q:Int} (hn0:d.Nets.length ≤ 1048576):F_2o n d q = some (decide (q ≥ 0) && decide (q ≤ (d.Nets.length:Int) - 1)):=by
 have wN:IntKind.wrap .i64 ((d.Nets.length:Int) - 1) = (d.Nets.length:Int) - 1:=wrap64 (by omega) (by omega)
 simp only [F_2o,F_3z,F_5,obs,wN]
theorem Ins2 {n:Nat} {l:S_Library} {d:S_Design} {x:S_Instance} (hl:VLib l) (hn0:d.Nets.length ≤ 1048576) (hx:x.Nets.length ≤ 1048576) (hn:1048577 ≤ n):Tells (VInst l d x) (F_3k n d l x):=by
 have hl0:=hl.few
 have wL:IntKind.wrap .i64 ((l.Cells.length:Int) - 1) = (l.Cells.length:Int) - 1:=wrap64 (by omega) (by omega)
 rw [F_3k]
 simp only [F_3y,F_5,obs,wL,bind_eta]
 by_cases c1:0 ≤ x.Cell ∧ x.Cell ≤ (l.Cells.length:Int) - 1
 ·obtain ⟨c,ec,hc⟩:=getI_ok (xs:=l.Cells) c1.1 (by omega)
  have d1:(decide (x.Cell ≥ 0) && decide (x.Cell ≤ (l.Cells.length:Int) - 1)) = true:=by simp only [Bool.and_eq_true,decide_eq_true_eq]; omega
  simp only [d1,cT,ec,obs]
  by_cases c2:x.Nets.length = c.Pins.length
  ·have d2:((x.Nets.length:Int) == (c.Pins.length:Int)) = true:=by rw [beq_iff_eq]; omega
   simp only [d2,cT,F_41,F_1u]
   obtain ⟨r,e,h⟩:=loop_has (xs:=x.Nets) (L:=fun m i=>F_1u_L1 n x.Nets d (fun i7=>(some (-1))) m i) (fun q=>!((decide (q ≥ 0)) && (decide (q ≤ (d.Nets.length:Int) - 1)))) (by
    intro m i hi
    simp only [F_1u_L1.eq_2,dlt hi,cT,getI_el hi,obs,F_40,nN hn0,wT i]) (by
    intro m
    simp only [F_1u_L1.eq_2,dnl,cF]) n (by omega)
   simp only [e,obs]
   refine (Tells.val (P:=Win x.Nets 0 ((d.Nets.length:Int) - 1)) ?_).iff ⟨fun w=>⟨c1,fun c' e'=>(by rw [ec] at e'; cases e'; exact c2),w⟩,fun v=>v.nets⟩
   rw [h,List.any_eq_not_all_not,Bool.not_not]
   simp only [Bool.not_not]
   exact AllGd
  ·have d2:((x.Nets.length:Int) == (c.Pins.length:Int)) = false:=by rw [beq_eq_false_iff_ne]; omega
   simp only [d2,cF]
   exact Tells.no fun v=>c2 (v.pins c ec)
 ·have d1:(decide (x.Cell ≥ 0) && decide (x.Cell ≤ (l.Cells.length:Int) - 1)) = false:=by rw [Bool.and_eq_false_iff,decide_eq_false_iff_not,decide_eq_false_iff_not]; omega
  simp only [d1,cF,obs]
  exact Tells.no fun v=>c1 v.cell
theorem Dg2 {n:Nat} {l:S_Library} {d:S_Design} (h:SMLb l) (hd:SMDs d) (hn:1048577 ≤ n):Tells (VDesign l d) (F_r n l d):=by
 have hi0:=hd.inst.1; have hp0:=hd.ports.1; have hn0:=hd.nets.1
 rw [F_r]
 refine (Lb2 h hn).bind (fun vl=>?_) (fun vl=>?_)
 ·simp only [Bool.not_true,cF]
  obtain ⟨b,eb,hb⟩:=Hn2 (n:=n) hd hn
  rw [eb,obs,obs]
  cases b with
  | false =>
   simp only [Bool.not_false,cT]
   exact Tells.no fun v=>by have:=hb.2 ⟨⟨⟨⟨⟨v.few.1,v.few.2.1⟩,v.few.2.2⟩,v.ni⟩,v.nn⟩,v.np⟩; cases this
  | true =>
   obtain ⟨⟨⟨c,hni⟩,hnn⟩,hnp⟩:=hb.1 rfl
   simp only [Bool.not_true,cF]
   rw [mkN_ok (by omega) (by omega),obs]
   refine loop (L:=fun m i s=>F_r_L1 n l d _ m i s) d.Instances.length (fun i s=>(s = (d.Instances.take i).foldl cI (List.replicate d.Nets.length 0) ∧ Ctr d.Nets.length i s) ∧ ∀ j (hj:j < d.Instances.length),j < i → VInst l d d.Instances[j]) (fun o=>Tells (VDesign l d) o) ?_ ?_ n 0 _ (by omega) (by omega) ⟨⟨by simp,⟨by simp,fun j=>by rw [gd_rep]; omega⟩⟩,fun j _ h=>by omega⟩
   ·intro m i s hi ⟨⟨hs,hc⟩,hI⟩
    obtain ⟨b,eb,hb⟩:=Ins2 (n:=n) vl hn0 (hd.inst.2 _ (List.getElem_mem hi)).2 hn
    simp only [F_r_L1.eq_2,dlt hi,cT,getI_el hi,obs,eb,wT i]
    cases b with
    | false =>
     simp only [Bool.not_false,cT]
     exact .inr (Tells.no fun v=>by have:=hb.2 (v.inst _ (List.getElem_mem hi)); cases this)
    | true =>
     simp only [Bool.not_true,cF]
     have hv:=hb.1 rfl
     have hv2:=hv.long vl
     obtain ⟨q0,q1⟩:=hv.last vl
     obtain ⟨g1,g2⟩:=hc.step q0 q1 (by omega)
     have wx:IntKind.wrap .i64 ((d.Instances[i].Nets.length:Int) - 1) = ((d.Instances[i].Nets.length - 1:Nat):Int):=by rw [wrap64 (by omega) (by omega)]; omega
     refine .inl ⟨cI s d.Instances[i],⟨⟨by rw [foldl_take hi,hs],hc.bump q0 q1⟩,fun j hj hji=>?_⟩,?_⟩
     ·by_cases ej:j = i
      ·subst ej; exact hv
      ·exact hI j hj (by omega)
     ·rw [wx,gI (show d.Instances[i].Nets.length - 1 < d.Instances[i].Nets.length by omega),show gd d.Instances[i].Nets (d.Instances[i].Nets.length - 1) = lastN d.Instances[i] from rfl,obs,g1,obs,obs,g2]; rfl
   ·intro m s ⟨⟨hs,hc⟩,hI⟩
    rw [List.take_length] at hs
    have v1:∀ x ∈ d.Instances,VInst l d x:=fun x hx=>by obtain ⟨j,hj,rfl⟩:=List.getElem_of_mem hx; exact hI j hj hj
    simp only [F_r_L1.eq_2,dnl,cF]
    refine loop (L:=fun m i s=>F_r_L2 n d _ m i s) d.Ports.length (fun i s'=>(s' = (d.Ports.take i).foldl cP s ∧ Ctr d.Nets.length (d.Instances.length + i) s') ∧ ∀ j (hj:j < d.Ports.length),j < i → VPort d d.Ports[j]) (fun o=>Tells (VDesign l d) o) ?_ ?_ n 0 _ (by omega) (by omega) ⟨⟨by simp,hc⟩,fun j _ h=>by omega⟩
    ·intro m i s' hi ⟨⟨hs',hc'⟩,hI'⟩
     simp only [F_r_L2.eq_2,dlt hi,cT,getI_el hi,obs,nN hn0,bif_or,wT i]
     cases e1:(((d.Ports[i].Dir != 1) && (d.Ports[i].Dir != 2)) || !(decide (d.Ports[i].Net ≥ 0) && decide (d.Ports[i].Net ≤ (d.Nets.length:Int) - 1))) with
     | true =>
      rw [cT]
      refine .inr (Tells.no fun v=>?_)
      have g:=v.port _ (List.getElem_mem hi)
      have:=g.dir; have:=g.net
      simp only [Bool.or_eq_true,Bool.not_eq_true',Bool.and_eq_false_iff,Bool.and_eq_true,decide_eq_false_iff_not,bne_iff_ne,ne_eq] at e1; omega
     | false =>
      rw [cF]
      simp only [Bool.or_eq_false_iff,Bool.not_eq_false',Bool.and_eq_true,Bool.and_eq_false_iff,decide_eq_true_eq,bne_eq_false_iff_eq] at e1
      have hv:VPort d d.Ports[i]:=⟨e1.1,e1.2⟩
      obtain ⟨g1,g2⟩:=hc'.step hv.net.1 (by have:=hv.net.2; omega) (by omega)
      have hV:∀ j (hj:j < d.Ports.length),j < i + 1 → VPort d d.Ports[j]:=fun j hj hji=>by
       by_cases ej:j = i
       ·subst ej; exact hv
       ·exact hI' j hj (by omega)
      simp only [g1,g2,obs]
      by_cases c:d.Ports[i].Dir = 1
      ·have e:(d.Ports[i].Dir == 1) = true:=beq_iff_eq.2 c
       have e':cP s' d.Ports[i] = bumpT s' d.Ports[i].Net:=if_pos c
       rw [e,cT]
       exact .inl ⟨_,⟨⟨by rw [foldl_take hi,← hs',e'],hc'.bump hv.net.1 (by have:=hv.net.2; omega)⟩,hV⟩,rfl⟩
      ·have e:(d.Ports[i].Dir == 1) = false:=beq_eq_false_iff_ne.2 c
       have e':cP s' d.Ports[i] = s':=if_neg c
       rw [e,cF]
       exact .inl ⟨_,⟨⟨by rw [foldl_take hi,← hs',e'],hc'.up⟩,hV⟩,rfl⟩
    ·intro m s' ⟨⟨hs',hc'⟩,hI'⟩
     rw [List.take_length,hs] at hs'
     have hs':s' = drv d:=hs'
     have v2:∀ p ∈ d.Ports,VPort d p:=fun x hx=>by obtain ⟨j,hj,rfl⟩:=List.getElem_of_mem hx; exact hI' j hj hj
     simp only [F_r_L2.eq_2,dnl,cF,F_2x,F_1v]
     have hl':=hc'.1
     obtain ⟨r,e,h⟩:=loop_has (xs:=s') (L:=fun m i=>F_1v_L1 n s' (fun i7=>(some (-1))) m i) (fun q=>q != 1) (by
      intro m i hi
      simp only [F_1v_L1.eq_2,dlt hi,cT,getI_el hi,obs,F_42,wT i]) (by
      intro m
      simp only [F_1v_L1.eq_2,dnl,cF]) n (by omega)
     simp only [e,obs]
     refine Tells.val ?_
     rw [h,Bool.not_eq_true',List.any_eq_false]
     refine ⟨fun a=>⟨vl,⟨c.1.1,c.1.2,c.2⟩,v1,v2,hni,hnp,hnn,fun i hi=>?_⟩,fun v x hx=>?_⟩
     ·have:=a s'[i] (List.getElem_mem (by omega))
      rw [← hs',gd_get (List.getElem?_eq_getElem (show i < s'.length by omega))]
      simpa using this
     ·obtain ⟨j,hj,rfl⟩:=List.getElem_of_mem hx
      have:=v.one j (by omega)
      rw [← hs',gd_get (List.getElem?_eq_getElem hj)] at this
      simp [this]
 ·simp only [Bool.not_false,cT,obs]
  exact Tells.no fun v=>vl v.lib
def idx {α β:Type} (g:Nat → α → List β):Nat → List α → List β
 | _,[]=>[]
 | i,x :: xs=>g i x ++ idx g (i + 1) xs
theorem idx_append {α β:Type} {g:Nat → α → List β}:∀ (xs ys:List α) (i:Nat),idx g i (xs ++ ys) = idx g i xs ++ idx g (i + xs.length) ys
 | [],ys,i=>by simp [idx]
 | x :: xs,ys,i=>by simp only [List.cons_append,idx,idx_append xs ys (i + 1),List.append_assoc,List.length_cons]; rw [show i + 1 + xs.length = i + (xs.length + 1) by omega]
theorem idx_take {α β:Type} {g:Nat → α → List β} {xs:List α} {i:Nat} (h:i < xs.length):idx g 0 (xs.take (i + 1)) = idx g 0 (xs.take i) ++ g i xs[i]:=by
 rw [List.take_succ_eq_append_getElem h,idx_append]
 simp [idx,Nat.min_eq_left (Nat.le_of_lt h)]
theorem idx_len {α β:Type} {g:Nat → α → List β} {c:Nat}:∀ (xs:List α) (i:Nat),(∀ j,∀ x ∈ xs,(g j x).length ≤ c) → (idx g i xs).length ≤ xs.length * c
 | [],i,_=>by simp [idx]
 | x :: xs,i,h=>by
  have h1:=h i x (by simp)
  have h2:=idx_len xs (i + 1) fun j y hy=>h j y (by simp [hy])
  simp only [idx,List.length_append,List.length_cons,Nat.add_mul]; omega
theorem idx_map {α β γ:Type} {g:Nat → α → List β} (f:β → γ):∀ (xs:List α) (i:Nat),(idx g i xs).map f = idx (fun i x=>(g i x).map f) i xs
 | [],i=>rfl
 | x :: xs,i=>by simp only [idx,List.map_append,idx_map f xs (i + 1)]
theorem loop_idx {α β R:Type} {xs:List α} {L:Nat → List β → Int → Option R} {k:List β → Option R} (g:Nat → α → List β) (c B:Nat) (hg:∀ j,∀ x ∈ xs,(g j x).length ≤ c) (hB:B + xs.length * c ≤ 1048576)
 (hs:∀ (m i:Nat) (h:i < xs.length) (s:List β),s.length + c ≤ 1048576 → L (m + 1) s (i:Int) = L m (s ++ g i xs[i]) ((i + 1:Nat):Int))
 (he:∀ (m:Nat) (s:List β),L (m + 1) s (xs.length:Int) = k s) (m:Nat) (hm:xs.length < m) (s0:List β) (h0:s0.length ≤ B):L m s0 0 = k (s0 ++ idx g 0 xs):=by
 refine loop (L:=fun m i s=>L m s i) xs.length (fun i s=>s = s0 ++ idx g 0 (xs.take i)) (fun o=>o = k (s0 ++ idx g 0 xs)) ?_ ?_ m 0 s0 (by omega) (by omega) (by simp [idx])
 ·intro m i s hi e
  refine .inl ⟨s ++ g i xs[i],?_,hs m i hi s ?_⟩
  ·rw [e,idx_take hi,List.append_assoc]
  ·have h1:=idx_len (g:=g) (c:=c) (xs.take i) 0 fun j y hy=>hg j y (List.mem_of_mem_take hy)
   have h2:(xs.take i).length = i:=by simp; omega
   rw [h2] at h1
   have h3:(i + 1) * c ≤ xs.length * c:=Nat.mul_le_mul_right c hi
   rw [Nat.add_mul] at h3
   rw [e,List.length_append]; omega
 ·intro m s e
  rw [List.take_length] at e
  show L (m + 1) s (xs.length:Int) = _
  rw [he,e]
def plI (i:Nat) (x:S_Instance):List S_place:=idx (fun j q=>[S_place.mk i j q ((j:Int) == (x.Nets.length:Int) - 1)]) 0 x.Nets
def plP (i:Nat) (p:S_Port):List S_place:=[S_place.mk (-1) i p.Net (p.Dir == 1)]
def pls (d:S_Design):List S_place:=idx plI 0 d.Instances ++ idx plP 0 d.Ports
def toP (p:S_place):S_l05Place:=⟨p.instance_,p.pin_,p.net_,p.drives_⟩
theorem plI_len {i:Nat} {x:S_Instance} (h:x.Nets.length ≤ 5):(plI i x).length ≤ 5:=by
 have:=idx_len (c:=1) (g:=fun j q=>[S_place.mk i j q ((j:Int) == (x.Nets.length:Int) - 1)]) x.Nets 0 fun j q _=>by simp
 unfold plI; omega
theorem pls_len {d:S_Design} (h:∀ x ∈ d.Instances,x.Nets.length ≤ 5) (h1:d.Instances.length ≤ 14) (h2:d.Ports.length ≤ 8):(pls d).length ≤ 78:=by
 have a:=idx_len (c:=5) (g:=plI) d.Instances 0 fun j q hq=>plI_len (h q hq)
 have b:=idx_len (c:=1) (g:=plP) d.Ports 0 fun j q _=>by simp [plP]
 unfold pls; rw [List.length_append]; omega
theorem Pls2 {n:Nat} {d:S_Design} (h:∀ x ∈ d.Instances,x.Nets.length ≤ 5) (h1:d.Instances.length ≤ 14) (h2:d.Ports.length ≤ 8) (hn:1048577 ≤ n):F_6 n d = some (pls d):=by
 rw [F_6]
 have a:=idx_len (c:=5) (g:=plI) d.Instances 0 fun j q hq=>plI_len (h q hq)
 rw [loop_idx (xs:=d.Instances) (L:=fun m s i=>F_6_L1 n d _ m s i) (k:=fun s=>F_6_L3 d _ n s 0) plI 5 0 (fun j q hq=>plI_len (h q hq)) (by omega) (by
  intro m i hi s hs
  have hx:=h _ (List.getElem_mem hi)
  have wx:IntKind.wrap .i64 ((d.Instances[i].Nets.length:Int) - 1) = (d.Instances[i].Nets.length:Int) - 1:=wrap64 (by omega) (by omega)
  simp only [F_6_L1.eq_2,dlt hi,cT,getI_el hi,obs,wT i]
  refine loop_idx (xs:=d.Instances[i].Nets) (L:=fun m s j=>F_6_L2 (i:Int) d.Instances[i] _ m s j) (k:=fun s=>F_6_L1 n d _ m s ((i + 1:Nat):Int)) (fun j q=>[S_place.mk i j q ((j:Int) == (d.Instances[i].Nets.length:Int) - 1)]) 1 s.length (fun j q _=>by simp) (by omega) ?_ ?_ n (by omega) s (by omega)
  ·intro m j hj s hs
   simp only [F_6_L2.eq_2,dlt hj,cT,getI_el hj,obs,wx,wT j]
   rw [appN_ok (by simp; omega) (by omega),obs]
  ·intro m s
   simp only [F_6_L2.eq_2,dnl,cF]) (by
  intro m s
  simp only [F_6_L1.eq_2,dnl,cF]; rfl) n (by omega) [] (by simp)]
 rw [loop_idx (xs:=d.Ports) (L:=fun m s i=>F_6_L3 d _ m s i) (k:=fun s=>some s) plP 1 70 (fun j q _=>by simp [plP]) (by omega) (by
  intro m i hi s hs
  simp only [F_6_L3.eq_2,dlt hi,cT,getI_el hi,obs,wT i]
  rw [appN_ok (by simp; omega) (by omega),obs]; rfl) (by
  intro m s
  simp only [F_6_L3.eq_2,dnl,cF]) n (by omega) _ (by simp; omega)]
 simp [pls]
theorem Pls1 {n:Nat} {d:S_Design} (h:∀ x ∈ d.Instances,x.Nets.length ≤ 5) (h1:d.Instances.length ≤ 14) (h2:d.Ports.length ≤ 8) (hn:1048577 ≤ n):F_4 n d = some ((pls d).map toP):=by
 rw [F_4]
 have hlI:∀ j,∀ x ∈ d.Instances,((plI j x).map toP).length ≤ 5:=fun j x hx=>by rw [List.length_map]; exact plI_len (h x hx)
 have a:=idx_len (c:=5) (g:=fun i x=>(plI i x).map toP) d.Instances 0 hlI
 rw [loop_idx (xs:=d.Instances) (L:=fun m s i=>F_4_L1 n d _ m s i) (k:=fun s=>F_4_L3 d _ n s 0) (fun i x=>(plI i x).map toP) 5 0 hlI (by omega) (by
  intro m i hi s hs
  have hx:=h _ (List.getElem_mem hi)
  have wx:IntKind.wrap .i64 ((d.Instances[i].Nets.length:Int) - 1) = (d.Instances[i].Nets.length:Int) - 1:=wrap64 (by omega) (by omega)
  simp only [F_4_L1.eq_2,dlt hi,cT,getI_el hi,obs,wT i]
  rw [plI,idx_map]
  refine loop_idx (xs:=d.Instances[i].Nets) (L:=fun m s j=>F_4_L2 (i:Int) d.Instances[i] _ m s j) (k:=fun s=>F_4_L1 n d _ m s ((i + 1:Nat):Int)) (fun j q=>[S_place.mk i j q ((j:Int) == (d.Instances[i].Nets.length:Int) - 1)].map toP) 1 s.length (fun j q _=>by simp) (by omega) ?_ ?_ n (by omega) s (by omega)
  ·intro m j hj s hs
   simp only [F_4_L2.eq_2,dlt hj,cT,getI_el hj,obs,wx,wT j]
   rw [appN_ok (by simp; omega) (by omega),obs]; rfl
  ·intro m s
   simp only [F_4_L2.eq_2,dnl,cF]) (by
  intro m s
  simp only [F_4_L1.eq_2,dnl,cF]; rfl) n (by omega) [] (by simp)]
 rw [loop_idx (xs:=d.Ports) (L:=fun m s i=>F_4_L3 d _ m s i) (k:=fun s=>some s) (fun i x=>(plP i x).map toP) 1 70 (fun j q _=>by simp [plP]) (by omega) (by
  intro m i hi s hs
  simp only [F_4_L3.eq_2,dlt hi,cT,getI_el hi,obs,wT i]
  rw [appN_ok (by simp; omega) (by omega),obs]; rfl) (by
  intro m s
  simp only [F_4_L3.eq_2,dnl,cF]) n (by omega) _ (by simp; omega)]
 simp [pls,idx_map]
def isSnk (q:Int) (p:S_place):Bool:=p.net_ == q && !p.drives_
def snk (d:S_Design) (q:Int):Nat:=(pls d).countP (isSnk q)
structure VBlock (b:S_Block):Prop where
 design:VDesign b.Library b.Design
 many:b.Wires.length = b.Design.Nets.length
 wire:∀ i (h:i < b.Wires.length),VWire b.Wires[i] (snk b.Design i)
def SMW (w:S_Wire):Prop:=((w.Parent.length ≤ 1048576 ∧ w.Res.length ≤ 1048576) ∧ w.Cap.length ≤ 1048576) ∧ w.Sink.length ≤ 1048576
structure SMBl (b:S_Block):Prop where
 lib:SMLb b.Library
 design:SMDs b.Design
 wires:b.Wires.length ≤ 1048576 ∧ ∀ w ∈ b.Wires,SMW w
theorem VDesign.short {l:S_Library} {d:S_Design} (v:VDesign l d):∀ x ∈ d.Instances,x.Nets.length ≤ 5:=fun x hx=>((v.inst x hx).long v.lib).2
theorem idx_all {α β:Type} {g:Nat → α → List β} {Q:β → Prop}:∀ (xs:List α) (i:Nat),(∀ j (h:j < xs.length),∀ y ∈ g (i + j) xs[j],Q y) → ∀ y ∈ idx g i xs,Q y
 | [],i,_,y,hy=>by simp [idx] at hy
 | x :: xs,i,h,y,hy=>by
  simp only [idx,List.mem_append] at hy
  rcases hy with hy | hy
  ·exact h 0 (by simp) y (by simpa using hy)
  ·refine idx_all xs (i + 1) (fun j hj y hy=>h (j + 1) (by simpa using hj) y ?_) y hy
   simpa [show i + 1 + j = i + (j + 1) by omega] using hy
theorem VDesign.net {l:S_Library} {d:S_Design} (v:VDesign l d):∀ p ∈ pls d,0 ≤ p.net_ ∧ p.net_ < d.Nets.length:=by
 intro p hp
 simp only [pls,List.mem_append] at hp
 rcases hp with hp | hp
 ·refine idx_all (Q:=fun p:S_place=>0 ≤ p.net_ ∧ p.net_ < d.Nets.length) d.Instances 0 (fun j hj y hy=>?_) p hp
  refine idx_all (Q:=fun p:S_place=>0 ≤ p.net_ ∧ p.net_ < d.Nets.length) _ 0 (fun k hk z hz=>?_) y hy
  have:=(v.inst _ (List.getElem_mem hj)).nets k hk
  rw [gd_get (List.getElem?_eq_getElem hk)] at this
  simp only [List.mem_singleton] at hz
  subst hz; show 0 ≤ d.Instances[j].Nets[k] ∧ d.Instances[j].Nets[k] < _; omega
 ·refine idx_all (Q:=fun p:S_place=>0 ≤ p.net_ ∧ p.net_ < d.Nets.length) d.Ports 0 (fun j hj y hy=>?_) p hp
  have:=(v.port _ (List.getElem_mem hj)).net
  simp only [plP,List.mem_singleton] at hy
  subst hy; show 0 ≤ d.Ports[j].Net ∧ d.Ports[j].Net < _; omega
def snkI (d:S_Design) (q:Int):List Int:=idx (fun i p=>if isSnk q p = true then [(i:Int)] else []) 0 (pls d)
theorem snkI_len {d:S_Design} {q:Int}:(snkI d q).length = snk d q:=by
 have:∀ (xs:List S_place) (i:Nat),(idx (fun i p=>if isSnk q p = true then [(i:Int)] else []) i xs).length = xs.countP (isSnk q):=by
  intro xs
  induction xs with
  | nil=>intro i; rfl
  | cons x xs ih =>
   intro i
   simp only [idx,List.length_append,ih,List.countP_cons]
   split <;> simp <;> omega
 exact this _ 0
theorem Snk1 {n:Nat} {l:S_Library} {d:S_Design} (v:VDesign l d) (q:Int) (hn:1048577 ≤ n):F_07 n d q = some (snkI d q):=by
 rw [F_07,Pls1 v.short v.few.1 v.few.2.2 hn,obs]
 have hl:=pls_len v.short v.few.1 v.few.2.2
 have e:((pls d).map toP).length = (pls d).length:=by simp
 have:=loop_idx (xs:=(pls d).map toP) (L:=fun m s i=>F_07_L1 q ((pls d).map toP) (fun l38 i42=>some l38) m s i) (k:=fun s=>some s) (fun i p=>if (p.net_ == q && !p.drives_) = true then [(i:Int)] else []) 1 0 (fun j p _=>by split <;> simp) (by omega) (by
  intro m i hi s hs
  simp only [F_07_L1.eq_2,dlt hi,cT,getI_el hi,obs,bif_and,wT i]
  cases c:(((pls d).map toP)[i].net_ == q && !((pls d).map toP)[i].drives_) with
  | true=>rw [cT,if_pos rfl,appN_ok (by simp; omega) (by omega),obs]
  | false=>rw [cF,if_neg (by simp),List.append_nil]) (by
  intro m s
  simp only [F_07_L1.eq_2,dnl,cF]) n (by omega) [] (by simp)
 rw [this,List.nil_append]
 congr 1
 have:∀ (xs:List S_place) (i:Nat),idx (fun i (p:S_l05Place)=>if (p.net_ == q && !p.drives_) = true then [(i:Int)] else []) i (xs.map toP) = idx (fun i p=>if isSnk q p = true then [(i:Int)] else []) i xs:=by
  intro xs
  induction xs with
  | nil=>intro i; rfl
  | cons x xs ih=>intro i; simp only [List.map_cons,idx,ih]; rfl
 exact this _ 0
theorem Bk1 {n:Nat} {b:S_Block} (h:SMBl b) (hn:1048577 ≤ n):Tells (VBlock b) (F_0z n b):=by
 have hw0:=h.wires.1
 rw [F_0z]
 refine (Dg1 h.lib h.design hn).bind (fun v=>?_) (fun v=>?_)
 ·simp only [Bool.not_true,Bool.false_or]
  refine Tells.bif (fun c=>Tells.no fun g=>?_) (fun c=>?_)
  ·have:=g.many; rw [bne_iff_ne] at c; omega
  ·rw [bne_eq_false_iff_eq] at c
   refine (loopT (L:=fun m i=>F_0z_L1 n b _ m i) (Q:=True) b.Wires.length 0 (fun i=>∀ (hi:i < b.Wires.length),VWire b.Wires[i] (snk b.Design i)) ?_ ?_ n 0 (by omega) (by omega) (by omega) (fun j _ h=>by omega)).iff ⟨fun a=>⟨v,by omega,fun i hi=>a.1 i (by omega) hi hi⟩,fun a=>⟨fun i _ _ hi=>a.wire i hi,trivial⟩⟩
   ·intro m i _ hi
    obtain ⟨r,e,hr⟩:=Wr1 (n:=n) (w:=b.Wires[i]) (s:=(snk b.Design i:Int)) (h.wires.2 _ (List.getElem_mem hi)).2 hn
    simp only [F_0z_L1.eq_2,dlt hi,cT,getI_el hi,obs,Snk1 v _ hn,snkI_len,e,wT i]
    cases r with
    | true=>exact .inl ⟨fun _=>hr.1 rfl,by trivial⟩
    | false=>exact .inr ⟨fun g=>(by have:=hr.2 (g hi); cases this),by trivial⟩
   ·intro m i h1 h2 _
    obtain rfl:i = b.Wires.length:=by omega
    simp only [F_0z_L1.eq_2,dnl,cF]
    exact Tells.yes trivial
 ·simp only [Bool.not_false,Bool.true_or,cT]
  exact Tells.no fun g=>v g.design
theorem Bk2 {n:Nat} {b:S_Block} (h:SMBl b) (hn:1048577 ≤ n):Tells (VBlock b) (F_s n b):=by
 have hw0:=h.wires.1
 rw [F_s]
 refine (Dg2 h.lib h.design hn).bind (fun v=>?_) (fun v=>?_)
 ·simp only [Bool.not_true,Bool.false_or]
  refine Tells.bif (fun c=>Tells.no fun g=>?_) (fun c=>?_)
  ·have:=g.many; rw [bne_iff_ne] at c; omega
  ·rw [bne_eq_false_iff_eq] at c
   have hl:=pls_len v.short v.few.1 v.few.2.2
   rw [mkN_ok (by omega) (by omega),obs,Pls2 v.short v.few.1 v.few.2.2 hn,obs]
   refine loop (L:=fun m i s=>F_s_L1 (pls b.Design) _ m i s) (pls b.Design).length (fun i s=>Ctr b.Wires.length i s ∧ ∀ q:Nat,q < b.Wires.length → gd s q = ((pls b.Design).take i).countP (isSnk q)) (fun o=>Tells (VBlock b) o) ?_ ?_ n 0 _ (by omega) (by omega) ⟨⟨by simp,fun j=>by rw [gd_rep]; omega⟩,fun q _=>by rw [gd_rep]; simp⟩
   ·intro m i s hi ⟨hc,hs⟩
    have hp:=v.net _ (List.getElem_mem hi)
    obtain ⟨g1,g2⟩:=hc.step hp.1 (by omega) (by omega)
    simp only [F_s_L1.eq_2,dlt hi,cT,getI_el hi,obs,g1,g2,wT i]
    cases hd:(pls b.Design)[i].drives_ with
    | true =>
     simp only [Bool.not_true,cF]
     refine .inl ⟨s,⟨hc.up,fun q hq=>?_⟩,rfl⟩
     rw [hs q hq,List.take_succ_eq_append_getElem hi,List.countP_append]
     simp [isSnk,hd]
    | false =>
     simp only [Bool.not_false,cT]
     refine .inl ⟨_,⟨hc.bump hp.1 (by omega),fun q hq=>?_⟩,rfl⟩
     rw [List.take_succ_eq_append_getElem hi,List.countP_append]
     unfold bumpT
     rw [gd_set (by have:=hc.1; omega)]
     by_cases e:(pls b.Design)[i].net_.toNat = q
     ·have e2:(pls b.Design)[i].net_ = (q:Int):=by omega
      rw [if_pos e,e,hs q hq]
      simp [isSnk,hd,e2]
     ·have e2:¬ (pls b.Design)[i].net_ = (q:Int):=by omega
      rw [if_neg e,hs q hq]
      simp [isSnk,hd,e2]
   ·intro m s ⟨hc,hs⟩
    simp only [F_s_L1.eq_2,dnl,cF]
    refine (loopT (L:=fun m i=>F_s_L2 n b s _ m i) (Q:=True) b.Wires.length 0 (fun i=>∀ (hi:i < b.Wires.length),VWire b.Wires[i] (snk b.Design i)) ?_ ?_ n 0 (by omega) (by omega) (by omega) (fun j _ h=>by omega)).iff ⟨fun a=>⟨v,by omega,fun i hi=>a.1 i (by omega) hi hi⟩,fun a=>⟨fun i _ _ hi=>a.wire i hi,trivial⟩⟩
    ·intro m i _ hi
     have hw:=h.wires.2 _ (List.getElem_mem hi)
     obtain ⟨r,e,hr⟩:=Wr2 (n:=n) (w:=b.Wires[i]) (s:=(snk b.Design i:Int)) hw.2 hw.1.1.2 hw.1.2 hw.1.1.1 hn
     have hg:gd s i = (snk b.Design i:Int):=by rw [hs i hi,List.take_length]; rfl
     simp only [F_s_L2.eq_2,dlt hi,cT,getI_el hi,gI (show i < s.length by rw [hc.1]; exact hi),hg,obs,e,wT i]
     cases r with
     | true=>exact .inl ⟨fun _=>hr.1 rfl,by trivial⟩
     | false=>exact .inr ⟨fun g=>(by have:=hr.2 (g hi); cases this),by trivial⟩
    ·intro m i h1 h2 _
     obtain rfl:i = b.Wires.length:=by omega
     simp only [F_s_L2.eq_2,dnl,cF]
     exact Tells.yes trivial
 ·simp only [Bool.not_false,Bool.true_or,cT]
  exact Tells.no fun g=>v g.design
theorem loop_tot {σ R:Type} {Q:R → Prop} {L:Nat → Int → σ → Option R} (N:Nat) (I:Nat → σ → Prop)
 (hs:∀ (m i:Nat) (st:σ),i < N → I i st → ∃ st',I (i + 1) st' ∧ L (m + 1) (i:Int) st = L m ((i + 1:Nat):Int) st')
 (he:∀ (m:Nat) (st:σ),I N st → Tot Q (L (m + 1) (N:Int) st)) (m:Nat) (st:σ) (hm:N < m) (h:I 0 st):Tot Q (L m 0 st) :=
 loop N I (Tot Q) (fun m i st a b=>.inl (hs m i st a b)) he m 0 st (by omega) (by omega) h
theorem loop_tot' {σ R:Type} {Q:R → Prop} {L:Nat → Int → σ → Option R} (s N:Nat) (I:Nat → σ → Prop)
 (hs:∀ (m i:Nat) (st:σ),s ≤ i → i < N → I i st → ∃ st',I (i + 1) st' ∧ L (m + 1) (i:Int) st = L m ((i + 1:Nat):Int) st')
 (he:∀ (m:Nat) (st:σ),I N st → Tot Q (L (m + 1) (N:Int) st)) (m:Nat) (st:σ) (hsN:s ≤ N) (hm:N < m) (h:I s st):Tot Q (L m (s:Int) st) :=
 loop N (fun i st=>s ≤ i ∧ I i st) (Tot Q) (fun m i st a b=>by
  obtain ⟨st',h1,h2⟩:=hs m i st b.1 a b.2
  exact .inl ⟨st',⟨by have:=b.1; omega,h1⟩,h2⟩) (fun m st h=>he m st h.2) m s st hsN (by omega) ⟨Nat.le_refl _,h⟩
theorem Snk2 {n:Nat} {l:S_Library} {d:S_Design} (v:VDesign l d) (q:Int) (hn:1048577 ≤ n):F_0o n d q = some (snkI d q):=by
 rw [F_0o,Pls2 v.short v.few.1 v.few.2.2 hn,obs]
 have hl:=pls_len v.short v.few.1 v.few.2.2
 have:=loop_idx (xs:=pls d) (L:=fun m s i=>F_0o_L1 q (pls d) (fun l29 i33=>some l29) m s i) (k:=fun s=>some s) (fun i p=>if isSnk q p = true then [(i:Int)] else []) 1 0 (fun j p _=>by split <;> simp) (by omega) (by
  intro m i hi s hs
  simp only [F_0o_L1.eq_2,dlt hi,cT,getI_el hi,obs,wT i]
  rw [show ((pls d)[i].net_ == q && !(pls d)[i].drives_) = isSnk q (pls d)[i] from rfl]
  cases c:isSnk q (pls d)[i] with
  | true=>rw [cT,if_pos rfl,appN_ok (by simp; omega) (by omega),obs]
  | false=>rw [cF,if_neg (by simp),List.append_nil]) (by
  intro m s
  simp only [F_0o_L1.eq_2,dnl,cF]) n (by omega) [] (by simp)
 rw [this,List.nil_append]; rfl
theorem snkI_rng {d:S_Design} {q:Int}:∀ x ∈ snkI d q,0 ≤ x ∧ x < (pls d).length:=by
 refine idx_all (Q:=fun x:Int=>0 ≤ x ∧ x < (pls d).length) _ 0 fun j hj y hy=>?_
 split at hy
 ·simp only [Nat.zero_add,List.mem_singleton] at hy; omega
 ·cases hy
theorem VDesign.place {l:S_Library} {d:S_Design} (v:VDesign l d):∀ p ∈ pls d,0 ≤ p.instance_ → ∃ x c pin,getI d.Instances p.instance_ = some x ∧ getI l.Cells x.Cell = some c ∧ getI c.Pins p.pin_ = some pin:=by
 intro p hp
 simp only [pls,List.mem_append] at hp
 rcases hp with hp | hp
 ·refine idx_all (Q:=fun p:S_place=>0 ≤ p.instance_ → ∃ x c pin,getI d.Instances p.instance_ = some x ∧ getI l.Cells x.Cell = some c ∧ getI c.Pins p.pin_ = some pin) d.Instances 0 (fun j hj y hy=>?_) p hp
  refine idx_all (Q:=fun p:S_place=>0 ≤ p.instance_ → ∃ x c pin,getI d.Instances p.instance_ = some x ∧ getI l.Cells x.Cell = some c ∧ getI c.Pins p.pin_ = some pin) _ 0 (fun k hk z hz=>?_) y hy
  have vi:=v.inst _ (List.getElem_mem hj)
  simp only [Nat.zero_add,List.mem_singleton] at hz
  subst hz
  intro _
  obtain ⟨c,ec,_⟩:=getI_ok (xs:=l.Cells) vi.cell.1 (by have:=vi.cell.2; omega)
  have hc:=vi.pins c ec
  exact ⟨_,c,_,getI_el hj,ec,getI_el (show k < c.Pins.length by omega)⟩
 ·refine idx_all (Q:=fun p:S_place=>0 ≤ p.instance_ → ∃ x c pin,getI d.Instances p.instance_ = some x ∧ getI l.Cells x.Cell = some c ∧ getI c.Pins p.pin_ = some pin) d.Ports 0 (fun j hj y hy=>?_) p hp
  simp only [plP,List.mem_singleton] at hy
  subst hy; intro h; exact absurd h (by show ¬ (0:Int) ≤ -1; decide)
theorem Cap2 {n:Nat} {l:S_Library} {d:S_Design} (v:VDesign l d) {p:S_place} (hp:p ∈ pls d):∃ r,F_3n n d l p = some r:=by
 rw [F_3n]
 by_cases c:p.instance_ < 0
 ·rw [decide_eq_true c,cT]; exact ⟨_,rfl⟩
 ·obtain ⟨x,c',pin,e1,e2,e3⟩:=v.place p hp (by omega)
  rw [decide_eq_false c,cF,e1,obs,e2,obs,e3,obs]; exact ⟨_,rfl⟩
theorem getI_in {t:List Int} {i:Int} (h0:0 ≤ i) (h1:i < t.length):∃ x,getI t i = some x:=⟨_,getI_gd h0 h1⟩
theorem Ld2 {n:Nat} {b:S_Block} (v:VBlock b) {i:Nat} (hi:i < b.Wires.length) (hn:1048577 ≤ n):Tot (fun r=>r.length = b.Wires[i].Parent.length) (F_m n b (i:Int)):=by
 have vd:=v.design
 have vw:=v.wire i hi
 have hm:=vw.many
 have hP:=vw.cap
 have hl:=pls_len vd.short vd.few.1 vd.few.2.2
 rw [F_m,getI_el hi,obs,F_21,appN_ok (by simp; omega) (by omega),obs,obs,Pls2 vd.short vd.few.1 vd.few.2.2 hn,obs,Snk2 vd _ hn,obs,List.nil_append]
 have hsl:(snkI b.Design (i:Int)).length = b.Wires[i].Sink.length:=by rw [snkI_len]; have:=vw.sink; omega
 have hsn:snk b.Design (i:Int) ≤ 78:=Nat.le_trans List.countP_le_length hl
 have hsn2:=snkI_len (d:=b.Design) (q:=(i:Int))
 refine loop_tot (L:=fun m j s=>F_m_L1 n b b.Wires[i] (pls b.Design) (snkI b.Design (i:Int)) _ m j s) (snkI b.Design (i:Int)).length (fun _ s=>s.length = b.Wires[i].Parent.length) ?_ ?_ n _ (by omega) hP
 ·intro m j s hj hs
  have hj2:j < b.Wires[i].Sink.length:=by omega
  have hk:=vw.sinks j hj2
  have hq:=snkI_rng _ (List.getElem_mem hj)
  obtain ⟨a,ea⟩:=getI_in (t:=s) hk.1 (by omega)
  obtain ⟨p,ep,hp⟩:=getI_ok (xs:=pls b.Design) hq.1 hq.2
  obtain ⟨r,er⟩:=Cap2 (n:=n) vd (List.mem_of_getElem? hp)
  simp only [F_m_L1.eq_2,dlt hj,cT,getI_el hj,gI hj2,obs,ea,ep,er,wT j]
  exact ⟨_,by simpa using hs,rfl⟩
 ·intro m s hs
  simp only [F_m_L1.eq_2,dnl,cF]
  have wx:IntKind.wrap .i64 ((s.length:Int) - 1) = ((s.length - 1:Nat):Int):=by rw [wrap64 (by omega) (by omega)]; omega
  rw [wx]
  have key:∀ (m k:Nat) (s:List Int),k < b.Wires[i].Parent.length → s.length = b.Wires[i].Parent.length → k < m → Tot (fun r:List Int=>r.length = b.Wires[i].Parent.length) (F_m_L2 b.Wires[i] (fun i91 l93=>some l93) m (k:Int) s):=by
   intro m
   induction m with
   | zero=>intro k s _ _ h; omega
   | succ m ih =>
    intro k s hk hs hm
    by_cases c:0 < k
    ·have hd:decide ((k:Int) > 0) = true:=decide_eq_true (by omega)
     have ht:=vw.tree k c hk
     obtain ⟨a,ea⟩:=getI_in (t:=s) ht.1 (by omega)
     have wk:IntKind.wrap .i64 ((k:Int) - 1) = ((k - 1:Nat):Int):=by rw [wrap64 (by omega) (by omega)]; omega
     simp only [F_m_L2.eq_2,hd,cT,gI hk,obs,ea,gI (show k < s.length by omega),wk]
     exact ih (k - 1) _ (by omega) (by simpa using hs) (by omega)
    ·have hd:decide ((k:Int) > 0) = false:=decide_eq_false (by omega)
     simp only [F_m_L2.eq_2,hd,cF]
     exact ⟨s,rfl,hs⟩
  exact key n (s.length - 1) s (by omega) hs (by omega)
theorem Dl2 {n:Nat} {b:S_Block} (v:VBlock b) {i:Nat} (hi:i < b.Wires.length) (hn:1048577 ≤ n):Tot (fun r=>r.length = b.Wires[i].Parent.length) (F_19 n b (i:Int)):=by
 have vw:=v.wire i hi
 have hm:=vw.many
 have hR:=vw.res
 rw [F_19,getI_el hi,obs]
 refine (Ld2 v hi hn).bind fun r e hr=>?_
 rw [mkN_ok (by omega) (by omega),obs]
 refine loop_tot' (L:=fun m j s=>F_19_L1 b.Wires[i] r _ m j s) 1 b.Wires[i].Parent.length (fun _ s=>s.length = b.Wires[i].Parent.length) ?_ ?_ n _ (by omega) (by omega) (by simpa using hr)
 ·intro m j s h1 hj hs
  have ht:=vw.tree j (by omega) hj
  obtain ⟨a,ea⟩:=getI_in (t:=s) ht.1 (by omega)
  simp only [F_19_L1.eq_2,dlt (show j < s.length by omega),cT,gI hj,gI (show j < b.Wires[i].Res.length by omega),gI (show j < r.length by omega),gI (show j < s.length by omega),obs,ea,wT j]
  exact ⟨_,by simpa using hs,rfl⟩
 ·intro m s hs
  rw [← hs]
  simp only [F_19_L1.eq_2,dnl,cF]
  exact ⟨s,rfl,rfl⟩
theorem Ex2 {n:Nat} {b:S_Block} (v:VBlock b) {i:Nat} (hi:i < b.Wires.length) (hn:1048577 ≤ n):Tot (fun _=>True) (F_1a n b (i:Int)):=by
 have vw:=v.wire i hi
 have vd:=v.design
 have hl:=pls_len vd.short vd.few.1 vd.few.2.2
 have hsn:snk b.Design (i:Int) ≤ 78:=Nat.le_trans List.countP_le_length hl
 have hsk:=vw.sink
 rw [F_1a]
 refine (Dl2 v hi hn).bind fun r e hr=>?_
 rw [getI_el hi,obs]
 refine loop_tot (L:=fun m j s=>F_1a_L1 r b.Wires[i] _ m s j) b.Wires[i].Sink.length (fun j s=>s.length = j) ?_ ?_ n _ (by omega) rfl
 ·intro m j s hj hs
  have hk:=vw.sinks j hj
  obtain ⟨a,ea⟩:=getI_in (t:=r) hk.1 (by omega)
  refine ⟨s ++ [a],by simp; omega,?_⟩
  simp only [F_1a_L1.eq_2,dlt hj,cT,gI hj,obs,ea,wT j]
  rw [appN_ok (by simp; omega) (by omega),obs]
 ·intro m s hs
  simp only [F_1a_L1.eq_2,dnl,cF]
  exact ⟨s,rfl,trivial⟩
theorem SM_Block.b {b:S_Block} (h:SM_Block b):SMBl b :=
 ⟨⟨h.1.1,fun c hc=>SM_Cell.c (c:=c) (h.1.2 c hc)⟩,⟨⟨h.2.1.1.1,fun x hx=>⟨(h.2.1.1.2 x hx).1,(h.2.1.1.2 x hx).2.2.1⟩⟩,⟨h.2.1.2.1.1,h.2.1.2.1.2⟩,⟨h.2.1.2.2.1,fun p hp=>(h.2.1.2.2.2 p hp).1⟩⟩,⟨h.2.2.1,fun w hw=>⟨⟨⟨(h.2.2.2 w hw).1.1,(h.2.2.2 w hw).2.1.1⟩,(h.2.2.2 w hw).2.2.1.1⟩,(h.2.2.2 w hw).2.2.2.1⟩⟩⟩
def nodes (b:S_Block):Int:=2 * ((pls b.Design).length:Int)
theorem gdX {xs:List Int} {i:Nat} (h:i < xs.length):gd xs i = xs[i]:=gd_get (by simp [h])
theorem idx1_get {α β:Type} (h:Nat → α → β):∀ (xs:List α) (s j:Nat),(idx (fun j q=>[h j q]) s xs)[j]? = (xs[j]?).map (h (s + j))
 | [],s,j=>by simp [idx]
 | x :: xs,s,0=>by simp [idx]
 | x :: xs,s,j + 1=>by
  have:=idx1_get h xs (s + 1) j
  simp only [idx,List.singleton_append,List.getElem?_cons_succ,this]
  rw [show s + 1 + j = s + (j + 1) by omega]
structure FirstAt {α:Type} (f:α → Bool) (ys:List α) (k:Nat):Prop where
 hit:∃ y,ys[k]? = some y ∧ f y = true
 miss:∀ j y,j < k → ys[j]? = some y → f y = false
theorem FirstAt.lt {α:Type} {f:α → Bool} {ys:List α} {k:Nat} (h:FirstAt f ys k):k < ys.length:=by
 obtain ⟨y,e,_⟩:=h.hit
 exact (List.getElem?_eq_some_iff.1 e).1
def offI (d:S_Design) (i:Nat):Nat:=(idx plI 0 (d.Instances.take i)).length
def isPl (i q:Int) (p:S_place):Bool:=(p.instance_ == i) && (p.pin_ == q)
theorem pls_cut {d:S_Design} {i:Nat} (hi:i < d.Instances.length):∃ C,pls d = idx plI 0 (d.Instances.take i) ++ (plI i d.Instances[i] ++ C):=by
 refine ⟨idx plI (i + 1) (d.Instances.drop (i + 1)) ++ idx plP 0 d.Ports,?_⟩
 have e:d.Instances = d.Instances.take i ++ (d.Instances[i] :: d.Instances.drop (i + 1)):=by
  rw [← List.drop_eq_getElem_cons hi,List.take_append_drop]
 have e2:idx plI 0 d.Instances = idx plI 0 (d.Instances.take i) ++ (plI i d.Instances[i] ++ idx plI (i + 1) (d.Instances.drop (i + 1))):=by
  conv=>lhs; rw [e]
  rw [idx_append]
  simp [idx,Nat.min_eq_left (Nat.le_of_lt hi)]
 unfold pls
 rw [e2]; simp
theorem pls_first {d:S_Design} {i q:Nat} (hi:i < d.Instances.length) (hq:q < d.Instances[i].Nets.length):FirstAt (isPl i q) (pls d) (offI d i + q):=by
 obtain ⟨C,e⟩:=pls_cut hi
 have hp:∀ j:Nat,(plI i d.Instances[i])[j]? = (d.Instances[i].Nets[j]?).map fun x=>S_place.mk i j x ((j:Int) == (d.Instances[i].Nets.length:Int) - 1):=by
  intro j
  have:=idx1_get (fun j q=>S_place.mk i j q ((j:Int) == (d.Instances[i].Nets.length:Int) - 1)) d.Instances[i].Nets 0 j
  rw [Nat.zero_add] at this
  exact this
 have hl:(plI i d.Instances[i]).length = d.Instances[i].Nets.length:=by
  apply Nat.le_antisymm
  ·apply Nat.le_of_not_lt
   intro h
   have:=hp d.Instances[i].Nets.length
   rw [List.getElem?_eq_getElem h] at this
   simp at this
  ·apply Nat.le_of_not_lt
   intro h
   have:=hp (plI i d.Instances[i]).length
   rw [List.getElem?_eq_getElem h] at this
   simp at this
 have hA:∀ y ∈ idx plI 0 (d.Instances.take i),y.instance_ < (i:Int):=by
  refine idx_all (Q:=fun p:S_place=>p.instance_ < (i:Int)) _ 0 (fun j hj y hy=>?_)
  have hji:j < i:=by simp at hj; omega
  refine idx_all (Q:=fun p:S_place=>p.instance_ < (i:Int)) _ 0 (fun k hk z hz=>?_) y hy
  simp only [List.mem_singleton] at hz
  subst hz
  show ((0 + j:Nat):Int) < i
  omega
 refine ⟨⟨S_place.mk i q d.Instances[i].Nets[q] ((q:Int) == (d.Instances[i].Nets.length:Int) - 1),?_,by simp [isPl]⟩,?_⟩
 ·rw [e,offI,List.getElem?_append_right (by omega),Nat.add_sub_cancel_left,List.getElem?_append_left (by omega),hp,List.getElem?_eq_getElem hq]; rfl
 ·intro j y hj hy
  rw [e] at hy
  by_cases c:j < (idx plI 0 (d.Instances.take i)).length
  ·rw [List.getElem?_append_left c] at hy
   have:=hA y (List.mem_of_getElem? hy)
   simp only [isPl,Bool.and_eq_false_iff,beq_eq_false_iff_ne]; left; omega
  ·unfold offI at hj
   rw [List.getElem?_append_right (by omega),List.getElem?_append_left (by omega),hp] at hy
   obtain ⟨x,_,rfl⟩:=Option.map_eq_some_iff.1 hy
   simp only [isPl,Bool.and_eq_false_iff,beq_eq_false_iff_ne]; right
   show ((j - (idx plI 0 (d.Instances.take i)).length:Nat):Int) ≠ q
   omega
theorem Fnd1 {n:Nat} {l:S_Library} {d:S_Design} (v:VDesign l d) {i q:Nat} (hi:i < d.Instances.length) (hq:q < d.Instances[i].Nets.length) (hn:1048577 ≤ n):F_0a n d (i:Int) (q:Int) = some ((offI d i + q:Nat):Int):=by
 have f:=pls_first hi hq
 have hl:=pls_len v.short v.few.1 v.few.2.2
 have fl:=f.lt
 rw [F_0a,Pls1 v.short v.few.1 v.few.2.2 hn,obs]
 refine loop (L:=fun m j (_:Unit)=>F_0a_L1 (i:Int) (q:Int) ((pls d).map toP) (fun i26=>(some (-1))) m j) (offI d i + q + 1) (fun j _=>j ≤ offI d i + q) (fun o=>o = some ((offI d i + q:Nat):Int)) ?_ ?_ n 0 () (by omega) (by omega) (by omega)
 ·intro m j _ hj hI
  have hjl:j < (pls d).length:=by omega
  have hjm:j < ((pls d).map toP).length:=by simpa using hjl
  have hg:getI ((pls d).map toP) (j:Int) = some (toP (pls d)[j]):=by rw [getI_el hjm]; simp
  have hb:(Option.bind (bif ((toP (pls d)[j]).instance_ == (i:Int)) then some ((toP (pls d)[j]).pin_ == (q:Int)) else some false) fun c35=>(bif c35 then (some (j:Int)) else (F_0a_L1 (i:Int) (q:Int) ((pls d).map toP) (fun i26=>(some (-1))) m (IntKind.wrap .i64 ((j:Int) + 1))))) = (bif isPl i q (pls d)[j] then some (j:Int) else F_0a_L1 (i:Int) (q:Int) ((pls d).map toP) (fun i26=>(some (-1))) m ((j + 1:Nat):Int)):=by
   rw [wT j,bif_and,obs]; rfl
  simp only [F_0a_L1.eq_2,dlt hjm,cT,hg,obs]
  rw [hb]
  by_cases c:j = offI d i + q
  ·obtain ⟨y,e,hy⟩:=f.hit
   rw [← c,List.getElem?_eq_getElem hjl] at e
   obtain rfl:=Option.some.inj e
   rw [hy,cT,← c]; exact .inr rfl
  ·have:=f.miss j _ (by omega) (List.getElem?_eq_getElem hjl)
   rw [this,cF]; exact .inl ⟨(),by omega,rfl⟩
 ·intro m _ hI
  omega
theorem VDesign.inst_at {l:S_Library} {d:S_Design} (v:VDesign l d) {i:Nat} (hi:i < d.Instances.length):∃ k,∃ h:k < l.Cells.length,d.Instances[i].Cell = (k:Int) ∧ getI l.Cells d.Instances[i].Cell = some l.Cells[k] ∧ d.Instances[i].Nets.length = l.Cells[k].Pins.length ∧ VCell l.Cells[k]:=by
 have x:=v.inst _ (List.getElem_mem hi)
 obtain ⟨k,hk⟩:=Int.eq_ofNat_of_zero_le x.cell.1
 have hk:d.Instances[i].Cell = (k:Int):=hk
 have h:k < l.Cells.length:=by have:=x.cell.2; omega
 have g:getI l.Cells d.Instances[i].Cell = some l.Cells[k]:=by rw [hk]; exact getI_el h
 exact ⟨k,h,hk,g,x.pins _ g,v.lib.cells k h⟩
theorem bcw {x s:Int} {y:Option Int} (e:(bif decide (x < 0) then some (-1) else y) = some s) (hs:0 ≤ s):0 ≤ x ∧ y = some s:=by
 by_cases h:x < 0
 ·rw [decide_eq_true h,cT] at e; have:=Option.some.inj e; omega
 ·rw [decide_eq_false h,cF] at e; exact ⟨by omega,e⟩
theorem bch {s:Int} {o:Option Int} {g:Int → Option Int} (e:(Option.bind o fun r=>bif decide (r < 0) then some (-1) else g r) = some s) (hs:0 ≤ s):∃ r,o = some r ∧ 0 ≤ r ∧ g r = some s:=by
 cases o with
 | none=>cases e
 | some r =>
  rw [obs] at e
  obtain ⟨a,b⟩:=bcw e hs
  exact ⟨r,rfl,a,b⟩
theorem msL {α:Type} {xs:List α} {LZ LM:Nat → Int → Int → Option Int} {f:α → Int → Option Int}
 (hz:∀ (m i:Nat) (l:Int) (h:i < xs.length),LZ (m + 1) l (i:Int) = Option.bind (f xs[i] l) fun r=>bif decide (r < 0) then some (-1) else LZ m r ((i + 1:Nat):Int))
 (hze:∀ (m:Nat) (l:Int),LZ (m + 1) l (xs.length:Int) = some l)
 (hm:∀ (m i:Nat) (k l r:Int) (h:i < xs.length),f xs[i] l = some r → 0 ≤ r → 0 ≤ l → l ≤ 1048576 → 0 ≤ k → k + 4 + 4 * l ≤ 1152921504606846976 → r ≤ l ∧ ∃ k',LM (m + 1) k (i:Int) = LM m k' ((i + 1:Nat):Int) ∧ k ≤ k' ∧ k' ≤ k + 4 + 4 * (l - r))
 (hme:∀ (m:Nat) (k:Int),LM (m + 1) k (xs.length:Int) = some k) :
 ∀ (m i:Nat) (k l r:Int),i ≤ xs.length → xs.length - i < m → LZ m l (i:Int) = some r → 0 ≤ r → 0 ≤ l → l ≤ 1048576 → 0 ≤ k → k + 4 * ((xs.length - i:Nat):Int) + 4 * l ≤ 1152921504606846976 → r ≤ l ∧ ∃ k',LM m k (i:Int) = some k' ∧ k ≤ k' ∧ k' ≤ k + 4 * ((xs.length - i:Nat):Int) + 4 * (l - r)
 | 0,i,_,_,_,_,hf,_,_,_,_,_,_=>by omega
 | m + 1,i,k,l,r,hi,hf,e,hr,h0,h1,hk,hb=>by
  by_cases h:i < xs.length
  ·rw [hz m i l h] at e
   obtain ⟨r1,e1,p1,e2⟩:=bch e hr
   obtain ⟨q1,k1,a1,a2,a3⟩:=hm m i k l r1 h e1 p1 h0 h1 hk (by omega)
   obtain ⟨q2,k2,b1,b2,b3⟩:=msL hz hze hm hme m (i + 1) k1 r1 r (by omega) (by omega) e2 hr p1 (by omega) (by omega) (by omega)
   exact ⟨by omega,k2,by rw [a1,b1],by omega,by omega⟩
  ·obtain rfl:i = xs.length:=by omega
   rw [hze] at e
   obtain rfl:=Option.some.inj e
   exact ⟨Int.le_refl _,k,hme m k,Int.le_refl _,by omega⟩
theorem wk {k:Int} (h0:0 ≤ k) (h1:k ≤ 2305843009213693952):IntKind.wrap .i64 (k + 1) = k + 1:=wrap64 (by omega) (by omega)
theorem MS_Int64S {n:Nat} {a:List Int} {left k r:Int} (hR:(fun xs=>xs.length ≤ 9223372036854775807 ∧ ∀ x ∈ xs,inK .i64 x) a) (h0:0 ≤ left) (h1:left ≤ 1048576) (hn:1048577 ≤ n) (e:F_o n a left = some r) (hr:0 ≤ r) (k0:0 ≤ k) (k1:k + 4 * left ≤ 1152921504606846976) :
 r ≤ left ∧ ∃ k',F_g n a k = some k' ∧ k ≤ k' ∧ k' ≤ k + 4 * (left - r):=by
 have hl:=hR.1
 rw [F_o,wrap64 (by omega) (by omega)] at e
 obtain ⟨p,e⟩:=bcw e hr
 obtain rfl:=Option.some.inj e
 have key:∀ (m i:Nat) (k:Int),i ≤ a.length → a.length - i < m → 0 ≤ k → k + ((a.length - i:Nat):Int) ≤ 1152921504606846976 → F_g_L1 a (fun i5 i6=>some i5) m k (i:Int) = some (k + ((a.length - i:Nat):Int)):=by
  intro m
  induction m with
  | zero=>intro i k _ h; omega
  | succ m ih =>
   intro i k hi hm h0 hb
   by_cases h:i < a.length
   ·simp only [F_g_L1.eq_2,dlt h,cT,getI_el h,obs,wk (k:=k) h0 (by omega),wT i]
    rw [ih (i + 1) (k + 1) (by omega) (by omega) (by omega) (by omega)]
    congr 1; omega
   ·obtain rfl:i = a.length:=by omega
    simp only [F_g_L1.eq_2,dnl,cF]
    congr 1; omega
 refine ⟨by omega,k + (a.length:Int),?_,by omega,by omega⟩
 rw [F_g]
 have:=key n 0 k (by omega) (by omega) k0 (by simp; omega)
 simpa using this
theorem MS_PinS {n:Nat} {a:List S_Pin} {left k r:Int} (hR:(fun xs=>xs.length ≤ 9223372036854775807 ∧ ∀ x ∈ xs,R_Pin x) a) (h0:0 ≤ left) (h1:left ≤ 1048576) (hn:1048577 ≤ n) (e:F_00 n a left = some r) (hr:0 ≤ r) (k0:0 ≤ k) (k1:k + 4 * left ≤ 1152921504606846976) :
 r ≤ left ∧ ∃ k',F_0t n a k = some k' ∧ k ≤ k' ∧ k' ≤ k + 4 * (left - r):=by
 have hl:=hR.1
 rw [F_00,wrap64 (by omega) (by omega)] at e
 obtain ⟨p,e⟩:=bcw e hr
 obtain ⟨q,k2,b1,b2,b3⟩:=msL (xs:=a) (LZ:=fun m l i=>F_00_L1 n a (fun i5 i6=>(some i5)) m l i) (LM:=fun m k i=>F_0t_L1 n a (fun i5 i6=>(some i5)) m k i) (f:=F_22 n)
  (fun m i l hi=>by
   simp only [F_00_L1.eq_2,dlt hi,cT,getI_el hi,obs,wT i])
  (fun m l=>by simp only [F_00_L1.eq_2,dnl,cF])
  (fun m i k l r hi e hr h0 h1 k0 k1=>by
   have hx:=hR.2 _ (List.getElem_mem hi)
   rw [F_22] at e
   have g:(a[i].Name.size:Int) ≤ 9223372036854775807:=by have g:=hx.1; rw [maxLen_is] at g; omega
   rw [wrap64 (x:=l - (a[i].Name.size:Int)) (by omega) (by omega)] at e
   obtain ⟨p0,e⟩:=bcw e hr
   obtain rfl:=Option.some.inj e
   obtain ⟨t,ht⟩:=MT (n:=n) (k:=k) (by omega) (by omega) hn
   refine ⟨by omega,k + 1 + 1 + 1 + 1,?_,by omega,by omega⟩
   simp only [F_0t_L1.eq_2,dlt hi,cT,getI_el hi,obs,wT i,ht,wk (k:=k) (by omega) (by omega),wk (k:=k + 1) (by omega) (by omega),wk (k:=k + 1 + 1) (by omega) (by omega),wk (k:=k + 1 + 1 + 1) (by omega) (by omega)])
  (fun m k=>by simp only [F_0t_L1.eq_2,dnl,cF]) n 0 k (left - (a.length:Int)) r (by omega) (by omega) e hr p (by omega) k0 (by omega)
 rw [Nat.sub_zero] at b3
 refine ⟨by omega,k2,?_,b2,by omega⟩
 rw [F_0t]; exact b1
theorem MS_TableS {n:Nat} {a:List S_Table} {left k r:Int} (hR:(fun xs=>xs.length ≤ 9223372036854775807 ∧ ∀ x ∈ xs,R_Table x) a) (h0:0 ≤ left) (h1:left ≤ 1048576) (hn:1048577 ≤ n) (e:F_z n a left = some r) (hr:0 ≤ r) (k0:0 ≤ k) (k1:k + 4 * left ≤ 1152921504606846976) :
 r ≤ left ∧ ∃ k',F_0e n a k = some k' ∧ k ≤ k' ∧ k' ≤ k + 4 * (left - r):=by
 have hl:=hR.1
 rw [F_z,wrap64 (by omega) (by omega)] at e
 obtain ⟨p,e⟩:=bcw e hr
 obtain ⟨q,k2,b1,b2,b3⟩:=msL (xs:=a) (LZ:=fun m l i=>F_z_L1 n a (fun i5 i6=>(some i5)) m l i) (LM:=fun m k i=>F_0e_L1 n a (fun i5 i6=>(some i5)) m k i) (f:=F_23 n)
  (fun m i l hi=>by
   simp only [F_z_L1.eq_2,dlt hi,cT,getI_el hi,obs,wT i])
  (fun m l=>by simp only [F_z_L1.eq_2,dnl,cF])
  (fun m i k l r hi e hr h0 h1 k0 k1=>by
   have hx:=hR.2 _ (List.getElem_mem hi)
   rw [F_23] at e
   obtain ⟨r0,e0,p1,e⟩:=bch e hr
   obtain ⟨r1,e1,p2,e⟩:=bch e hr
   obtain ⟨r2,e2,p3,e⟩:=bch e hr
   obtain rfl:=Option.some.inj e
   obtain ⟨u0,k_0,m0,v0,z0⟩:=MS_Int64S (n:=n) (a:=a[i].Slews) (left:=l) (k:=k) (hx.1) (by omega) (by omega) hn e0 (by omega) (by omega) (by omega)
   obtain ⟨u1,k_1,m1,v1,z1⟩:=MS_Int64S (n:=n) (a:=a[i].Loads) (left:=r0) (k:=k_0) (hx.2.1) (by omega) (by omega) hn e1 (by omega) (by omega) (by omega)
   obtain ⟨u2,k_2,m2,v2,z2⟩:=MS_Int64S (n:=n) (a:=a[i].Values) (left:=r1) (k:=k_1) (hx.2.2) (by omega) (by omega) hn e2 (by omega) (by omega) (by omega)
   refine ⟨by omega,k_2,?_,by omega,by omega⟩
   simp only [F_0e_L1.eq_2,dlt hi,cT,getI_el hi,obs,wT i,m0,m1,m2])
  (fun m k=>by simp only [F_0e_L1.eq_2,dnl,cF]) n 0 k (left - (a.length:Int)) r (by omega) (by omega) e hr p (by omega) k0 (by omega)
 rw [Nat.sub_zero] at b3
 refine ⟨by omega,k2,?_,b2,by omega⟩
 rw [F_0e]; exact b1
theorem MS_ArcS {n:Nat} {a:List S_Arc} {left k r:Int} (hR:(fun xs=>xs.length ≤ 9223372036854775807 ∧ ∀ x ∈ xs,R_Arc x) a) (h0:0 ≤ left) (h1:left ≤ 1048576) (hn:1048577 ≤ n) (e:F_01 n a left = some r) (hr:0 ≤ r) (k0:0 ≤ k) (k1:k + 4 * left ≤ 1152921504606846976) :
 r ≤ left ∧ ∃ k',F_0u n a k = some k' ∧ k ≤ k' ∧ k' ≤ k + 4 * (left - r):=by
 have hl:=hR.1
 rw [F_01,wrap64 (by omega) (by omega)] at e
 obtain ⟨p,e⟩:=bcw e hr
 obtain ⟨q,k2,b1,b2,b3⟩:=msL (xs:=a) (LZ:=fun m l i=>F_01_L1 n a (fun i5 i6=>(some i5)) m l i) (LM:=fun m k i=>F_0u_L1 n a (fun i5 i6=>(some i5)) m k i) (f:=F_24 n)
  (fun m i l hi=>by
   simp only [F_01_L1.eq_2,dlt hi,cT,getI_el hi,obs,wT i])
  (fun m l=>by simp only [F_01_L1.eq_2,dnl,cF])
  (fun m i k l r hi e hr h0 h1 k0 k1=>by
   have hx:=hR.2 _ (List.getElem_mem hi)
   rw [F_24] at e
   obtain ⟨r0,e0,p1,e⟩:=bch e hr
   obtain ⟨r1,e1,p2,e⟩:=bch e hr
   obtain rfl:=Option.some.inj e
   obtain ⟨u0,k_0,m0,v0,z0⟩:=MS_TableS (n:=n) (a:=a[i].Delay) (left:=l) (k:=k + 1 + 1 + 1 + 1) (hx.2.2.2.2.1) (by omega) (by omega) hn e0 (by omega) (by omega) (by omega)
   obtain ⟨u1,k_1,m1,v1,z1⟩:=MS_TableS (n:=n) (a:=a[i].Slew) (left:=r0) (k:=k_0) (hx.2.2.2.2.2) (by omega) (by omega) hn e1 (by omega) (by omega) (by omega)
   refine ⟨by omega,k_1,?_,by omega,by omega⟩
   simp only [F_0u_L1.eq_2,dlt hi,cT,getI_el hi,obs,wT i,wk (k:=k) (by omega) (by omega),wk (k:=k + 1) (by omega) (by omega),wk (k:=k + 1 + 1) (by omega) (by omega),wk (k:=k + 1 + 1 + 1) (by omega) (by omega),m0,m1])
  (fun m k=>by simp only [F_0u_L1.eq_2,dnl,cF]) n 0 k (left - (a.length:Int)) r (by omega) (by omega) e hr p (by omega) k0 (by omega)
 rw [Nat.sub_zero] at b3
 refine ⟨by omega,k2,?_,b2,by omega⟩
 rw [F_0u]; exact b1
theorem MS_CellS {n:Nat} {a:List S_Cell} {left k r:Int} (hR:(fun xs=>xs.length ≤ 9223372036854775807 ∧ ∀ x ∈ xs,R_Cell x) a) (h0:0 ≤ left) (h1:left ≤ 1048576) (hn:1048577 ≤ n) (e:F_02 n a left = some r) (hr:0 ≤ r) (k0:0 ≤ k) (k1:k + 4 * left ≤ 1152921504606846976) :
 r ≤ left ∧ ∃ k',F_0v n a k = some k' ∧ k ≤ k' ∧ k' ≤ k + 4 * (left - r):=by
 have hl:=hR.1
 rw [F_02,wrap64 (by omega) (by omega)] at e
 obtain ⟨p,e⟩:=bcw e hr
 obtain ⟨q,k2,b1,b2,b3⟩:=msL (xs:=a) (LZ:=fun m l i=>F_02_L1 n a (fun i5 i6=>(some i5)) m l i) (LM:=fun m k i=>F_0v_L1 n a (fun i5 i6=>(some i5)) m k i) (f:=F_25 n)
  (fun m i l hi=>by
   simp only [F_02_L1.eq_2,dlt hi,cT,getI_el hi,obs,wT i])
  (fun m l=>by simp only [F_02_L1.eq_2,dnl,cF])
  (fun m i k l r hi e hr h0 h1 k0 k1=>by
   have hx:=hR.2 _ (List.getElem_mem hi)
   rw [F_25] at e
   have g:(a[i].Name.size:Int) ≤ 9223372036854775807:=by have g:=hx.1; rw [maxLen_is] at g; omega
   rw [wrap64 (x:=l - (a[i].Name.size:Int)) (by omega) (by omega)] at e
   obtain ⟨p0,e⟩:=bcw e hr
   obtain ⟨r0,e0,p1,e⟩:=bch e hr
   obtain ⟨r1,e1,p2,e⟩:=bch e hr
   obtain ⟨r2,e2,p3,e⟩:=bch e hr
   obtain rfl:=Option.some.inj e
   obtain ⟨t,ht⟩:=MT (n:=n) (k:=k) (by omega) (by omega) hn
   obtain ⟨u0,k_0,m0,v0,z0⟩:=MS_PinS (n:=n) (a:=a[i].Pins) (left:=(l - (a[i].Name.size:Int))) (k:=k + 1 + 1) (hx.2.2.1) (by omega) (by omega) hn e0 (by omega) (by omega) (by omega)
   obtain ⟨u1,k_1,m1,v1,z1⟩:=MS_ArcS (n:=n) (a:=a[i].Arcs) (left:=r0) (k:=k_0) (hx.2.2.2.1) (by omega) (by omega) hn e1 (by omega) (by omega) (by omega)
   obtain ⟨u2,k_2,m2,v2,z2⟩:=MS_Int64S (n:=n) (a:=a[i].Truth) (left:=r1) (k:=k_1) (hx.2.2.2.2.1) (by omega) (by omega) hn e2 (by omega) (by omega) (by omega)
   refine ⟨by omega,k_2 + 1 + 1,?_,by omega,by omega⟩
   simp only [F_0v_L1.eq_2,dlt hi,cT,getI_el hi,obs,wT i,ht,wk (k:=k) (by omega) (by omega),wk (k:=k + 1) (by omega) (by omega),m0,m1,m2,wk (k:=k_2) (by omega) (by omega),wk (k:=k_2 + 1) (by omega) (by omega)])
  (fun m k=>by simp only [F_0v_L1.eq_2,dnl,cF]) n 0 k (left - (a.length:Int)) r (by omega) (by omega) e hr p (by omega) k0 (by omega)
 rw [Nat.sub_zero] at b3
 refine ⟨by omega,k2,?_,b2,by omega⟩
 rw [F_0v]; exact b1
theorem MS_Library {n:Nat} {a:S_Library} {left k r:Int} (hR:R_Library a) (h0:0 ≤ left) (h1:left ≤ 1048576) (hn:1048577 ≤ n) (e:F_2a n a left = some r) (hr:0 ≤ r) (k0:0 ≤ k) (k1:k + 4 * left ≤ 1152921504606846976) :
 r ≤ left ∧ ∃ k',F_38 n a k = some k' ∧ k ≤ k' ∧ k' ≤ k + 4 * (left - r):=by
 rw [F_2a] at e
 obtain ⟨r0,e0,p0,e⟩:=bch e hr
 obtain rfl:=Option.some.inj e
 obtain ⟨u0,k_0,m0,v0,z0⟩:=MS_CellS (n:=n) (a:=a.Cells) (left:=left) (k:=k) (hR) (by omega) (by omega) hn e0 (by omega) (by omega) (by omega)
 exact ⟨by omega,k_0,by simp only [F_38,obs,m0],by omega,by omega⟩
theorem MS_InstanceS {n:Nat} {a:List S_Instance} {left k r:Int} (hR:(fun xs=>xs.length ≤ 9223372036854775807 ∧ ∀ x ∈ xs,R_Instance x) a) (h0:0 ≤ left) (h1:left ≤ 1048576) (hn:1048577 ≤ n) (e:F_03 n a left = some r) (hr:0 ≤ r) (k0:0 ≤ k) (k1:k + 4 * left ≤ 1152921504606846976) :
 r ≤ left ∧ ∃ k',F_0w n a k = some k' ∧ k ≤ k' ∧ k' ≤ k + 4 * (left - r):=by
 have hl:=hR.1
 rw [F_03,wrap64 (by omega) (by omega)] at e
 obtain ⟨p,e⟩:=bcw e hr
 obtain ⟨q,k2,b1,b2,b3⟩:=msL (xs:=a) (LZ:=fun m l i=>F_03_L1 n a (fun i5 i6=>(some i5)) m l i) (LM:=fun m k i=>F_0w_L1 n a (fun i5 i6=>(some i5)) m k i) (f:=F_26 n)
  (fun m i l hi=>by
   simp only [F_03_L1.eq_2,dlt hi,cT,getI_el hi,obs,wT i])
  (fun m l=>by simp only [F_03_L1.eq_2,dnl,cF])
  (fun m i k l r hi e hr h0 h1 k0 k1=>by
   have hx:=hR.2 _ (List.getElem_mem hi)
   rw [F_26] at e
   have g:(a[i].Name.size:Int) ≤ 9223372036854775807:=by have g:=hx.1; rw [maxLen_is] at g; omega
   rw [wrap64 (x:=l - (a[i].Name.size:Int)) (by omega) (by omega)] at e
   obtain ⟨p0,e⟩:=bcw e hr
   obtain ⟨r0,e0,p1,e⟩:=bch e hr
   obtain rfl:=Option.some.inj e
   obtain ⟨t,ht⟩:=MT (n:=n) (k:=k) (by omega) (by omega) hn
   obtain ⟨u0,k_0,m0,v0,z0⟩:=MS_Int64S (n:=n) (a:=a[i].Nets) (left:=(l - (a[i].Name.size:Int))) (k:=k + 1 + 1) (hx.2.2) (by omega) (by omega) hn e0 (by omega) (by omega) (by omega)
   refine ⟨by omega,k_0,?_,by omega,by omega⟩
   simp only [F_0w_L1.eq_2,dlt hi,cT,getI_el hi,obs,wT i,ht,wk (k:=k) (by omega) (by omega),wk (k:=k + 1) (by omega) (by omega),m0])
  (fun m k=>by simp only [F_0w_L1.eq_2,dnl,cF]) n 0 k (left - (a.length:Int)) r (by omega) (by omega) e hr p (by omega) k0 (by omega)
 rw [Nat.sub_zero] at b3
 refine ⟨by omega,k2,?_,b2,by omega⟩
 rw [F_0w]; exact b1
theorem MS_StringS {n:Nat} {a:List ByteArray} {left k r:Int} (hR:(fun xs=>xs.length ≤ 9223372036854775807 ∧ ∀ x ∈ xs,(fun s=>s.size ≤ maxLen) x) a) (h0:0 ≤ left) (h1:left ≤ 1048576) (hn:1048577 ≤ n) (e:F_04 n a left = some r) (hr:0 ≤ r) (k0:0 ≤ k) (k1:k + 4 * left ≤ 1152921504606846976) :
 r ≤ left ∧ ∃ k',F_1c n a k = some k' ∧ k ≤ k' ∧ k' ≤ k + 4 * (left - r):=by
 have hl:=hR.1
 rw [F_04,wrap64 (by omega) (by omega)] at e
 obtain ⟨p,e⟩:=bcw e hr
 obtain ⟨q,k2,b1,b2,b3⟩:=msL (xs:=a) (LZ:=fun m l i=>F_04_L1 a (fun i5 i6=>(some i5)) m l i) (LM:=fun m k i=>F_1c_L1 n a (fun i5 i6=>(some i5)) m k i) (f:=(fun (x:ByteArray) (l:Int)=>bif decide (IntKind.wrap .i64 (l - (x.size:Int)) < 0) then some (-1) else some (IntKind.wrap .i64 (l - (x.size:Int)))))
  (fun m i l hi=>by
   simp only [F_04_L1.eq_2,dlt hi,cT,getI_el hi,obs,wT i]
   cases d:decide (IntKind.wrap .i64 (l - (a[i].size:Int)) < 0) with
   | true=>rfl
   | false=>simp only [cF,obs,d])
  (fun m l=>by simp only [F_04_L1.eq_2,dnl,cF])
  (fun m i k l r hi e hr h0 h1 k0 k1=>by
   have hx:=hR.2 _ (List.getElem_mem hi)
   have g:(a[i].size:Int) ≤ 9223372036854775807:=by have g:=hx; rw [maxLen_is] at g; omega
   rw [wrap64 (x:=l - (a[i].size:Int)) (by omega) (by omega)] at e
   obtain ⟨p0,e⟩:=bcw e hr
   obtain rfl:=Option.some.inj e
   obtain ⟨t,ht⟩:=MT (n:=n) (k:=k) (by omega) (by omega) hn
   refine ⟨by omega,k + 1,?_,by omega,by omega⟩
   simp only [F_1c_L1.eq_2,dlt hi,cT,getI_el hi,obs,wT i,ht,wk (k:=k) (by omega) (by omega)])
  (fun m k=>by simp only [F_1c_L1.eq_2,dnl,cF]) n 0 k (left - (a.length:Int)) r (by omega) (by omega) e hr p (by omega) k0 (by omega)
 rw [Nat.sub_zero] at b3
 refine ⟨by omega,k2,?_,b2,by omega⟩
 rw [F_1c]; exact b1
theorem MS_PortS {n:Nat} {a:List S_Port} {left k r:Int} (hR:(fun xs=>xs.length ≤ 9223372036854775807 ∧ ∀ x ∈ xs,R_Port x) a) (h0:0 ≤ left) (h1:left ≤ 1048576) (hn:1048577 ≤ n) (e:F_05 n a left = some r) (hr:0 ≤ r) (k0:0 ≤ k) (k1:k + 4 * left ≤ 1152921504606846976) :
 r ≤ left ∧ ∃ k',F_1d n a k = some k' ∧ k ≤ k' ∧ k' ≤ k + 4 * (left - r):=by
 have hl:=hR.1
 rw [F_05,wrap64 (by omega) (by omega)] at e
 obtain ⟨p,e⟩:=bcw e hr
 obtain ⟨q,k2,b1,b2,b3⟩:=msL (xs:=a) (LZ:=fun m l i=>F_05_L1 n a (fun i5 i6=>(some i5)) m l i) (LM:=fun m k i=>F_1d_L1 n a (fun i5 i6=>(some i5)) m k i) (f:=F_27 n)
  (fun m i l hi=>by
   simp only [F_05_L1.eq_2,dlt hi,cT,getI_el hi,obs,wT i])
  (fun m l=>by simp only [F_05_L1.eq_2,dnl,cF])
  (fun m i k l r hi e hr h0 h1 k0 k1=>by
   have hx:=hR.2 _ (List.getElem_mem hi)
   rw [F_27] at e
   have g:(a[i].Name.size:Int) ≤ 9223372036854775807:=by have g:=hx.1; rw [maxLen_is] at g; omega
   rw [wrap64 (x:=l - (a[i].Name.size:Int)) (by omega) (by omega)] at e
   obtain ⟨p0,e⟩:=bcw e hr
   obtain rfl:=Option.some.inj e
   obtain ⟨t,ht⟩:=MT (n:=n) (k:=k) (by omega) (by omega) hn
   refine ⟨by omega,k + 1 + 1 + 1,?_,by omega,by omega⟩
   simp only [F_1d_L1.eq_2,dlt hi,cT,getI_el hi,obs,wT i,ht,wk (k:=k) (by omega) (by omega),wk (k:=k + 1) (by omega) (by omega),wk (k:=k + 1 + 1) (by omega) (by omega)])
  (fun m k=>by simp only [F_1d_L1.eq_2,dnl,cF]) n 0 k (left - (a.length:Int)) r (by omega) (by omega) e hr p (by omega) k0 (by omega)
 rw [Nat.sub_zero] at b3
 refine ⟨by omega,k2,?_,b2,by omega⟩
 rw [F_1d]; exact b1
theorem MS_Design {n:Nat} {a:S_Design} {left k r:Int} (hR:R_Design a) (h0:0 ≤ left) (h1:left ≤ 1048576) (hn:1048577 ≤ n) (e:F_2b n a left = some r) (hr:0 ≤ r) (k0:0 ≤ k) (k1:k + 4 * left ≤ 1152921504606846976) :
 r ≤ left ∧ ∃ k',F_3r n a k = some k' ∧ k ≤ k' ∧ k' ≤ k + 4 * (left - r):=by
 rw [F_2b] at e
 obtain ⟨r0,e0,p0,e⟩:=bch e hr
 obtain ⟨r1,e1,p1,e⟩:=bch e hr
 obtain ⟨r2,e2,p2,e⟩:=bch e hr
 obtain rfl:=Option.some.inj e
 obtain ⟨u0,k_0,m0,v0,z0⟩:=MS_InstanceS (n:=n) (a:=a.Instances) (left:=left) (k:=k) (hR.1) (by omega) (by omega) hn e0 (by omega) (by omega) (by omega)
 obtain ⟨u1,k_1,m1,v1,z1⟩:=MS_StringS (n:=n) (a:=a.Nets) (left:=r0) (k:=k_0) (hR.2.1) (by omega) (by omega) hn e1 (by omega) (by omega) (by omega)
 obtain ⟨u2,k_2,m2,v2,z2⟩:=MS_PortS (n:=n) (a:=a.Ports) (left:=r1) (k:=k_1) (hR.2.2) (by omega) (by omega) hn e2 (by omega) (by omega) (by omega)
 exact ⟨by omega,k_2,by simp only [F_3r,obs,m0,m1,m2],by omega,by omega⟩
theorem MS_WireS {n:Nat} {a:List S_Wire} {left k r:Int} (hR:(fun xs=>xs.length ≤ 9223372036854775807 ∧ ∀ x ∈ xs,R_Wire x) a) (h0:0 ≤ left) (h1:left ≤ 1048576) (hn:1048577 ≤ n) (e:F_06 n a left = some r) (hr:0 ≤ r) (k0:0 ≤ k) (k1:k + 4 * left ≤ 1152921504606846976) :
 r ≤ left ∧ ∃ k',F_1e n a k = some k' ∧ k ≤ k' ∧ k' ≤ k + 4 * (left - r):=by
 have hl:=hR.1
 rw [F_06,wrap64 (by omega) (by omega)] at e
 obtain ⟨p,e⟩:=bcw e hr
 obtain ⟨q,k2,b1,b2,b3⟩:=msL (xs:=a) (LZ:=fun m l i=>F_06_L1 n a (fun i5 i6=>(some i5)) m l i) (LM:=fun m k i=>F_1e_L1 n a (fun i5 i6=>(some i5)) m k i) (f:=F_28 n)
  (fun m i l hi=>by
   simp only [F_06_L1.eq_2,dlt hi,cT,getI_el hi,obs,wT i])
  (fun m l=>by simp only [F_06_L1.eq_2,dnl,cF])
  (fun m i k l r hi e hr h0 h1 k0 k1=>by
   have hx:=hR.2 _ (List.getElem_mem hi)
   rw [F_28] at e
   obtain ⟨r0,e0,p1,e⟩:=bch e hr
   obtain ⟨r1,e1,p2,e⟩:=bch e hr
   obtain ⟨r2,e2,p3,e⟩:=bch e hr
   obtain ⟨r3,e3,p4,e⟩:=bch e hr
   obtain rfl:=Option.some.inj e
   obtain ⟨u0,k_0,m0,v0,z0⟩:=MS_Int64S (n:=n) (a:=a[i].Parent) (left:=l) (k:=k) (hx.1) (by omega) (by omega) hn e0 (by omega) (by omega) (by omega)
   obtain ⟨u1,k_1,m1,v1,z1⟩:=MS_Int64S (n:=n) (a:=a[i].Res) (left:=r0) (k:=k_0) (hx.2.1) (by omega) (by omega) hn e1 (by omega) (by omega) (by omega)
   obtain ⟨u2,k_2,m2,v2,z2⟩:=MS_Int64S (n:=n) (a:=a[i].Cap) (left:=r1) (k:=k_1) (hx.2.2.1) (by omega) (by omega) hn e2 (by omega) (by omega) (by omega)
   obtain ⟨u3,k_3,m3,v3,z3⟩:=MS_Int64S (n:=n) (a:=a[i].Sink) (left:=r2) (k:=k_2) (hx.2.2.2) (by omega) (by omega) hn e3 (by omega) (by omega) (by omega)
   refine ⟨by omega,k_3,?_,by omega,by omega⟩
   simp only [F_1e_L1.eq_2,dlt hi,cT,getI_el hi,obs,wT i,m0,m1,m2,m3])
  (fun m k=>by simp only [F_1e_L1.eq_2,dnl,cF]) n 0 k (left - (a.length:Int)) r (by omega) (by omega) e hr p (by omega) k0 (by omega)
 rw [Nat.sub_zero] at b3
 refine ⟨by omega,k2,?_,b2,by omega⟩
 rw [F_1e]; exact b1
theorem MS_Block {n:Nat} {a:S_Block} {left k r:Int} (hR:R_Block a) (h0:0 ≤ left) (h1:left ≤ 1048576) (hn:1048577 ≤ n) (e:F_2c n a left = some r) (hr:0 ≤ r) (k0:0 ≤ k) (k1:k + 4 * left ≤ 1152921504606846976) :
 r ≤ left ∧ ∃ k',F_3s n a k = some k' ∧ k ≤ k' ∧ k' ≤ k + 4 * (left - r):=by
 rw [F_2c] at e
 obtain ⟨r0,e0,p0,e⟩:=bch e hr
 obtain ⟨r1,e1,p1,e⟩:=bch e hr
 obtain ⟨r2,e2,p2,e⟩:=bch e hr
 obtain rfl:=Option.some.inj e
 obtain ⟨u0,k_0,m0,v0,z0⟩:=MS_Library (n:=n) (a:=a.Library) (left:=left) (k:=k) (hR.1) (by omega) (by omega) hn e0 (by omega) (by omega) (by omega)
 obtain ⟨u1,k_1,m1,v1,z1⟩:=MS_Design (n:=n) (a:=a.Design) (left:=r0) (k:=k_0) (hR.2.1) (by omega) (by omega) hn e1 (by omega) (by omega) (by omega)
 obtain ⟨u2,k_2,m2,v2,z2⟩:=MS_WireS (n:=n) (a:=a.Wires) (left:=r1) (k:=k_1) (hR.2.2) (by omega) (by omega) hn e2 (by omega) (by omega) (by omega)
 exact ⟨by omega,k_2,by simp only [F_3s,obs,m0,m1,m2],by omega,by omega⟩
def arcsOf (b:S_Block) (x:S_Instance):List S_Arc:=match getI b.Library.Cells x.Cell with
 | some c=>c.Arcs
 | none=>[]
def isDrv (q:Int) (p:S_place):Bool:=p.net_ == q && p.drives_
theorem drv_plI (i:Nat) (q L:Int):∀ (xs:List Int) (s:Nat),xs ≠ [] → L = ((s + xs.length:Nat):Int) - 1 → ((idx (fun j n=>[S_place.mk i j n ((j:Int) == L)]) s xs).countP (isDrv q):Int) = if gd xs (xs.length - 1) = q then 1 else 0
 | [],_,h,_=>absurd rfl h
 | [x],s,_,hL=>by
  have e:((s:Int) == L) = true:=by rw [beq_iff_eq,hL]; simp
  simp only [idx,List.append_nil,e]
  by_cases c:x = q
  ·subst c; simp [isDrv,gd]
  ·have:(x == q) = false:=by rw [beq_eq_false_iff_ne]; exact c
   simp [isDrv,gd,this,c]
 | x :: y :: zs,s,_,hL=>by
  have ih:=drv_plI i q L (y :: zs) (s + 1) (by simp) (by rw [hL]; simp only [List.length_cons]; omega)
  have e:((s:Int) == L) = false:=by rw [beq_eq_false_iff_ne,hL]; simp only [List.length_cons]; omega
  rw [idx,List.countP_append]
  have h0:List.countP (isDrv q) [S_place.mk i s x ((s:Int) == L)] = 0:=by simp [isDrv,e]
  rw [h0,Nat.zero_add,ih]
  simp [gd]
theorem drv_fI {q:Nat} {N:Nat} (hq:q < N):∀ (xs:List S_Instance) (t:List Int) (s:Nat),t.length = N → (∀ x ∈ xs,x.Nets ≠ [] ∧ 0 ≤ lastN x ∧ lastN x < N) → gd (xs.foldl cI t) q = gd t q + ((idx plI s xs).countP (isDrv q):Int) ∧ (xs.foldl cI t).length = N
 | [],t,s,ht,_=>by simp [idx,ht]
 | x :: xs,t,s,ht,hx=>by
  obtain ⟨x1,x2,x3⟩:=hx x (by simp)
  obtain ⟨h1,h2⟩:=drv_fI hq xs (cI t x) (s + 1) (by unfold cI bumpT; simpa using ht) fun y hy=>hx y (by simp [hy])
  refine ⟨?_,h2⟩
  rw [List.foldl_cons,h1,idx,List.countP_append]
  have hc:=drv_plI s q ((x.Nets.length:Int) - 1) x.Nets 0 x1 (by simp)
  have hc:((plI s x).countP (isDrv q):Int) = if gd x.Nets (x.Nets.length - 1) = q then 1 else 0:=hc
  have hb:gd (cI t x) q = gd t q + if gd x.Nets (x.Nets.length - 1) = q then 1 else 0:=by
   have hl:lastN x = gd x.Nets (x.Nets.length - 1):=rfl
   unfold cI bumpT
   rw [gd_set (by omega),← hl]
   by_cases c:lastN x = q
   ·rw [if_pos (by omega),if_pos c]; have:(lastN x).toNat = q:=by omega
    rw [this]
   ·rw [if_neg (by omega),if_neg c]; omega
  rw [hb]; push_cast; omega
theorem drv_fP {q:Nat} {N:Nat} (hq:q < N):∀ (xs:List S_Port) (t:List Int) (s:Nat),t.length = N → (∀ x ∈ xs,0 ≤ x.Net ∧ x.Net < N) → gd (xs.foldl cP t) q = gd t q + ((idx plP s xs).countP (isDrv q):Int)
 | [],t,s,ht,_=>by simp [idx]
 | x :: xs,t,s,ht,hx=>by
  obtain ⟨x2,x3⟩:=hx x (by simp)
  have h1:=drv_fP hq xs (cP t x) (s + 1) (by unfold cP bumpT; split <;> simpa using ht) fun y hy=>hx y (by simp [hy])
  rw [List.foldl_cons,h1,idx,List.countP_append]
  have hb:gd (cP t x) q = gd t q + ((plP s x).countP (isDrv q):Int):=by
   unfold cP plP
   by_cases d:x.Dir = 1
   ·have:(x.Dir == 1) = true:=by rw [beq_iff_eq]; exact d
    rw [if_pos d]; unfold bumpT
    rw [gd_set (by omega)]
    by_cases c:x.Net = q
    ·have e:(x.Net == (q:Int)) = true:=by rw [beq_iff_eq]; exact c
     have e2:x.Net.toNat = q:=by omega
     rw [if_pos e2,e2]; simp [isDrv,this,e]
    ·have e:(x.Net == (q:Int)) = false:=by rw [beq_eq_false_iff_ne]; exact c
     rw [if_neg (by omega)]; simp [isDrv,this,e]
   ·have:(x.Dir == 1) = false:=by rw [beq_eq_false_iff_ne]; exact d
    rw [if_neg d]; simp [isDrv,this]
  rw [hb]; push_cast; omega
theorem drv_cnt {l:S_Library} {d:S_Design} (v:VDesign l d) {q:Nat} (hq:q < d.Nets.length):(pls d).countP (isDrv q) = 1:=by
 obtain ⟨h1,h2⟩:=drv_fI (N:=d.Nets.length) hq d.Instances (List.replicate d.Nets.length 0) 0 (by simp) fun x hx=>by
  have a:=(v.inst x hx).long v.lib
  have b:=(v.inst x hx).last v.lib
  exact ⟨fun e=>by rw [e] at a; simp at a,b⟩
 have h3:=drv_fP (N:=d.Nets.length) hq d.Ports _ 0 h2 fun x hx=>by have:=(v.port x hx).net; omega
 have h4:=v.one q hq
 unfold drv at h4
 rw [h3,h1,gd_rep] at h4
 unfold pls
 rw [List.countP_append]; omega
theorem count_one {α:Type} (f:α → Bool):∀ (xs:List α),xs.countP f = 1 → ∃ k,∃ h:k < xs.length,f xs[k] = true ∧ ∀ j (h:j < xs.length),f xs[j] = true → j = k
 | [],h=>by simp at h
 | x :: xs,h=>by
  rw [List.countP_cons] at h
  by_cases c:f x = true
  ·have h0:xs.countP f = 0:=by simpa [c] using h
   refine ⟨0,by simp,c,fun j hj hf=>?_⟩
   cases j with
   | zero=>rfl
   | succ j =>
    have hf:f (xs[j]'(by simpa using hj)) = true:=hf
    rw [List.countP_eq_zero] at h0
    exact absurd hf (h0 _ (List.getElem_mem _))
  ·have h0:xs.countP f = 1:=by simpa [c] using h
   obtain ⟨k,hk,a,b⟩:=count_one f xs h0
   refine ⟨k + 1,by simpa using hk,by simpa using a,fun j hj hf=>?_⟩
   cases j with
   | zero=>exact absurd hf c
   | succ j=>rw [b j (by simpa using hj) (by simpa using hf)]
def drvN (d:S_Design) (q:Nat):Nat:=(pls d).findIdx (isDrv q)
structure DrvAt (d:S_Design) (q k:Nat):Prop where
 lt:k < (pls d).length
 hit:isDrv q (pls d)[k] = true
 only:∀ j (h:j < (pls d).length),isDrv q (pls d)[j] = true → j = k
theorem drv_at {l:S_Library} {d:S_Design} (v:VDesign l d) {q:Nat} (hq:q < d.Nets.length):DrvAt d q (drvN d q):=by
 obtain ⟨k,hk,a,b⟩:=count_one _ _ (drv_cnt v hq)
 have:drvN d q = k:=by
  unfold drvN
  rw [List.findIdx_eq hk]
  refine ⟨a,fun j hj=>?_⟩
  cases c:isDrv q ((pls d)[j]'(by omega)) with
  | false=>rfl
  | true=>have:=b j (by omega) c; omega
 rw [this]; exact ⟨hk,a,b⟩
theorem Drv1 {n:Nat} {l:S_Library} {d:S_Design} (v:VDesign l d) {q:Nat} (hq:q < d.Nets.length) (hn:1048577 ≤ n):F_1t n d (q:Int) = some (drvN d q:Int):=by
 have hd:=drv_at v hq
 have hl:=pls_len v.short v.few.1 v.few.2.2
 rw [F_1t,Pls1 v.short v.few.1 v.few.2.2 hn,obs]
 have hk:=hd.lt
 refine loop (L:=fun m i (_:Unit)=>F_1t_L1 (q:Int) ((pls d).map toP) (fun i26=>some (-1)) m i) ((pls d).map toP).length (fun i _=>i ≤ drvN d q) (fun o=>o = some (drvN d q:Int)) ?_ ?_ n 0 () (by omega) (by simp; omega) (by omega)
 ·intro m i _ hi hI
  have hi2:i < (pls d).length:=by simpa using hi
  have e:((pls d).map toP)[i] = toP (pls d)[i]:=by simp
  simp only [F_1t_L1.eq_2,dlt hi,cT,getI_el hi,obs,bif_and,e,wT i]
  have e2:((toP (pls d)[i]).net_ == (q:Int) && (toP (pls d)[i]).drives_) = isDrv q (pls d)[i]:=rfl
  rw [e2]
  cases c:isDrv q (pls d)[i] with
  | true=>rw [hd.only i hi2 c]; exact .inr rfl
  | false =>
   refine .inl ⟨(),?_,rfl⟩
   rcases Nat.lt_or_ge i (drvN d q) with h | h
   ·omega
   ·obtain rfl:i = drvN d q:=by omega
    rw [hd.hit] at c; cases c
 ·intro m _ hI
  have:((pls d).map toP).length = (pls d).length:=by simp
  omega
def fitA (a:S_Arc) (p:Int × Int):Bool:=bif a.Kind == 1 then (a.Sense == 3) || ((a.Sense == 1) == (p.1 == p.2)) else bif a.Kind == 2 then p.1 == 0 else bif a.Kind == 3 then p.1 == 1 else false
def tra (a:S_Arc):List (Int × Int):=[(0,0),(0,1),(1,0),(1,1)].filter (fitA a)
def lkA (o k:Nat) (a:S_Arc):List S_Link:=(tra a).map fun t=>⟨2 * ((o:Int) + a.From) + t.1,2 * ((o:Int) + a.To) + t.2,1,(k:Int)⟩
def lkI (b:S_Block) (i:Nat) (x:S_Instance):List S_Link:=idx (lkA (offI b.Design i)) 0 (arcsOf b x)
def lkS (r:Int) (j:Nat) (s:Int):List S_Link:=[⟨2 * r,2 * s,2,(j:Int)⟩,⟨2 * r + 1,2 * s + 1,2,(j:Int)⟩]
def lkN (d:S_Design) (q:Nat):List S_Link:=idx (lkS (drvN d q:Int)) 0 (snkI d (q:Int))
def lks (b:S_Block):List S_Link:=idx (lkI b) 0 b.Design.Instances ++ idx (fun q (_:ByteArray)=>lkN b.Design q) 0 b.Design.Nets
theorem tra_len (a:S_Arc):(tra a).length ≤ 4:=Nat.le_trans (List.length_filter_le _ _) (by simp)
theorem lkA_len (o k:Nat) (a:S_Arc):(lkA o k a).length ≤ 4:=by unfold lkA; rw [List.length_map]; exact tra_len a
theorem lkI_len {b:S_Block} (v:VBlock b) (i:Nat) {x:S_Instance} (hx:x ∈ b.Design.Instances):(lkI b i x).length ≤ 32:=by
 obtain ⟨j,hj,rfl⟩:=List.getElem_of_mem hx
 obtain ⟨k,hk,_,gc,_,vc⟩:=v.design.inst_at hj
 have:=idx_len (c:=4) (g:=lkA (offI b.Design i)) (arcsOf b b.Design.Instances[j]) 0 fun j a _=>lkA_len _ _ a
 have few:=vc.few
 unfold lkI
 unfold arcsOf at this ⊢
 rw [gc] at this ⊢
 simp only at this ⊢
 omega
theorem lkN_len {l:S_Library} {d:S_Design} (v:VDesign l d) (q:Nat):(lkN d q).length ≤ 156:=by
 have h1:=idx_len (c:=2) (g:=lkS (drvN d q:Int)) (snkI d (q:Int)) 0 fun j s _=>by simp [lkS]
 have h2:=snkI_len (d:=d) (q:=(q:Int))
 have hl:=pls_len v.short v.few.1 v.few.2.2
 have h3:snk d (q:Int) ≤ 78:=Nat.le_trans List.countP_le_length hl
 unfold lkN; omega
theorem lks_len {b:S_Block} (v:VBlock b):(lks b).length ≤ 5128:=by
 have h1:=idx_len (c:=32) (g:=lkI b) b.Design.Instances 0 fun j x hx=>lkI_len v j hx
 have h2:=idx_len (c:=156) (g:=fun q (_:ByteArray)=>lkN b.Design q) b.Design.Nets 0 fun j x _=>lkN_len v.design j
 have:=v.design.few
 unfold lks; rw [List.length_append]; omega
theorem L09P {n:Nat} {l:List S_Link} {f t a b kd k:Int} (hl:l.length ≤ 10000000) (hf:0 ≤ f ∧ f ≤ 100000) (ht:0 ≤ t ∧ t ≤ 100000) (ha:0 ≤ a ∧ a ≤ 1) (hb:0 ≤ b ∧ b ≤ 1):F_0x n l f t a b kd k = some (l ++ [⟨2 * f + a,2 * t + b,kd,k⟩]):=by
 rw [F_0x,wrap64 (x:=2 * f) (by omega) (by omega),wrap64 (x:=2 * t) (by omega) (by omega),wrap64 (by omega) (by omega),wrap64 (by omega) (by omega),appN_ok (by simp; omega) (by omega),obs]
theorem L09in {n:Nat} {a:S_Arc} {f t k i:Int} {k2:List S_Link → Int → Option (List S_Link)} (hf:0 ≤ f ∧ f ≤ 100000) (ht:0 ≤ t ∧ t ≤ 100000) (hi:0 ≤ i ∧ i ≤ 1) {l:List S_Link} (hl:l.length ≤ 9000000) (m:Nat) :
 F_f_L2 n a f t k i k2 (m + 3) l 0 = k2 (l ++ ([(i,0),(i,1)].filter (fitA a)).map fun p=>⟨2 * f + p.1,2 * t + p.2,1,k⟩) 2:=by
 have w1:IntKind.wrap .i64 ((0:Int) + 1) = 1:=by decide
 have w2:IntKind.wrap .i64 ((1:Int) + 1) = 2:=by decide
 have step:∀ (m:Nat) (l:List S_Link) (j:Int),l.length ≤ 9500000 → 0 ≤ j → j ≤ 1 → F_f_L2 n a f t k i k2 (m + 1) l j = F_f_L2 n a f t k i k2 m (l ++ ([(i,j)].filter (fitA a)).map fun p=>⟨2 * f + p.1,2 * t + p.2,1,k⟩) (IntKind.wrap .i64 (j + 1)):=by
  intro m l j hl2 h0 h1
  have hp:=L09P (n:=n) (l:=l) (f:=f) (t:=t) (a:=i) (b:=j) (kd:=1) (k:=k) (by omega) hf ht hi ⟨h0,h1⟩
  have dj:decide (j ≤ 1) = true:=decide_eq_true h1
  simp only [F_f_L2.eq_2,dj,cT,hp,obs,List.filter_cons,List.filter_nil,fitA]
  by_cases k1:a.Kind = 1
  ·have e1:(a.Kind == 1) = true:=by rw [beq_iff_eq]; exact k1
   simp only [e1,cT]
   by_cases c:((a.Sense == 3) || ((a.Sense == 1) == (i == j))) = true
   ·rw [c]; simp
   ·have c:((a.Sense == 3) || ((a.Sense == 1) == (i == j))) = false:=by simpa using c
    rw [c]; simp
  ·have e1:(a.Kind == 1) = false:=by rw [beq_eq_false_iff_ne]; exact k1
   simp only [e1,cF]
   by_cases k2:a.Kind = 2
   ·have e2:(a.Kind == 2) = true:=by rw [beq_iff_eq]; exact k2
    simp only [e2,cT]
    by_cases c:i = 0
    ·subst c; simp
    ·have c:(i == 0) = false:=by rw [beq_eq_false_iff_ne]; exact c
     rw [c]; simp
   ·have e2:(a.Kind == 2) = false:=by rw [beq_eq_false_iff_ne]; exact k2
    simp only [e2,cF]
    by_cases k3:a.Kind = 3
    ·have e3:(a.Kind == 3) = true:=by rw [beq_iff_eq]; exact k3
     simp only [e3,cT]
     by_cases c:i = 1
     ·subst c; simp
     ·have c:(i == 1) = false:=by rw [beq_eq_false_iff_ne]; exact c
      rw [c]; simp
    ·have e3:(a.Kind == 3) = false:=by rw [beq_eq_false_iff_ne]; exact k3
     simp only [e3,cF]; simp
 have hl3:∀ j:Int,(([(i,j)].filter (fitA a)).map fun p:Int × Int=>(⟨2 * f + p.1,2 * t + p.2,1,k⟩:S_Link)).length ≤ 1:=fun j=>by rw [List.length_map]; exact Nat.le_trans (List.length_filter_le _ _) (by simp)
 rw [step (m + 2) l 0 (by omega) (by omega) (by omega),w1,step (m + 1) _ 1 (by have:=hl3 0; rw [List.length_append]; omega) (by omega) (by omega),w2,F_f_L2.eq_2]
 have d2:decide ((2:Int) ≤ 1) = false:=by decide
 rw [d2,cF,List.append_assoc,← List.map_append,← List.filter_append]
 rfl
theorem L09A {n:Nat} {a:S_Arc} {f t k:Int} (hf:0 ≤ f ∧ f ≤ 100000) (ht:0 ≤ t ∧ t ≤ 100000) {l:List S_Link} (hl:l.length ≤ 8000000) (hn:1048577 ≤ n) :
 F_f n l a f t k = some (l ++ (tra a).map fun p=>⟨2 * f + p.1,2 * t + p.2,1,k⟩):=by
 obtain ⟨m,rfl⟩:∃ m,n = m + 3:=⟨n - 3,by omega⟩
 have w1:IntKind.wrap .i64 ((0:Int) + 1) = 1:=by decide
 have w2:IntKind.wrap .i64 ((1:Int) + 1) = 2:=by decide
 have d0:decide ((0:Int) ≤ 1) = true:=by decide
 have d1:decide ((1:Int) ≤ 1) = true:=by decide
 have d2:decide ((2:Int) ≤ 1) = false:=by decide
 have hl3:(([((0:Int),(0:Int)),(0,1)].filter (fitA a)).map fun p:Int × Int=>(⟨2 * f + p.1,2 * t + p.2,1,k⟩:S_Link)).length ≤ 2:=by rw [List.length_map]; exact Nat.le_trans (List.length_filter_le _ _) (by simp)
 rw [F_f,F_f_L1.eq_2,d0,cT,L09in hf ht (by omega) (by omega),w1,F_f_L1.eq_2,d1,cT,L09in hf ht (by omega) (by rw [List.length_append]; omega),w2,F_f_L1.eq_2,d2,cF,List.append_assoc,← List.map_append,← List.filter_append]
 rfl
theorem arc_rng {c:S_Cell} (vc:VCell c) {j:Nat} (hj:j < c.Arcs.length):(0 ≤ c.Arcs[j].From ∧ c.Arcs[j].From < c.Pins.length) ∧ (0 ≤ c.Arcs[j].To ∧ c.Arcs[j].To < c.Pins.length) ∧ (c.Arcs[j].Kind = 1 ∧ (1 ≤ c.Arcs[j].Sense ∧ c.Arcs[j].Sense ≤ 3) ∨ c.Arcs[j].Kind = 2 ∨ c.Arcs[j].Kind = 3 ∨ c.Arcs[j].Kind = 4 ∨ c.Arcs[j].Kind = 5):=by
 have ar:=(vc.arcs j hj).1
 unfold ArcS at ar
 refine ⟨by omega,by omega,?_⟩
 obtain ⟨_,ar⟩:=ar
 by_cases k1:c.Arcs[j].Kind = 1
 ·rw [if_pos k1] at ar; exact .inl ⟨k1,ar.2.2.1⟩
 ·rw [if_neg k1] at ar
  by_cases k2:c.Arcs[j].Kind = 2 ∨ c.Arcs[j].Kind = 3
  ·rcases k2 with k | k
   ·exact .inr (.inl k)
   ·exact .inr (.inr (.inl k))
  ·rw [if_neg k2] at ar
   by_cases k4:c.Arcs[j].Kind = 4 ∨ c.Arcs[j].Kind = 5
   ·rcases k4 with k | k
    ·exact .inr (.inr (.inr (.inl k)))
    ·exact .inr (.inr (.inr (.inr k)))
   ·rw [if_neg k4] at ar; exact ar.elim
theorem tra_none {a:S_Arc} (h:3 < a.Kind):tra a = []:=by
 have e1:(a.Kind == 1) = false:=by rw [beq_eq_false_iff_ne]; omega
 have e2:(a.Kind == 2) = false:=by rw [beq_eq_false_iff_ne]; omega
 have e3:(a.Kind == 3) = false:=by rw [beq_eq_false_iff_ne]; omega
 simp [tra,fitA,e1,e2,e3]
theorem Lks1 {n:Nat} {b:S_Block} (v:VBlock b) (hn:1048577 ≤ n):F_3 n b = some (lks b):=by
 have vd:=v.design
 have few:=vd.few
 have hl:=pls_len vd.short vd.few.1 vd.few.2.2
 have hI:=idx_len (c:=32) (g:=lkI b) b.Design.Instances 0 fun j x hx=>lkI_len v j hx
 rw [F_3]
 rw [loop_idx (xs:=b.Design.Instances) (L:=fun m s i=>F_3_L1 n b (fun l44 i48=>(F_3_L3 n b (fun l55 i59=>(some l55)) n l44 0)) m s i) (k:=fun s=>F_3_L3 n b (fun l55 i59=>some l55) n s 0) (lkI b) 32 0 (fun j x hx=>lkI_len v j hx) (by omega) (by
  intro m i hi s hs
  obtain ⟨k,hk,_,gc,hnl,vc⟩:=v.design.inst_at hi
  have fa:=vc.few
  have fp:=vc.pins.few
  have hoff:=(pls_first (d:=b.Design) (q:=0) hi (by have:=(vd.inst _ (List.getElem_mem hi)).long vd.lib; omega)).lt
  simp only [F_3_L1.eq_2,dlt hi,cT,getI_el hi,gc,obs,wT i]
  have ea:arcsOf b b.Design.Instances[i] = b.Library.Cells[k].Arcs:=by unfold arcsOf; rw [gc]
  rw [lkI,ea]
  refine loop_idx (xs:=b.Library.Cells[k].Arcs) (L:=fun m s j=>F_3_L2 n b (i:Int) b.Library.Cells[k] _ m s j) (k:=fun s=>F_3_L1 n b (fun l44 i48=>(F_3_L3 n b (fun l55 i59=>(some l55)) n l44 0)) m s ((i + 1:Nat):Int)) (lkA (offI b.Design i)) 4 s.length (fun j a _=>lkA_len _ _ a) (by omega) ?_ ?_ n (by omega) s (by omega)
  ·intro m j hj s2 hs2
   obtain ⟨⟨f0,f1⟩,⟨t0,t1⟩,kd⟩:=arc_rng vc hj
   simp only [F_3_L2.eq_2,dlt hj,cT,getI_el hj,obs,wT j]
   by_cases c:b.Library.Cells[k].Arcs[j].Kind ≤ 3
   ·rw [decide_eq_true c,cT]
    obtain ⟨F,eF⟩:=Int.eq_ofNat_of_zero_le f0
    have eF:b.Library.Cells[k].Arcs[j].From = (F:Int):=eF
    obtain ⟨T,eT⟩:=Int.eq_ofNat_of_zero_le t0
    have eT:b.Library.Cells[k].Arcs[j].To = (T:Int):=eT
    have p1:=Fnd1 (n:=n) vd (q:=F) hi (by omega) hn
    have p2:=Fnd1 (n:=n) vd (q:=T) hi (by omega) hn
    rw [eF,eT,p1,obs,p2,obs,L09A (by omega) (by omega) (by omega) hn,obs]
    congr 2
    unfold lkA
    rw [eF,eT]
    simp
   ·rw [decide_eq_false c,cF]
    unfold lkA
    rw [tra_none (by omega),List.map_nil,List.append_nil]
  ·intro m s
   simp only [F_3_L2.eq_2,dnl,cF]) (by
  intro m s
  simp only [F_3_L1.eq_2,dnl,cF]) n (by omega) [] (by simp)]
 rw [List.nil_append]
 rw [loop_idx (xs:=b.Design.Nets) (L:=fun m s i=>F_3_L3 n b (fun l55 i59=>(some l55)) m s i) (k:=fun s=>some s) (fun q _=>lkN b.Design q) 156 (idx (lkI b) 0 b.Design.Instances).length (fun j x _=>lkN_len vd j) (by omega) (by
  intro m i hi s hs
  have hd:=(drv_at vd hi).lt
  have hsl:(snkI b.Design (i:Int)).length ≤ 78:=by
   rw [snkI_len]; exact Nat.le_trans List.countP_le_length hl
  simp only [F_3_L3.eq_2,dlt hi,cT,Drv1 vd hi hn,Snk1 vd (i:Int) hn,obs,wT i]
  refine loop_idx (xs:=snkI b.Design (i:Int)) (L:=fun m s j=>F_3_L4 n (drvN b.Design i:Int) (snkI b.Design (i:Int)) _ m s j) (k:=fun s=>F_3_L3 n b (fun l55 i59=>(some l55)) m s ((i + 1:Nat):Int)) (lkS (drvN b.Design i:Int)) 2 s.length (fun j a _=>by simp [lkS]) (by omega) ?_ ?_ n (by omega) s (by omega)
  ·intro m j hj s2 hs2
   have hq:=snkI_rng _ (List.getElem_mem hj)
   simp only [F_3_L4.eq_2,dlt hj,cT,getI_el hj,obs,wT j]
   rw [L09P (by omega) (by omega) (by omega) (by omega) (by omega),obs,L09P (by simp; omega) (by omega) (by omega) (by omega) (by omega),obs]
   rw [List.append_assoc]
   congr 2
   simp [lkS]
  ·intro m s
   simp only [F_3_L4.eq_2,dnl,cF]) (by
  intro m s
  simp only [F_3_L3.eq_2,dnl,cF]) n (by omega) _ (Nat.le_refl _)]
 rfl
theorem idx1_len {α β:Type} (h:Nat → α → β):∀ (xs:List α) (s:Nat),(idx (fun j q=>[h j q]) s xs).length = xs.length
 | [],_=>rfl
 | x :: xs,s=>by simp [idx,idx1_len h xs (s + 1)]
theorem idx_one {α β:Type} (h:α → β):∀ (xs:List α) (s:Nat),idx (fun _ q=>[h q]) s xs = xs.map h
 | [],_=>rfl
 | x :: xs,s=>by simp [idx,idx_one h xs (s + 1)]
theorem plI_length (i:Nat) (x:S_Instance):(plI i x).length = x.Nets.length:=idx1_len (fun j q=>S_place.mk i j q ((j:Int) == (x.Nets.length:Int) - 1)) x.Nets 0
theorem offI_succ {d:S_Design} {i:Nat} (hi:i < d.Instances.length):offI d (i + 1) = offI d i + d.Instances[i].Nets.length:=by
 unfold offI; rw [idx_take hi,List.length_append,plI_length]
theorem tra_rng {a:S_Arc}:∀ p ∈ tra a,(0 ≤ p.1 ∧ p.1 ≤ 1) ∧ 0 ≤ p.2 ∧ p.2 ≤ 1:=fun p hp=>by
 have:=(List.mem_filter.1 hp).1
 simp only [List.mem_cons,List.not_mem_nil,or_false] at this
 rcases this with rfl | rfl | rfl | rfl <;> simp
theorem Trn {n:Nat} {a:S_Arc} (h:a.Kind = 1 ∧ (1 ≤ a.Sense ∧ a.Sense ≤ 3) ∨ a.Kind = 2 ∨ a.Kind = 3 ∨ a.Kind = 4 ∨ a.Kind = 5):F_3m n a = some ((tra a).map fun p=>(⟨p.1,p.2⟩:A2_Int)):=by
 unfold F_3m
 rcases h with ⟨k,s⟩ | k | k | k | k
 ·rcases (by omega:a.Sense = 1 ∨ a.Sense = 2 ∨ a.Sense = 3) with s | s | s <;> simp [tra,fitA,k,s]
 all_goals simp [tra,fitA,k]
theorem Cel2 {n:Nat} {b:S_Block} (v:VBlock b) {i:Nat} (hi:i < b.Design.Instances.length) (hn:1048577 ≤ n):F_t n b b.Design.Instances[i] (offI b.Design i:Int) = some (lkI b i b.Design.Instances[i]):=by
 have vd:=v.design
 have hl:=pls_len vd.short vd.few.1 vd.few.2.2
 obtain ⟨k,hk,_,gc,hnl,vc⟩:=v.design.inst_at hi
 have fa:=vc.few
 have fp:=vc.pins.few
 have hoff:=(pls_first (d:=b.Design) (q:=0) hi (by have:=(vd.inst _ (List.getElem_mem hi)).long vd.lib; omega)).lt
 have ea:arcsOf b b.Design.Instances[i] = b.Library.Cells[k].Arcs:=by unfold arcsOf; rw [gc]
 rw [F_t,gc,obs,lkI,ea]
 rw [loop_idx (xs:=b.Library.Cells[k].Arcs) (L:=fun m s j=>F_t_L1 n (offI b.Design i:Int) b.Library.Cells[k] (fun l47 i51=>(some l47)) m s j) (k:=fun s=>some s) (lkA (offI b.Design i)) 4 0 (fun j a _=>lkA_len _ _ a) (by omega) (by
  intro m j hj s hs
  obtain ⟨⟨f0,f1⟩,⟨t0,t1⟩,kd⟩:=arc_rng vc hj
  simp only [F_t_L1.eq_2,dlt hj,cT,getI_el hj,obs,Trn kd,wT j]
  have e:lkA (offI b.Design i) j b.Library.Cells[k].Arcs[j] = idx (fun _ (t:A2_Int)=>[(⟨2 * ((offI b.Design i:Int) + b.Library.Cells[k].Arcs[j].From) + t.e0,2 * ((offI b.Design i:Int) + b.Library.Cells[k].Arcs[j].To) + t.e1,1,(j:Int)⟩:S_Link)]) 0 ((tra b.Library.Cells[k].Arcs[j]).map fun p=>(⟨p.1,p.2⟩:A2_Int)):=by
   rw [idx_one,List.map_map]; rfl
  rw [e]
  have tl:=tra_len b.Library.Cells[k].Arcs[j]
  refine loop_idx (xs:=(tra b.Library.Cells[k].Arcs[j]).map fun p=>(⟨p.1,p.2⟩:A2_Int)) (L:=fun m s q=>F_t_L2 (offI b.Design i:Int) (j:Int) b.Library.Cells[k].Arcs[j] ((tra b.Library.Cells[k].Arcs[j]).map fun p=>(⟨p.1,p.2⟩:A2_Int)) _ m s q) (k:=fun s=>F_t_L1 n (offI b.Design i:Int) b.Library.Cells[k] (fun l47 i51=>(some l47)) m s ((j + 1:Nat):Int)) _ 1 s.length (fun _ _ _=>by simp) (by rw [List.length_map]; omega) ?_ ?_ n (by rw [List.length_map]; omega) s (by omega)
  ·intro m q hq s2 hs2
   have hq2:q < (tra b.Library.Cells[k].Arcs[j]).length:=by simpa using hq
   have r:=tra_rng _ (List.getElem_mem hq2)
   have e2:((tra b.Library.Cells[k].Arcs[j]).map fun p=>(⟨p.1,p.2⟩:A2_Int))[q] = ⟨(tra b.Library.Cells[k].Arcs[j])[q].1,(tra b.Library.Cells[k].Arcs[j])[q].2⟩:=by simp
   simp only [F_t_L2.eq_2,dlt hq,cT,getI_el hq,obs,e2,wT q]
   rw [wrap64 (x:=(offI b.Design i:Int) + b.Library.Cells[k].Arcs[j].From) (by omega) (by omega),wrap64 (x:=(offI b.Design i:Int) + b.Library.Cells[k].Arcs[j].To) (by omega) (by omega),wrap64 (x:=2 * ((offI b.Design i:Int) + b.Library.Cells[k].Arcs[j].From)) (by omega) (by omega),wrap64 (x:=2 * ((offI b.Design i:Int) + b.Library.Cells[k].Arcs[j].To)) (by omega) (by omega),wrap64 (by omega) (by omega),wrap64 (by omega) (by omega),appN_ok (by simp; omega) (by omega),obs]
  ·intro m s
   simp only [F_t_L2.eq_2,dnl,cF]) (by
  intro m s
  simp only [F_t_L1.eq_2,dnl,cF]) n (by omega) [] (by simp)]
 rw [List.nil_append]
def snkT (d:S_Design) (q j:Nat):List Int:=idx (fun i p=>if isSnk (q:Int) p = true then [(i:Int)] else []) 0 ((pls d).take j)
theorem snkT_all (d:S_Design) (q:Nat):snkT d q (pls d).length = snkI d (q:Int):=by unfold snkT snkI; rw [List.take_length]
theorem snkT_len (d:S_Design) (q j:Nat):(snkT d q j).length ≤ j:=by
 have:=idx_len (c:=1) (g:=fun i p=>if isSnk (q:Int) p = true then [(i:Int)] else []) ((pls d).take j) 0 fun i p _=>by split <;> simp
 have h2:((pls d).take j).length ≤ j:=by simp; omega
 unfold snkT; omega
theorem Vw3 {n:Nat} {b:S_Block} (v:VBlock b) (hn:1048577 ≤ n):Tot (fun r:S_view=>r.places_ = pls b.Design ∧ r.links_ = lks b) (F_2 n b):=by
 have vd:=v.design
 have f1:=vd.few.1; have f2:=vd.few.2.1
 have hl:=pls_len vd.short vd.few.1 vd.few.2.2
 have hW:=v.many
 have hI:=idx_len (c:=32) (g:=lkI b) b.Design.Instances 0 fun j x hx=>lkI_len v j hx
 rw [F_2,Pls2 vd.short vd.few.1 vd.few.2.2 hn,obs]
 refine loop_tot (L:=fun m j (s:Int × List S_Link)=>F_2_L1 n b _ m s.1 j s.2) b.Design.Instances.length (fun j s=>s.1 = (offI b.Design j:Int) ∧ s.2 = idx (lkI b) 0 (b.Design.Instances.take j)) ?_ ?_ n ((0:Int),[]) (by omega) ⟨by simp [offI,idx],by simp [idx]⟩
 ·intro m j s hj ⟨hs1,hs2⟩
  have hlen:=(vd.inst _ (List.getElem_mem hj)).long vd.lib
  have hoff:=(pls_first (d:=b.Design) (q:=0) hj (by omega)).lt
  have hsl:=idx_len (c:=32) (g:=lkI b) (b.Design.Instances.take j) 0 fun i x hx=>lkI_len v i (List.mem_of_mem_take hx)
  have htl:(b.Design.Instances.take j).length = j:=by simp; omega
  have h32:=lkI_len v j (List.getElem_mem hj)
  simp only [F_2_L1.eq_2,dlt hj,cT,getI_el hj,obs,hs1,hs2,Cel2 v hj hn,F_0b,wT j]
  rw [appN_ok (by omega) (by omega),obs,wrap64 (by omega) (by omega)]
  exact ⟨((offI b.Design (j + 1):Int),idx (lkI b) 0 (b.Design.Instances.take (j + 1))),⟨rfl,rfl⟩,by rw [idx_take hj,offI_succ hj]; rfl⟩
 ·intro m s ⟨_,hs2⟩
  rw [List.take_length] at hs2
  simp only [F_2_L1.eq_2,dnl,cF]
  rw [mkN_ok (by omega) (by omega),obs,mkN_ok (by omega) (by omega),obs,hs2]
  refine loop_tot (L:=fun m j (s:List Int × List (List Int))=>F_2_L2 (pls b.Design) _ m j s.1 s.2) (pls b.Design).length (fun j s=>(s.1.length = b.Wires.length ∧ s.2.length = b.Wires.length) ∧ (∀ q (h:q < s.2.length),s.2[q] = snkT b.Design q j) ∧ ∀ q,q < b.Wires.length → drvN b.Design q < j → gd s.1 q = (drvN b.Design q:Int)) ?_ ?_ n (List.replicate b.Wires.length 0,List.replicate b.Wires.length []) (by omega) ⟨⟨by simp,by simp⟩,fun q h=>by simp [snkT,idx],fun q _ h=>by omega⟩
  ·intro m j s hj ⟨⟨h1,h2⟩,h3,h4⟩
   have hp:=vd.net _ (List.getElem_mem hj)
   obtain ⟨N,hN⟩:=Int.eq_ofNat_of_zero_le hp.1
   have hN:(pls b.Design)[j].net_ = (N:Int):=hN
   have hNl:N < b.Wires.length:=by omega
   obtain ⟨a,ea⟩:=getI_in (t:=s.1) (i:=(N:Int)) (by omega) (by omega)
   have ey:getI s.2 (N:Int) = some s.2[N]:=getI_el (by omega)
   have hyl:=snkT_len b.Design N j
   simp only [F_2_L2.eq_2,dlt hj,cT,getI_el hj,obs,hN,ea,ey,h3 N (by omega),Int.toNat_natCast,wT j]
   cases hdr:(pls b.Design)[j].drives_ with
   | true =>
    rw [cT]
    refine ⟨(s.1.set N (j:Int),s.2),⟨⟨by simpa using h1,h2⟩,fun q hq=>?_,fun q hq hlt=>?_⟩,rfl⟩
    ·have:isSnk (q:Int) (pls b.Design)[j] = false:=by simp [isSnk,hdr]
     rw [h3 q hq]; unfold snkT
     rw [idx_take hj,this]; simp
    ·have hd:=drv_at vd (q:=q) (by omega)
     rw [gd_set (by omega)]
     by_cases c:N = q
     ·subst c
      rw [if_pos rfl,hd.only j hj (by simp [isDrv,hN,hdr])]
     ·rw [if_neg c]
      refine h4 q hq ?_
      rcases Nat.lt_or_ge (drvN b.Design q) j with h | h
      ·exact h
      ·exfalso
       have ej:drvN b.Design q = j:=by omega
       have hh:=hd.hit
       simp only [isDrv,Bool.and_eq_true,beq_iff_eq] at hh
       have h5:=hh.1
       simp only [ej] at h5
       rw [hN] at h5; omega
   | false =>
    rw [cF,appN_ok (by simp; omega) (by omega),obs]
    refine ⟨(s.1,s.2.set N (snkT b.Design N j ++ [(j:Int)])),⟨⟨h1,by simpa using h2⟩,fun q hq=>?_,fun q hq hlt=>?_⟩,rfl⟩
    ·simp only [List.length_set] at hq
     rw [List.getElem_set]
     unfold snkT
     rw [idx_take hj]
     by_cases c:N = q
     ·subst c
      have:isSnk (N:Int) (pls b.Design)[j] = true:=by simp [isSnk,hN,hdr]
      rw [if_pos rfl,this]; simp
     ·have:isSnk (q:Int) (pls b.Design)[j] = false:=by
       have:((N:Int) == (q:Int)) = false:=by rw [beq_eq_false_iff_ne]; omega
       simp [isSnk,hN,this]
      rw [if_neg c,this,h3 q (by omega)]; simp [snkT]
    ·have hd:=drv_at vd (q:=q) (by omega)
     refine h4 q hq ?_
     rcases Nat.lt_or_ge (drvN b.Design q) j with h | h
     ·exact h
     ·exfalso
      have ej:drvN b.Design q = j:=by omega
      have hh:=hd.hit
      simp only [isDrv,Bool.and_eq_true] at hh
      have h5:=hh.2
      simp only [ej] at h5
      rw [hdr] at h5; cases h5
  ·intro m t ⟨⟨h1,h2⟩,h3,h4⟩
   simp only [F_2_L2.eq_2,dnl,cF]
   refine loop_tot (L:=fun m j (s:(List S_Link × List Int) × List Unit)=>F_2_L3 n b t.1 t.2 _ m j s.1.1 s.1.2 s.2) b.Wires.length (fun j u=>(u.1.1 = idx (lkI b) 0 b.Design.Instances ++ idx (fun q (_:ByteArray)=>lkN b.Design q) 0 (b.Design.Nets.take j) ∧ u.1.2.length = j) ∧ u.2.length = j) ?_ ?_ n ((idx (lkI b) 0 b.Design.Instances,[]),[]) (by omega) ⟨⟨by simp [idx],rfl⟩,rfl⟩
   ·intro m j u hj ⟨⟨g1,g2⟩,g3⟩
    obtain ⟨r,er,hr⟩:=Ld2 (n:=n) v hj hn
    obtain ⟨z,ez,_⟩:=Ex2 (n:=n) v hj hn
    have hm:=(v.wire j hj).many
    have e0:getI r 0 = some (gd r 0):=gI (i:=0) (by omega)
    have hj2:j < t.2.length:=by omega
    have hjN:j < b.Design.Nets.length:=by omega
    have hd:=(drv_at vd hjN).lt
    have a1:getI t.1 (j:Int) = some (drvN b.Design j:Int):=by rw [gI (by omega),h4 j hj hd]
    have hsk:t.2[j] = snkI b.Design (j:Int):=by rw [h3 j hj2,snkT_all]
    have hgl:u.1.1.length ≤ 448 + 156 * j:=by
     have q1:=idx_len (c:=156) (g:=fun q (_:ByteArray)=>lkN b.Design q) (b.Design.Nets.take j) 0 fun i x _=>lkN_len vd i
     have q2:(b.Design.Nets.take j).length = j:=by simp; omega
     rw [g1,List.length_append]; omega
    have hsl:(snkI b.Design (j:Int)).length ≤ 78:=by
     rw [snkI_len]; exact Nat.le_trans List.countP_le_length hl
    simp only [F_2_L3.eq_2,dlt hj,cT,obs,er,e0,ez,getI_el hj2,hsk]
    rw [appN_ok (by simp; omega) (by omega),obs,appN_ok (by simp; omega) (by omega),obs,wT j]
    refine ⟨((u.1.1 ++ lkN b.Design j,u.1.2 ++ [gd r 0]),u.2 ++ List.map (fun _=>()) [z]),⟨⟨?_,by simp; omega⟩,by simp; omega⟩,?_⟩
    ·rw [g1,idx_take hjN,List.append_assoc]
    ·refine loop_idx (xs:=snkI b.Design (j:Int)) (L:=fun m' s k=>F_2_L4 n t.1 (j:Int) (snkI b.Design (j:Int)) _ m' k s) (k:=fun s=>F_2_L3 n b t.1 t.2 _ m ((j + 1:Nat):Int) s (u.1.2 ++ [gd r 0]) (u.2 ++ List.map (fun _=>()) [z])) (lkS (drvN b.Design j:Int)) 2 u.1.1.length (fun j a _=>by simp [lkS]) (by omega) ?_ ?_ n (by omega) u.1.1 (by omega)
     ·intro m k hk s hs
      have hq:=snkI_rng _ (List.getElem_mem hk)
      obtain ⟨n',rfl⟩:∃ n',n = n' + 3:=⟨n - 3,by omega⟩
      have w1:IntKind.wrap .i64 ((0:Int) + 1) = 1:=by decide
      have w2:IntKind.wrap .i64 ((1:Int) + 1) = 2:=by decide
      simp only [F_2_L4.eq_2,dlt hk,cT,getI_el hk,obs,wT k]
      rw [F_2_L5.eq_2,show decide ((0:Int) < 2) = true from rfl,cT,a1,obs,wrap64 (x:=2 * (drvN b.Design j:Int)) (by omega) (by omega),wrap64 (x:=2 * (snkI b.Design (j:Int))[k]) (by omega) (by omega),wrap64 (x:=2 * (drvN b.Design j:Int) + 0) (by omega) (by omega),wrap64 (x:=2 * (snkI b.Design (j:Int))[k] + 0) (by omega) (by omega),appN_ok (by simp; omega) (by omega),obs,w1,F_2_L5.eq_2,show decide ((1:Int) < 2) = true from rfl,cT,a1,obs,wrap64 (x:=2 * (drvN b.Design j:Int)) (by omega) (by omega),wrap64 (x:=2 * (snkI b.Design (j:Int))[k]) (by omega) (by omega),wrap64 (x:=2 * (drvN b.Design j:Int) + 1) (by omega) (by omega),wrap64 (x:=2 * (snkI b.Design (j:Int))[k] + 1) (by omega) (by omega),appN_ok (by simp; omega) (by omega),obs,w2,F_2_L5.eq_2,show decide ((2:Int) < 2) = false from rfl,cF,List.append_assoc]
      congr 1
      simp [lkS]
     ·intro m s
      simp only [F_2_L4.eq_2,dnl,cF]
   ·intro m u ⟨⟨g1,_⟩,_⟩
    simp only [F_2_L3.eq_2,dnl,cF]
    refine ⟨_,rfl,rfl,?_⟩
    show u.1.1 = lks b
    rw [g1,hW,List.take_length]; rfl
def RisP (N:Int) (br:List Int):Prop:=∀ i,i < br.length → (0 ≤ gd br i ∧ gd br i ≤ N - 1) ∧ (0 < i → gd br (i - 1) < gd br i)
theorem Rs1 {n:Nat} {br:List Int} {N:Int} (h:br.length ≤ 1048576) (hN:0 ≤ N ∧ N ≤ 1048576) (hn:1048577 ≤ n):Tells (RisP N br) (F_10 n br N):=by
 rw [F_10]
 refine (loopT (L:=fun m i=>F_10_L1 n br N _ m i) (Q:=True) br.length 0 (fun i=>(0 ≤ gd br i ∧ gd br i ≤ N - 1) ∧ (0 < i → gd br (i - 1) < gd br i)) ?_ ?_ n 0 (by omega) (by omega) (by omega) (fun j _ h=>by omega)).iff ?_
 ·intro m i _ hi
  simp only [F_10_L1.eq_2,dlt hi,cT,gI hi,obs,F_1,wT i,wrap64 (x:=N - 1) (by omega) (by omega)]
  by_cases c:0 ≤ gd br i ∧ gd br i ≤ N - 1
  ·have e:(decide (gd br i ≥ 0) && decide (gd br i ≤ N - 1)) = true:=rngB.2 c
   rw [e]
   simp only [Bool.not_true,cF]
   by_cases c0:0 < i
   ·have w1:IntKind.wrap .i64 ((i:Int) - 1) = ((i - 1:Nat):Int):=by rw [wrap64 (by omega) (by omega)]; omega
    simp only [decide_eq_true (show (i:Int) > 0 by omega),cT,w1,gI (show i - 1 < br.length by omega),obs]
    by_cases c1:gd br (i - 1) < gd br i
    ·rw [decide_eq_false (show ¬ gd br (i - 1) ≥ gd br i by omega),cF]; exact .inl ⟨⟨c,fun _=>c1⟩,rfl⟩
    ·rw [decide_eq_true (show gd br (i - 1) ≥ gd br i by omega),cT]; exact .inr ⟨fun h=>c1 (h.2 c0),rfl⟩
   ·simp only [decide_eq_false (show ¬ (i:Int) > 0 by omega),cF,obs]
    exact .inl ⟨⟨c,fun h=>absurd h c0⟩,by trivial⟩
  ·have e:(decide (gd br i ≥ 0) && decide (gd br i ≤ N - 1)) = false:=by
    cases q:(decide (gd br i ≥ 0) && decide (gd br i ≤ N - 1)) with
    | false=>rfl
    | true=>exact absurd (rngB.1 q) c
   rw [e]
   simp only [Bool.not_false,cT,obs]
   exact .inr ⟨fun h=>c h.1,by trivial⟩
 ·intro m i h1 h2 _
  obtain rfl:i = br.length:=by omega
  simp only [F_10_L1.eq_2,dnl,cF]
  exact ⟨true,rfl,by simp⟩
 ·exact ⟨fun h i hi=>h.1 i (Nat.zero_le _) hi,fun h=>⟨fun i _ hi=>h i hi,trivial⟩⟩
theorem Rs2 {n:Nat} {br:List Int} {v:S_view} (h:br.length ≤ 1048576) (hN:v.links_.length ≤ 1048576) (hn:1048577 ≤ n):Tells (RisP (v.links_.length:Int) br) (F_3o n v br):=by
 rw [F_3o,F_43,obs,wrap64 (by omega) (by omega),AW h hn,obs]
 have ha:(br.all fun k=>decide (k ≥ 0) && decide (k ≤ (v.links_.length:Int) - 1)) = true ↔ ∀ i,i < br.length → 0 ≤ gd br i ∧ gd br i ≤ (v.links_.length:Int) - 1:=by
  rw [List.all_eq_true]
  refine ⟨fun g i hi=>?_,fun g k hk=>?_⟩
  ·have:=g br[i] (List.getElem_mem hi)
   rw [gdX hi]; exact rngB.1 this
  ·obtain ⟨i,hi,rfl⟩:=List.getElem_of_mem hk
   have:=g i hi
   rw [gdX hi] at this; exact rngB.2 this
 cases c:(br.all fun k=>decide (k ≥ 0) && decide (k ≤ (v.links_.length:Int) - 1)) with
 | true =>
  have ha:=ha.1 c
  obtain ⟨r,e,hr⟩:=Inc (n:=n) h hn
  rw [cT,e,obs,obs]
  exact ⟨r,rfl,hr.trans ⟨fun g i hi=>⟨ha i hi,g i hi⟩,fun g i hi=>(g i hi).2⟩⟩
 | false =>
  rw [cF,obs]
  refine ⟨false,rfl,by simp,fun g=>?_⟩
  rw [ha.2 fun i hi=>(g i hi).1] at c; cases c
theorem Has1 {n:Nat} {br:List Int} {x:Int} (h:br.length ≤ 1048576) (hn:1048577 ≤ n):F_11 n br x = some (br.any fun y=>y == x):=by
 rw [F_11]
 refine loop (L:=fun m i (_:Unit)=>F_11_L1 br x (fun i5=>some false) m i) br.length (fun i _=>(br.any fun y=>y == x) = ((br.drop i).any fun y=>y == x)) (fun o=>o = some (br.any fun y=>y == x)) ?_ ?_ n 0 () (by omega) (by omega) (by simp)
 ·intro m i _ hi hI
  simp only [F_11_L1.eq_2,dlt hi,cT,getI_el hi,obs,wT i]
  rw [List.drop_eq_getElem_cons hi,List.any_cons] at hI
  cases c:(br[i] == x) with
  | true=>rw [c,Bool.true_or] at hI; rw [hI]; exact .inr rfl
  | false=>rw [c,Bool.false_or] at hI; exact .inl ⟨(),hI,rfl⟩
 ·intro m _ hI
  rw [List.drop_length] at hI
  simp only [F_11_L1.eq_2,dnl,cF,hI,List.any_nil]
def arcAt (b:S_Block) (x:S_Link):Option S_Arc:=Option.bind (getI (pls b.Design) (IntKind.wrap .i64 (Int.tdiv x.To 2))) fun p=>Option.bind (getI b.Design.Instances p.instance_) fun y=>Option.bind (getI b.Library.Cells y.Cell) fun c=>Option.bind (getI c.Arcs x.Index) fun a=>some a
def lnch (b:S_Block) (x:S_Link):Bool:=x.Kind == 1 && match arcAt b x with
 | some a=>a.Kind == 2 || a.Kind == 3
 | none=>false
structure LkOK (b:S_Block) (x:S_Link):Prop where
 from_:0 ≤ x.From ∧ x.From < nodes b
 to_:0 ≤ x.To ∧ x.To < nodes b
 arc:x.Kind = 1 → ∃ p y c a,getI (pls b.Design) (IntKind.wrap .i64 (Int.tdiv x.To 2)) = some p ∧ p ∈ pls b.Design ∧ getI b.Design.Instances p.instance_ = some y ∧ getI b.Library.Cells y.Cell = some c ∧ getI c.Arcs x.Index = some a ∧ (a.Kind = 1 ∨ a.Kind = 2 ∨ a.Kind = 3)
theorem lks_ok {b:S_Block} (v:VBlock b):∀ x ∈ lks b,LkOK b x:=by
 have vd:=v.design
 have hl:=pls_len vd.short vd.few.1 vd.few.2.2
 have nd:nodes b = 2 * ((pls b.Design).length:Int):=rfl
 intro x hx
 simp only [lks,List.mem_append] at hx
 rcases hx with hx | hx
 ·refine idx_all (Q:=LkOK b) b.Design.Instances 0 (fun i hi y hy=>?_) x hx
  rw [Nat.zero_add] at hy
  obtain ⟨k,hk,_,gc,hnl,vc⟩:=vd.inst_at hi
  have ea:arcsOf b b.Design.Instances[i] = b.Library.Cells[k].Arcs:=by unfold arcsOf; rw [gc]
  rw [lkI,ea] at hy
  refine idx_all (Q:=LkOK b) _ 0 (fun j hj z hz=>?_) y hy
  rw [Nat.zero_add] at hz
  obtain ⟨⟨f0,f1⟩,⟨t0,t1⟩,kd⟩:=arc_rng vc hj
  obtain ⟨t,ht,rfl⟩:=List.mem_map.1 hz
  have tr:=tra_rng t ht
  obtain ⟨F,eF⟩:=Int.eq_ofNat_of_zero_le f0
  have eF:b.Library.Cells[k].Arcs[j].From = (F:Int):=eF
  obtain ⟨T,eT⟩:=Int.eq_ofNat_of_zero_le t0
  have eT:b.Library.Cells[k].Arcs[j].To = (T:Int):=eT
  have b1:=(pls_first (d:=b.Design) (q:=F) hi (by omega)).lt
  have pf:=pls_first (d:=b.Design) (q:=T) hi (by omega)
  have b2:=pf.lt
  obtain ⟨p,ep,hp⟩:=pf.hit
  have hp:(p.instance_ == (i:Int) && p.pin_ == (T:Int)) = true:=hp
  simp only [Bool.and_eq_true,beq_iff_eq] at hp
  have k3:¬ 3 < b.Library.Cells[k].Arcs[j].Kind:=fun h=>by rw [tra_none h] at ht; cases ht
  refine ⟨?_,?_,fun _=>⟨p,b.Design.Instances[i],b.Library.Cells[k],b.Library.Cells[k].Arcs[j],?_,List.mem_of_getElem? ep,?_,gc,?_,by omega⟩⟩
  ·have h1:0 ≤ 2 * ((offI b.Design i:Int) + b.Library.Cells[k].Arcs[j].From) + t.1 ∧ 2 * ((offI b.Design i:Int) + b.Library.Cells[k].Arcs[j].From) + t.1 < nodes b:=by rw [eF]; omega
   exact h1
  ·have h1:0 ≤ 2 * ((offI b.Design i:Int) + b.Library.Cells[k].Arcs[j].To) + t.2 ∧ 2 * ((offI b.Design i:Int) + b.Library.Cells[k].Arcs[j].To) + t.2 < nodes b:=by rw [eT]; omega
   exact h1
  ·show getI (pls b.Design) (IntKind.wrap .i64 (Int.tdiv (2 * ((offI b.Design i:Int) + b.Library.Cells[k].Arcs[j].To) + t.2) 2)) = some p
   rw [eT]
   have e1:Int.tdiv (2 * ((offI b.Design i:Int) + (T:Int)) + t.2) 2 = ((offI b.Design i + T:Nat):Int):=by
    rw [Int.tdiv_eq_ediv_of_nonneg (by omega)]; omega
   rw [e1,wrap64 (by omega) (by omega),getI_nat]; exact ep
  ·rw [hp.1]; exact getI_el hi
  ·exact getI_el hj
 ·refine idx_all (Q:=LkOK b) b.Design.Nets 0 (fun q hq y hy=>?_) x hx
  rw [Nat.zero_add] at hy
  have hd:=(drv_at vd hq).lt
  refine idx_all (Q:=LkOK b) _ 0 (fun j hj z hz=>?_) y hy
  have hs:=snkI_rng _ (List.getElem_mem hj)
  simp only [lkS,List.mem_cons,List.not_mem_nil,or_false] at hz
  rcases hz with rfl | rfl
  ·exact ⟨⟨by show (0:Int) ≤ 2 * _; omega,by show (2:Int) * _ < _; omega⟩,⟨by show (0:Int) ≤ 2 * _; omega,by show (2:Int) * _ < _; omega⟩,fun h=>by have h:(2:Int) = 1:=h; omega⟩
  ·exact ⟨⟨by show (0:Int) ≤ 2 * _ + 1; omega,by show (2:Int) * _ + 1 < _; omega⟩,⟨by show (0:Int) ≤ 2 * _ + 1; omega,by show (2:Int) * _ + 1 < _; omega⟩,fun h=>by have h:(2:Int) = 1:=h; omega⟩
theorem Lch2 {n:Nat} {b:S_Block} {w:S_view} (hw:w.Block = b) (hp:w.places_ = pls b.Design) {x:S_Link} (ok:LkOK b x):F_3p n w x = some (lnch b x):=by
 rw [F_3p]
 unfold lnch
 by_cases k:x.Kind = 1
 ·have e1:(x.Kind != 1) = false:=by rw [bne_eq_false_iff_eq]; exact k
  have e2:(x.Kind == 1) = true:=by rw [beq_iff_eq]; exact k
  obtain ⟨p,y,c,a,g1,_,g2,g3,g4,_⟩:=ok.arc k
  rw [e1,e2,cF,F_44,hp,hw]
  simp only [g1,g2,g3,g4,obs,arcAt,Bool.true_and]
 ·have e1:(x.Kind != 1) = true:=by rw [bne_iff_ne]; exact k
  have e2:(x.Kind == 1) = false:=by rw [beq_eq_false_iff_ne]; exact k
  rw [e1,e2,cT,Bool.false_and]
theorem Cap1 {n:Nat} {l:S_Library} {d:S_Design} (v:VDesign l d) {p:S_place} (hp:p ∈ pls d):∃ r,F_3b n l d (toP p) = some r:=by
 rw [F_3b]
 by_cases c:p.instance_ < 0
 ·rw [decide_eq_true (show (toP p).instance_ < 0 from c),cT]; exact ⟨_,rfl⟩
 ·obtain ⟨x,c',pin,e1,e2,e3⟩:=v.place p hp (by omega)
  have e1:getI d.Instances (toP p).instance_ = some x:=e1
  have e3:getI c'.Pins (toP p).pin_ = some pin:=e3
  rw [decide_eq_false (show ¬ (toP p).instance_ < 0 from c),cF,e1,obs,e2,obs,e3,obs]; exact ⟨_,rfl⟩
theorem Ld1 {n:Nat} {b:S_Block} (v:VBlock b) {i:Nat} (hi:i < b.Wires.length) (hn:1048577 ≤ n):Tot (fun r=>r.length = b.Wires[i].Parent.length) (F_v n b (i:Int)):=by
 have vd:=v.design
 have vw:=v.wire i hi
 have hm:=vw.many
 have hP:=vw.cap
 have hl:=pls_len vd.short vd.few.1 vd.few.2.2
 have hsl:(snkI b.Design (i:Int)).length = b.Wires[i].Sink.length:=by rw [snkI_len]; have:=vw.sink; omega
 have hsn:snk b.Design (i:Int) ≤ 78:=Nat.le_trans List.countP_le_length hl
 have hsn2:=snkI_len (d:=b.Design) (q:=(i:Int))
 rw [F_v,getI_el hi,obs,F_3t,appN_ok (by simp; omega) (by omega),obs,obs,Pls1 vd.short vd.few.1 vd.few.2.2 hn,obs,Snk1 vd (i:Int) hn,obs]
 refine loop_tot (L:=fun m j s=>F_v_L1 n b b.Wires[i] ((pls b.Design).map toP) (snkI b.Design (i:Int)) _ m j s) (snkI b.Design (i:Int)).length (fun _ s=>s.length = b.Wires[i].Parent.length) ?_ ?_ n _ (by omega) (by simp; omega)
 ·intro m j s hj hs
  have hj2:j < b.Wires[i].Sink.length:=by omega
  have hk:=vw.sinks j hj2
  have hq:=snkI_rng _ (List.getElem_mem hj)
  obtain ⟨a,ea⟩:=getI_in (t:=s) hk.1 (by omega)
  obtain ⟨p,ep,hp⟩:=getI_ok (xs:=pls b.Design) hq.1 hq.2
  obtain ⟨r,er⟩:=Cap1 (n:=n) vd (List.mem_of_getElem? hp)
  have ep2:getI ((pls b.Design).map toP) (snkI b.Design (i:Int))[j] = some (toP p):=by
   obtain ⟨N,hN⟩:=Int.eq_ofNat_of_zero_le hq.1
   have hN:(snkI b.Design (i:Int))[j] = (N:Int):=hN
   rw [hN] at hp ⊢
   rw [getI_nat,List.getElem?_map]
   rw [Int.toNat_natCast] at hp
   rw [hp]; rfl
  simp only [F_v_L1.eq_2,dlt hj,cT,getI_el hj,gI hj2,obs,ea,ep2,er,wT j]
  exact ⟨_,by simpa using hs,rfl⟩
 ·intro m s hs
  simp only [F_v_L1.eq_2,dnl,cF]
  have wx:IntKind.wrap .i64 ((s.length:Int) - 1) = ((s.length - 1:Nat):Int):=by rw [wrap64 (by omega) (by omega)]; omega
  rw [wx]
  have key:∀ (m k:Nat) (s:List Int),k < b.Wires[i].Parent.length → s.length = b.Wires[i].Parent.length → k < m → Tot (fun r:List Int=>r.length = b.Wires[i].Parent.length) (F_v_L2 b.Wires[i] (fun i92 l94=>(some l94)) m (k:Int) s):=by
   intro m
   induction m with
   | zero=>intro k s _ _ h; omega
   | succ m ih =>
    intro k s hk hs hm
    by_cases c:0 < k
    ·have hd:decide ((k:Int) > 0) = true:=decide_eq_true (by omega)
     have ht:=vw.tree k c hk
     obtain ⟨a,ea⟩:=getI_in (t:=s) ht.1 (by omega)
     have wk:IntKind.wrap .i64 ((k:Int) - 1) = ((k - 1:Nat):Int):=by rw [wrap64 (by omega) (by omega)]; omega
     simp only [F_v_L2.eq_2,hd,cT,gI hk,obs,ea,gI (show k < s.length by omega),wk]
     exact ih (k - 1) _ (by omega) (by simpa using hs) (by omega)
    ·have hd:decide ((k:Int) > 0) = false:=decide_eq_false (by omega)
     simp only [F_v_L2.eq_2,hd,cF]
     exact ⟨s,rfl,hs⟩
  exact key n (s.length - 1) s (by omega) hs (by omega)
theorem Arc1 {n:Nat} {b:S_Block} (v:VBlock b) {x:S_Link} (ok:LkOK b x) (k:x.Kind = 1) (hn:1048577 ≤ n):∃ a z,F_2k n b x = some (a,z) ∧ (a.Kind == 1) = !lnch b x:=by
 have vd:=v.design
 obtain ⟨p,y,c,a,g1,pm,g2,g3,g4,kd⟩:=ok.arc k
 have hp:=vd.net p pm
 have hW:=v.many
 obtain ⟨N,hN⟩:=Int.eq_ofNat_of_zero_le hp.1
 have hN:p.net_ = (N:Int):=hN
 have hNl:N < b.Wires.length:=by omega
 obtain ⟨r,er,hr⟩:=Ld1 (n:=n) v hNl hn
 have hm:=(v.wire N hNl).many
 have g1':getI ((pls b.Design).map toP) (IntKind.wrap .i64 (Int.tdiv x.To 2)) = some (toP p):=by
  obtain ⟨g0,g5,g6⟩:=getI_lt g1
  obtain ⟨M,hM⟩:=Int.eq_ofNat_of_zero_le g0
  have hM:IntKind.wrap .i64 (Int.tdiv x.To 2) = (M:Int):=hM
  rw [hM] at g6 ⊢
  rw [getI_nat,List.getElem?_map]
  rw [Int.toNat_natCast] at g6
  rw [g6]; rfl
 have g2':getI b.Design.Instances (toP p).instance_ = some y:=g2
 have hN':(toP p).net_ = (N:Int):=hN
 refine ⟨a,gd r 0,?_,?_⟩
 ·rw [F_2k,Pls1 vd.short vd.few.1 vd.few.2.2 hn]
  simp only [obs,g1',g2',g3,g4,hN',er,gI (i:=0) (show 0 < r.length by omega)]
  have e0:getI r 0 = some (gd r 0):=gI (i:=0) (by omega)
  rw [e0]; rfl
 ·have e2:(x.Kind == 1) = true:=by rw [beq_iff_eq]; exact k
  have ea:arcAt b x = some a:=by simp only [arcAt,g1,g2,g3,g4,obs]
  unfold lnch
  rw [e2,ea,Bool.true_and]
  show (a.Kind == 1) = !(a.Kind == 2 || a.Kind == 3)
  rcases kd with h | h | h <;> rw [h] <;> rfl
theorem gb_el {l:List Bool} {i:Nat} (h:i < l.length):getI l (i:Int) = some (gb l i):=by rw [getI_el h]; simp [gb,h]
def Ed (L:List S_Link) (lv:List Bool) (u w:Int):Prop:=∃ k,∃ h:k < L.length,gb lv k = true ∧ L[k].From = u ∧ L[k].To = w
inductive Rch (L:List S_Link) (lv:List Bool) (src:Int → Prop):Int → Prop
 | src {u:Int}:src u → Rch L lv src u
 | step {u w:Int}:Rch L lv src u → Ed L lv u w → Rch L lv src w
theorem Rch.mono {L:List S_Link} {lv:List Bool} {s t:Int → Prop} (h:∀ u,s u → t u) {v:Int} (r:Rch L lv s v):Rch L lv t v:=by
 induction r with
 | src h1=>exact .src (h _ h1)
 | step _ e ih=>exact .step ih e
theorem Rch.or {L:List S_Link} {lv:List Bool} {s t:Int → Prop} {v:Int} (r:Rch L lv (fun u=>s u ∨ t u) v):Rch L lv s v ∨ Rch L lv t v:=by
 induction r with
 | src h=>exact h.elim (fun h=>.inl (.src h)) (fun h=>.inr (.src h))
 | step _ e ih=>exact ih.elim (fun h=>.inl (.step h e)) (fun h=>.inr (.step h e))
theorem Rch.closed {L:List S_Link} {lv:List Bool} {s:Int → Prop} {Q:Int → Prop} (h0:∀ u,s u → Q u) (h1:∀ u w,Q u → Ed L lv u w → Q w) {v:Int} (r:Rch L lv s v):Q v:=by
 induction r with
 | src h=>exact h0 _ h
 | step _ e ih=>exact h1 _ _ ih e
structure RchOK (L:List S_Link) (lv:List Bool) (s:Int → Prop) (N:Nat) (out:List Bool):Prop where
 len:out.length = N
 iff:∀ v:Nat,v < N → (gb out v = true ↔ Rch L lv s (v:Int))
def cf (l:List Bool):Nat:=l.countP (fun b=>!b)
theorem cf_le (l:List Bool):cf l ≤ l.length:=List.countP_le_length
theorem cf_set:∀ {l:List Bool} {i:Nat},i < l.length → gb l i = false → cf (l.set i true) + 1 = cf l
 | [],i,h,_=>by simp at h
 | b :: l,0,_,h=>by
  have h:b = false:=h
  subst h; simp [cf]
 | b :: l,i + 1,hi,h=>by
  have ih:=cf_set (l:=l) (i:=i) (by simpa using hi) h
  unfold cf at ih ⊢
  simp only [List.set_cons_succ,List.countP_cons]; omega
structure LksIn (L:List S_Link) (N:Nat):Prop where
 from_:∀ k (h:k < L.length),0 ≤ L[k].From ∧ L[k].From < (N:Int)
 to_:∀ k (h:k < L.length),0 ≤ L[k].To ∧ L[k].To < (N:Int)
theorem Rc1 {n:Nat} {L:List S_Link} {lv:List Bool} {N s:Nat} (hL:LksIn L N) (hlv:lv.length = L.length) (hl:L.length ≤ 10000) (hN:N ≤ 1000) (hs:s < N) (hn:1048577 ≤ n) :
 ∃ out,F_c n (N:Int) L lv (s:Int) true = some out ∧ RchOK L lv (fun u=>u = (s:Int)) N out:=by
 rw [F_c,mkN_ok (by omega) (by omega),obs,getI_el (show s < (List.replicate N false).length by simpa using hs),obs,Int.toNat_natCast]
 have key:=loopm (L:=fun m (st:Bool × List Bool)=>F_c_L1 n L lv true (fun q33 l34=>(some l34)) m st.1 st.2) (fun st=>2 * cf st.2 + st.1.toNat)
  (fun st=>st.2.length = N ∧ gb st.2 s = true ∧ (∀ v,v < N → gb st.2 v = true → Rch L lv (fun u=>u = (s:Int)) (v:Int)) ∧ (st.1 = false → ∀ k (h:k < L.length),gb lv k = true → gb st.2 L[k].From.toNat = true → gb st.2 L[k].To.toNat = true))
  (fun o=>∃ out,o = some out ∧ RchOK L lv (fun u=>u = (s:Int)) N out) ?_ n (true,(List.replicate N false).set s true) ?_ ?_
 ·exact key
 ·rintro m ⟨q,out⟩ ⟨h1,h2,h3,h4⟩ ih
  have h1:out.length = N:=h1
  have h2:gb out s = true:=h2
  have h3:∀ v,v < N → gb out v = true → Rch L lv (fun u=>u = (s:Int)) (v:Int):=h3
  simp only [F_c_L1.eq_2]
  cases q with
  | false =>
   have h4:=h4 rfl
   refine ⟨out,rfl,h1,fun v hv=>⟨h3 v hv,fun r=>?_⟩⟩
   have:=Rch.closed (Q:=fun u=>0 ≤ u ∧ u < (N:Int) ∧ gb out u.toNat = true) (fun u e=>by subst e; exact ⟨by omega,by omega,by simpa using h2⟩) (fun u w hu e=>by
    obtain ⟨k,hk,e1,e2,e3⟩:=e
    subst e2 e3
    have:=hL.to_ k hk
    exact ⟨this.1,this.2,h4 k hk e1 hu.2.2⟩) r
   simpa using this.2.2
  | true =>
   rw [cT]
   have inner:=loopw (L:=fun m' i (st:Bool × List Bool)=>F_c_L2 L lv true (fun q38 i39 l40=>(F_c_L1 n L lv true (fun q33 l34=>(some l34)) m q38 l40)) m' st.1 i st.2) L.length
    (fun i st=>st.2.length = N ∧ gb st.2 s = true ∧ (∀ v,v < N → gb st.2 v = true → Rch L lv (fun u=>u = (s:Int)) (v:Int)) ∧ (∀ v,gb out v = true → gb st.2 v = true) ∧ cf st.2 ≤ cf out ∧ (st.1 = true → cf st.2 < cf out) ∧ (st.1 = false → st.2 = out ∧ ∀ k (h:k < L.length),k < i → gb lv k = true → gb out L[k].From.toNat = true → gb out L[k].To.toNat = true))
    (fun o=>∃ out,o = some out ∧ RchOK L lv (fun u=>u = (s:Int)) N out) ?_ ?_ n 0 (false,out) (by omega) (by omega) ⟨h1,h2,h3,fun v h=>h,Nat.le_refl _,fun h=>Bool.noConfusion h,fun _=>⟨rfl,fun k _ h=>absurd h (Nat.not_lt_zero k)⟩⟩
   ·exact inner
   ·rintro m' i ⟨q,l⟩ hi ⟨g1,g2,g3,g4,g5,g6,g7⟩ kk
    have g1:l.length = N:=g1
    have g2:gb l s = true:=g2
    have g3:∀ v,v < N → gb l v = true → Rch L lv (fun u=>u = (s:Int)) (v:Int):=g3
    have g4:∀ v,gb out v = true → gb l v = true:=g4
    have g5:cf l ≤ cf out:=g5
    have g6:q = true → cf l < cf out:=g6
    have g7:q = false → l = out ∧ ∀ k (h:k < L.length),k < i → gb lv k = true → gb out L[k].From.toNat = true → gb out L[k].To.toNat = true:=g7
    have hF:=hL.from_ i hi
    have hT:=hL.to_ i hi
    obtain ⟨F,eF⟩:=Int.eq_ofNat_of_zero_le hF.1
    have eF:L[i].From = (F:Int):=eF
    obtain ⟨T,eT⟩:=Int.eq_ofNat_of_zero_le hT.1
    have eT:L[i].To = (T:Int):=eT
    have lF:F < l.length:=by omega
    have lT:T < l.length:=by omega
    show ∃ o',F_c_L2 L lv true _ (m' + 1) q (i:Int) l = some o' ∧ _
    simp only [F_c_L2.eq_2,dlt hi,cT,getI_el hi,obs,Bool.not_true,cF,gb_el (show i < lv.length by omega),eF,eT,gb_el lF,gb_el lT,bif_and,Int.toNat_natCast,wT i]
    have skip:(gb lv i = true → gb l F = true → gb l T = true) → ∃ o',F_c_L2 L lv true (fun q38 i39 l40=>(F_c_L1 n L lv true (fun q33 l34=>(some l34)) m q38 l40)) m' q ((i + 1:Nat):Int) l = some o' ∧ RchOK L lv (fun u=>u = (s:Int)) N o':=fun hc=>kk (q,l) ⟨g1,g2,g3,g4,g5,g6,fun hq=>by
     obtain ⟨e,h⟩:=g7 hq
     refine ⟨e,fun k hk hki a b=>?_⟩
     by_cases c:k = i
     ·subst c; subst e
      rw [eT,Int.toNat_natCast]
      rw [eF,Int.toNat_natCast] at b
      exact hc a b
     ·exact h k hk (by omega) a b⟩
    cases c1:(gb lv i && gb l F) with
    | false =>
     simp only [Bool.false_and,cF]
     exact skip fun a b=>by rw [a,b] at c1; cases c1
    | true =>
     simp only [Bool.true_and]
     simp only [Bool.and_eq_true] at c1
     cases c2:gb l T with
     | true =>
      simp only [Bool.not_true,cF]
      exact skip fun _ _=>c2
     | false =>
      simp only [Bool.not_false,cT]
      have hcf:=cf_set lT c2
      refine kk (true,l.set T true) ⟨by simpa using g1,?_,?_,?_,by show cf (l.set T true) ≤ _; omega,fun _=>by show cf (l.set T true) < _; omega,fun h=>by cases h⟩
      ·show gb (l.set T true) s = true
       rw [gb_set lT]; split
       ·rfl
       ·exact g2
      ·intro v hv hg
       have hg:gb (l.set T true) v = true:=hg
       rw [gb_set lT] at hg
       by_cases c:T = v
       ·subst c
        refine .step (g3 F (by omega) c1.2) ⟨i,hi,c1.1,eF,eT⟩
       ·rw [if_neg c] at hg; exact g3 v hv hg
      ·intro v hg
       show gb (l.set T true) v = true
       rw [gb_set lT]; split
       ·rfl
       ·exact g4 v hg
   ·rintro m' ⟨q,l⟩ ⟨g1,g2,g3,g4,g5,g6,g7⟩
    show ∃ o',F_c_L2 L lv true _ (m' + 1) q (L.length:Int) l = some o' ∧ _
    simp only [F_c_L2.eq_2,dnl,cF]
    refine ih (q,l) ⟨g1,g2,g3,fun hq=>?_⟩ ?_
    ·obtain ⟨e,h⟩:=g7 hq
     have e:l = out:=e
     subst e
     exact fun k hk a b=>h k hk hk a b
    ·show 2 * cf l + q.toNat < 2 * cf out + 1
     cases q with
     | true=>have:=g6 rfl; have:cf l < cf out:=this; simp; omega
     | false=>have:cf l ≤ cf out:=g5; simp; omega
 ·have h1:=cf_le ((List.replicate N false).set s true)
  simp only [List.length_set,List.length_replicate] at h1
  show 2 * cf ((List.replicate N false).set s true) + 1 < n
  omega
 ·have hl2:s < (List.replicate N false).length:=by simpa using hs
  refine ⟨by simp,by show gb ((List.replicate N false).set s true) s = true; rw [gb_set hl2,if_pos rfl],fun v hv hg=>?_,fun h=>by cases h⟩
  have hg:gb ((List.replicate N false).set s true) v = true:=hg
  rw [gb_set hl2] at hg
  by_cases c:s = v
  ·subst c; exact .src rfl
  ·rw [if_neg c] at hg; simp [gb,hv] at hg
structure NxOK (L:List S_Link) (lv:List Bool) (N i:Nat) (nx:List (List Int)):Prop where
 len:nx.length = N
 few:∀ u (h:u < nx.length),nx[u].length ≤ i
 iff:∀ u (h:u < nx.length) (w:Int),w ∈ nx[u] ↔ ∃ k,∃ h:k < L.length,k < i ∧ gb lv k = true ∧ L[k].From = (u:Int) ∧ L[k].To = w
theorem subL_tail {α:Type} {x:α} {xs:List α}:subL (x :: xs) 1 ((x :: xs).length:Int) = some xs:=by
 unfold subL
 rw [if_pos ⟨by omega,by simp only [List.length_cons]; omega,Int.le_refl _⟩]
 simp
theorem Rc2 {n:Nat} {g:S_graph} {N a b:Nat} (hL:LksIn g.view_.links_ N) (hlv:g.live_.length = g.view_.links_.length) (hl:g.view_.links_.length ≤ 5128) (hN:N ≤ 156) (hp:2 * g.view_.places_.length = N) (ha:a < N) (hb:b < N) (hn:1048577 ≤ n) :
 ∃ out,F_l n g [(a:Int),(b:Int)] = some out ∧ RchOK g.view_.links_ g.live_ (fun u=>u = (a:Int) ∨ u = (b:Int)) N out:=by
 obtain ⟨w,lv⟩:=g
 generalize hLL:(S_graph.mk w lv).view_.links_ = L at hL hlv hl ⊢
 have hLL:w.links_ = L:=hLL
 have hlv:lv.length = L.length:=hlv
 show ∃ out,F_l n ⟨w,lv⟩ [(a:Int),(b:Int)] = some out ∧ RchOK L lv (fun u=>u = (a:Int) ∨ u = (b:Int)) N out
 have hw:F_29 n w = some (N:Int):=by
  rw [F_29,F_2p,obs,wrap64 (by have:2 * w.places_.length = N:=hp; omega) (by have:2 * w.places_.length = N:=hp; omega)]
  congr 1
  have:2 * w.places_.length = N:=hp
  omega
 rw [F_l]
 simp only [hw,obs]
 rw [mkN_ok (by omega) (by omega),obs]
 refine loop (L:=fun m i nx=>F_l_L1 n ⟨w,lv⟩ _ m i nx) L.length (NxOK L lv N) (fun o=>∃ out,o = some out ∧ RchOK L lv (fun u=>u = (a:Int) ∨ u = (b:Int)) N out) ?_ ?_ n 0 (List.replicate N []) (by omega) (by omega) ⟨by simp,fun u h=>by simp,fun u h x=>by simp⟩
 ·intro m i nx hi hx
  refine .inl ?_
  have hF:=hL.from_ i hi
  obtain ⟨F,eF⟩:=Int.eq_ofNat_of_zero_le hF.1
  have eF:L[i].From = (F:Int):=eF
  have lF:F < nx.length:=by rw [hx.len]; omega
  have fw:=hx.few F lF
  simp only [F_l_L1.eq_2,hLL,dlt hi,cT,getI_el hi,obs,F_45,gb_el (show i < lv.length by omega),eF,getI_el lF,Int.toNat_natCast,wT i]
  cases c:gb lv i with
  | false =>
   refine ⟨nx,⟨hx.len,fun u h=>by have:=hx.few u h; omega,fun u h x=>(hx.iff u h x).trans ⟨fun ⟨k,hk,h1,h2⟩=>⟨k,hk,by omega,h2⟩,fun ⟨k,hk,h1,h2,h3⟩=>⟨k,hk,?_,h2,h3⟩⟩⟩,rfl⟩
   rcases Nat.lt_or_ge k i with h | h
   ·exact h
   ·obtain rfl:k = i:=by omega
    rw [c] at h2; cases h2
  | true =>
   rw [cT,appN_ok (by simp; omega) (by omega),obs]
   refine ⟨nx.set F (nx[F] ++ [L[i].To]),⟨by simpa using hx.len,fun u h=>?_,fun u h x=>?_⟩,rfl⟩
   ·rw [List.getElem_set]
    split
    ·simp; omega
    ·have:=hx.few u (by simpa using h); omega
   ·have hu:u < nx.length:=by simpa using h
    rw [List.getElem_set]
    by_cases e:F = u
    ·subst e
     rw [if_pos rfl,List.mem_append,hx.iff F hu x,List.mem_singleton]
     refine ⟨fun h=>?_,fun ⟨k,hk,h1,h2,h3,h4⟩=>?_⟩
     ·rcases h with ⟨k,hk,h1,h2⟩ | h
      ·exact ⟨k,hk,by omega,h2⟩
      ·exact ⟨i,hi,by omega,c,eF,h.symm⟩
     ·rcases Nat.lt_or_ge k i with h | h
      ·exact .inl ⟨k,hk,h,h2,h3,h4⟩
      ·obtain rfl:k = i:=by omega
       exact .inr h4.symm
    ·rw [if_neg e,hx.iff u hu x]
     refine ⟨fun ⟨k,hk,h1,h2⟩=>⟨k,hk,by omega,h2⟩,fun ⟨k,hk,h1,h2,h3,h4⟩=>⟨k,hk,?_,h2,h3,h4⟩⟩
     rcases Nat.lt_or_ge k i with h | h
     ·exact h
     ·obtain rfl:k = i:=by omega
      rw [eF] at h3; omega
 ·intro m nx hx
  simp only [F_l_L1.eq_2,hLL,dnl,cF]
  rw [mkN_ok (by omega) (by omega),obs,F_21,appN_ok (by simp) (by omega),obs,obs,List.nil_append]
  have hnx:=hx.len
  have step:∀ u w:Int,0 ≤ u → u < (N:Int) → ∀ h:u.toNat < nx.length,(w ∈ nx[u.toNat] ↔ Ed L lv u w):=fun u w h0 h1 h=>by
   rw [hx.iff u.toNat h w]
   unfold Ed
   refine ⟨fun ⟨k,hk,_,h2,h3,h4⟩=>⟨k,hk,h2,by omega,h4⟩,fun ⟨k,hk,h2,h3,h4⟩=>⟨k,hk,hk,h2,by omega,h4⟩⟩
  have edN:∀ u w:Int,Ed L lv u w → 0 ≤ w ∧ w < (N:Int):=fun u w ⟨k,hk,_,_,h4⟩=>by rw [← h4]; exact hL.to_ k hk
  refine loopm (L:=fun m (st:List Int × List Bool)=>F_l_L2 nx (fun l87 l92=>(some l92)) m st.1 st.2) (fun st=>st.1.length + cf st.2 * (L.length + 1))
   (fun st=>st.2.length = N ∧ (∀ x ∈ st.1,(0 ≤ x ∧ x < (N:Int)) ∧ Rch L lv (fun u=>u = (a:Int) ∨ u = (b:Int)) x) ∧ (∀ v,v < N → gb st.2 v = true → Rch L lv (fun u=>u = (a:Int) ∨ u = (b:Int)) (v:Int)) ∧ (∀ u:Nat,u = a ∨ u = b → gb st.2 u = true ∨ (u:Int) ∈ st.1) ∧ (∀ u w:Int,0 ≤ u → u < (N:Int) → gb st.2 u.toNat = true → Ed L lv u w → gb st.2 w.toNat = true ∨ w ∈ st.1) ∧ st.1.length + cf st.2 * (L.length + 1) ≤ 810000)
   (fun o=>∃ out,o = some out ∧ RchOK L lv (fun u=>u = (a:Int) ∨ u = (b:Int)) N out) ?_ n ([(a:Int),(b:Int)],List.replicate N false) ?_ ?_
  ·rintro m ⟨op,re⟩ ⟨h1,h2,h3,h4,h5,h6⟩ ih
   have h1:re.length = N:=h1
   have h3:∀ v,v < N → gb re v = true → Rch L lv (fun u=>u = (a:Int) ∨ u = (b:Int)) (v:Int):=h3
   show ∃ o',F_l_L2 nx _ (m + 1) op re = some o' ∧ _
   rw [F_l_L2.eq_2]
   cases op with
   | nil =>
    have h4:∀ u:Nat,u = a ∨ u = b → gb re u = true ∨ (u:Int) ∈ ([]:List Int):=h4
    have h5:∀ u w:Int,0 ≤ u → u < (N:Int) → gb re u.toNat = true → Ed L lv u w → gb re w.toNat = true ∨ w ∈ ([]:List Int):=h5
    refine ⟨re,rfl,h1,fun v hv=>⟨h3 v hv,fun r=>?_⟩⟩
    have:=Rch.closed (Q:=fun u=>0 ≤ u ∧ u < (N:Int) ∧ gb re u.toNat = true) (fun u e=>by
     rcases e with e | e
     ·subst e; exact ⟨by omega,by omega,by have:=h4 a (.inl rfl); simpa using this⟩
     ·subst e; exact ⟨by omega,by omega,by have:=h4 b (.inr rfl); simpa using this⟩) (fun u w hu e=>by
     have hw:=edN u w e
     exact ⟨hw.1,hw.2,by have:=h5 u w hu.1 hu.2.1 hu.2.2 e; simpa using this⟩) r
    simpa using this.2.2
   | cons x rest =>
    have hxr:=h2 x (by simp)
    obtain ⟨X,eX⟩:=Int.eq_ofNat_of_zero_le hxr.1.1
    have eX:x = (X:Int):=eX
    subst eX
    have lX:X < re.length:=by omega
    have lX2:X < nx.length:=by omega
    have hfx:=hx.few X lX2
    have d0:decide ((((X:Int) :: rest).length:Int) > 0) = true:=decide_eq_true (by simp only [List.length_cons]; omega)
    have g0:getI ((X:Int) :: rest) 0 = some (X:Int):=rfl
    have h6:(rest.length + 1) + cf re * (L.length + 1) ≤ 810000:=h6
    rw [d0,cT,g0,obs,subL_tail,obs,gb_el lX,obs]
    cases c:gb re X with
    | true =>
     simp only [Bool.not_true,cF]
     refine ih (rest,re) ⟨h1,fun y hy=>h2 y (by simp [hy]),h3,fun u hu=>?_,fun u w q1 q2 q3 q4=>?_,by show rest.length + cf re * (L.length + 1) ≤ 810000; omega⟩ (by show rest.length + cf re * (L.length + 1) < rest.length + 1 + cf re * (L.length + 1); omega)
     ·rcases h4 u hu with h | h
      ·exact .inl h
      ·rcases List.mem_cons.1 h with h | h
       ·have:u = X:=by omega
        subst this; exact .inl c
       ·exact .inr h
     ·rcases h5 u w q1 q2 q3 q4 with h | h
      ·exact .inl h
      ·rcases List.mem_cons.1 h with h | h
       ·subst h; exact .inl (by simpa using c)
       ·exact .inr h
    | false =>
     simp only [Bool.not_false,cT,obs]
     rw [getI_el lX2,obs,appN_ok (by omega) (by omega),obs,Int.toNat_natCast]
     have hcf:=cf_set lX c
     have hmul:cf re * (L.length + 1) = cf (re.set X true) * (L.length + 1) + (L.length + 1):=by rw [← hcf,Nat.add_mul,Nat.one_mul]
     refine ih (rest ++ nx[X],re.set X true) ⟨by simpa using h1,fun y hy=>?_,fun v hv hg=>?_,fun u hu=>?_,fun u w q1 q2 q3 q4=>?_,?_⟩ ?_
     ·rcases List.mem_append.1 hy with hy | hy
      ·exact h2 y (by simp [hy])
      ·have e:=(step (X:Int) y hxr.1.1 hxr.1.2 (by simpa using lX2)).1 (by simpa using hy)
       exact ⟨edN _ _ e,.step hxr.2 e⟩
     ·have hg:gb (re.set X true) v = true:=hg
      rw [gb_set lX] at hg
      by_cases e:X = v
      ·subst e; exact hxr.2
      ·rw [if_neg e] at hg; exact h3 v hv hg
     ·show gb (re.set X true) u = true ∨ (u:Int) ∈ rest ++ nx[X]
      rw [gb_set lX]
      by_cases e:X = u
      ·rw [if_pos e]; exact .inl rfl
      ·rw [if_neg e]
       rcases h4 u hu with h | h
       ·exact .inl h
       ·rcases List.mem_cons.1 h with h | h
        ·omega
        ·exact .inr (List.mem_append_left _ h)
     ·have q3:gb (re.set X true) u.toNat = true:=q3
      show gb (re.set X true) w.toNat = true ∨ w ∈ rest ++ nx[X]
      rw [gb_set lX] at q3 ⊢
      by_cases e:X = w.toNat
      ·rw [if_pos e]; exact .inl rfl
      ·rw [if_neg e]
       by_cases e2:X = u.toNat
       ·refine .inr (List.mem_append_right _ ?_)
        have:=(step u w q1 q2 (by omega)).2 q4
        simpa [← e2] using this
       ·rw [if_neg e2] at q3
        rcases h5 u w q1 q2 q3 q4 with h | h
        ·exact .inl h
        ·rcases List.mem_cons.1 h with h | h
         ·omega
         ·exact .inr (List.mem_append_left _ h)
     ·show (rest ++ nx[X]).length + cf (re.set X true) * (L.length + 1) ≤ 810000
      rw [List.length_append]; omega
     ·show (rest ++ nx[X]).length + cf (re.set X true) * (L.length + 1) < rest.length + 1 + cf re * (L.length + 1)
      rw [List.length_append]; omega
  ·have h1:=cf_le (List.replicate N false)
   simp only [List.length_replicate] at h1
   have h2:cf (List.replicate N false) * (L.length + 1) ≤ 156 * 5129:=Nat.mul_le_mul (by omega) (by omega)
   show 2 + cf (List.replicate N false) * (L.length + 1) < n
   omega
  ·have h1:=cf_le (List.replicate N false)
   simp only [List.length_replicate] at h1
   have h2:cf (List.replicate N false) * (L.length + 1) ≤ 156 * 5129:=Nat.mul_le_mul (by omega) (by omega)
   refine ⟨by simp,fun x hx=>?_,fun v hv hg=>?_,fun u hu=>?_,fun u w _ _ hg=>?_,by show 2 + cf (List.replicate N false) * (L.length + 1) ≤ 810000; omega⟩
   ·rcases List.mem_cons.1 hx with h | h
    ·subst h; exact ⟨by omega,.src (.inl rfl)⟩
    ·rw [List.mem_singleton] at h; subst h; exact ⟨by omega,.src (.inr rfl)⟩
   ·have hg:gb (List.replicate N false) v = true:=hg
    rw [gb_rep] at hg; cases hg
   ·rcases hu with h | h
    ·subst h; exact .inr (by simp)
    ·subst h; exact .inr (by simp)
   ·have hg:gb (List.replicate N false) u.toNat = true:=hg
    rw [gb_rep] at hg; cases hg
def livC (b:S_Block) (br:List Int):List Bool:=idx (fun k x=>[!(br.any fun y=>y == (k:Int)) && !(lnch b x)]) 0 (lks b)
theorem livC_len (b:S_Block) (br:List Int):(livC b br).length = (lks b).length:=idx1_len _ _ _
theorem livC_get {b:S_Block} {br:List Int} {k:Nat} (h:k < (lks b).length):gb (livC b br) k = (!(br.any fun y=>y == (k:Int)) && !(lnch b (lks b)[k])):=by
 have:=idx1_get (fun k x=>(!(br.any fun y=>y == ((k:Nat):Int)) && !(lnch b x))) (lks b) 0 k
 rw [List.getElem?_eq_getElem h,Nat.zero_add] at this
 unfold gb livC
 rw [List.getD_eq_getElem?_getD,this]; rfl
theorem lks_in {b:S_Block} (v:VBlock b):LksIn (lks b) (2 * (pls b.Design).length) :=
 ⟨fun k h=>by have:=(lks_ok v _ (List.getElem_mem h)).from_; unfold nodes at this; push_cast; omega,fun k h=>by have:=(lks_ok v _ (List.getElem_mem h)).to_; unfold nodes at this; push_cast; omega⟩
theorem Lv1 {n:Nat} {L:List S_Link} {br:List Int} (hl:L.length ≤ 1048576) (hb:br.length ≤ 1048576) (hn:1048577 ≤ n):F_0m n L br = some (idx (fun k (_:S_Link)=>[!(br.any fun y=>y == (k:Int))]) 0 L):=by
 rw [F_0m]
 rw [loop_idx (xs:=L) (L:=fun m s i=>F_0m_L1 n L br (fun l19 i23=>(some l19)) m s i) (k:=fun s=>some s) (fun k (_:S_Link)=>[!(br.any fun y=>y == (k:Int))]) 1 0 (fun _ _ _=>by simp) (by omega) (by
  intro m i hi s hs
  simp only [F_0m_L1.eq_2,dlt hi,cT,Has1 hb hn,obs,wT i]
  rw [appN_ok (by simp; omega) (by omega),obs]) (by
  intro m s
  simp only [F_0m_L1.eq_2,dnl,cF]) n (by omega) [] (by simp)]
 rw [List.nil_append]
def rchS (b:S_Block) (br:List Int) (p:Nat) (out:List Bool):Prop:=RchOK (lks b) (livC b br) (fun u=>u = ((2 * p:Nat):Int) ∨ u = ((2 * p + 1:Nat):Int)) (2 * (pls b.Design).length) out
theorem Nodes1 {n:Nat} {b:S_Block} {br:List Int} {p:Nat} (v:VBlock b) (hb:br.length ≤ 1048576) (hp:p < (pls b.Design).length) (hn:1048577 ≤ n):∃ out,F_1b n b br (p:Int) = some out ∧ rchS b br p out:=by
 have vd:=v.design
 have hl:=pls_len vd.short vd.few.1 vd.few.2.2
 have hL:=lks_len v
 have hin:=lks_in v
 rw [F_1b,Lks1 v hn,obs,Lv1 (by omega) hb hn,obs]
 have w1:IntKind.wrap .i64 (2 * (p:Int)) = ((2 * p:Nat):Int):=by rw [wrap64 (by omega) (by omega)]; omega
 have w2:IntKind.wrap .i64 (((2 * p:Nat):Int) + 1) = ((2 * p + 1:Nat):Int):=by rw [wrap64 (by omega) (by omega)]; omega
 have wc:F_1y n b = some ((2 * (pls b.Design).length:Nat):Int):=by
  rw [F_1y,Pls1 vd.short vd.few.1 vd.few.2.2 hn,obs,List.length_map,wrap64 (by omega) (by omega)]
  exact congrArg some (by omega)
 refine loop (L:=fun m i l=>F_1b_L1 n b (lks b) _ m i l) (lks b).length (fun i l=>l.length = (lks b).length ∧ ∀ k (h:k < (lks b).length),gb l k = if k < i then gb (livC b br) k else !(br.any fun y=>y == (k:Int))) (fun o=>∃ out,o = some out ∧ rchS b br p out) ?_ ?_ n 0 _ (by omega) (by omega) ⟨idx1_len _ _ _,fun k h=>?_⟩
 ·intro m i l hi ⟨h1,h2⟩
  refine .inl ?_
  have ok:=lks_ok v _ (List.getElem_mem hi)
  have h2i:=h2 i hi
  rw [if_neg (Nat.lt_irrefl i)] at h2i
  simp only [F_1b_L1.eq_2,dlt hi,cT,getI_el hi,obs,wT i]
  by_cases c:(lks b)[i].Kind = 1
  ·have e1:((lks b)[i].Kind == 1) = true:=by rw [beq_iff_eq]; exact c
   obtain ⟨a,z,ea,ek⟩:=Arc1 (n:=n) v ok c hn
   simp only [e1,cT,ea,obs,gb_el (show i < l.length by omega),Int.toNat_natCast,ek]
   refine ⟨_,⟨by simpa using h1,fun k hk=>?_⟩,rfl⟩
   rw [gb_set (by omega)]
   by_cases e:i = k
   ·subst e
    rw [if_pos rfl,if_pos (by omega),livC_get hk,h2i]
   ·rw [if_neg e,h2 k hk]
    by_cases q:k < i
    ·rw [if_pos q,if_pos (by omega)]
    ·rw [if_neg q,if_neg (by omega)]
  ·have e1:((lks b)[i].Kind == 1) = false:=by rw [beq_eq_false_iff_ne]; exact c
   simp only [e1,cF]
   refine ⟨l,⟨h1,fun k hk=>?_⟩,rfl⟩
   rw [h2 k hk]
   by_cases e:i = k
   ·subst e
    rw [if_neg (Nat.lt_irrefl i),if_pos (by omega),livC_get hk]
    have:lnch b (lks b)[i] = false:=by unfold lnch; rw [e1,Bool.false_and]
    rw [this]; simp
   ·by_cases q:k < i
    ·rw [if_pos q,if_pos (by omega)]
    ·rw [if_neg q,if_neg (by omega)]
 ·intro m l ⟨h1,h2⟩
  have el:l = livC b br:=gb_ext (h1.trans (livC_len b br).symm) fun j hj=>by rw [h2 j (by omega),if_pos (by omega)]
  subst el
  obtain ⟨o1,f1,r1⟩:=Rc1 (n:=n) (s:=2 * p) hin (livC_len b br) (by omega) (by omega) (by omega) hn
  obtain ⟨o2,f2,r2⟩:=Rc1 (n:=n) (s:=2 * p + 1) hin (livC_len b br) (by omega) (by omega) (by omega) hn
  simp only [F_1b_L1.eq_2,dnl,cF,wc,obs,w1,w2,f1,f2]
  refine loop (L:=fun m i l=>F_1b_L2 ((2 * (pls b.Design).length:Nat):Int) o2 (fun i75 l76=>(some l76)) m i l) (2 * (pls b.Design).length) (fun i l=>l.length = 2 * (pls b.Design).length ∧ ∀ k,k < 2 * (pls b.Design).length → gb l k = if k < i then (gb o1 k || gb o2 k) else gb o1 k) (fun o=>∃ out,o = some out ∧ rchS b br p out) ?_ ?_ n 0 o1 (by omega) (by omega) ⟨r1.len,fun k _=>by rw [if_neg (Nat.not_lt_zero k)]⟩
  ·intro m i l hi ⟨g1,g2⟩
   refine .inl ?_
   have g2i:=g2 i hi
   rw [if_neg (Nat.lt_irrefl i)] at g2i
   simp only [F_1b_L2.eq_2,dlt hi,cT,gb_el (show i < l.length by omega),gb_el (show i < o2.length by have:=r2.len; omega),obs,bif_or,Int.toNat_natCast,wT i]
   refine ⟨_,⟨by simpa using g1,fun k hk=>?_⟩,rfl⟩
   rw [gb_set (by omega)]
   by_cases e:i = k
   ·subst e; rw [if_pos rfl,if_pos (by omega),g2i]
   ·rw [if_neg e,g2 k hk]
    by_cases q:k < i
    ·rw [if_pos q,if_pos (by omega)]
    ·rw [if_neg q,if_neg (by omega)]
  ·intro m l ⟨g1,g2⟩
   simp only [F_1b_L2.eq_2,dnl,cF]
   refine ⟨l,rfl,g1,fun k hk=>?_⟩
   rw [g2 k hk,if_pos hk,Bool.or_eq_true,r1.iff k hk,r2.iff k hk]
   exact ⟨fun h=>h.elim (fun h=>h.mono fun _ e=>.inl e) (fun h=>h.mono fun _ e=>.inr e),Rch.or⟩
 ·rw [if_neg (Nat.not_lt_zero k)]
  have:=idx1_get (fun k (_:S_Link)=>!(br.any fun y=>y == ((k:Nat):Int))) (lks b) 0 k
  rw [List.getElem?_eq_getElem h,Nat.zero_add] at this
  unfold gb
  rw [List.getD_eq_getElem?_getD,this]; rfl
theorem any_take {br:List Int} {i:Nat} (hi:i < br.length) (k:Int):((br.take (i + 1)).any fun y=>y == k) = (((br.take i).any fun y=>y == k) || (br[i] == k)):=by
 rw [List.take_succ_eq_append_getElem hi,List.any_append]; simp
theorem Gof2 {n:Nat} {w:S_view} {br:List Int} (hl:w.links_.length ≤ 1048576) (hb:br.length ≤ 1048576) (hr:RisP (w.links_.length:Int) br) (hn:1048577 ≤ n):∃ lv,F_w n w br = some ⟨w,lv⟩ ∧ lv.length = w.links_.length ∧ ∀ k,k < w.links_.length → gb lv k = !(br.any fun y=>y == (k:Int)):=by
 rw [F_w,mkN_ok (by omega) (by omega),obs]
 refine loop (L:=fun m i l=>F_w_L1 w.links_.length _ m i l) (List.replicate w.links_.length false).length (fun i l=>l.length = w.links_.length ∧ ∀ k,k < i → gb l k = true) (fun o=>∃ lv,o = some (⟨w,lv⟩:S_graph) ∧ lv.length = w.links_.length ∧ ∀ k,k < w.links_.length → gb lv k = !(br.any fun y=>y == (k:Int))) ?_ ?_ n 0 (List.replicate w.links_.length false) (by omega) (by simp; omega) ⟨by simp,fun k h=>absurd h (Nat.not_lt_zero k)⟩
 ·intro m i l hi ⟨h1,h2⟩
  have hi2:i < l.length:=by rw [h1]; simpa using hi
  simp only [F_w_L1.eq_2,dlt hi,cT,gb_el hi2,obs,Int.toNat_natCast,wT i]
  refine .inl ⟨_,⟨by simpa using h1,fun k hk=>?_⟩,rfl⟩
  rw [gb_set hi2]
  by_cases e:i = k
  ·rw [if_pos e]
  ·rw [if_neg e]; exact h2 k (by omega)
 ·intro m l ⟨h1,h2⟩
  simp only [F_w_L1.eq_2,dnl,cF]
  simp only [List.length_replicate] at h2
  refine loop (L:=fun m i l=>F_w_L2 br _ m i l) br.length (fun i l=>l.length = w.links_.length ∧ ∀ k,k < w.links_.length → gb l k = !((br.take i).any fun y=>y == (k:Int))) (fun o=>∃ lv,o = some (⟨w,lv⟩:S_graph) ∧ lv.length = w.links_.length ∧ ∀ k,k < w.links_.length → gb lv k = !(br.any fun y=>y == (k:Int))) ?_ ?_ n 0 l (by omega) (by omega) ⟨h1,fun k hk=>by rw [h2 k hk]; simp⟩
  ·intro m i l hi ⟨g1,g2⟩
   have hx:=(hr i hi).1
   rw [gdX hi] at hx
   obtain ⟨X,eX⟩:=Int.eq_ofNat_of_zero_le hx.1
   have eX:br[i] = (X:Int):=eX
   have lX:X < l.length:=by omega
   simp only [F_w_L2.eq_2,dlt hi,cT,getI_el hi,obs,eX,gb_el lX,Int.toNat_natCast,wT i]
   refine .inl ⟨_,⟨by simpa using g1,fun k hk=>?_⟩,rfl⟩
   rw [gb_set lX,any_take hi,eX]
   by_cases e:X = k
   ·subst e; rw [if_pos rfl]; simp
   ·have:((X:Int) == (k:Int)) = false:=by rw [beq_eq_false_iff_ne]; omega
    rw [if_neg e,g2 k hk,this,Bool.or_false]
  ·intro m l ⟨g1,g2⟩
   simp only [F_w_L2.eq_2,dnl,cF]
   refine ⟨l,rfl,g1,fun k hk=>?_⟩
   rw [g2 k hk,List.take_length]
theorem Nodes2 {n:Nat} {b:S_Block} {w:S_view} {br:List Int} {p:Nat} (v:VBlock b) (hwb:w.Block = b) (hwp:w.places_ = pls b.Design) (hwl:w.links_ = lks b) (hb:br.length ≤ 1048576) (hr:RisP ((lks b).length:Int) br) (hp:p < (pls b.Design).length) (hn:1048577 ≤ n):∃ out,F_0q n w br (p:Int) = some out ∧ rchS b br p out:=by
 have vd:=v.design
 have hl:=pls_len vd.short vd.few.1 vd.few.2.2
 have hL:=lks_len v
 have hin:=lks_in v
 have w1:IntKind.wrap .i64 (2 * (p:Int)) = ((2 * p:Nat):Int):=by rw [wrap64 (by omega) (by omega)]; omega
 have w2:IntKind.wrap .i64 (((2 * p:Nat):Int) + 1) = ((2 * p + 1:Nat):Int):=by rw [wrap64 (by omega) (by omega)]; omega
 obtain ⟨lv0,f0,l0,e0⟩:=Gof2 (n:=n) (w:=w) (br:=br) (by rw [hwl]; omega) hb (by rw [hwl]; exact hr) hn
 rw [hwl] at l0 e0
 rw [F_0q,f0,obs]
 refine loop (L:=fun m i l=>F_0q_L1 n w _ m i l) (lks b).length (fun i l=>l.length = (lks b).length ∧ ∀ k (h:k < (lks b).length),gb l k = if k < i then gb (livC b br) k else !(br.any fun y=>y == (k:Int))) (fun o=>∃ out,o = some out ∧ rchS b br p out) ?_ ?_ n 0 lv0 (by omega) (by omega) ⟨l0,fun k h=>by rw [if_neg (Nat.not_lt_zero k),e0 k h]⟩
 ·intro m i l hi ⟨h1,h2⟩
  refine .inl ?_
  have ok:=lks_ok v _ (List.getElem_mem hi)
  have h2i:=h2 i hi
  rw [if_neg (Nat.lt_irrefl i)] at h2i
  simp only [F_0q_L1.eq_2,hwl,dlt hi,cT,getI_el hi,obs,Lch2 hwb hwp ok,wT i]
  cases c:lnch b (lks b)[i] with
  | true =>
   simp only [cT,gb_el (show i < l.length by omega),obs,Int.toNat_natCast]
   refine ⟨_,⟨by simpa using h1,fun k hk=>?_⟩,rfl⟩
   rw [gb_set (by omega)]
   by_cases e:i = k
   ·subst e
    rw [if_pos rfl,if_pos (by omega),livC_get hk,c]; simp
   ·rw [if_neg e,h2 k hk]
    by_cases q:k < i
    ·rw [if_pos q,if_pos (by omega)]
    ·rw [if_neg q,if_neg (by omega)]
  | false =>
   simp only [cF]
   refine ⟨l,⟨h1,fun k hk=>?_⟩,rfl⟩
   rw [h2 k hk]
   by_cases e:i = k
   ·subst e
    rw [if_neg (Nat.lt_irrefl i),if_pos (by omega),livC_get hk,c]; simp
   ·by_cases q:k < i
    ·rw [if_pos q,if_pos (by omega)]
    ·rw [if_neg q,if_neg (by omega)]
 ·intro m l ⟨h1,h2⟩
  have el:l = livC b br:=gb_ext (h1.trans (livC_len b br).symm) fun j hj=>by rw [h2 j (by omega),if_pos (by omega)]
  subst el
  obtain ⟨o1,f1,r1⟩:=Rc2 (n:=n) (g:=⟨w,livC b br⟩) (N:=2 * (pls b.Design).length) (a:=2 * p) (b:=2 * p + 1) (by show LksIn w.links_ _; rw [hwl]; exact hin) (by show (livC b br).length = w.links_.length; rw [hwl]; exact livC_len b br) (by show w.links_.length ≤ 5128; rw [hwl]; omega) (by omega) (by show 2 * w.places_.length = _; rw [hwp]) (by omega) (by omega) hn
  have r1:RchOK w.links_ (livC b br) (fun u=>u = ((2 * p:Nat):Int) ∨ u = ((2 * p + 1:Nat):Int)) (2 * (pls b.Design).length) o1:=r1
  rw [hwl] at r1
  simp only [F_0q_L1.eq_2,hwl,dnl,cF,w1,w2,f1,obs]
  exact ⟨o1,rfl,r1⟩
def lstd (s:List Bool):List Int:=idx (fun i (x:Bool)=>if x = true then [(i:Int)] else []) 0 s
theorem Lst2 {n:Nat} {s:List Bool} (h:s.length ≤ 1048576) (hn:1048577 ≤ n):F_0p n s = some (lstd s):=by
 rw [F_0p]
 rw [loop_idx (xs:=s) (L:=fun m l i=>F_0p_L1 s (fun l8 i12=>(some l8)) m l i) (k:=fun s=>some s) (fun i (x:Bool)=>if x = true then [(i:Int)] else []) 1 0 (fun i x _=>by split <;> simp) (by omega) (by
  intro m i hi l hs
  simp only [F_0p_L1.eq_2,dlt hi,cT,getI_el hi,obs,wT i]
  cases c:s[i] with
  | true=>rw [cT,if_pos rfl,appN_ok (by simp; omega) (by omega),obs]
  | false=>rw [cF,if_neg (by simp),List.append_nil]) (by
  intro m l
  simp only [F_0p_L1.eq_2,dnl,cF]) n (by omega) [] (by simp)]
 rw [List.nil_append]; rfl
def Upto (C:Nat → Prop) (i:Nat) (l:List Int):Prop:=l.length ≤ i ∧ l.Pairwise (fun a b=>a < b) ∧ ∀ x,x ∈ l ↔ ∃ k:Nat,x = (k:Int) ∧ k < i ∧ C k
theorem Upto.zero {C:Nat → Prop}:Upto C 0 []:=⟨Nat.le_refl _,List.Pairwise.nil,fun x=>⟨fun h=>(nomatch h),fun ⟨k,_,h,_⟩=>by omega⟩⟩
theorem Upto.yes {C:Nat → Prop} {i:Nat} {l:List Int} (h:Upto C i l) (c:C i):Upto C (i + 1) (l ++ [(i:Int)]):=by
 obtain ⟨h1,h2,h3⟩:=h
 refine ⟨by simp; omega,List.pairwise_append.2 ⟨h2,List.pairwise_singleton ..,fun a ha b hb=>?_⟩,fun x=>?_⟩
 ·obtain ⟨k,e,hk,_⟩:=(h3 a).1 ha
  rw [List.mem_singleton.1 hb]; omega
 ·rw [List.mem_append,List.mem_singleton,h3 x]
  constructor
  ·rintro (⟨k,e,hk,ck⟩ | e)
   ·exact ⟨k,e,by omega,ck⟩
   ·exact ⟨i,e,by omega,c⟩
  ·rintro ⟨k,e,hk,ck⟩
   by_cases q:k = i
   ·right; rw [e,q]
   ·exact .inl ⟨k,e,by omega,ck⟩
theorem Upto.no {C:Nat → Prop} {i:Nat} {l:List Int} (h:Upto C i l) (c:¬ C i):Upto C (i + 1) l:=by
 obtain ⟨h1,h2,h3⟩:=h
 refine ⟨by omega,h2,fun x=>?_⟩
 rw [h3 x]
 constructor
 ·rintro ⟨k,e,hk,ck⟩; exact ⟨k,e,by omega,ck⟩
 ·rintro ⟨k,e,hk,ck⟩
  exact ⟨k,e,by have:k ≠ i:=fun q=>c (q ▸ ck); omega,ck⟩
theorem incr_ext:∀ {a b:List Int},a.Pairwise (fun x y=>x < y) → b.Pairwise (fun x y=>x < y) → (∀ x,x ∈ a ↔ x ∈ b) → a = b
 | [],[],_,_,_=>rfl
 | [],y :: b,_,_,h=>absurd ((h y).2 (List.mem_cons_self ..)) (fun h=>nomatch h)
 | x :: a,[],_,_,h=>absurd ((h x).1 (List.mem_cons_self ..)) (fun h=>nomatch h)
 | x :: a,y :: b,ha,hb,h=>by
  have ha':=List.pairwise_cons.1 ha
  have hb':=List.pairwise_cons.1 hb
  have e:x = y:=by
   rcases List.mem_cons.1 ((h x).1 (List.mem_cons_self ..)) with e | h1
   ·exact e
   ·rcases List.mem_cons.1 ((h y).2 (List.mem_cons_self ..)) with e | h2
    ·exact e.symm
    ·have:=hb'.1 x h1; have:=ha'.1 y h2; omega
  subst e
  rw [incr_ext ha'.2 hb'.2 fun z=>?_]
  constructor
  ·intro hz
   rcases List.mem_cons.1 ((h z).1 (List.mem_cons_of_mem _ hz)) with e | h1
   ·have:=ha'.1 z hz; omega
   ·exact h1
  ·intro hz
   rcases List.mem_cons.1 ((h z).2 (List.mem_cons_of_mem _ hz)) with e | h1
   ·have:=hb'.1 z hz; omega
   ·exact h1
theorem lstd_upto (s:List Bool):∀ i,i ≤ s.length → Upto (fun k=>gb s k = true) i (idx (fun i (x:Bool)=>if x = true then [(i:Int)] else []) 0 (s.take i))
 | 0,_=>by rw [List.take_zero]; exact Upto.zero
 | i + 1,h=>by
  have ih:=lstd_upto s i (by omega)
  have hg:gb s i = s[i]:=by simp [gb,List.getElem?_eq_getElem (show i < s.length by omega)]
  rw [idx_take (show i < s.length by omega)]
  cases c:s[i] with
  | true=>rw [if_pos rfl]; exact ih.yes (by rw [hg,c])
  | false=>rw [if_neg (by simp),List.append_nil]; exact ih.no (by rw [hg,c]; simp)
theorem lstd_is (s:List Bool):Upto (fun k=>gb s k = true) s.length (lstd s):=by
 have:=lstd_upto s s.length (Nat.le_refl _)
 rw [List.take_length] at this; exact this
theorem cpt_take {xs:List Int} {i:Nat} (hs:xs.Pairwise (fun a b=>a ≤ b)) (h0:0 < i) (hi:i < xs.length):∀ a ∈ xs.take i,a ≤ xs[i - 1]:=by
 intro a ha
 obtain ⟨j,hj,rfl⟩:=List.mem_iff_getElem.1 ha
 rw [List.length_take] at hj
 rw [List.getElem_take]
 by_cases e:j = i - 1
 ·subst e; exact Int.le_refl _
 ·exact List.pairwise_iff_getElem.1 hs j (i - 1) (by omega) (by omega) (by omega)
theorem Cpt2 {xs:List Int} {i:Nat} (hs:xs.Pairwise (fun a b=>a ≤ b)) (hl:xs.length ≤ 1048576) (h0:0 < i) (hi:i < xs.length) {k2:Int → Int → List Int → Option (List Int)} (hk:∀ (p:Nat) (q:Int) (l:List Int),l.length = xs.length → p ≤ xs.length → k2 (p:Int) q l = some (l.take p)) :
 ∀ (m p q:Nat) (l:List Int),xs.length - i - q < m → l.length = xs.length → i ≤ p → p + 1 ≤ i + q → i + q ≤ xs.length → (∀ j,i + q ≤ j + 1 → l[j]? = xs[j]?) → (l.take p).Pairwise (fun a b=>a < b) → (∀ x,x ∈ l.take p ↔ x ∈ xs.take (i + q)) →
 ∃ r,F_n_L2 (i:Int) k2 m (p:Int) (q:Int) l = some r ∧ r.Pairwise (fun a b=>a < b) ∧ ∀ x,x ∈ r ↔ x ∈ xs
 | 0,p,q,l,hm,_,_,_,_,_,_,_=>by omega
 | m + 1,p,q,l,hm,h1,h2,h3,h4,h5,h6,h7=>by
  have hd:(l.drop (i:Int).toNat).length = xs.length - i:=by rw [List.length_drop,h1]; rfl
  have hx:∀ j:Nat,j + i < xs.length → getI (l.drop (i:Int).toNat) (j:Int) = l[i + j]?:=fun j hj=>by
   rw [getI_nat,List.getElem?_drop]; rfl
  rw [F_n_L2.eq_2,hd]
  by_cases c:q < xs.length - i
  ·have e1:l[i + q]? = some xs[i + q]:=by rw [h5 _ (by omega)]; exact List.getElem?_eq_getElem (by omega)
   have e2:l[i + (q - 1)]? = some xs[i + q - 1]:=by rw [h5 _ (by omega),show i + (q - 1) = i + q - 1 by omega]; exact List.getElem?_eq_getElem (by omega)
   have w1:IntKind.wrap .i64 ((q:Int) - 1) = ((q - 1:Nat):Int):=by rw [wrap64 (by omega) (by omega)]; omega
   have hpl:getI l (p:Int) = some l[p]:=getI_el (by omega)
   simp only [dlt c,cT,hx q (by omega),e1,obs,w1,hx (q - 1) (by omega),e2,hpl,wT p,wT q]
   have tk:=List.take_succ_eq_append_getElem (show i + q < xs.length by omega)
   have ct:=cpt_take hs (show 0 < i + q by omega) (by omega)
   by_cases q1:xs[i + q] = xs[i + q - 1]
   ·rw [show (xs[i + q] != xs[i + q - 1]) = false by rw [q1]; simp,cF]
    refine Cpt2 hs hl h0 hi hk m p (q + 1) l (by omega) h1 h2 (by omega) (by omega) (fun j hj=>h5 j (by omega)) h6 fun x=>?_
    rw [h7 x,← Nat.add_assoc,tk,List.mem_append,List.mem_singleton]
    refine ⟨.inl,fun h=>h.elim id fun e=>?_⟩
    rw [e,q1]
    exact List.mem_iff_getElem.2 ⟨i + q - 1,by rw [List.length_take]; omega,by rw [List.getElem_take]⟩
   ·rw [show (xs[i + q] != xs[i + q - 1]) = true by rw [bne_iff_ne]; exact q1,cT,Int.toNat_natCast]
    have hle:xs[i + q - 1] ≤ xs[i + q]:=List.pairwise_iff_getElem.1 hs _ _ (by omega) (by omega) (by omega)
    have tp:(l.set p xs[i + q]).take (p + 1) = l.take p ++ [xs[i + q]]:=by
     rw [List.take_succ_eq_append_getElem (by rw [List.length_set]; omega)]
     simp [List.take_set_of_le]
    refine Cpt2 hs hl h0 hi hk m (p + 1) (q + 1) (l.set p xs[i + q]) (by omega) (by rw [List.length_set]; exact h1) (by omega) (by omega) (by omega) (fun j hj=>?_) ?_ fun x=>?_
    ·rw [List.getElem?_set_ne (by omega)]; exact h5 j (by omega)
    ·rw [tp]
     refine List.pairwise_append.2 ⟨h6,List.pairwise_singleton ..,fun a ha b hb=>?_⟩
     rw [List.mem_singleton.1 hb]
     have:=ct a ((h7 a).1 ha)
     omega
    ·rw [tp,← Nat.add_assoc,tk,List.mem_append,List.mem_append,h7 x]
  ·have ec:decide ((q:Int) < ((xs.length - i:Nat):Int)) = false:=decide_eq_false (by omega)
   rw [ec,cF,hk p q l h1 (by omega)]
   refine ⟨_,rfl,h6,fun x=>?_⟩
   rw [h7 x,List.take_of_length_le (by omega)]
theorem Cpt1 {n:Nat} {xs:List Int} (hs:xs.Pairwise (fun a b=>a ≤ b)) (hl:xs.length ≤ 1048576) (hn:1048577 ≤ n):∀ (m i:Nat),xs.length - i < m → 0 < i → i ≤ xs.length → (xs.take i).Pairwise (fun a b=>a < b) →
 ∃ r,F_n_L1 n xs (fun _=>some xs) m (i:Int) = some r ∧ r.Pairwise (fun a b=>a < b) ∧ ∀ x,x ∈ r ↔ x ∈ xs
 | 0,i,hm,_,_,_=>by omega
 | m + 1,i,hm,h0,hi,h=>by
  rw [F_n_L1.eq_2]
  by_cases c:i < xs.length
  ·have w1:IntKind.wrap .i64 ((i:Int) - 1) = ((i - 1:Nat):Int):=by rw [wrap64 (by omega) (by omega)]; omega
   have tk:=List.take_succ_eq_append_getElem c
   simp only [dlt c,cT,getI_el c,obs,w1,getI_el (show i - 1 < xs.length by omega),wT i]
   by_cases q1:xs[i] = xs[i - 1]
   ·rw [show (xs[i] == xs[i - 1]) = true by rw [beq_iff_eq]; exact q1,cT,show subL xs (i:Int) (xs.length:Int) = some ((xs.take (xs.length:Int).toNat).drop (i:Int).toNat) from if_pos ⟨by omega,by omega,by omega⟩,obs]
    refine Cpt2 hs hl h0 c (fun p q l e1 e2=>?_) n i 1 xs (by omega) rfl (Nat.le_refl _) (by omega) (by omega) (fun _ _=>rfl) h fun x=>?_
    ·have a1:subL l (p:Int) (l.length:Int) = some ((l.take (l.length:Int).toNat).drop (p:Int).toNat):=if_pos ⟨by omega,by omega,by omega⟩
     have a2:subL (l.take p ++ List.replicate (l.length - p) (0:Int)) 0 (p:Int) = some (((l.take p ++ List.replicate (l.length - p) (0:Int)).take (p:Int).toNat).drop (0:Int).toNat):=if_pos ⟨by omega,by omega,by simp; omega⟩
     simp only [a1,obs,Int.toNat_natCast,a2]
     have:(l.take p).length = p:=by rw [List.length_take]; omega
     rw [List.take_append_of_le_length (by omega)]
     simp
     rw [List.take_take,Nat.min_self]
    ·rw [tk,List.mem_append,List.mem_singleton]
     refine ⟨.inl,fun h=>h.elim id fun e=>?_⟩
     rw [e,q1]
     exact List.mem_iff_getElem.2 ⟨i - 1,by rw [List.length_take]; omega,by rw [List.getElem_take]⟩
   ·rw [show (xs[i] == xs[i - 1]) = false by rw [beq_eq_false_iff_ne]; exact q1,cF]
    have hle:xs[i - 1] ≤ xs[i]:=List.pairwise_iff_getElem.1 hs _ _ (by omega) (by omega) (by omega)
    refine Cpt1 hs hl hn m (i + 1) (by omega) (by omega) c ?_
    rw [tk]
    refine List.pairwise_append.2 ⟨h,List.pairwise_singleton ..,fun a ha b hb=>?_⟩
    rw [List.mem_singleton.1 hb]
    have:=cpt_take hs h0 c a ha
    omega
  ·have ec:decide ((i:Int) < (xs.length:Int)) = false:=decide_eq_false (by omega)
   rw [ec,cF]
   rw [List.take_of_length_le (by omega)] at h
   exact ⟨xs,rfl,h,fun _=>Iff.rfl⟩
theorem Cpt {n:Nat} {xs:List Int} (hs:xs.Pairwise (fun a b=>a ≤ b)) (hl:xs.length ≤ 1048576) (hn:1048577 ≤ n):∃ r,F_n n xs = some r ∧ r.Pairwise (fun a b=>a < b) ∧ ∀ x,x ∈ r ↔ x ∈ xs:=by
 rw [F_n]
 by_cases c:(xs.length:Int) < 2
 ·rw [decide_eq_true c,cT]
  refine ⟨xs,rfl,?_,fun _=>Iff.rfl⟩
  match xs,c with
  | [],_=>exact List.Pairwise.nil
  | [x],_=>exact List.pairwise_singleton ..
  | _ :: _ :: _,c=>simp at c; omega
 ·rw [decide_eq_false c,cF]
  refine Cpt1 hs hl hn n 1 (by omega) (by omega) (by omega) ?_
  match xs,c with
  | [],c=>simp at c
  | x :: xs,_=>simp
def ckB (b:S_Block) (p:S_place):Bool:=decide (p.instance_ ≥ 0) && match getI b.Design.Instances p.instance_ with
 | some x=>match getI b.Library.Cells x.Cell with
  | some c=>match getI c.Pins p.pin_ with
   | some q=>q.Clock
   | none=>false
  | none=>false
 | none=>false
theorem ckB_of {b:S_Block} (v:VBlock b) {p:S_place} (hp:p ∈ pls b.Design):(bif decide (p.instance_ ≥ 0) then (Option.bind (getI b.Design.Instances p.instance_) fun x=>(Option.bind (getI b.Library.Cells x.Cell) fun c=>(Option.bind (getI c.Pins p.pin_) fun q=>(some q.Clock)))) else (some false)) = some (ckB b p):=by
 by_cases h:p.instance_ ≥ 0
 ·obtain ⟨x,c,q,e1,e2,e3⟩:=v.design.place p hp h
  simp only [ckB,decide_eq_true h,cT,e1,e2,e3,obs,Bool.true_and]
 ·simp only [ckB,decide_eq_false h,cF,Bool.false_and]
def ckC (b:S_Block) (o:List Bool) (k:Nat):Prop:=(∃ h:k < (pls b.Design).length,ckB b (pls b.Design)[k] = true) ∧ (gb o (2 * k) || gb o (2 * k + 1)) = true
theorem Ckp1 {b:S_Block} {o o1 o2:List Bool} (v:VBlock b) (h1:o1.length = 2 * (pls b.Design).length) (h2:o2.length = 2 * (pls b.Design).length) (ho:∀ k,k < 2 * (pls b.Design).length → gb o k = (gb o1 k || gb o2 k)) {n:Nat} (hn:1048577 ≤ n) :
 ∃ r,F_e_L2 b ((pls b.Design).map toP) o1 o2 (fun l i=>(some (l,0))) n ([]:List Int) 0 = some (r,0) ∧ Upto (ckC b o) (pls b.Design).length r:=by
 have vd:=v.design
 have hl:=pls_len vd.short vd.few.1 vd.few.2.2
 refine loop (L:=fun m i l=>F_e_L2 b ((pls b.Design).map toP) o1 o2 (fun l i=>(some (l,0))) m l i) (pls b.Design).length (fun i l=>Upto (ckC b o) i l) (fun z=>∃ r,z = some (r,0) ∧ Upto (ckC b o) (pls b.Design).length r) ?_ ?_ n 0 [] (by omega) (by omega) Upto.zero
 ·intro m i l hi hu
  refine .inl ?_
  have w1:IntKind.wrap .i64 (2 * (i:Int)) = ((2 * i:Nat):Int):=by rw [wrap64 (by omega) (by omega)]; omega
  have w2:IntKind.wrap .i64 (((2 * i:Nat):Int) + 1) = ((2 * i + 1:Nat):Int):=by rw [wrap64 (by omega) (by omega)]; omega
  have hi':i < ((pls b.Design).map toP).length:=by rw [List.length_map]; exact hi
  have eg:((pls b.Design).map toP)[i] = toP (pls b.Design)[i]:=by rw [List.getElem_map]
  have ck:=ckB_of v (List.getElem_mem hi)
  simp only [F_e_L2.eq_2,dlt hi',cT,getI_el hi',eg,toP,obs,w1,w2,gb_el (show 2 * i < o1.length by omega),gb_el (show 2 * i + 1 < o1.length by omega),gb_el (show 2 * i < o2.length by omega),gb_el (show 2 * i + 1 < o2.length by omega),bif_or,wT i]
  have hC:ckC b o i ↔ (ckB b (pls b.Design)[i] = true ∧ (((gb o1 (2 * i) || gb o1 (2 * i + 1)) || gb o2 (2 * i)) || gb o2 (2 * i + 1)) = true):=by
   unfold ckC
   rw [ho _ (show 2 * i < _ by omega),ho _ (show 2 * i + 1 < _ by omega)]
   constructor
   ·rintro ⟨⟨_,a⟩,q⟩
    refine ⟨a,?_⟩
    revert q; cases gb o1 (2 * i) <;> cases gb o1 (2 * i + 1) <;> cases gb o2 (2 * i) <;> cases gb o2 (2 * i + 1) <;> simp
   ·rintro ⟨a,q⟩
    refine ⟨⟨hi,a⟩,?_⟩
    revert q; cases gb o1 (2 * i) <;> cases gb o1 (2 * i + 1) <;> cases gb o2 (2 * i) <;> cases gb o2 (2 * i + 1) <;> simp
  have fin:∀ c:Bool,(c = true ↔ ckC b o i) → ∃ st',Upto (ckC b o) (i + 1) st' ∧ (bif c then (Option.bind (appN l [(i:Int)] 8) fun z=>(F_e_L2 b ((pls b.Design).map toP) o1 o2 (fun l i=>(some (l,0))) m z ((i + 1:Nat):Int))) else (F_e_L2 b ((pls b.Design).map toP) o1 o2 (fun l i=>(some (l,0))) m l ((i + 1:Nat):Int))) = F_e_L2 b ((pls b.Design).map toP) o1 o2 (fun l i=>(some (l,0))) m st' ((i + 1:Nat):Int):=by
   intro c hc
   have:=hu.1
   cases c with
   | true =>
    refine ⟨l ++ [(i:Int)],hu.yes (hc.1 rfl),?_⟩
    rw [cT,appN_ok (by simp; omega) (by omega),obs]
   | false=>exact ⟨l,hu.no (fun q=>absurd (hc.2 q) (by simp)),by rw [cF]⟩
  by_cases hp:(pls b.Design)[i].instance_ ≥ 0
  ·simp only [decide_eq_true hp,cT,obs] at ck ⊢
   cases c:(((gb o1 (2 * i) || gb o1 (2 * i + 1)) || gb o2 (2 * i)) || gb o2 (2 * i + 1)) with
   | true =>
    rw [cT,ck,obs]
    exact fin _ (by rw [hC,c]; simp)
   | false =>
    rw [cF,obs]
    exact fin _ (by rw [hC,c]; simp)
  ·simp only [decide_eq_false hp,cF,obs] at ck ⊢
   have ck:false = ckB b (pls b.Design)[i]:=Option.some.inj ck
   exact fin false (by rw [hC,← ck]; simp)
 ·intro m l hu
  have:decide (((pls b.Design).length:Int) < (((pls b.Design).map toP).length:Int)) = false:=by rw [List.length_map]; exact dnl _
  simp only [F_e_L2.eq_2,this,cF]
  exact ⟨l,rfl,hu⟩
theorem Ickp {n:Nat} {b:S_Block} {w:S_view} (v:VBlock b) (hw:w.Block = b) {p:S_place} (hp:p ∈ pls b.Design):F_3q n w p = some (ckB b p):=by
 have ck:=ckB_of v hp
 simp only [F_3q,hw,ck,obs]
def Dup (C:Nat → Prop) (ns:List Int) (j:Nat) (l:List Int):Prop:=l.length ≤ j ∧ l.Pairwise (fun a b=>a ≤ b) ∧ ∀ x,x ∈ l ↔ ∃ t k:Nat,t < j ∧ ns[t]? = some (k:Int) ∧ x = ((k / 2:Nat):Int) ∧ C (k / 2)
theorem Ckp2 {b:S_Block} {w:S_view} {o:List Bool} (v:VBlock b) (hw:w.places_ = pls b.Design) (ho:o.length = 2 * (pls b.Design).length) {n:Nat} (hn:1048577 ≤ n) :
 ∃ r,F_09_L1 n b w (lstd o) (fun l i=>(Option.bind (F_n n l) fun r=>(some (r,0)))) n ([]:List Int) 0 = some (r,0) ∧ Upto (ckC b o) (pls b.Design).length r:=by
 have vd:=v.design
 have hl:=pls_len vd.short vd.few.1 vd.few.2.2
 obtain ⟨n1,n2,n3⟩:=lstd_is o
 have hk:∀ t (h:t < (lstd o).length),∃ k:Nat,(lstd o)[t] = (k:Int) ∧ k < 2 * (pls b.Design).length ∧ gb o k = true:=fun t h=>by
  obtain ⟨k,e,h1,h2⟩:=(n3 _).1 (List.getElem_mem h)
  exact ⟨k,e,by omega,h2⟩
 let C:Nat → Prop:=fun k=>∃ h:k < (pls b.Design).length,ckB b (pls b.Design)[k] = true
 refine loop (L:=fun m i l=>F_09_L1 n b w (lstd o) (fun l i=>(Option.bind (F_n n l) fun r=>(some (r,0)))) m l i) (lstd o).length (fun j l=>Dup C (lstd o) j l) (fun z=>∃ r,z = some (r,0) ∧ Upto (ckC b o) (pls b.Design).length r) ?_ ?_ n 0 [] (by omega) (by omega) ⟨Nat.le_refl _,List.Pairwise.nil,fun x=>⟨fun h=>(nomatch h),fun ⟨t,k,h,_⟩=>by omega⟩⟩
 ·intro m j l hj ⟨d1,d2,d3⟩
  refine .inl ?_
  obtain ⟨k,ek,lk,gk⟩:=hk j hj
  have w1:IntKind.wrap .i64 (Int.tdiv (k:Int) 2) = ((k / 2:Nat):Int):=by
   rw [show Int.tdiv (k:Int) 2 = ((k / 2:Nat):Int) from rfl,wrap64 (by omega) (by omega)]
  have hp:k / 2 < (pls b.Design).length:=by omega
  have ej:(lstd o)[j]? = some (k:Int):=by rw [List.getElem?_eq_getElem hj,ek]
  simp only [F_09_L1.eq_2,dlt hj,cT,getI_el hj,ek,obs,w1,hw,getI_el hp,Ickp (n:=n) (w:=⟨b,pls b.Design,w.links_,w.loads_,w.delays_,w.extras_⟩) v rfl (List.getElem_mem hp),wT j]
  cases c:ckB b (pls b.Design)[k / 2] with
  | true =>
   rw [cT,appN_ok (by simp; omega) (by omega),obs]
   refine ⟨_,⟨by simp; omega,List.pairwise_append.2 ⟨d2,List.pairwise_singleton ..,fun a ha z hz=>?_⟩,fun x=>?_⟩,rfl⟩
   ·obtain ⟨t,q,ht,eq,rfl,_⟩:=(d3 a).1 ha
    rw [List.mem_singleton.1 hz]
    have lt:t < (lstd o).length:=by omega
    rw [List.getElem?_eq_getElem lt] at eq
    have:=List.pairwise_iff_getElem.1 n2 t j lt hj ht
    rw [Option.some.inj eq,ek] at this
    have:q ≤ k:=by omega
    exact Int.ofNat_le.2 (Nat.div_le_div_right this)
   ·rw [List.mem_append,List.mem_singleton,d3 x]
    constructor
    ·rintro (⟨t,q,ht,eq,e,cq⟩ | e)
     ·exact ⟨t,q,by omega,eq,e,cq⟩
     ·exact ⟨j,k,by omega,ej,e,hp,c⟩
    ·rintro ⟨t,q,ht,eq,e,cq⟩
     by_cases y:t = j
     ·subst y
      rw [ej] at eq
      have:k = q:=by have:=Option.some.inj eq; omega
      subst this
      exact .inr e
     ·exact .inl ⟨t,q,by omega,eq,e,cq⟩
  | false =>
   rw [cF]
   refine ⟨l,⟨by omega,d2,fun x=>?_⟩,rfl⟩
   rw [d3 x]
   constructor
   ·rintro ⟨t,q,ht,eq,e,cq⟩; exact ⟨t,q,by omega,eq,e,cq⟩
   ·rintro ⟨t,q,ht,eq,e,cq⟩
    refine ⟨t,q,?_,eq,e,cq⟩
    by_cases y:t = j
    ·subst y
     rw [ej] at eq
     have:k = q:=by have:=Option.some.inj eq; omega
     subst this
     obtain ⟨_,cq⟩:=cq
     rw [c] at cq; cases cq
    ·omega
 ·intro m l ⟨d1,d2,d3⟩
  obtain ⟨r,f,r1,r2⟩:=Cpt (n:=n) (xs:=l) d2 (by omega) hn
  simp only [F_09_L1.eq_2,dnl,cF,f,obs]
  have rm:∀ x,x ∈ r ↔ ∃ k:Nat,x = (k:Int) ∧ k < (pls b.Design).length ∧ ckC b o k:=fun x=>by
   rw [r2 x,d3 x]
   constructor
   ·rintro ⟨t,k,ht,ek,e,cq⟩
    have lt:t < (lstd o).length:=by omega
    obtain ⟨q,e2,lq,gq⟩:=hk t lt
    rw [List.getElem?_eq_getElem lt,e2] at ek
    have:q = k:=by have:=Option.some.inj ek; omega
    subst this
    refine ⟨q / 2,e,by omega,cq,?_⟩
    rcases Nat.mod_two_eq_zero_or_one q with y | y
    ·rw [show 2 * (q / 2) = q by omega,gq]; rfl
    ·rw [show 2 * (q / 2) + 1 = q by omega,gq]; simp
   ·rintro ⟨k,rfl,lk,cq,g⟩
    have:∃ q,q < 2 * (pls b.Design).length ∧ gb o q = true ∧ q / 2 = k:=by
     rw [Bool.or_eq_true] at g
     rcases g with g | g
     ·exact ⟨_,by omega,g,by omega⟩
     ·exact ⟨_,by omega,g,by omega⟩
    obtain ⟨q,lq,gq,rfl⟩:=this
    obtain ⟨t,lt,et⟩:=List.mem_iff_getElem.1 ((n3 (q:Int)).2 ⟨q,rfl,by omega,gq⟩)
    exact ⟨t,q,lt,by rw [List.getElem?_eq_getElem lt,et],rfl,cq⟩
  have hlen:r.length ≤ (pls b.Design).length:=by
   have key:∀ (r:List Int) (N lo:Nat),r.Pairwise (fun a b=>a < b) → (∀ x ∈ r,(lo:Int) ≤ x ∧ x < (N:Int)) → r.length ≤ N - lo:=by
    intro r
    induction r with
    | nil=>intros; simp
    | cons x r ih =>
     intro N lo hp hx
     have hp':=List.pairwise_cons.1 hp
     have h1:=hx x (List.mem_cons_self ..)
     have:=ih N (x.toNat + 1) hp'.2 fun y hy=>by
      have:=hp'.1 y hy; have:=hx y (List.mem_cons_of_mem _ hy); omega
     rw [List.length_cons]; omega
   have:=key r (pls b.Design).length 0 r1 fun x hx=>by
    obtain ⟨k,e,lk,_⟩:=(rm x).1 hx; omega
   omega
  exact ⟨r,rfl,hlen,r1,rm⟩
theorem Sp1 {n:Nat} {b:S_Block} {br:List Int} {p:Nat} {o:List Bool} (v:VBlock b) (hb:br.length ≤ 1048576) (hr:RisP ((lks b).length:Int) br) (hp:p < (pls b.Design).length) (ho:rchS b br p o) (hs:SMBl b) (hn:1048577 ≤ n):∃ r,F_e n b br (p:Int) = some (r,0) ∧ Upto (ckC b o) (pls b.Design).length r:=by
 have vd:=v.design
 have hl:=pls_len vd.short vd.few.1 vd.few.2.2
 have hL:=lks_len v
 have hin:=lks_in v
 obtain ⟨c,e1,hc⟩:=Bk1 (n:=n) hs hn
 obtain rfl:c = true:=hc.2 v
 obtain ⟨r,f1,hr1⟩:=Rs1 (n:=n) (br:=br) (N:=((lks b).length:Int)) hb (by omega) hn
 obtain rfl:r = true:=hr1.2 hr
 have w1:IntKind.wrap .i64 (2 * (p:Int)) = ((2 * p:Nat):Int):=by rw [wrap64 (by omega) (by omega)]; omega
 have w2:IntKind.wrap .i64 (((2 * p:Nat):Int) + 1) = ((2 * p + 1:Nat):Int):=by rw [wrap64 (by omega) (by omega)]; omega
 have wx:IntKind.wrap .i64 (((pls b.Design).length:Int) - 1) = ((pls b.Design).length:Int) - 1:=wrap64 (by omega) (by omega)
 have wc:F_1y n b = some ((2 * (pls b.Design).length:Nat):Int):=by
  rw [F_1y,Pls1 vd.short vd.few.1 vd.few.2.2 hn,obs,List.length_map,wrap64 (by omega) (by omega)]
  exact congrArg some (by omega)
 have q:(decide ((p:Int) ≥ 0) && decide ((p:Int) ≤ ((pls b.Design).length:Int) - 1)) = true:=rngB.2 ⟨by omega,by omega⟩
 rw [F_e,F_3a,e1]
 simp only [obs,Bool.not_true,cF,Lks1 v hn,f1,bne_self_eq_false,Pls1 vd.short vd.few.1 vd.few.2.2 hn,List.length_map,F_1,wx,q,Lv1 (n:=n) (L:=lks b) (br:=br) (by omega) hb hn]
 refine loop (L:=fun m i l=>F_e_L1 n b (lks b) _ m i l) (lks b).length (fun i l=>l.length = (lks b).length ∧ ∀ k (h:k < (lks b).length),gb l k = if k < i then gb (livC b br) k else !(br.any fun y=>y == (k:Int))) (fun z=>∃ r,z = some (r,0) ∧ Upto (ckC b o) (pls b.Design).length r) ?_ ?_ n 0 _ (by omega) (by omega) ⟨idx1_len _ _ _,fun k h=>?_⟩
 ·intro m i l hi ⟨h1,h2⟩
  refine .inl ?_
  have ok:=lks_ok v _ (List.getElem_mem hi)
  have h2i:=h2 i hi
  rw [if_neg (Nat.lt_irrefl i)] at h2i
  simp only [F_e_L1.eq_2,dlt hi,cT,getI_el hi,obs,wT i]
  by_cases c:(lks b)[i].Kind = 1
  ·have e1:((lks b)[i].Kind == 1) = true:=by rw [beq_iff_eq]; exact c
   obtain ⟨a,z,ea,ek⟩:=Arc1 (n:=n) v ok c hn
   simp only [e1,cT,ea,obs,gb_el (show i < l.length by omega),Int.toNat_natCast,ek]
   refine ⟨_,⟨by simpa using h1,fun k hk=>?_⟩,rfl⟩
   rw [gb_set (by omega)]
   by_cases e:i = k
   ·subst e
    rw [if_pos rfl,if_pos (by omega),livC_get hk,h2i]
   ·rw [if_neg e,h2 k hk]
    by_cases q:k < i
    ·rw [if_pos q,if_pos (by omega)]
    ·rw [if_neg q,if_neg (by omega)]
  ·have e1:((lks b)[i].Kind == 1) = false:=by rw [beq_eq_false_iff_ne]; exact c
   simp only [e1,cF]
   refine ⟨l,⟨h1,fun k hk=>?_⟩,rfl⟩
   rw [h2 k hk]
   by_cases e:i = k
   ·subst e
    rw [if_neg (Nat.lt_irrefl i),if_pos (by omega),livC_get hk]
    have:lnch b (lks b)[i] = false:=by unfold lnch; rw [e1,Bool.false_and]
    rw [this]; simp
   ·by_cases q:k < i
    ·rw [if_pos q,if_pos (by omega)]
    ·rw [if_neg q,if_neg (by omega)]
 ·intro m l ⟨h1,h2⟩
  have el:l = livC b br:=gb_ext (h1.trans (livC_len b br).symm) fun j hj=>by rw [h2 j (by omega),if_pos (by omega)]
  subst el
  obtain ⟨o1,f1,r1⟩:=Rc1 (n:=n) (s:=2 * p) hin (livC_len b br) (by omega) (by omega) (by omega) hn
  obtain ⟨o2,f2,r2⟩:=Rc1 (n:=n) (s:=2 * p + 1) hin (livC_len b br) (by omega) (by omega) (by omega) hn
  simp only [F_e_L1.eq_2,dnl,cF,wc,obs,w1,w2,f1,f2]
  exact Ckp1 v r1.len r2.len (fun k hk=>by
   rw [Bool.eq_iff_iff,Bool.or_eq_true,ho.iff k hk,r1.iff k hk,r2.iff k hk]
   exact ⟨Rch.or,fun h=>h.elim (fun h=>h.mono fun _ e=>.inl e) (fun h=>h.mono fun _ e=>.inr e)⟩) hn
 ·rw [if_neg (Nat.not_lt_zero k)]
  have:=idx1_get (fun k (_:S_Link)=>!(br.any fun y=>y == ((k:Nat):Int))) (lks b) 0 k
  rw [List.getElem?_eq_getElem h,Nat.zero_add] at this
  unfold gb
  rw [List.getD_eq_getElem?_getD,this]; rfl
theorem Pl0 {n:Nat} {b:S_Block} {br:List Int} {p:Int} (hb:SMBl b) (hbr:br.length ≤ 1048576) (hn:1048577 ≤ n) :
 (VBlock b ∧ RisP ((lks b).length:Int) br ∧ (∃ P:Nat,p = (P:Int) ∧ P < (pls b.Design).length) ∧ ∃ w:S_view,F_2y n b br p = some (some w,0) ∧ w.Block = b ∧ w.places_ = pls b.Design ∧ w.links_ = lks b) ∨
 (∃ c:Int,(c != 0) = true ∧ F_e n b br p = some ([],c) ∧ F_2y n b br p = some (none,c)):=by
 obtain ⟨c,e1,hc⟩:=Bk1 hb hn
 obtain ⟨c2,e2,hc2⟩:=Bk2 hb hn
 obtain rfl:c = c2:=by rw [Bool.eq_iff_iff,hc,hc2]
 rw [F_e,F_3a,F_2y,e1,e2]
 simp only [obs]
 cases c with
 | false=>exact .inr ⟨1,rfl,rfl,rfl⟩
 | true =>
  have v:=hc.1 rfl
  have vd:=v.design
  have hl:=pls_len vd.short vd.few.1 vd.few.2.2
  have hL:=lks_len v
  obtain ⟨w,ew,hw1,hw2⟩:=Vw3 (n:=n) v hn
  obtain ⟨r,f1,hr⟩:=Rs1 (n:=n) (br:=br) (N:=((lks b).length:Int)) hbr (by omega) hn
  obtain ⟨r2,f2,hr2⟩:=Rs2 (n:=n) (br:=br) (v:=⟨b,w.places_,w.links_,w.loads_,w.delays_,w.extras_⟩) hbr (by show w.links_.length ≤ _; rw [hw2]; omega) hn
  have hr2:r2 = true ↔ RisP (w.links_.length:Int) br:=hr2
  rw [hw2] at hr2
  obtain rfl:r = r2:=by rw [Bool.eq_iff_iff,hr,hr2]
  simp only [Bool.not_true,cF,Lks1 v hn,obs,f1,ew,f2]
  cases r with
  | false=>exact .inr ⟨2,rfl,rfl,rfl⟩
  | true =>
   have wx:IntKind.wrap .i64 (((pls b.Design).length:Int) - 1) = ((pls b.Design).length:Int) - 1:=wrap64 (by omega) (by omega)
   simp only [Bool.not_true,cF,obs,bne_self_eq_false,Pls1 vd.short vd.few.1 vd.few.2.2 hn,List.length_map,F_1,F_2p,hw1,F_5,wx]
   cases q:(decide (p ≥ 0) && decide (p ≤ ((pls b.Design).length:Int) - 1)) with
   | false=>exact .inr ⟨4,rfl,rfl,rfl⟩
   | true =>
    have:=rngB.1 q
    exact .inl ⟨v,hr.1 rfl,⟨p.toNat,by omega,by omega⟩,_,rfl,rfl,hw1 ▸ rfl,hw2⟩
theorem CpEq {n:Nat} {b:S_Block} {br:List Int} {p:Int} (hb:SMBl b) (hbr:br.length ≤ 1048576) (hn:1048577 ≤ n):∃ (g:List Int) (c:Int),g.length ≤ 1048576 ∧ F_e n b br p = some (g,c) ∧ F_09 n b br p = some (g,c):=by
 rw [F_09]
 rcases Pl0 (n:=n) (br:=br) (p:=p) hb hbr hn with ⟨v,hr,⟨P,rfl,hP⟩,w,f2,w1,w2,w3⟩ | ⟨c,hc,f1,f2⟩
 ·have vd:=v.design
  have hl:=pls_len vd.short vd.few.1 vd.few.2.2
  obtain ⟨o,g2,r2⟩:=Nodes2 (n:=n) (w:=⟨b,w.places_,w.links_,w.loads_,w.delays_,w.extras_⟩) v rfl w2 w3 hbr hr hP hn
  have ol:=r2.len
  obtain ⟨rs,e1,u1⟩:=Sp1 v hbr hr hP r2 hb hn
  obtain ⟨ri,e2,u2⟩:=Ckp2 (w:=w) (o:=o) v w2 ol hn
  obtain rfl:rs = ri:=incr_ext u1.2.1 u2.2.1 fun x=>(u1.2.2 x).trans (u2.2.2 x).symm
  simp only [f2,obs,bne_self_eq_false,cF,oelim,g2,Lst2 (n:=n) (s:=o) (by omega) hn,e2]
  have:=u1.1
  exact ⟨_,_,by omega,e1,rfl⟩
 ·simp only [f2,obs,hc,cT,oelim]
  exact ⟨[],c,by simp,f1,rfl⟩
theorem PFnExactClockPinsOf {a:S_Block} {br:List Int} {p:Int} (hR:R_Block a) (hB:br.length ≤ 9223372036854775807 ∧ ∀ x ∈ br,inK .i64 x) (_hp:inK .i64 p):∃ n,F_47 n a br p = some true:=by
 obtain ⟨n,hn⟩:∃ n,1048577 ≤ n:=⟨_,Nat.le_refl _⟩
 refine ⟨n,?_⟩
 rw [F_47]
 by_cases hbl:(br.length:Int) > 1048576
 ·rw [decide_eq_true hbl]; rfl
 rw [decide_eq_false hbl,cF]
 obtain ⟨r,e,hr,hs⟩:=Z_Block (n:=n) (left:=1048576) hR (by omega) (by omega) hn
 rw [e,obs]
 by_cases h0:r < 0
 ·rw [decide_eq_true h0]; rfl
 have hS:=hs (by omega)
 obtain ⟨g,c,hg,g1,g2⟩:=CpEq (n:=n) (br:=br) (p:=p) (SM_Block.b hS) (by omega) hn
 obtain ⟨_,k1,m1,u1,v1⟩:=MS_Block (n:=n) (left:=1048576) (k:=1) hR (by omega) (by omega) hn e (by omega) (by omega) (by omega)
 obtain ⟨q2,m2,u2,_⟩:=M_Int64S (n:=n) (a:=br) (k:=k1) (by omega) (by omega) (by omega) hn
 obtain ⟨q4,m4,u4,v4,z4⟩:=M_Int64S (n:=n) (a:=g) (k:=1) hg (by omega) (by omega) hn
 have hI:∀ l:List Int,l.length ≤ 1048576 → (fun xs=>xs.length ≤ 1048576 ∧ ∀ x ∈ xs,(fun _=>True) x) l:=fun l h=>⟨h,fun _ _=>trivial⟩
 simp only [decide_eq_false h0,cF,T_Block hS hn,T_Int64S (hI br (by omega)) hn,obs,g1,g2,bne_self_eq_false,Bool.or_self,E_Block hS hn,E_Int64S (hI br (by omega)) hn,E_Int64S (hI g hg) hn,Bool.not_true,m1,m2,decide_eq_false (show ¬ q2.1 < 0 by omega),m4,z4,decide_eq_false (show ¬ q4.1 < 0 by omega)]
end Go.Proofs.YtpfgoednlfjebaaGreatDoor
