/- The plain law behind FnExactAllChecks: the plain function answers true; no condition. -/
import Derived.Test.YtiaobghojdehbaaGreatDoorWalkFnExactAllChecks
set_option linter.all false
namespace Go.Proofs.YtiaobghojdehbaaGreatDoor
open Go Go.RowKit Go.Eng
theorem bif_or {b c:Bool}:(bif b then some true else some c) = some (b || c):=by cases b <;> rfl
theorem bif_and {b c:Bool}:(bif b then some c else some false) = some (b && c):=by cases b <;> rfl
theorem dlt {i N:Nat} (h:i < N):decide ((i:Int) < (N:Int)) = true:=decide_eq_true (by omega)
theorem dnl (N:Nat):decide ((N:Int) < (N:Int)) = false:=decide_eq_false (by omega)
theorem wS {i:Nat} (h:i < 4611686018427387904):IntKind.wrap .i64 ((i:Int) + 1) = ((i + 1:Nat):Int):=by rw [wrap64 (by omega) (by omega)]; simp
theorem getI_el {α:Type} {xs:List α} {i:Nat} (h:i < xs.length):getI xs (i:Int) = some xs[i]:=by rw [getI_nat]; exact List.getElem?_eq_getElem h
theorem getI_ok {α:Type} {xs:List α} {i:Int} (h0:0 ≤ i) (h1:i < xs.length):∃ x,getI xs i = some x ∧ xs[i.toNat]? = some x:=by
 obtain ⟨x,hx,_⟩:=getI_in h0 h1
 exact ⟨x,hx,(getI_lt hx).2.2⟩
theorem loop {σ R:Type} {L:Nat → Int → σ → Option R} (N:Nat) (I:Nat → σ → Prop) (Post:Option R → Prop)
 (hs:∀ (m i:Nat) (st:σ),i < N → I i st → (∃ st',I (i + 1) st' ∧ L (m + 1) (i:Int) st = L m ((i + 1:Nat):Int) st') ∨ Post (L (m + 1) (i:Int) st))
 (he:∀ (m:Nat) (st:σ),I N st → Post (L (m + 1) (N:Int) st)):∀ (m i:Nat) (st:σ),i ≤ N → N - i < m → I i st → Post (L m (i:Int) st)
 | 0,i,st,_,hm,_=>by omega
 | m + 1,i,st,hi,hm,h=>by
  by_cases hlt:i < N
  ·rcases hs m i st hlt h with ⟨st',h1,h2⟩ | h1
   ·rw [h2]; exact loop N I Post hs he m (i + 1) st' (by omega) (by omega) h1
   ·exact h1
  ·obtain rfl:i = N:=by omega
   exact he m st h
theorem loop_fold {α σ R:Type} {xs:List α} {L:Nat → Int → σ → Option R} {k:σ → Option R} (f:σ → α → σ) (I:Nat → σ → Prop)
 (hs:∀ (m i:Nat) (h:i < xs.length) (st:σ),I i st → L (m + 1) (i:Int) st = L m ((i + 1:Nat):Int) (f st xs[i]) ∧ I (i + 1) (f st xs[i]))
 (he:∀ (m:Nat) (st:σ),I xs.length st → L (m + 1) (xs.length:Int) st = k st) (m:Nat) (st:σ) (h:I 0 st) (hm:xs.length < m):L m 0 st = k (xs.foldl f st) ∧ I xs.length (xs.foldl f st):=by
 refine loop xs.length (fun i s=>I i s ∧ (xs.drop i).foldl f s = xs.foldl f st) (fun o=>o = k (xs.foldl f st) ∧ I xs.length (xs.foldl f st)) ?_ ?_ m 0 st (by omega) (by omega) ⟨h,by simp⟩
 ·intro m i s hi ⟨h1,h2⟩
  obtain ⟨e,h3⟩:=hs m i hi s h1
  exact .inl ⟨_,⟨h3,by rw [List.drop_eq_getElem_cons hi] at h2; exact h2⟩,e⟩
 ·intro m s ⟨h1,h2⟩
  rw [List.drop_length] at h2
  have h2:s = xs.foldl f st:=h2
  rw [← h2]
  exact ⟨he m s h1,h1⟩
theorem appN_ok {α:Type} {xs ys:List α} {b:Nat} (h:xs.length + ys.length ≤ 16777216) (hb:b ≤ 1048576):appN xs ys b = some (xs ++ ys):=by
 unfold appN
 have:(xs.length + ys.length) * b ≤ 16777216 * 1048576:=Nat.mul_le_mul h hb
 rw [if_pos ⟨by omega,by omega⟩]
theorem loop_all {α R:Type} {xs:List α} {L:Nat → Int → Option R} {k no:Option R} (p:α → Bool) (hs:∀ (m i:Nat) (h:i < xs.length),L (m + 1) (i:Int) = bif p xs[i] then L m ((i + 1:Nat):Int) else no)
 (he:∀ m:Nat,L (m + 1) (xs.length:Int) = k) (m:Nat) (hm:xs.length < m):L m 0 = bif xs.all p then k else no:=by
 refine loop (L:=fun m i (_:Unit)=>L m i) xs.length (fun i _=>xs.all p = (xs.drop i).all p) (fun o=>o = bif xs.all p then k else no) ?_ ?_ m 0 () (by omega) (by omega) (by simp)
 ·intro m i _ hi h
  rw [List.drop_eq_getElem_cons hi,List.all_cons] at h
  cases hp:p xs[i] with
  | false=>refine .inr ?_; rw [h,hp]; simp only [hs m i hi,hp,cF,Bool.false_and]
  | true=>refine .inl ⟨(),by rw [h,hp]; simp,?_⟩; simp only [hs m i hi,hp,cT]
 ·intro m _ h
  rw [List.drop_length] at h
  rw [h]; simp [he m]
def Tot {α:Type} (Q:α → Prop) (o:Option α):Prop:=∃ v,o = some v ∧ Q v
theorem Tot.some {α:Type} {Q:α → Prop} {v:α} (h:Q v):Tot Q (some v):=⟨v,rfl,h⟩
theorem Tot.bind {α β:Type} {A:α → Prop} {Q:β → Prop} {o:Option α} {f:α → Option β} (h:Tot A o) (k:∀ v,o = Option.some v → A v → Tot Q (f v)):Tot Q (Option.bind o f):=by
 obtain ⟨v,e,hv⟩:=h
 rw [e]; exact k v e hv
theorem Tot.bif {α:Type} {Q:α → Prop} {c:Bool} {x y:Option α} (h1:c = true → Tot Q x) (h2:c = false → Tot Q y):Tot Q (bif c then x else y):=by
 cases c
 ·exact h2 rfl
 ·exact h1 rfl
theorem loop_has {α:Type} {xs:List α} {L:Nat → Int → Option Int} (p:α → Bool) (hs:∀ (m i:Nat) (h:i < xs.length),L (m + 1) (i:Int) = bif p xs[i] then some (i:Int) else L m ((i + 1:Nat):Int))
 (he:∀ m:Nat,L (m + 1) (xs.length:Int) = some (-1)) (m:Nat) (hm:xs.length < m):∃ r,L m 0 = some r ∧ decide (r ≥ 0) = xs.any p:=by
 refine loop (L:=fun m i (_:Unit)=>L m i) xs.length (fun i _=>xs.any p = (xs.drop i).any p) (fun o=>∃ r,o = some r ∧ decide (r ≥ 0) = xs.any p) ?_ ?_ m 0 () (by omega) (by omega) (by simp)
 ·intro m i _ hi h
  rw [List.drop_eq_getElem_cons hi,List.any_cons] at h
  cases hp:p xs[i] with
  | false=>refine .inl ⟨(),by rw [h,hp]; simp,?_⟩; simp only [hs m i hi,hp,cF]
  | true=>refine .inr ⟨(i:Int),?_,?_⟩
          ·simp only [hs m i hi,hp,cT]
          ·rw [h,hp]; simp
 ·intro m _ h
  rw [List.drop_length] at h
  exact ⟨-1,he m,by rw [h]; rfl⟩
def gd (t:List Int) (j:Nat):Int:=t.getD j 0
theorem gd_get {t:List Int} {j:Nat} {v:Int} (h:t[j]? = some v):gd t j = v:=by simp [gd,h]
theorem get_gd {t:List Int} {j:Nat} (h:j < t.length):t[j]? = some (gd t j):=by simp [gd,h]
theorem gd_set {t:List Int} {i j:Nat} {v:Int} (h:i < t.length):gd (t.set i v) j = if i = j then v else gd t j:=by
 unfold gd
 rw [List.getD_eq_getElem?_getD,List.getD_eq_getElem?_getD,List.getElem?_set]
 by_cases e:i = j
 ·subst e; simp [h]
 ·simp [e]
theorem getI_gd {t:List Int} {i:Int} (h0:0 ≤ i) (h1:i < t.length):getI t i = some (gd t i.toNat):=by
 obtain ⟨x,hx,h⟩:=getI_ok h0 h1
 rw [hx,gd_get h]
def gb (t:List Bool) (j:Nat):Bool:=t.getD j false
theorem gd_rep {n j:Nat}:gd (List.replicate n 0) j = 0:=by
 simp only [gd,List.getD_eq_getElem?_getD,List.getElem?_replicate]; split <;> rfl
def lowB (b:UInt8):Bool:=decide ((b.toNat:Int) ≥ 97) && decide ((b.toNat:Int) ≤ 122)
def digB (b:UInt8):Bool:=decide ((b.toNat:Int) ≥ 48) && decide ((b.toNat:Int) ≤ 57)
def nameB (s:ByteArray):Bool:=(decide ((s.size:Int) ≥ 1) && decide ((s.size:Int) ≤ 8)) && (s.data.toList.all fun b=>lowB b || digB b) && (s.data.toList.take 1).all lowB
theorem size_list (s:ByteArray):s.size = s.data.toList.length:=by rw [Array.length_toList]; rfl
theorem getB_el {s:ByteArray} {i:Nat} (h:i < s.data.toList.length):getB s (i:Int) = some ((s.data.toList[i].toNat:Nat):Int):=by
 unfold getB
 rw [if_pos (by omega),Int.toNat_natCast]
 have:s[i]? = some s.data.toList[i]:=by
  have hs:i < s.size:=by rw [size_list]; exact h
  rw [show s[i]? = some s[i] from getElem?_pos s i hs]
  rfl
 rw [this]; rfl
theorem all_u8 (p q:UInt8 → Bool) (h:(List.range 256).all (fun i=>p (UInt8.ofNat i) == q (UInt8.ofNat i)) = true) (b:UInt8):p b = q b:=by
 have:=List.all_eq_true.1 h b.toNat (List.mem_range.2 b.toNat_lt)
 rw [UInt8.ofNat_toNat] at this
 exact eq_of_beq this
def lettersL:List UInt8:=[97,98,99,100,101,102,103,104,105,106,107,108,109,110,111,112,113,114,115,116,117,118,119,120,121,122]
def nameL:List UInt8:=[97,98,99,100,101,102,103,104,105,106,107,108,109,110,111,112,113,114,115,116,117,118,119,120,121,122,48,49,50,51,52,53,54,55,56,57]
theorem nameL_is (b:UInt8):nameL.contains b = (lowB b || digB b):=all_u8 (fun b=>nameL.contains b) (fun b=>lowB b || digB b) (by decide +kernel) b
theorem lettersL_is (b:UInt8):lettersL.contains b = lowB b:=all_u8 (fun b=>lettersL.contains b) (fun b=>lowB b) (by decide +kernel) b
theorem take1_all {p:UInt8 → Bool}:∀ {l:List UInt8} (h:0 < l.length),(l.take 1).all p = p l[0]
 | [],h=>by simp at h
 | a :: r,_=>by simp
theorem dropWhile_nil {p:UInt8 → Bool}:∀ (l:List UInt8),(l.dropWhile p = []) ↔ l.all p = true
 | []=>by simp
 | a :: l=>by
  rw [List.dropWhile_cons,List.all_cons]
  cases h:p a with
  | true=>simpa using dropWhile_nil l
  | false=>simp
theorem dropWhile_head {p:UInt8 → Bool}:∀ {l:List UInt8} {a:UInt8} {r:List UInt8},l.dropWhile p = a :: r → p a = false
 | b :: l,a,r,h=>by
  rw [List.dropWhile_cons] at h
  split at h
  ·exact dropWhile_head h
  ·next q=>simp only [List.cons.injEq] at h; rw [← h.1]; simpa using q
theorem trim_nil (l cs:List UInt8):(Lib.trimS l cs == []) = l.all (cs.contains ·):=by
 rw [Bool.eq_iff_iff,beq_iff_eq]
 unfold Lib.trimS Lib.trimLeftS Lib.trimRightS
 rw [dropWhile_nil,List.all_reverse]
 rw [show l.all (cs.contains ·) = l.reverse.all (cs.contains ·) by rw [List.all_reverse]]
 constructor
 ·intro h
  cases hd:l.reverse.dropWhile (cs.contains ·) with
  | nil=>exact (dropWhile_nil _).1 hd
  | cons a r =>
   have h1:=dropWhile_head hd
   rw [hd,List.all_cons,h1] at h
   cases h
 ·intro h
  rw [(dropWhile_nil _).2 h]; rfl
theorem indexByte_ge:∀ (l:List UInt8) (c:UInt8),decide (Lib.indexByte l c ≥ 0) = l.contains c ∧ Lib.indexByte l c ≥ -1
 | [],c=>by simp [Lib.indexByte]
 | b :: l,c=>by
  obtain ⟨h1,h2⟩:=indexByte_ge l c
  rw [Lib.indexByte,List.contains_cons]
  by_cases e:b = c
  ·subst e; simp
  ·have e1:(b == c) = false:=beq_eq_false_iff_ne.2 e
   have e2:(c == b) = false:=beq_eq_false_iff_ne.2 fun q=>e q.symm
   rw [e1,e2,Bool.false_or,← h1]
   by_cases h:Lib.indexByte l c = -1
   ·rw [h]; simp
   ·have:(Lib.indexByte l c == -1) = false:=beq_eq_false_iff_ne.2 h
    rw [this]
    have hge:Lib.indexByte l c ≥ 0:=by omega
    rw [decide_eq_true hge]
    simp only [Bool.false_eq_true,if_false]
    exact ⟨decide_eq_true (by omega),by omega⟩
theorem Nm1 {n:Nat} {s:ByteArray} (hs:s.size ≤ 1048576) (hn:1048577 ≤ n):F_2v n s = some (nameB s):=by
 rw [F_2v,F_3,obs]
 unfold nameB
 cases hw:(decide ((s.size:Int) ≥ 1) && decide ((s.size:Int) ≤ 8)) with
 | false=>simp
 | true =>
  have hsz:1 ≤ s.size:=by simp only [Bool.and_eq_true,decide_eq_true_eq] at hw; omega
  have ht:F_3h n s ((ByteArray.mk #[97,98,99,100,101,102,103,104,105,106,107,108,109,110,111,112,113,114,115,116,117,118,119,120,121,122,48,49,50,51,52,53,54,55,56,57])) = some ⟨(Lib.trimS s.data.toList nameL).toArray⟩:=by
   unfold F_3h
   rw [if_pos ⟨by omega,by decide,by decide⟩]; rfl
  simp only [cT,ht,obs,Bool.true_and]
  have hb:((⟨(Lib.trimS s.data.toList nameL).toArray⟩:ByteArray).toList == ((ByteArray.mk #[])).toList) = (s.data.toList.all fun b=>lowB b || digB b):=by
   rw [Lib.toList_data,Lib.toList_data]
   show ((Lib.trimS s.data.toList nameL) == []) = _
   rw [trim_nil]
   congr 1
   funext b; exact nameL_is b
  rw [hb]
  cases (s.data.toList.all fun b=>lowB b || digB b) with
  | false=>simp
  | true =>
   rw [size_list] at hsz
   have hg:=getB_el (s:=s) (i:=0) (by omega)
   simp only [cT,show ((0:Int)) = ((0:Nat):Int) from rfl,hg,obs,F_53,Bool.true_and]
   have h1:=(indexByte_ge lettersL (s.data.toList[0])).1
   rw [lettersL_is] at h1
   have e1:(((s.data.toList[0].toNat:Nat):Int).toNat.toUInt8) = s.data.toList[0]:=by rw [Int.toNat_natCast]; exact UInt8.ofNat_toNat
   rw [e1]
   have e2:(s.data.toList.take 1).all lowB = lowB s.data.toList[0]:=take1_all (by omega)
   rw [e2,← h1]; rfl
theorem Nm2 {n:Nat} {s:ByteArray} (hs:s.size ≤ 1048576) (hn:1048577 ≤ n):F_o n s = some (nameB s):=by
 rw [F_o]
 have hl:=size_list s
 refine loop (L:=fun m i (_:Unit)=>F_o_L1 s _ m i) s.data.toList.length (fun i _=>nameB s = ((decide ((s.size:Int) ≥ 1) && decide ((s.size:Int) ≤ 8)) && ((s.data.toList.drop i).all fun b=>lowB b || digB b) && ((s.data.toList.take 1).drop i).all lowB)) (fun r=>r = some (nameB s)) ?_ ?_ n 0 () (by omega) (by omega) (by simp [nameB])
 ·intro m i _ hi hI
  have g:=getB_el hi
  have hd:decide ((i:Int) < (s.size:Int)) = true:=decide_eq_true (by omega)
  have key:F_o_L1 s (fun i3=>(some (((decide ((s.size:Int) ≥ 1)) && (decide ((s.size:Int) ≤ 8)))))) (m + 1) (i:Int) = bif (!lowB s.data.toList[i] && !(digB s.data.toList[i] && decide (0 < i))) then some false else F_o_L1 s (fun i3=>(some (((decide ((s.size:Int) ≥ 1)) && (decide ((s.size:Int) ≤ 8)))))) m ((i + 1:Nat):Int):=by
   have e0:decide ((i:Int) > 0) = decide (0 < i):=by by_cases h:0 < i <;> simp [h] <;> omega
   simp only [F_o_L1.eq_2,hd,cT,g,obs,bif_and,wT i,e0]
   rfl
  by_cases hc:(!lowB s.data.toList[i] && !(digB s.data.toList[i] && decide (0 < i))) = true
  ·refine .inr ?_
   show F_o_L1 s _ (m + 1) (i:Int) = _
   rw [key,hc,cT]
   have:nameB s = false:=by
    rw [hI,List.drop_eq_getElem_cons hi,List.all_cons]
    simp only [Bool.and_eq_true,Bool.not_eq_true',Bool.and_eq_false_iff,decide_eq_false_iff_not] at hc
    obtain ⟨h1,h2⟩:=hc
    rw [h1]
    rcases h2 with h2 | h2
    ·rw [h2]; simp
    ·obtain rfl:i = 0:=by omega
     rw [List.drop_zero,take1_all hi,h1]; simp
   rw [this]
  ·refine .inl ⟨(),?_,?_⟩
   ·rw [hI,List.drop_eq_getElem_cons hi,List.all_cons]
    have hc:=Bool.eq_false_iff.2 hc
    simp only [Bool.and_eq_false_iff,Bool.not_eq_false',Bool.and_eq_true,decide_eq_true_eq] at hc
    by_cases h0:i = 0
    ·subst h0
     have h1:lowB s.data.toList[0] = true:=by
      rcases hc with h | h
      ·exact h
      ·omega
     have e2:(s.data.toList.take 1).drop (0 + 1) = []:=List.drop_eq_nil_of_le (by simp; omega)
     rw [List.drop_zero,take1_all hi,e2,h1]; simp
    ·have e1:(s.data.toList.take 1).drop i = []:=List.drop_eq_nil_of_le (by simp; omega)
     have e2:(s.data.toList.take 1).drop (i + 1) = []:=List.drop_eq_nil_of_le (by simp; omega)
     rw [e1,e2]
     have:(lowB s.data.toList[i] || digB s.data.toList[i]) = true:=by
      rcases hc with h | h
      ·rw [h]; rfl
      ·rw [h.1]; simp
     rw [this]; simp
   ·show F_o_L1 s _ (m + 1) (i:Int) = F_o_L1 s _ m ((i + 1:Nat):Int)
    rw [key,Bool.eq_false_iff.2 hc,cF]
 ·intro m _ hI
  have hd:decide (((s.data.toList.length:Nat):Int) < (s.size:Int)) = false:=decide_eq_false (by omega)
  simp only [F_o_L1.eq_2,hd,cF]
  rw [hI,List.drop_length,List.drop_eq_nil_of_le (by simp; omega)]
  simp
def Tells (P:Prop) (r:Option Bool):Prop:=∃ b:Bool,r = some b ∧ (b = true ↔ P)
theorem Tells.no {P:Prop} (h:¬ P):Tells P (some false):=⟨false,rfl,by simp [h]⟩
theorem Tells.yes {P:Prop} (h:P):Tells P (some true):=⟨true,rfl,by simp [h]⟩
theorem Ct1 {n:Nat} {xs:List ByteArray} {x:ByteArray} (h:xs.length ≤ 1048576) (hn:1048577 ≤ n):F_3i n xs x = some (xs.any fun y=>x.toList == y.toList):=by
 rw [F_3i,F_0q]
 obtain ⟨r,e1,e2⟩:=loop_has (xs:=xs) (L:=fun m i=>F_0q_L1 xs x (fun i5=>(some (-1))) m i) (fun y=>x.toList == y.toList) (fun m i hi=>by
  simp only [F_0q_L1.eq_2,dlt hi,cT,getI_el hi,obs,wT i]) (fun m=>by
  simp only [F_0q_L1.eq_2,dnl,cF]) n (by omega)
 have e1:F_0q_L1 xs x (fun i5=>(some (-1))) n 0 = some r:=e1
 rw [e1,obs,e2]
theorem AN {n:Nat} {xs:List ByteArray} (h:xs.length ≤ 1048576) (hs:∀ x ∈ xs,x.size ≤ 1048576) (hn:1048577 ≤ n):Tells (∀ k (h:k < xs.length),nameB xs[k] = true ∧ ∀ i (hi:i < k),(xs[i].toList == xs[k].toList) = false) (F_c n xs):=by
 rw [F_c]
 refine loop (L:=fun m i (_:Unit)=>F_c_L1 n xs _ m i) xs.length (fun i _=>∀ k (h:k < xs.length),k < i → nameB xs[k] = true ∧ ∀ i (hi:i < k),(xs[i].toList == xs[k].toList) = false) _ ?_ ?_ n 0 () (by omega) (by omega) (fun k h hk=>by omega)
 ·intro m i _ hi hI
  have hsub:subL xs 0 (i:Int) = some (xs.take i):=by
   unfold subL
   rw [if_pos ⟨by omega,by omega,by omega⟩]; simp
  have hct:=Ct1 (n:=n) (xs:=xs.take i) (x:=xs[i]) (by simp; omega) hn
  simp only [F_c_L1.eq_2,dlt hi,cT,getI_el hi,obs,Nm1 (hs _ (List.getElem_mem hi)) hn,hsub,hct,bif_or,wT i]
  cases hb:(!nameB xs[i] || (xs.take i).any fun y=>xs[i].toList == y.toList) with
  | true =>
   refine .inr (Tells.no fun hv=>?_)
   obtain ⟨h1,h2⟩:=hv i hi
   rw [h1,Bool.not_true,Bool.false_or,List.any_eq_true] at hb
   obtain ⟨y,hy,he⟩:=hb
   obtain ⟨j,hj,rfl⟩:=List.mem_iff_getElem.1 hy
   rw [List.length_take] at hj
   rw [List.getElem_take] at he
   have:=h2 j (by omega)
   rw [beq_eq_false_iff_ne] at this
   exact this (eq_of_beq he).symm
  | false =>
   simp only [Bool.or_eq_false_iff,Bool.not_eq_false'] at hb
   refine .inl ⟨(),fun k h hk=>?_,rfl⟩
   by_cases e:k = i
   ·subst e
    refine ⟨hb.1,fun j hj=>?_⟩
    rw [beq_eq_false_iff_ne]
    intro he
    have:=List.any_eq_false.1 hb.2 xs[j] (List.mem_iff_getElem.2 ⟨j,by rw [List.length_take]; omega,by rw [List.getElem_take]⟩)
    exact this (by rw [he]; simp)
   ·exact hI k h (by omega)
 ·intro m _ hI
  simp only [F_c_L1.eq_2,dnl,cF]
  exact Tells.yes fun k h=>hI k h h
theorem AW {n:Nat} {ks:List Int} {lo hi:Int} (h:ks.length ≤ 1048576) (hn:1048577 ≤ n):F_w n ks lo hi = some (ks.all fun k=>decide (k ≥ lo) && decide (k ≤ hi)):=by
 rw [F_w,F_42,F_04]
 obtain ⟨r,e1,e2⟩:=loop_has (xs:=ks) (L:=fun m i=>F_04_L1 n ks lo hi (fun i7=>(some (-1))) m i) (fun k=>!(decide (k ≥ lo) && decide (k ≤ hi))) (fun m i hi=>by
  simp only [F_04_L1.eq_2,dlt hi,cT,getI_el hi,obs,F_41,F_3,wT i]) (fun m=>by
  simp only [F_04_L1.eq_2,dnl,cF]) n (by omega)
 have e1:F_04_L1 n ks lo hi (fun i7=>(some (-1))) n 0 = some r:=e1
 rw [e1,obs,obs,e2]
 congr 1
 rw [List.not_any_eq_all_not]
 congr 1
 funext k; rw [Bool.not_not]
theorem Tells.iff {P Q:Prop} {o:Option Bool} (h:Tells P o) (e:P ↔ Q):Tells Q o:=by
 obtain ⟨b,rfl,h⟩:=h; exact ⟨b,rfl,h.trans e⟩
theorem Tells.val {P:Prop} {b:Bool} (h:b = true ↔ P):Tells P (some b):=⟨b,rfl,h⟩
theorem Tells.bind {P R:Prop} {o:Option Bool} {f:Bool → Option Bool} (h:Tells P o) (h1:P → Tells R (f true)) (h0:¬ P → Tells R (f false)):Tells R (Option.bind o f):=by
 obtain ⟨b,rfl,h⟩:=h
 cases b with
 | true=>exact h1 (h.1 rfl)
 | false=>exact h0 fun p=>by have:=h.2 p; cases this
theorem Tells.bif {R:Prop} {c:Bool} {x y:Option Bool} (h1:c = true → Tells R x) (h0:c = false → Tells R y):Tells R (bif c then x else y):=by
 cases c
 ·exact h0 rfl
 ·exact h1 rfl
theorem loopT {L:Nat → Int → Option Bool} {Q:Prop} (N s:Nat) (p:Nat → Prop)
 (hs:∀ (m i:Nat),s ≤ i → i < N → (p i ∧ L (m + 1) (i:Int) = L m ((i + 1:Nat):Int)) ∨ (¬ p i ∧ L (m + 1) (i:Int) = some false))
 (he:∀ (m i:Nat),N ≤ i → i ≤ N + s → (∀ j,s ≤ j → j < N → p j) → Tells Q (L (m + 1) (i:Int))):∀ (m i:Nat),s ≤ i → i ≤ N + s → N - i < m → (∀ j,s ≤ j → j < i → j < N → p j) → Tells ((∀ i,s ≤ i → i < N → p i) ∧ Q) (L m (i:Int))
 | 0,i,_,_,hm,_=>by omega
 | m + 1,i,hi,hi2,hm,hI=>by
  by_cases hlt:i < N
  ·rcases hs m i hi hlt with ⟨h1,h2⟩ | ⟨h1,h2⟩
   ·rw [h2]
    refine loopT N s p hs he m (i + 1) (by omega) (by omega) (by omega) fun j h3 h4 h5=>?_
    by_cases e:j = i
    ·subst e; exact h1
    ·exact hI j h3 (by omega) h5
   ·rw [h2]; exact Tells.no fun h=>h1 (h.1 i hi hlt)
  ·have ha:∀ j,s ≤ j → j < N → p j:=fun j h3 h4=>hI j h3 (by omega) h4
   exact (he m i (by omega) hi2 ha).iff ⟨fun q=>⟨ha,q⟩,fun q=>q.2⟩
theorem loop_any {α:Type} {xs:List α} {L:Nat → Int → Option Int} {f:α → Option Bool} {P:α → Prop} (hf:∀ x ∈ xs,Tells (P x) (f x)) (hs:∀ (m i:Nat) (h:i < xs.length),L (m + 1) (i:Int) = Option.bind (f xs[i]) fun r=>bif r then some (i:Int) else L m ((i + 1:Nat):Int))
 (he:∀ m:Nat,L (m + 1) (xs.length:Int) = some (-1)) (m:Nat) (hm:xs.length < m):∃ r,L m 0 = some r ∧ (r ≥ 0 ↔ ∃ x ∈ xs,P x) ∧ (r = -1 ∨ ∃ j:Nat,r = (j:Int) ∧ ∃ h:j < xs.length,P xs[j] ∧ ∀ i (hi:i < xs.length),i < j → ¬ P xs[i]):=by
 refine loop (L:=fun m i (_:Unit)=>L m i) xs.length (fun i _=>∀ j (h:j < xs.length),j < i → ¬ P xs[j]) (fun o=>∃ r,o = some r ∧ (r ≥ 0 ↔ ∃ x ∈ xs,P x) ∧ (r = -1 ∨ ∃ j:Nat,r = (j:Int) ∧ ∃ h:j < xs.length,P xs[j] ∧ ∀ i (hi:i < xs.length),i < j → ¬ P xs[i])) ?_ ?_ m 0 () (by omega) (by omega) (fun j _ h=>by omega)
 ·intro m i _ hi hI
  obtain ⟨b,e,hb⟩:=hf _ (List.getElem_mem hi)
  rw [hs m i hi,e,obs]
  cases b with
  | true=>exact .inr ⟨(i:Int),rfl,⟨fun _=>⟨_,List.getElem_mem hi,hb.1 rfl⟩,fun _=>by omega⟩,.inr ⟨i,rfl,hi,hb.1 rfl,hI⟩⟩
  | false =>
   refine .inl ⟨(),fun j h hj=>?_,by trivial⟩
   by_cases ej:j = i
   ·subst ej; intro hp; have:=hb.2 hp; cases this
   ·exact hI j h (by omega)
 ·intro m _ hI
  refine ⟨-1,he m,⟨fun h=>by omega,fun ⟨x,hx,hp⟩=>?_⟩,.inl rfl⟩
  obtain ⟨j,hj,rfl⟩:=List.getElem_of_mem hx
  exact absurd hp (hI j hj hj)
theorem gI {l:List Int} {i:Nat} (h:i < l.length):getI l (i:Int) = some (gd l i):=by rw [getI_nat]; exact get_gd h
def VAx (l:List Int):Prop:=(1 ≤ l.length ∧ l.length ≤ 4) ∧ (∀ i,i < l.length → 0 ≤ gd l i ∧ gd l i ≤ 100000) ∧ ∀ i,i < l.length → 0 < i → gd l (i - 1) < gd l i
def VT (t:S_Table):Prop:=(VAx t.Slews ∧ VAx t.Loads) ∧ t.Values.length = t.Slews.length * t.Loads.length ∧ ∀ i,i < t.Values.length → -1000000 ≤ gd t.Values i ∧ gd t.Values i ≤ 1000000
theorem AllGd {l:List Int} {lo hi:Int}:(l.all fun k=>decide (k ≥ lo) && decide (k ≤ hi)) = true ↔ ∀ i,i < l.length → lo ≤ gd l i ∧ gd l i ≤ hi:=by
 rw [List.all_eq_true]
 constructor
 ·intro h i hi
  have:=h _ (List.getElem_mem hi)
  simp only [Bool.and_eq_true,decide_eq_true_eq] at this
  rw [gd_get (List.getElem?_eq_getElem hi)]; omega
 ·intro h x hx
  obtain ⟨j,hj,rfl⟩:=List.getElem_of_mem hx
  have:=h j hj
  rw [gd_get (List.getElem?_eq_getElem hj)] at this
  simp only [Bool.and_eq_true,decide_eq_true_eq]; omega
theorem Ax1 {n:Nat} {l:List Int} (h:l.length ≤ 1048576) (hn:1048577 ≤ n):Tells (VAx l) (F_0c n l):=by
 rw [F_0c]
 refine (loopT (L:=fun m i=>F_0c_L1 n l _ m i) (Q:=1 ≤ l.length ∧ l.length ≤ 4) l.length 0 (fun i=>(0 ≤ gd l i ∧ gd l i ≤ 100000) ∧ (0 < i → gd l (i - 1) < gd l i)) ?_ ?_ n 0 (by omega) (by omega) (by omega) (fun j _ h=>by omega)).iff ?_
 ·intro m i _ hi
  have w1:0 < i → IntKind.wrap .i64 ((i:Int) - 1) = ((i - 1:Nat):Int):=fun h0=>by rw [wrap64 (by omega) (by omega)]; omega
  simp only [F_0c_L1.eq_2,dlt hi,cT,gI hi,obs,F_1,wT i]
  by_cases c1:0 ≤ gd l i ∧ gd l i ≤ 100000
  ·have d1:(decide (gd l i ≥ 0) && decide (gd l i ≤ 100000)) = true:=by simp only [Bool.and_eq_true,decide_eq_true_eq]; omega
   simp only [d1,Bool.not_true,cF]
   by_cases h0:0 < i
   ·have d2:decide ((i:Int) > 0) = true:=decide_eq_true (by omega)
    simp only [d2,cT,w1 h0,gI (show i - 1 < l.length by omega),obs]
    by_cases c2:gd l (i - 1) < gd l i
    ·have d3:decide (gd l (i - 1) ≥ gd l i) = false:=decide_eq_false (by omega)
     simp only [d3,cF]
     exact .inl ⟨⟨c1,fun _=>c2⟩,by trivial⟩
    ·have d3:decide (gd l (i - 1) ≥ gd l i) = true:=decide_eq_true (by omega)
     simp only [d3,cT]
     exact .inr ⟨fun h=>c2 (h.2 h0),by trivial⟩
   ·have d2:decide ((i:Int) > 0) = false:=decide_eq_false (by omega)
    simp only [d2,cF,obs]
    exact .inl ⟨⟨c1,fun h=>absurd h h0⟩,by trivial⟩
  ·have d1:(decide (gd l i ≥ 0) && decide (gd l i ≤ 100000)) = false:=by
    rw [Bool.and_eq_false_iff,decide_eq_false_iff_not,decide_eq_false_iff_not]; omega
   simp only [d1,Bool.not_false,cT,obs]
   exact .inr ⟨fun h=>c1 h.1,by trivial⟩
 ·intro m i h1 h2 _
  obtain rfl:i = l.length:=by omega
  simp only [F_0c_L1.eq_2,dnl,cF]
  exact Tells.val (by simp only [Bool.and_eq_true,decide_eq_true_eq]; omega)
 ·exact ⟨fun ⟨a,b⟩=>⟨b,fun i hi=>(a i (by omega) hi).1,fun i hi h0=>(a i (by omega) hi).2 h0⟩,fun ⟨a,b,c⟩=>⟨fun i _ hi=>⟨b i hi,c i hi⟩,a⟩⟩
theorem Inc {n:Nat} {l:List Int} (h:l.length ≤ 1048576) (hn:1048577 ≤ n):Tells (∀ i,i < l.length → 0 < i → gd l (i - 1) < gd l i) (F_11 n l):=by
 rw [F_11]
 refine (loopT (L:=fun m i=>F_11_L1 l _ m i) (Q:=True) l.length 1 (fun i=>gd l (i - 1) < gd l i) ?_ ?_ n 1 (by omega) (by omega) (by omega) (fun j _ h=>by omega)).iff ?_
 ·intro m i h0 hi
  have w1:IntKind.wrap .i64 ((i:Int) - 1) = ((i - 1:Nat):Int):=by rw [wrap64 (by omega) (by omega)]; omega
  simp only [F_11_L1.eq_2,dlt hi,cT,w1,gI hi,gI (show i - 1 < l.length by omega),obs,wT i]
  by_cases c2:gd l (i - 1) < gd l i
  ·have d3:decide (gd l (i - 1) ≥ gd l i) = false:=decide_eq_false (by omega)
   simp only [d3,cF]
   exact .inl ⟨c2,by trivial⟩
  ·have d3:decide (gd l (i - 1) ≥ gd l i) = true:=decide_eq_true (by omega)
   simp only [d3,cT]
   exact .inr ⟨c2,by trivial⟩
 ·intro m i h1 h2 _
  have:decide ((i:Int) < (l.length:Int)) = false:=decide_eq_false (by omega)
  simp only [F_11_L1.eq_2,this,cF]
  exact Tells.yes trivial
 ·exact ⟨fun a i hi h0=>a.1 i h0 hi,fun a=>⟨fun i h0 hi=>a i hi h0,trivial⟩⟩
theorem Ax2 {n:Nat} {l:List Int} (h:l.length ≤ 1048576) (hn:1048577 ≤ n):Tells (VAx l) (F_2w n l):=by
 obtain ⟨b,e,hb⟩:=Inc (n:=n) h hn
 rw [F_2w]
 simp only [F_07,F_3,AW (n:=n) h hn,e,obs,bif_and]
 refine Tells.val ?_
 rw [Bool.and_eq_true,Bool.and_eq_true,AllGd,hb]
 simp only [Bool.and_eq_true,decide_eq_true_eq]
 exact ⟨fun ⟨⟨a,b⟩,c⟩=>⟨by omega,b,c⟩,fun ⟨a,b,c⟩=>⟨⟨by omega,b⟩,c⟩⟩
theorem mulL {a b:Nat} (ha:a ≤ 4) (hb:b ≤ 4):IntKind.wrap .i64 ((a:Int) * (b:Int)) = ((a * b:Nat):Int):=by
 have:a * b ≤ 4 * 4:=Nat.mul_le_mul ha hb
 have e:((a * b:Nat):Int) = (a:Int) * b:=by simp
 rw [← e,wrap64 (by omega) (by omega)]
def SMT (t:S_Table):Prop:=t.Slews.length ≤ 1048576 ∧ t.Loads.length ≤ 1048576 ∧ t.Values.length ≤ 1048576
theorem SM_Table.t {t:S_Table} (h:SM_Table t):SMT t:=⟨h.1.1,h.2.1.1,h.2.2.1⟩
theorem Tb1 {n:Nat} {t:S_Table} (h:SMT t) (hn:1048577 ≤ n):Tells (VT t) (F_0y n t):=by
 rw [F_0y]
 refine Tells.bind (Ax1 h.1 hn) (fun v1=>?_) fun v1=>?_
 ·simp only [Bool.not_true,cF]
  obtain ⟨b,e,hb⟩:=Ax1 (n:=n) h.2.1 hn
  rw [e,obs,obs]
  cases b with
  | false =>
   simp only [Bool.not_false,Bool.true_or,cT]
   exact Tells.no fun v=>by have:=hb.2 v.1.2; cases this
  | true =>
   have v2:=hb.1 rfl
   rw [mulL v1.1.2 v2.1.2]
   simp only [Bool.not_true,Bool.false_or]
   refine Tells.bif (fun c=>?_) fun c=>?_
   ·refine Tells.no fun v=>?_
    rw [v.2.1] at c; simp at c
   ·have c:t.Values.length = t.Slews.length * t.Loads.length:=by
     rw [bne_eq_false_iff_eq] at c; omega
    have hv:=h.2.2
    refine (loopT (L:=fun m i=>F_0y_L1 n t _ m i) (Q:=True) t.Values.length 0 (fun i=>-1000000 ≤ gd t.Values i ∧ gd t.Values i ≤ 1000000) ?_ ?_ n 0 (by omega) (by omega) (by omega) (fun j _ h=>by omega)).iff ?_
    ·intro m i _ hi
     simp only [F_0y_L1.eq_2,dlt hi,cT,gI hi,obs,F_1,wT i]
     by_cases c1:-1000000 ≤ gd t.Values i ∧ gd t.Values i ≤ 1000000
     ·have d1:(decide (gd t.Values i ≥ -1000000) && decide (gd t.Values i ≤ 1000000)) = true:=by simp only [Bool.and_eq_true,decide_eq_true_eq]; omega
      simp only [d1,Bool.not_true,cF]
      exact .inl ⟨c1,by trivial⟩
     ·have d1:(decide (gd t.Values i ≥ -1000000) && decide (gd t.Values i ≤ 1000000)) = false:=by
       rw [Bool.and_eq_false_iff,decide_eq_false_iff_not,decide_eq_false_iff_not]; omega
      simp only [d1,Bool.not_false,cT]
      exact .inr ⟨c1,by trivial⟩
    ·intro m i h1 h2 _
     obtain rfl:i = t.Values.length:=by omega
     simp only [F_0y_L1.eq_2,dnl,cF]
     exact Tells.yes trivial
    ·exact ⟨fun a=>⟨⟨v1,v2⟩,c,fun i hi=>a.1 i (by omega) hi⟩,fun a=>⟨fun i _ hi=>a.2.2 i hi,trivial⟩⟩
 ·simp only [Bool.not_false,cT,obs,Bool.true_or]
  exact Tells.no fun v=>v1 v.1.1
theorem Tb2 {n:Nat} {t:S_Table} (h:SMT t) (hn:1048577 ≤ n):Tells (VT t) (F_43 n t):=by
 rw [F_43]
 refine Tells.bind (Ax2 h.1 hn) (fun v1=>?_) fun v1=>?_
 ·simp only [cT]
  obtain ⟨b,e,hb⟩:=Ax2 (n:=n) h.2.1 hn
  rw [e,obs,obs]
  cases b with
  | false =>
   simp only [Bool.false_and,cF,obs]
   exact Tells.no fun v=>by have:=hb.2 v.1.2; cases this
  | true =>
   have v2:=hb.1 rfl
   rw [mulL v1.1.2 v2.1.2,AW (n:=n) h.2.2 hn]
   simp only [Bool.true_and,obs,bif_and]
   refine Tells.val ?_
   rw [Bool.and_eq_true,AllGd,beq_iff_eq]
   exact ⟨fun ⟨a,b⟩=>⟨⟨v1,v2⟩,by omega,b⟩,fun a=>⟨by have:=a.2.1; omega,a.2.2⟩⟩
 ·simp only [cF,obs,Bool.false_and]
  exact Tells.no fun v=>v1 v.1.1
theorem VT.pos {t:S_Table} (h:VT t):0 < t.Values.length ∧ t.Values.length ≤ 16:=by
 have a:=h.1.1.1
 have b:=h.1.2.1
 rw [h.2.1]
 exact ⟨Nat.mul_pos (by omega) (by omega),(Nat.mul_le_mul a.2 b.2:_ ≤ 4 * 4)⟩
def VP (t:S_Table):Prop:=∀ j,j < t.Values.length → 0 ≤ gd t.Values j
theorem Bnd {n:Nat} {t:S_Table} (h:SMT t) (hn:1048577 ≤ n):(¬ VT t ∧ ∃ s:S_Span,F_0j n t = some (s,1)) ∨ (VT t ∧ ∃ s:S_Span,F_0j n t = some (s,0) ∧ (s.Early < 0 ↔ ¬ VP t)):=by
 obtain ⟨b,e,hb⟩:=Tb1 (n:=n) h hn
 rw [F_0j,e,obs]
 cases b with
 | false=>exact .inl ⟨fun v=>(by have:=hb.2 v; cases this),_,rfl⟩
 | true =>
  have v:=hb.1 rfl
  have hp:=v.pos
  have g0:getI t.Values 0 = some (gd t.Values 0):=gI (i:=0) (by omega)
  refine .inr ⟨v,?_⟩
  simp only [Bool.not_true,cF,g0,obs]
  refine loop (L:=fun m i (p:Int × Int)=>F_0j_L1 t (fun i93 i97 i98=>(some ((S_Span.mk i97 i98),0))) m i p.1 p.2) t.Values.length (fun i p=>(p.1 < 0 ↔ ¬ ∀ j,j < i → 0 ≤ gd t.Values j)) (fun o=>∃ s:S_Span,o = some (s,0) ∧ (s.Early < 0 ↔ ¬ VP t)) ?_ ?_ n 1 (gd t.Values 0,gd t.Values 0) (by omega) (by omega) ?_
  ·intro m i ⟨a,c⟩ hi hI
   dsimp only at hI ⊢
   refine .inl ⟨(min a (gd t.Values i),max c (gd t.Values i)),?_,?_⟩
   ·dsimp only
    constructor
    ·intro hm hall
     by_cases ha:a < 0
     ·exact hI.1 ha fun j hj=>hall j (by omega)
     ·have:=hall i (by omega); omega
    ·intro hna
     by_cases ha:a < 0
     ·omega
     ·have hall:∀ j,j < i → 0 ≤ gd t.Values j:=fun j hj=>by
       by_cases q:0 ≤ gd t.Values j
       ·exact q
       ·exact absurd (hI.2 fun hh=>q (hh j hj)) ha
      by_cases q:0 ≤ gd t.Values i
      ·exfalso; apply hna; intro j hj
       by_cases ej:j = i
       ·subst ej; exact q
       ·exact hall j (by omega)
      ·omega
   ·simp only [F_0j_L1.eq_2,dlt hi,cT,gI hi,obs,wT i]
  ·intro m ⟨a,c⟩ hI
   dsimp only at hI ⊢
   simp only [F_0j_L1.eq_2,dnl,cF]
   exact ⟨_,rfl,hI⟩
  ·dsimp only
   constructor
   ·intro h0 hall; have:=hall 0 (by omega); omega
   ·intro h0
    by_cases q:gd t.Values 0 < 0
    ·exact q
    ·exfalso; apply h0; intro j hj; obtain rfl:j = 0:=by omega
     omega
theorem Mn {n:Nat} {l:List Int} (h0:0 < l.length) (h:l.length ≤ 1048576) (hn:1048577 ≤ n):∃ r,F_0r n l = some r ∧ (r < 0 ↔ ¬ ∀ j,j < l.length → 0 ≤ gd l j):=by
 have g0:getI l 0 = some (gd l 0):=gI (i:=0) (by omega)
 have d0:decide ((l.length:Int) < 1) = false:=decide_eq_false (by omega)
 rw [F_0r,d0,cF,g0,obs]
 refine loop (L:=fun m i (a:Int)=>F_0r_L1 l (fun i15 i16=>(some i15)) m a i) l.length (fun i a=>(a < 0 ↔ ¬ ∀ j,j < i → 0 ≤ gd l j)) (fun o=>∃ r,o = some r ∧ (r < 0 ↔ ¬ ∀ j,j < l.length → 0 ≤ gd l j)) ?_ ?_ n 1 (gd l 0) (by omega) (by omega) ?_
 ·intro m i a hi hI
  refine .inl ⟨min a (gd l i),?_,?_⟩
  ·constructor
   ·intro hm hall
    by_cases ha:a < 0
    ·exact hI.1 ha fun j hj=>hall j (by omega)
    ·have:=hall i (by omega); omega
   ·intro hna
    by_cases ha:a < 0
    ·omega
    ·have hall:∀ j,j < i → 0 ≤ gd l j:=fun j hj=>by
      by_cases q:0 ≤ gd l j
      ·exact q
      ·exact absurd (hI.2 fun hh=>q (hh j hj)) ha
     by_cases q:0 ≤ gd l i
     ·exfalso; apply hna; intro j hj
      by_cases ej:j = i
      ·subst ej; exact q
      ·exact hall j (by omega)
     ·omega
  ·simp only [F_0r_L1.eq_2,dlt hi,cT,gI hi,obs,wT i]
 ·intro m a hI
  simp only [F_0r_L1.eq_2,dnl,cF]
  exact ⟨_,rfl,hI⟩
 ·constructor
  ·intro h0 hall; have:=hall 0 (by omega); omega
  ·intro h0
   by_cases q:gd l 0 < 0
   ·exact q
   ·exfalso; apply h0; intro j hj; obtain rfl:j = 0:=by omega
    omega
def VTs (l:List S_Table) (pos:Bool):Prop:=l.length = 2 ∧ ∀ t ∈ l,VT t ∧ (pos = true → VP t)
theorem Ts1 {n:Nat} {l:List S_Table} {pos:Bool} (h:∀ t ∈ l,SMT t) (hn:1048577 ≤ n):Tells (VTs l pos) (F_9 n l pos):=by
 rw [F_9]
 refine Tells.bif (fun c=>?_) fun c=>?_
 ·refine Tells.no fun v=>?_
  rw [v.1] at c; simp at c
 ·have c:l.length = 2:=by rw [bne_eq_false_iff_eq] at c; omega
  refine (loopT (L:=fun m i=>F_9_L1 n l pos _ m i) (Q:=True) 2 0 (fun i=>∀ t,l[i]? = some t → VT t ∧ (pos = true → VP t)) ?_ ?_ n 0 (by omega) (by omega) (by omega) (fun j _ h=>by omega)).iff ?_
  ·intro m i _ hi
   have hil:i < l.length:=by omega
   have g:=List.getElem?_eq_getElem hil
   have d1:decide ((i:Int) < 2) = true:=decide_eq_true (by omega)
   simp only [F_9_L1.eq_2,d1,cT,getI_el hil,obs,wT i,g]
   rcases Bnd (n:=n) (h _ (List.getElem_mem hil)) hn with ⟨v,s,e⟩ | ⟨v,s,e,hs⟩
   ·rw [e]
    exact .inr ⟨fun q=>v (q _ rfl).1,by trivial⟩
   ·rw [e]
    simp only [obs,bne_self_eq_false,Bool.false_or]
    by_cases hp:pos = true
    ·subst hp
     by_cases q:s.Early < 0
     ·rw [decide_eq_true q]
      exact .inr ⟨fun r=>(hs.1 q) ((r _ rfl).2 rfl),by trivial⟩
     ·rw [decide_eq_false q]
      refine .inl ⟨fun t ht=>?_,by trivial⟩
      obtain rfl:=Option.some.inj ht
      exact ⟨v,fun _=>Classical.byContradiction fun r=>q (hs.2 r)⟩
    ·have hp:pos = false:=by simpa using hp
     subst hp
     refine .inl ⟨fun t ht=>?_,by trivial⟩
     obtain rfl:=Option.some.inj ht
     exact ⟨v,fun h=>by cases h⟩
  ·intro m i h1 h2 _
   obtain rfl:i = 2:=by omega
   simp only [F_9_L1.eq_2,show decide (((2:Nat):Int) < 2) = false from rfl,cF]
   exact Tells.yes trivial
  ·constructor
   ·rintro ⟨a,_⟩
    refine ⟨c,fun t ht=>?_⟩
    obtain ⟨j,hj⟩:=List.getElem?_of_mem ht
    have hjl:j < l.length:=(List.getElem?_eq_some_iff.1 hj).1
    exact a j (by omega) (by omega) t hj
   ·rintro ⟨_,a⟩
    exact ⟨fun i _ _ t ht=>a t (List.mem_of_getElem? ht),trivial⟩
theorem Ts2 {n:Nat} {l:List S_Table} {pos:Bool} (h:∀ t ∈ l,SMT t) (hl:l.length ≤ 1048576) (hn:1048577 ≤ n):Tells (VTs l pos) (F_25 n l pos):=by
 rw [F_25]
 have hf:∀ t ∈ l,Tells (¬ (VT t ∧ (pos = true → VP t))) (F_39 n t pos):=by
  intro t ht
  have hm:=h t ht
  rw [F_39]
  refine Tells.bind (Tb2 hm hn) (fun v=>?_) fun v=>?_
  ·simp only [Bool.not_true,cF]
   by_cases hp:pos = true
   ·subst hp
    obtain ⟨r,e,hr⟩:=Mn (n:=n) v.pos.1 hm.2.2 hn
    simp only [cT,e,obs]
    refine Tells.val ?_
    rw [decide_eq_true_eq,hr]
    exact ⟨fun a b=>a (b.2 trivial),fun a b=>a ⟨v,fun _=>b⟩⟩
   ·have hp:pos = false:=by simpa using hp
    subst hp
    exact Tells.no fun a=>a ⟨v,fun h=>by cases h⟩
  ·simp only [Bool.not_false,cT,obs]
   exact Tells.yes fun a=>v a.1
 obtain ⟨r,e,hr,_⟩:=loop_any (xs:=l) (L:=fun m i=>F_12_L1 n l pos (fun i6=>(some (-1))) m i) (f:=fun t=>F_39 n t pos) hf (fun m i hi=>by
  simp only [F_12_L1.eq_2,dlt hi,cT,getI_el hi,obs,wT i]) (fun m=>by
  simp only [F_12_L1.eq_2,dnl,cF]) n (by omega)
 have e:F_12_L1 n l pos (fun i6=>(some (-1))) n 0 = some r:=e
 rw [F_4o,F_12,e]
 simp only [obs]
 by_cases c:l.length = 2
 ·have:((l.length:Int) == 2) = true:=by simp; omega
  rw [this]
  simp only [cT,obs]
  refine Tells.val ?_
  rw [Bool.not_eq_true',decide_eq_false_iff_not,hr]
  exact ⟨fun a=>⟨c,fun t ht=>Classical.byContradiction fun q=>a ⟨t,ht,q⟩⟩,fun a ⟨t,ht,q⟩=>q (a.2 t ht)⟩
 ·have:((l.length:Int) == 2) = false:=by rw [beq_eq_false_iff_ne]; omega
  rw [this]
  exact Tells.no fun v=>c v.1
def PinI (N i:Nat) (p:S_Pin):Prop:=(0 ≤ p.Cap ∧ p.Cap ≤ 500) ∧ (i + 1 = N → p.Dir = 2 ∧ p.Cap = 0 ∧ p.Clock = false) ∧ (i + 1 < N → p.Dir = 1)
structure VPins (l:List S_Pin):Prop where
 few:2 ≤ l.length ∧ l.length ≤ 5
 pin:∀ i (h:i < l.length),PinI l.length i l[i]
 nm:∀ k (h:k < l.length),nameB l[k].Name = true ∧ ∀ i (hi:i < k),(l[i].Name.toList == l[k].Name.toList) = false
def cnt (l:List S_Pin):Nat:=l.countP (·.Clock)
def SMP (l:List S_Pin):Prop:=l.length ≤ 1048576 ∧ ∀ p ∈ l,p.Name.size ≤ 1048576
theorem cnt_take {l:List S_Pin} {i:Nat} (h:i < l.length):cnt (l.take (i + 1)) = cnt (l.take i) + if l[i].Clock = true then 1 else 0:=by
 unfold cnt
 rw [List.take_succ_eq_append_getElem h,List.countP_append]
 congr 1
 by_cases e:l[i].Clock = true
 ·rw [if_pos e]; simp [e]
 ·rw [if_neg e]; simp [e]
theorem Pn1 {n:Nat} {c:S_Cell} (h:SMP c.Pins) (hn:1048577 ≤ n):∃ r:Int × Bool,F_g n c = some r ∧ (r.2 = true ↔ VPins c.Pins) ∧ (r.2 = true → r.1 = cnt c.Pins):=by
 rw [F_g]
 by_cases hl:2 ≤ c.Pins.length ∧ c.Pins.length ≤ 5
 ·have d:(decide ((c.Pins.length:Int) < 2) || decide ((c.Pins.length:Int) > 5)) = false:=by
   simp only [Bool.or_eq_false_iff,decide_eq_false_iff_not]; omega
  rw [d,cF]
  have wl:IntKind.wrap .i64 ((c.Pins.length:Int) - 1) = (c.Pins.length:Int) - 1:=wrap64 (by omega) (by omega)
  refine loop (L:=fun m i (q:Int)=>F_g_L1 n c (fun i23 i24=>(some (i23,true))) m q i) c.Pins.length (fun i q=>q = cnt (c.Pins.take i) ∧ ∀ k (h:k < c.Pins.length),k < i → PinI c.Pins.length k c.Pins[k] ∧ nameB c.Pins[k].Name = true ∧ ∀ j (hj:j < k),(c.Pins[j].Name.toList == c.Pins[k].Name.toList) = false)
   (fun o=>∃ r:Int × Bool,o = some r ∧ (r.2 = true ↔ VPins c.Pins) ∧ (r.2 = true → r.1 = cnt c.Pins)) ?_ ?_ n 0 0 (by omega) (by omega) ⟨by simp [cnt],fun k _ hk=>by omega⟩
  ·intro m i q hi ⟨hq,hI⟩
   have no:∀ o:Option (Int × Bool),o = some (0,false) → ¬ VPins c.Pins → ∃ r:Int × Bool,o = some r ∧ (r.2 = true ↔ VPins c.Pins) ∧ (r.2 = true → r.1 = cnt c.Pins):=fun o e hv=>⟨_,e,by simp [hv],fun h=>by cases h⟩
   have wi:decide ((i:Int) < (c.Pins.length:Int)) = true:=dlt hi
   rw [F_g_L1.eq_2]
   simp only [wi,cT,getI_el hi,obs]
   have inner:∀ k2:Int → Option (Int × Bool),(∀ j (hj:j < i),(c.Pins[j].Name.toList == c.Pins[i].Name.toList) = false) ∧ F_g_L2 c i c.Pins[i] k2 n 0 = k2 i ∨ (¬ ∀ j (hj:j < i),(c.Pins[j].Name.toList == c.Pins[i].Name.toList) = false) ∧ F_g_L2 c i c.Pins[i] k2 n 0 = some (0,false):=by
    intro k2
    refine loop (L:=fun m j (_:Unit)=>F_g_L2 c i c.Pins[i] k2 m j) i (fun b _=>∀ j (hj:j < i),j < b → (c.Pins[j].Name.toList == c.Pins[i].Name.toList) = false) (fun o=>(∀ j (hj:j < i),(c.Pins[j].Name.toList == c.Pins[i].Name.toList) = false) ∧ o = k2 i ∨ (¬ ∀ j (hj:j < i),(c.Pins[j].Name.toList == c.Pins[i].Name.toList) = false) ∧ o = some (0,false)) ?_ ?_ n 0 () (by omega) (by omega) (fun j _ hj=>by omega)
    ·intro m j _ hj hJ
     simp only [F_g_L2.eq_2,dlt hj,cT,getI_el (show j < c.Pins.length by omega),obs,wT j]
     cases e:(c.Pins[j].Name.toList == c.Pins[i].Name.toList) with
     | true=>exact .inr (.inr ⟨fun h=>(by rw [h j hj] at e; cases e),by trivial⟩)
     | false =>
      refine .inl ⟨(),fun a ha hb=>?_,by trivial⟩
      by_cases ea:a = j
      ·subst ea; exact e
      ·exact hJ a ha (by omega)
    ·intro m _ hJ
     simp only [F_g_L2.eq_2,dnl,cF]
     exact .inl ⟨fun j hj=>hJ j hj hj,by trivial⟩
   rcases inner _ with ⟨g1,g2⟩ | ⟨g1,g2⟩
   ·rw [g2]
    have hsz:=h.2 _ (List.getElem_mem hi)
    simp only [Nm2 hsz hn,obs,F_1,bif_or,wl]
    cases hnm:nameB c.Pins[i].Name with
    | false =>
     simp only [Bool.not_false,Bool.true_or,cT]
     exact .inr (no _ rfl fun v=>by have:=(v.nm i hi).1; rw [hnm] at this; cases this)
    | true =>
     simp only [Bool.not_true,Bool.false_or]
     by_cases c1:0 ≤ c.Pins[i].Cap ∧ c.Pins[i].Cap ≤ 500
     ·have d1:(decide (c.Pins[i].Cap ≥ 0) && decide (c.Pins[i].Cap ≤ 500)) = true:=by simp only [Bool.and_eq_true,decide_eq_true_eq]; omega
      simp only [d1,Bool.not_true,cF]
      have pI:PinI c.Pins.length i c.Pins[i] ↔ ((((i:Int) == (c.Pins.length:Int) - 1) && ((((c.Pins[i].Dir != 2)) || ((c.Pins[i].Cap != 0))) || c.Pins[i].Clock)) || ((decide ((i:Int) < (c.Pins.length:Int) - 1)) && ((c.Pins[i].Dir != 1)))) = false:=by
       unfold PinI
       by_cases e1:i + 1 = c.Pins.length
       ·have t1:((i:Int) == (c.Pins.length:Int) - 1) = true:=by rw [beq_iff_eq]; omega
        have t2:decide ((i:Int) < (c.Pins.length:Int) - 1) = false:=decide_eq_false (by omega)
        simp only [t1,t2,Bool.true_and,Bool.false_and,Bool.or_false,Bool.or_eq_false_iff,bne_eq_false_iff_eq]
        exact ⟨fun ⟨_,a,_⟩=>⟨⟨(a e1).1,(a e1).2.1⟩,(a e1).2.2⟩,fun ⟨⟨a,b⟩,d⟩=>⟨c1,fun _=>⟨a,b,d⟩,fun h=>by omega⟩⟩
       ·have t1:((i:Int) == (c.Pins.length:Int) - 1) = false:=by rw [beq_eq_false_iff_ne]; omega
        have t2:decide ((i:Int) < (c.Pins.length:Int) - 1) = true:=decide_eq_true (by omega)
        simp only [t1,t2,Bool.true_and,Bool.false_and,Bool.false_or,bne_eq_false_iff_eq]
        exact ⟨fun ⟨_,_,a⟩=>a (by omega),fun a=>⟨c1,fun h=>absurd h e1,fun _=>a⟩⟩
      cases hc:((((i:Int) == (c.Pins.length:Int) - 1) && ((((c.Pins[i].Dir != 2)) || ((c.Pins[i].Cap != 0))) || c.Pins[i].Clock)) || ((decide ((i:Int) < (c.Pins.length:Int) - 1)) && ((c.Pins[i].Dir != 1)))) with
      | true =>
       rw [hc] at pI
       simp only [cT]
       exact .inr (no _ rfl fun v=>by have:=pI.1 (v.pin i hi); cases this)
      | false =>
       have hp:=pI.2 hc
       simp only [cF]
       have hI':∀ k (h:k < c.Pins.length),k < i + 1 → PinI c.Pins.length k c.Pins[k] ∧ nameB c.Pins[k].Name = true ∧ ∀ j (hj:j < k),(c.Pins[j].Name.toList == c.Pins[k].Name.toList) = false:=fun k hk hki=>by
        by_cases ek:k = i
        ·subst ek; exact ⟨hp,hnm,g1⟩
        ·exact hI k hk (by omega)
       have ct:=cnt_take hi
       have cl:cnt (c.Pins.take i) ≤ 5:=Nat.le_trans List.countP_le_length (by simp; omega)
       cases hk:c.Pins[i].Clock with
       | true =>
        rw [hk,if_pos rfl] at ct
        refine .inl ⟨q + 1,⟨by rw [ct,hq]; simp,hI'⟩,?_⟩
        simp only [cT,wT i,wrap64 (x:=q + 1) (by omega) (by omega)]
       | false =>
        rw [hk] at ct
        refine .inl ⟨q,⟨by rw [ct,hq]; simp,hI'⟩,?_⟩
        simp only [cF,wT i]
     ·have d1:(decide (c.Pins[i].Cap ≥ 0) && decide (c.Pins[i].Cap ≤ 500)) = false:=by
       rw [Bool.and_eq_false_iff,decide_eq_false_iff_not,decide_eq_false_iff_not]; omega
      simp only [d1,Bool.not_false,cT]
      exact .inr (no _ rfl fun v=>c1 (v.pin i hi).1)
   ·rw [g2]
    exact .inr (no _ rfl fun v=>g1 (v.nm i hi).2)
  ·intro m q ⟨hq,hI⟩
   simp only [F_g_L1.eq_2,dnl,cF]
   rw [List.take_length] at hq
   exact ⟨_,rfl,⟨fun _=>⟨hl,fun i h=>(hI i h h).1,fun k h=>(hI k h h).2⟩,fun _=>rfl⟩,fun _=>hq⟩
 ·have d:(decide ((c.Pins.length:Int) < 2) || decide ((c.Pins.length:Int) > 5)) = true:=by
   rw [Bool.or_eq_true,decide_eq_true_eq,decide_eq_true_eq]; omega
  rw [d,cT]
  exact ⟨_,rfl,⟨fun h=>(by cases h),fun v=>absurd v.few hl⟩,fun h=>(by cases h)⟩
theorem Pn2 {n:Nat} {l:List S_Pin} (h:SMP l) (hn:1048577 ≤ n):Tells (VPins l) (F_0n n l):=by
 have hl:=h.1
 rw [F_0n]
 have wl:0 < l.length → IntKind.wrap .i64 ((l.length:Int) - 1) = (l.length:Int) - 1:=fun h0=>wrap64 (by omega) (by omega)
 refine loop (L:=fun m i (q:List ByteArray)=>F_0n_L1 n l _ m q i) l.length (fun i q=>q = (l.take i).map (·.Name) ∧ ∀ k (h:k < l.length),k < i → PinI l.length k l[k]) _ ?_ ?_ n 0 [] (by omega) (by omega) ⟨by simp,fun k _ hk=>by omega⟩
 ·intro m i q hi ⟨hq,hI⟩
  have hql:q.length ≤ 1048576:=by rw [hq]; simp; omega
  have ha:=appN_ok (xs:=q) (ys:=[l[i].Name]) (b:=16) (by simp; omega) (by omega)
  have hq':q ++ [l[i].Name] = (l.take (i + 1)).map (·.Name):=by rw [hq,List.take_succ_eq_append_getElem hi,List.map_append]; rfl
  simp only [F_0n_L1.eq_2,dlt hi,cT,getI_el hi,obs,ha,wl (by omega),F_3,wT i]
  have stepI:PinI l.length i l[i] → ∀ k (h:k < l.length),k < i + 1 → PinI l.length k l[k]:=fun hp k hk hki=>by
   by_cases ek:k = i
   ·subst ek; exact hp
   ·exact hI k hk (by omega)
  by_cases e1:i + 1 = l.length
  ·have t1:((i:Int) == (l.length:Int) - 1) = true:=by rw [beq_iff_eq]; omega
   simp only [t1,cT]
   cases hc:((((l[i].Dir != 2)) || ((l[i].Cap != 0))) || l[i].Clock) with
   | true =>
    refine .inr (Tells.no fun v=>?_)
    have:=(v.pin i hi).2.1 e1
    rw [this.1,this.2.1,this.2.2] at hc; cases hc
   | false =>
    simp only [Bool.or_eq_false_iff,bne_eq_false_iff_eq] at hc
    exact .inl ⟨_,⟨hq',stepI ⟨by omega,fun _=>⟨hc.1.1,hc.1.2,hc.2⟩,fun h=>by omega⟩⟩,by trivial⟩
  ·have t1:((i:Int) == (l.length:Int) - 1) = false:=by rw [beq_eq_false_iff_ne]; omega
   simp only [t1,cF,bif_or,obs]
   by_cases c1:l[i].Dir = 1 ∧ 0 ≤ l[i].Cap ∧ l[i].Cap ≤ 500
   ·have d1:((l[i].Dir != 1) || !(decide (l[i].Cap ≥ 0) && decide (l[i].Cap ≤ 500))) = false:=by
     simp only [Bool.or_eq_false_iff,bne_eq_false_iff_eq,Bool.not_eq_false',Bool.and_eq_true,decide_eq_true_eq]; omega
    simp only [d1,cF]
    exact .inl ⟨_,⟨hq',stepI ⟨by omega,fun h=>absurd h e1,fun _=>c1.1⟩⟩,by trivial⟩
   ·have d1:((l[i].Dir != 1) || !(decide (l[i].Cap ≥ 0) && decide (l[i].Cap ≤ 500))) = true:=by
     simp only [Bool.or_eq_true,bne_iff_ne,Bool.not_eq_true',Bool.and_eq_false_iff,decide_eq_false_iff_not]; omega
    simp only [d1,cT]
    exact .inr (Tells.no fun v=>c1 ⟨(v.pin i hi).2.2 (by omega),(v.pin i hi).1⟩)
 ·intro m q ⟨hq,hI⟩
  rw [List.take_length] at hq
  obtain ⟨b,e,hb⟩:=AN (n:=n) (xs:=q) (by rw [hq]; simpa using hl) (by rw [hq]; intro x hx; obtain ⟨p,hp,rfl⟩:=List.mem_map.1 hx; exact h.2 p hp) hn
  simp only [F_0n_L1.eq_2,dnl,cF,F_24,F_3,e,obs,bif_and]
  refine Tells.val ?_
  rw [Bool.and_eq_true,hb,Bool.and_eq_true,decide_eq_true_eq,decide_eq_true_eq]
  subst hq
  simp only [List.length_map,List.getElem_map]
  exact ⟨fun ⟨a,b⟩=>⟨by omega,fun i hi=>hI i hi hi,b⟩,fun v=>⟨by have:=v.few; omega,v.nm⟩⟩
def clkAt (l:List S_Pin) (i:Int):Bool:=((l[i.toNat]?).map (·.Clock)).getD false
theorem clkI {l:List S_Pin} {i:Int} (h0:0 ≤ i) (h1:i < l.length):∃ x,getI l i = some x ∧ x.Clock = clkAt l i:=by
 obtain ⟨x,e,h⟩:=getI_ok h0 h1
 exact ⟨x,e,by simp [clkAt,h]⟩
theorem clk_el {l:List S_Pin} {j:Nat} (h:j < l.length):clkAt l (j:Int) = l[j].Clock:=by simp [clkAt,h]
theorem one_clk {l:List S_Pin} (hc:cnt l ≤ 1) {i j:Nat} (hi:i < l.length) (hj:j < l.length) (h1:l[i].Clock = true) (h2:l[j].Clock = true):i = j:=by
 have key:∀ i j:Nat,∀ (hi:i < l.length) (hj:j < l.length),l[i].Clock = true → l[j].Clock = true → ¬ i < j:=by
  intro i j hi hj h1 h2 hlt
  have e:cnt l = cnt (l.take (i + 1)) + cnt (l.drop (i + 1)):=by unfold cnt; rw [← List.countP_append,List.take_append_drop]
  have p1:0 < cnt (l.take (i + 1)):=List.countP_pos_iff.2 ⟨l[i],by rw [List.mem_take_iff_getElem]; exact ⟨i,by omega,rfl⟩,h1⟩
  have p2:0 < cnt (l.drop (i + 1)):=List.countP_pos_iff.2 ⟨l[j],by rw [List.mem_drop_iff_getElem]; exact ⟨j - (i + 1),by omega,by congr 1; omega⟩,h2⟩
  omega
 have a:=key i j hi hj h1 h2
 have b:=key j i hj hi h2 h1
 omega
theorem Ck {n:Nat} {c:S_Cell} (h:c.Pins.length ≤ 1048576) (hn:1048577 ≤ n):∃ r,F_2x n c = some r ∧ (r ≥ 0 ↔ ∃ x ∈ c.Pins,x.Clock = true) ∧ (r = -1 ∨ ∃ j:Nat,r = (j:Int) ∧ ∃ h:j < c.Pins.length,c.Pins[j].Clock = true ∧ ∀ i (hi:i < c.Pins.length),i < j → ¬ c.Pins[i].Clock = true):=by
 obtain ⟨r,e,hr⟩:=loop_any (xs:=c.Pins) (L:=fun m i=>F_13_L1 n c.Pins (fun i5=>(some (-1))) m i) (f:=fun p=>F_44 n p) (P:=fun p=>p.Clock = true) (fun p _=>by rw [F_44]; exact Tells.val Iff.rfl) (fun m i hi=>by
  simp only [F_13_L1.eq_2,dlt hi,cT,getI_el hi,obs,wT i]) (fun m=>by
  simp only [F_13_L1.eq_2,dnl,cF]) n (by omega)
 have e:F_13_L1 n c.Pins (fun i5=>(some (-1))) n 0 = some r:=e
 exact ⟨r,by rw [F_2x,F_13,e]; rfl,hr⟩
def SMA (a:S_Arc):Prop:=(a.Delay.length ≤ 1048576 ∧ ∀ t ∈ a.Delay,SMT t) ∧ (a.Slew.length ≤ 1048576 ∧ ∀ t ∈ a.Slew,SMT t)
structure SMC (c:S_Cell):Prop where
 name:c.Name.size ≤ 1048576
 pins:SMP c.Pins
 arcs:c.Arcs.length ≤ 1048576 ∧ ∀ a ∈ c.Arcs,SMA a
 truth:c.Truth.length ≤ 1048576
theorem SM_Cell.c {c:S_Cell} (h:SM_Cell c):SMC c :=
 ⟨h.1,⟨h.2.2.1.1,fun p hp=>(h.2.2.1.2 p hp).1⟩,⟨h.2.2.2.1.1,fun a ha=>⟨⟨(h.2.2.2.1.2 a ha).2.2.2.2.1.1,fun t ht=>SM_Table.t (t:=t) ((h.2.2.2.1.2 a ha).2.2.2.2.1.2 t ht)⟩,⟨(h.2.2.2.1.2 a ha).2.2.2.2.2.1,fun t ht=>SM_Table.t (t:=t) ((h.2.2.2.1.2 a ha).2.2.2.2.2.2 t ht)⟩⟩⟩,h.2.2.2.2.1.1⟩
def ArcS (c:S_Cell) (a:S_Arc):Prop:=((0 ≤ a.From ∧ a.From + 2 ≤ c.Pins.length) ∧ (0 ≤ a.To ∧ a.To + 1 ≤ c.Pins.length)) ∧
 if a.Kind = 1 then clkAt c.Pins a.From = false ∧ a.To + 1 = c.Pins.length ∧ (1 ≤ a.Sense ∧ a.Sense ≤ 3) ∧ VTs a.Delay true ∧ VTs a.Slew true
 else if a.Kind = 2 ∨ a.Kind = 3 then clkAt c.Pins a.From = true ∧ a.To + 1 = c.Pins.length ∧ a.Sense = 0 ∧ VTs a.Delay true ∧ VTs a.Slew true
 else if a.Kind = 4 ∨ a.Kind = 5 then clkAt c.Pins a.From = true ∧ a.To + 1 < c.Pins.length ∧ clkAt c.Pins a.To = false ∧ a.Sense = 0 ∧ VTs a.Delay false ∧ a.Slew.length = 0
 else False
def ArcI (c:S_Cell) (a:S_Arc) (r:Int):Prop :=
 if a.Kind = 4 ∨ a.Kind = 5 then a.Sense = 0 ∧ a.Slew.length = 0 ∧ VTs a.Delay false ∧ a.From = r ∧ 0 ≤ a.From ∧ (0 ≤ a.To ∧ a.To + 2 ≤ c.Pins.length) ∧ a.To ≠ a.From
 else VTs a.Delay true ∧ VTs a.Slew true ∧ a.To + 1 = c.Pins.length ∧ (0 ≤ a.From ∧ a.From + 2 ≤ c.Pins.length) ∧
  if a.Kind = 1 then clkAt c.Pins a.From = false ∧ 1 ≤ a.Sense ∧ a.Sense ≤ 3 else if a.Kind = 2 ∨ a.Kind = 3 then clkAt c.Pins a.From = true ∧ a.Sense = 0 else False
theorem kinds (k:Int):k = 1 ∨ k = 2 ∨ k = 3 ∨ k = 4 ∨ k = 5 ∨ (k ≠ 1 ∧ k ≠ 2 ∧ k ≠ 3 ∧ k ≠ 4 ∧ k ≠ 5):=by omega
theorem rngB {x lo hi:Int}:(decide (x ≥ lo) && decide (x ≤ hi)) = true ↔ lo ≤ x ∧ x ≤ hi:=by simp only [Bool.and_eq_true,decide_eq_true_eq,ge_iff_le]
theorem Ar1s {n:Nat} {c:S_Cell} {a:S_Arc} (hp:c.Pins.length ≤ 5) (h2:2 ≤ c.Pins.length) (h:SMA a) (hn:1048577 ≤ n):Tells (ArcS c a) (F_3w n c a):=by
 have w1:IntKind.wrap .i64 ((c.Pins.length:Int) - 1) = (c.Pins.length:Int) - 1:=wrap64 (by omega) (by omega)
 have w2:IntKind.wrap .i64 ((c.Pins.length:Int) - 1 - 1) = (c.Pins.length:Int) - 1 - 1:=wrap64 (by omega) (by omega)
 obtain ⟨t1,e1,h1⟩:=Ts1 (n:=n) (pos:=true) h.1.2 hn
 obtain ⟨t2,e2,h2'⟩:=Ts1 (n:=n) (pos:=true) h.2.2 hn
 obtain ⟨t3,e3,h3⟩:=Ts1 (n:=n) (pos:=false) h.1.2 hn
 rw [F_3w]
 simp only [F_1,obs,w1,w2,bif_or]
 by_cases c1:(0 ≤ a.From ∧ a.From + 2 ≤ c.Pins.length) ∧ (0 ≤ a.To ∧ a.To + 1 ≤ c.Pins.length)
 ·have d1:(decide (a.From ≥ 0) && decide (a.From ≤ (c.Pins.length:Int) - 1 - 1)) = true:=rngB.2 (by omega)
  have d2:(decide (a.To ≥ 0) && decide (a.To ≤ (c.Pins.length:Int) - 1)) = true:=rngB.2 (by omega)
  obtain ⟨x,ex,hx⟩:=clkI (l:=c.Pins) c1.1.1 (by omega)
  obtain ⟨y,ey,hy⟩:=clkI (l:=c.Pins) c1.2.1 (by omega)
  simp only [d1,d2,Bool.not_true,Bool.or_self,cF,ex,ey,obs,hx,hy,e1,e2,e3,bif_and]
  have to1:(a.To == (c.Pins.length:Int) - 1) = true ↔ a.To + 1 = c.Pins.length:=by rw [beq_iff_eq]; omega
  have to2:decide (a.To < (c.Pins.length:Int) - 1) = true ↔ a.To + 1 < c.Pins.length:=by rw [decide_eq_true_eq]; omega
  have sl:((a.Slew.length:Int) == 0) = true ↔ a.Slew.length = 0:=by rw [beq_iff_eq]; omega
  have nb:∀ b:Bool,(!b) = true ↔ b = false:=by simp
  rcases kinds a.Kind with k | k | k | k | k | k
  ·have:ArcS c a ↔ _:=Iff.rfl
   simp only [k,show ((1:Int) == 1) = true from rfl,cT]
   refine Tells.val ?_
   unfold ArcS
   simp only [k,if_true,Bool.and_eq_true,nb,to1,rngB,h1,h2']
   exact ⟨fun ⟨⟨⟨⟨p,q⟩,s⟩,u⟩,v⟩=>⟨c1,p,q,by simpa using s,u,v⟩,fun ⟨_,p,q,s,u,v⟩=>⟨⟨⟨⟨p,q⟩,by simpa using s⟩,u⟩,v⟩⟩
  ·simp only [k,show ((2:Int) == 1) = false from rfl,show ((2:Int) == 2) = true from rfl,cT,cF]
   refine Tells.val ?_
   unfold ArcS
   simp only [k,show ¬ ((2:Int) = 1) by omega,if_false,true_or,if_true,Bool.and_eq_true,beq_iff_eq,to1,h1,h2']
   exact ⟨fun ⟨⟨⟨⟨p,q⟩,s⟩,u⟩,v⟩=>⟨c1,p,by omega,s,u,v⟩,fun ⟨_,p,q,s,u,v⟩=>⟨⟨⟨⟨p,by omega⟩,s⟩,u⟩,v⟩⟩
  ·simp only [k,show ((3:Int) == 1) = false from rfl,show ((3:Int) == 2) = false from rfl,show ((3:Int) == 3) = true from rfl,cT,cF]
   refine Tells.val ?_
   unfold ArcS
   simp only [k,show ¬ ((3:Int) = 1) by omega,if_false,or_true,if_true,Bool.and_eq_true,beq_iff_eq,to1,h1,h2']
   exact ⟨fun ⟨⟨⟨⟨p,q⟩,s⟩,u⟩,v⟩=>⟨c1,p,by omega,s,u,v⟩,fun ⟨_,p,q,s,u,v⟩=>⟨⟨⟨⟨p,by omega⟩,s⟩,u⟩,v⟩⟩
  ·simp only [k,show ((4:Int) == 1) = false from rfl,show ((4:Int) == 2) = false from rfl,show ((4:Int) == 3) = false from rfl,show ((4:Int) == 4) = true from rfl,cT,cF]
   refine Tells.val ?_
   unfold ArcS
   simp only [k,show ¬ ((4:Int) = 1) by omega,show ¬ ((4:Int) = 2 ∨ (4:Int) = 3) by omega,if_false,true_or,if_true,Bool.and_eq_true,beq_iff_eq,nb,to2,sl,h3,true_and]
   exact ⟨fun ⟨⟨⟨⟨⟨p,q⟩,z⟩,s⟩,u⟩,v⟩=>⟨c1,p,q,z,s,u,by omega⟩,fun ⟨_,p,q,z,s,u,v⟩=>⟨⟨⟨⟨⟨p,q⟩,z⟩,s⟩,u⟩,by omega⟩⟩
  ·simp only [k,show ((5:Int) == 1) = false from rfl,show ((5:Int) == 2) = false from rfl,show ((5:Int) == 3) = false from rfl,show ((5:Int) == 4) = false from rfl,show ((5:Int) == 5) = true from rfl,cT,cF]
   refine Tells.val ?_
   unfold ArcS
   simp only [k,show ¬ ((5:Int) = 1) by omega,show ¬ ((5:Int) = 2 ∨ (5:Int) = 3) by omega,if_false,or_true,if_true,Bool.and_eq_true,beq_iff_eq,nb,to2,sl,h3,true_and]
   exact ⟨fun ⟨⟨⟨⟨⟨p,q⟩,z⟩,s⟩,u⟩,v⟩=>⟨c1,p,q,z,s,u,by omega⟩,fun ⟨_,p,q,z,s,u,v⟩=>⟨⟨⟨⟨⟨p,q⟩,z⟩,s⟩,u⟩,by omega⟩⟩
  ·obtain ⟨k1,k2,k3,k4,k5⟩:=k
   simp only [beq_eq_false_iff_ne.2 k1,beq_eq_false_iff_ne.2 k2,beq_eq_false_iff_ne.2 k3,beq_eq_false_iff_ne.2 k4,beq_eq_false_iff_ne.2 k5,cF]
   refine Tells.no fun v=>?_
   have:=v.2
   rw [if_neg k1,if_neg (by omega),if_neg (by omega)] at this
   exact this
 ·have d1:(!(decide (a.From ≥ 0) && decide (a.From ≤ (c.Pins.length:Int) - 1 - 1)) || !(decide (a.To ≥ 0) && decide (a.To ≤ (c.Pins.length:Int) - 1))) = true:=by
   rw [Bool.or_eq_true,Bool.not_eq_true',Bool.not_eq_true',Bool.and_eq_false_iff,Bool.and_eq_false_iff,decide_eq_false_iff_not,decide_eq_false_iff_not,decide_eq_false_iff_not,decide_eq_false_iff_not]
   omega
  simp only [d1,cT]
  exact Tells.no fun v=>c1 v.1
theorem Ar2i {n:Nat} {c:S_Cell} {a:S_Arc} {r:Int} (hp:c.Pins.length ≤ 5) (h2:2 ≤ c.Pins.length) (h:SMA a) (hr:F_2x n c = some r) (hn:1048577 ≤ n):Tells (ArcI c a r) (F_45 n c a):=by
 have w1:IntKind.wrap .i64 ((c.Pins.length:Int) - 1) = (c.Pins.length:Int) - 1:=wrap64 (by omega) (by omega)
 have w2:IntKind.wrap .i64 ((c.Pins.length:Int) - 1 - 1) = (c.Pins.length:Int) - 1 - 1:=wrap64 (by omega) (by omega)
 obtain ⟨t1,e1,h1⟩:=Ts2 (n:=n) (pos:=true) h.1.2 h.1.1 hn
 obtain ⟨t2,e2,h2'⟩:=Ts2 (n:=n) (pos:=true) h.2.2 h.2.1 hn
 obtain ⟨t3,e3,h3⟩:=Ts2 (n:=n) (pos:=false) h.1.2 h.1.1 hn
 rw [F_45]
 simp only [F_23,F_3a,F_20,F_24,F_3,obs,w1,w2,e1,e2,e3,hr,bif_and,bif_or]
 unfold ArcI
 by_cases k:a.Kind = 4 ∨ a.Kind = 5
 ·have kb:((a.Kind == 4) || (a.Kind == 5)) = true:=by rw [Bool.or_eq_true,beq_iff_eq,beq_iff_eq]; exact k
  simp only [kb,cT,if_pos k]
  refine Tells.val ?_
  simp only [Bool.and_eq_true,beq_iff_eq,bne_iff_ne,decide_eq_true_eq,h3]
  exact ⟨fun ⟨⟨⟨⟨⟨⟨p,q⟩,s⟩,t⟩,u⟩,v⟩,x⟩=>⟨p,by omega,s,t,by omega,by omega,x⟩,fun ⟨p,q,s,t,u,v,x⟩=>⟨⟨⟨⟨⟨⟨p,by omega⟩,s⟩,t⟩,by omega⟩,by omega⟩,x⟩⟩
 ·have kb:((a.Kind == 4) || (a.Kind == 5)) = false:=by rw [Bool.or_eq_false_iff,beq_eq_false_iff_ne,beq_eq_false_iff_ne]; omega
  simp only [kb,cF,if_neg k]
  by_cases g:(VTs a.Delay true ∧ VTs a.Slew true) ∧ a.To + 1 = c.Pins.length ∧ (0 ≤ a.From ∧ a.From + 2 ≤ c.Pins.length)
  ·have gb:(((!t1 || !t2) || (a.To != (c.Pins.length:Int) - 1)) || !(decide (a.From ≥ 0) && decide (a.From ≤ (c.Pins.length:Int) - 1 - 1))) = false:=by
    rw [h1.2 g.1.1,h2'.2 g.1.2]
    simp only [Bool.not_true,Bool.or_self,Bool.false_or,Bool.or_eq_false_iff,bne_eq_false_iff_eq,Bool.not_eq_false',rngB]; omega
   obtain ⟨x,ex,hx⟩:=clkI (l:=c.Pins) g.2.2.1 (by omega)
   simp only [gb,cF,ex,obs,hx]
   have nb:∀ b:Bool,(!b) = true ↔ b = false:=by simp
   have red:∀ R:Prop,(VTs a.Delay true ∧ VTs a.Slew true ∧ a.To + 1 = c.Pins.length ∧ (0 ≤ a.From ∧ a.From + 2 ≤ c.Pins.length) ∧ R) ↔ R:=fun R=>⟨fun q=>q.2.2.2.2,fun q=>⟨g.1.1,g.1.2,g.2.1,g.2.2,q⟩⟩
   rw [red]
   by_cases k1:a.Kind = 1
   ·simp only [k1,show ((1:Int) == 1) = true from rfl,cT,if_true]
    refine Tells.val ?_
    simp only [Bool.and_eq_true,nb,decide_eq_true_eq]
   ·simp only [beq_eq_false_iff_ne.2 k1,cF,if_neg k1]
    by_cases k2:a.Kind = 2
    ·simp only [k2,show ((2:Int) == 2) = true from rfl,cT,true_or,if_true]
     refine Tells.val ?_
     simp only [Bool.and_eq_true,beq_iff_eq]
    ·simp only [beq_eq_false_iff_ne.2 k2,cF]
     by_cases k3:a.Kind = 3
     ·simp only [k3,show ((3:Int) == 3) = true from rfl,cT,or_true,if_true]
      refine Tells.val ?_
      simp only [Bool.and_eq_true,beq_iff_eq]
     ·simp only [beq_eq_false_iff_ne.2 k3,cF]
      rw [if_neg (by omega)]
      exact Tells.no fun v=>v
  ·have gb:(((!t1 || !t2) || (a.To != (c.Pins.length:Int) - 1)) || !(decide (a.From ≥ 0) && decide (a.From ≤ (c.Pins.length:Int) - 1 - 1))) = true:=by
    cases hq:(((!t1 || !t2) || (a.To != (c.Pins.length:Int) - 1)) || !(decide (a.From ≥ 0) && decide (a.From ≤ (c.Pins.length:Int) - 1 - 1))) with
    | true=>rfl
    | false =>
     exfalso; apply g
     simp only [Bool.or_eq_false_iff,Bool.not_eq_false',bne_eq_false_iff_eq,rngB] at hq
     exact ⟨⟨h1.1 hq.1.1.1,h2'.1 hq.1.1.2⟩,by omega,by omega⟩
   simp only [gb,cT]
   exact Tells.no fun v=>g ⟨⟨v.1,v.2.1⟩,v.2.2.1,v.2.2.2.1⟩
theorem Arc_iff {c:S_Cell} {a:S_Arc} {r:Int} (hv:VPins c.Pins) (hc:cnt c.Pins ≤ 1) (hr:r = -1 ∨ ∃ j:Nat,r = (j:Int) ∧ ∃ h:j < c.Pins.length,c.Pins[j].Clock = true ∧ ∀ i (hi:i < c.Pins.length),i < j → ¬ c.Pins[i].Clock = true) (hr0:r ≥ 0 ↔ ∃ x ∈ c.Pins,x.Clock = true):ArcS c a ↔ ArcI c a r:=by
 have few:=hv.few
 unfold ArcS ArcI
 by_cases k:a.Kind = 4 ∨ a.Kind = 5
 ·rw [if_neg (by omega),if_neg (by omega),if_pos k,if_pos k]
  constructor
  ·rintro ⟨⟨⟨a1,a2⟩,a3,a4⟩,b1,b2,b3,b4,b5,b6⟩
   obtain ⟨f,hf⟩:=Int.eq_ofNat_of_zero_le a1
   have hf:a.From = (f:Int):=hf
   have hfl:f < c.Pins.length:=by omega
   have cf:c.Pins[f].Clock = true:=by rw [hf,clk_el hfl] at b1; exact b1
   have hge:r ≥ 0:=hr0.2 ⟨_,List.getElem_mem hfl,cf⟩
   rcases hr with hr | ⟨j,rfl,hj,hj1,_⟩
   ·omega
   ·have:=one_clk hc hfl hj cf hj1
    subst this
    refine ⟨b4,b6,b5,hf,a1,by omega,fun e=>?_⟩
    rw [e,b1] at b3; cases b3
  ·rintro ⟨b1,b2,b3,b4,b5,⟨b6,b7⟩,b8⟩
   rcases hr with hr | ⟨j,hj0,hj,hj1,_⟩
   ·omega
   ·have cf:clkAt c.Pins a.From = true:=by rw [b4,hj0,clk_el hj]; exact hj1
    have hjl:j + 1 < c.Pins.length:=by
     by_cases q:j + 1 < c.Pins.length
     ·exact q
     ·have:=(hv.pin j hj).2.1 (by omega)
      rw [this.2.2] at hj1; cases hj1
    obtain ⟨t,ht⟩:=Int.eq_ofNat_of_zero_le b6
    have ht:a.To = (t:Int):=ht
    have htl:t < c.Pins.length:=by omega
    refine ⟨⟨⟨by omega,by omega⟩,by omega,by omega⟩,cf,by omega,?_,b1,b3,b2⟩
    rw [ht,clk_el htl]
    cases hq:c.Pins[t].Clock with
    | false=>rfl
    | true=>have:=one_clk hc htl hj hq hj1; omega
 ·rw [if_neg k,if_neg k]
  by_cases k1:a.Kind = 1
  ·rw [if_pos k1,if_pos k1]
   exact ⟨fun ⟨p,q,s,t,u,v⟩=>⟨u,v,s,p.1,q,t⟩,fun ⟨u,v,s,p,q,t⟩=>⟨⟨p,by omega,by omega⟩,q,s,t,u,v⟩⟩
  ·rw [if_neg k1,if_neg k1]
   by_cases k2:a.Kind = 2 ∨ a.Kind = 3
   ·rw [if_pos k2,if_pos k2]
    exact ⟨fun ⟨p,q,s,t,u,v⟩=>⟨u,v,s,p.1,q,t⟩,fun ⟨u,v,s,p,q,t⟩=>⟨⟨p,by omega,by omega⟩,q,s,t,u,v⟩⟩
   ·rw [if_neg k2,if_neg k2]
    exact ⟨fun h=>h.2.elim,fun h=>h.2.2.2.2.elim⟩
def sameA (a b:S_Arc):Prop:=(a.Kind = b.Kind ∧ a.From = b.From) ∧ a.To = b.To
def hasK (l:List S_Arc) (k:Int):Prop:=∃ a ∈ l,a.Kind = k
def KindOK (c:S_Cell):Prop :=
 (c.Kind = 1 ∧ cnt c.Pins = 0 ∧ c.Truth.length = 2 ^ (c.Pins.length - 1) ∧ ∀ i,i < c.Truth.length → 0 ≤ gd c.Truth i ∧ gd c.Truth i ≤ 1) ∨
 (c.Kind = 2 ∧ cnt c.Pins = 1 ∧ c.Truth.length = 0 ∧ ¬ hasK c.Arcs 1 ∧ ¬ (hasK c.Arcs 2 ↔ hasK c.Arcs 3)) ∨
 (c.Kind = 3 ∧ cnt c.Pins = 1 ∧ c.Truth.length = 0 ∧ hasK c.Arcs 1 ∧ hasK c.Arcs 2 ∧ ¬ hasK c.Arcs 3)
def ArcsOK (A:S_Arc → Prop) (l:List S_Arc):Prop:=∀ i (h:i < l.length),A l[i] ∧ ∀ j (hj:j < i),¬ sameA l[j] l[i]
structure VCell (c:S_Cell):Prop where
 name:nameB c.Name = true
 pins:VPins c.Pins
 few:c.Arcs.length ≤ 8
 leak:0 ≤ c.Leak ∧ c.Leak ≤ 100000
 energy:0 ≤ c.Energy ∧ c.Energy ≤ 100000
 arcs:ArcsOK (ArcS c) c.Arcs
 kind:KindOK c
theorem KindOK.cnt {c:S_Cell} (h:KindOK c):cnt c.Pins ≤ 1:=by
 rcases h with h | h | h <;> omega
theorem Kd {n:Nat} {c:S_Cell} (hl:c.Arcs.length ≤ 1048576) (hk:∀ a ∈ c.Arcs,0 ≤ a.Kind ∧ a.Kind < 6) (hn:1048577 ≤ n):∃ l,F_0d n c = some l ∧ l.length = 6 ∧ ∀ k:Nat,k < 6 → 0 ≤ gd l k ∧ (gd l k > 0 ↔ hasK c.Arcs k):=by
 have m6:mkN 6 8 = some 6:=mkN_ok (n:=6) (by omega) (by omega)
 rw [F_0d,m6,obs]
 refine loop (L:=fun m i (l:List Int)=>F_0d_L1 c (fun i31 l33=>(some l33)) m i l) c.Arcs.length (fun i l=>l.length = 6 ∧ ∀ k:Nat,k < 6 → (0 ≤ gd l k ∧ gd l k ≤ i) ∧ (gd l k > 0 ↔ hasK (c.Arcs.take i) k)) (fun o=>∃ l,o = some l ∧ l.length = 6 ∧ ∀ k:Nat,k < 6 → 0 ≤ gd l k ∧ (gd l k > 0 ↔ hasK c.Arcs k)) ?_ ?_ n 0 (List.replicate 6 0) (by omega) (by omega) ⟨by simp,fun k hk=>?_⟩
 ·intro m i l hi ⟨hll,hI⟩
  have hx:=hk _ (List.getElem_mem hi)
  obtain ⟨q,hq⟩:=Int.eq_ofNat_of_zero_le hx.1
  have hq:c.Arcs[i].Kind = (q:Int):=hq
  have hq6:q < 6:=by omega
  have hg:getI l c.Arcs[i].Kind = some (gd l q):=by rw [hq]; exact gI (by omega)
  have hb:=(hI q hq6).1
  refine .inl ⟨l.set q (gd l q + 1),⟨by simpa using hll,fun k hk6=>?_⟩,?_⟩
  ·have h1:=hI k hk6
   rw [gd_set (by omega)]
   have hs:hasK (c.Arcs.take (i + 1)) k ↔ hasK (c.Arcs.take i) k ∨ c.Arcs[i].Kind = (k:Int):=by
    rw [List.take_succ_eq_append_getElem hi]
    unfold hasK
    constructor
    ·rintro ⟨a,ha,e⟩
     rcases List.mem_append.1 ha with ha | ha
     ·exact .inl ⟨a,ha,e⟩
     ·obtain rfl:=List.mem_singleton.1 ha; exact .inr e
    ·rintro (⟨a,ha,e⟩ | e)
     ·exact ⟨a,List.mem_append.2 (.inl ha),e⟩
     ·exact ⟨_,List.mem_append.2 (.inr (List.mem_singleton.2 rfl)),e⟩
   rw [hs]
   by_cases e:q = k
   ·subst e
    rw [if_pos rfl]
    exact ⟨⟨by omega,by omega⟩,⟨fun _=>.inr hq,fun _=>by omega⟩⟩
   ·rw [if_neg e]
    refine ⟨⟨by omega,by omega⟩,h1.2.trans ⟨.inl,fun h=>h.resolve_right fun h=>e (by omega)⟩⟩
  ·simp only [F_0d_L1.eq_2,dlt hi,cT,getI_el hi,obs,hg,wT i,wrap64 (x:=gd l q + 1) (by omega) (by omega)]
   rw [hq,Int.toNat_natCast]
 ·intro m l ⟨hll,hI⟩
  simp only [F_0d_L1.eq_2,dnl,cF]
  refine ⟨l,rfl,hll,fun k hk6=>?_⟩
  have:=hI k hk6
  rw [List.take_length] at this
  exact ⟨this.1.1,this.2⟩
 ·have:gd (List.replicate 6 0) k = 0:=by simp only [gd,List.getD_eq_getElem?_getD,List.getElem?_replicate]; split <;> rfl
  rw [this]
  refine ⟨by omega,⟨fun h=>by omega,fun ⟨a,ha,_⟩=>by simp at ha⟩⟩
theorem Hs {n:Nat} {c:S_Cell} (hl:c.Arcs.length ≤ 1048576) (k:Int) (hn:1048577 ≤ n):Tells (hasK c.Arcs k) (F_d n c k):=by
 obtain ⟨r,e,hr,_⟩:=loop_any (xs:=c.Arcs) (L:=fun m i=>F_16_L1 n c.Arcs k (fun i6=>(some (-1))) m i) (f:=fun a=>F_47 n a k) (P:=fun a=>a.Kind = k) (fun p _=>by rw [F_47]; exact Tells.val beq_iff_eq) (fun m i hi=>by
  simp only [F_16_L1.eq_2,dlt hi,cT,getI_el hi,obs,wT i]) (fun m=>by
  simp only [F_16_L1.eq_2,dnl,cF]) n (by omega)
 have e:F_16_L1 n c.Arcs k (fun i6=>(some (-1))) n 0 = some r:=e
 rw [F_d,F_4q,F_16,e]
 exact Tells.val (by rw [decide_eq_true_eq]; exact hr)
theorem shl_ok {L:Nat} (h1:2 ≤ L) (h2:L ≤ 5):shlK .i64 1 ((L:Int) - 1) = ((2 ^ (L - 1):Nat):Int) ∧ shlK .i64 1 (IntKind.wrap IntKind.u64 ((L:Int) - 1)) = ((2 ^ (L - 1):Nat):Int) ∧ decide (IntKind.wrap IntKind.u64 ((L:Int) - 1) < 0) = false:=by
 have:L = 2 ∨ L = 3 ∨ L = 4 ∨ L = 5:=by omega
 rcases this with rfl | rfl | rfl | rfl <;> decide
theorem Tr1 {n:Nat} {c:S_Cell} {o:Option Bool} {Q:Prop} (h:c.Truth.length ≤ 1048576) (hn:1048577 ≤ n) (hQ:Tells Q o):Tells ((∀ i,i < c.Truth.length → 0 ≤ gd c.Truth i ∧ gd c.Truth i ≤ 1) ∧ Q) (F_7_L3 n c (fun _=>o) n 0):=by
 refine (loopT (L:=fun m i=>F_7_L3 n c (fun _=>o) m i) (Q:=Q) c.Truth.length 0 (fun i=>0 ≤ gd c.Truth i ∧ gd c.Truth i ≤ 1) ?_ ?_ n 0 (by omega) (by omega) (by omega) (fun j _ h=>by omega)).iff ⟨fun a=>⟨fun i hi=>a.1 i (by omega) hi,a.2⟩,fun a=>⟨fun i _ hi=>a.1 i hi,a.2⟩⟩
 ·intro m i _ hi
  simp only [F_7_L3.eq_2,dlt hi,cT,gI hi,obs,F_1,wT i]
  by_cases c1:0 ≤ gd c.Truth i ∧ gd c.Truth i ≤ 1
  ·have d1:(decide (gd c.Truth i ≥ 0) && decide (gd c.Truth i ≤ 1)) = true:=rngB.2 c1
   simp only [d1,Bool.not_true,cF]
   exact .inl ⟨c1,by trivial⟩
  ·have d1:(decide (gd c.Truth i ≥ 0) && decide (gd c.Truth i ≤ 1)) = false:=by
    rw [Bool.and_eq_false_iff,decide_eq_false_iff_not,decide_eq_false_iff_not]; omega
   simp only [d1,Bool.not_false,cT]
   exact .inr ⟨c1,by trivial⟩
 ·intro m i h1 h2 _
  obtain rfl:i = c.Truth.length:=by omega
  simp only [F_7_L3.eq_2,dnl,cF]
  exact hQ
theorem In2 {n:Nat} {c:S_Cell} {i:Nat} (hi:i < c.Arcs.length) (hl:c.Arcs.length ≤ 1048576) (hn:1048577 ≤ n) (k2:Int → Option Bool):(∀ j (hj:j < i),¬ sameA c.Arcs[j] c.Arcs[i]) ∧ F_7_L2 c i c.Arcs[i] k2 n 0 = k2 i ∨ (¬ ∀ j (hj:j < i),¬ sameA c.Arcs[j] c.Arcs[i]) ∧ F_7_L2 c i c.Arcs[i] k2 n 0 = some false:=by
 refine loop (L:=fun m j (_:Unit)=>F_7_L2 c i c.Arcs[i] k2 m j) i (fun b _=>∀ j (hj:j < i),j < b → ¬ sameA c.Arcs[j] c.Arcs[i]) (fun o=>(∀ j (hj:j < i),¬ sameA c.Arcs[j] c.Arcs[i]) ∧ o = k2 i ∨ (¬ ∀ j (hj:j < i),¬ sameA c.Arcs[j] c.Arcs[i]) ∧ o = some false) ?_ ?_ n 0 () (by omega) (by omega) (fun j _ hj=>by omega)
 ·intro m j _ hj hJ
  have e1:sameA c.Arcs[j] c.Arcs[i] ↔ (((c.Arcs[j].Kind == c.Arcs[i].Kind) && (c.Arcs[j].From == c.Arcs[i].From)) && (c.Arcs[j].To == c.Arcs[i].To)) = true:=by
   unfold sameA; simp only [Bool.and_eq_true,beq_iff_eq]
  simp only [F_7_L2.eq_2,dlt hj,cT,getI_el (show j < c.Arcs.length by omega),obs,bif_and,wT j]
  cases e:(((c.Arcs[j].Kind == c.Arcs[i].Kind) && (c.Arcs[j].From == c.Arcs[i].From)) && (c.Arcs[j].To == c.Arcs[i].To)) with
  | true=>exact .inr (.inr ⟨fun h=>h j hj (e1.2 e),by trivial⟩)
  | false =>
   refine .inl ⟨(),fun a ha hb=>?_,by trivial⟩
   by_cases ea:a = j
   ·subst ea; intro hs; rw [e1.1 hs] at e; cases e
   ·exact hJ a ha (by omega)
 ·intro m _ hJ
  simp only [F_7_L2.eq_2,dnl,cF]
  exact .inl ⟨fun j hj=>hJ j hj hj,by trivial⟩
theorem IsC1 {n:Nat} {c:S_Cell} (h:SMC c) (hn:1048577 ≤ n):Tells (VCell c) (F_7 n c):=by
 obtain ⟨r,e,hr,hc⟩:=Pn1 (n:=n) h.pins hn
 rw [F_7,e]
 simp only [obs,Nm2 h.name hn,F_1,bif_or]
 by_cases g:(VPins c.Pins ∧ nameB c.Name = true) ∧ c.Arcs.length ≤ 8 ∧ (0 ≤ c.Leak ∧ c.Leak ≤ 100000) ∧ (0 ≤ c.Energy ∧ c.Energy ≤ 100000)
 ·have rt:r.2 = true:=hr.2 g.1.1
  have gb:((((!r.2 || !nameB c.Name) || decide ((c.Arcs.length:Int) > 8)) || !(decide (c.Leak ≥ 0) && decide (c.Leak ≤ 100000))) || !(decide (c.Energy ≥ 0) && decide (c.Energy ≤ 100000))) = false:=by
   rw [rt,g.1.2]
   simp only [Bool.not_true,Bool.or_self,Bool.false_or,Bool.or_eq_false_iff,decide_eq_false_iff_not,Bool.not_eq_false',rngB]; omega
  simp only [gb,cF]
  have few:=g.1.1.few
  have hal:=h.arcs.1
  have hcnt:=hc rt
  refine (loopT (L:=fun m i=>F_7_L1 n c _ m i) (Q:=KindOK c) c.Arcs.length 0 (fun i=>∀ (hi:i < c.Arcs.length),ArcS c c.Arcs[i] ∧ ∀ j (hj:j < i),¬ sameA c.Arcs[j] c.Arcs[i]) ?_ ?_ n 0 (by omega) (by omega) (by omega) (fun j _ h=>by omega)).iff ?_
  ·intro m i _ hi
   obtain ⟨b,e,hb⟩:=Ar1s (n:=n) (c:=c) few.2 few.1 (h.arcs.2 _ (List.getElem_mem hi)) hn
   simp only [F_7_L1.eq_2,dlt hi,cT,getI_el hi,obs,e]
   cases b with
   | false=>exact .inr ⟨fun q=>(by have:=hb.2 (q hi).1; cases this),by trivial⟩
   | true =>
    simp only [Bool.not_true,cF,wT i]
    rcases In2 (n:=n) hi hal hn (fun _=>F_7_L1 n c _ m ((i + 1:Nat):Int)) with ⟨q1,q2⟩ | ⟨q1,q2⟩
    ·exact .inl ⟨fun _=>⟨hb.1 rfl,q1⟩,q2⟩
    ·exact .inr ⟨fun q=>q1 (q hi).2,q2⟩
  ·intro m i h1 h2 hA
   obtain rfl:i = c.Arcs.length:=by omega
   simp only [F_7_L1.eq_2,dnl,cF]
   obtain ⟨l,e,hl6,hl⟩:=Kd (n:=n) hal (fun a ha=>by
    obtain ⟨j,hj,rfl⟩:=List.getElem_of_mem ha
    have:=(hA j (by omega) hj hj).1.2
    rcases kinds c.Arcs[j].Kind with k | k | k | k | k | k <;> first | omega | skip
    obtain ⟨k1,k2,k3,k4,k5⟩:=k
    rw [if_neg k1,if_neg (by omega),if_neg (by omega)] at this
    exact this.elim) hn
   have g1:getI l 1 = some (gd l 1):=gI (i:=1) (by omega)
   have g2:getI l 2 = some (gd l 2):=gI (i:=2) (by omega)
   have g3:getI l 3 = some (gd l 3):=gI (i:=3) (by omega)
   have k1:0 ≤ gd l 1 ∧ (gd l 1 > 0 ↔ hasK c.Arcs 1):=hl 1 (by omega)
   have k2:0 ≤ gd l 2 ∧ (gd l 2 > 0 ↔ hasK c.Arcs 2):=hl 2 (by omega)
   have k3:0 ≤ gd l 3 ∧ (gd l 3 > 0 ↔ hasK c.Arcs 3):=hl 3 (by omega)
   have wl:IntKind.wrap .i64 ((c.Pins.length:Int) - 1) = (c.Pins.length:Int) - 1:=wrap64 (by omega) (by omega)
   obtain ⟨s1,s2,s3⟩:=shl_ok few.1 few.2
   rw [e,obs]
   simp only [g1,g2,g3,obs,wl,s2,s3,cF,bif_and]
   have tl:((c.Truth.length:Int) == 0) = true ↔ c.Truth.length = 0:=by rw [beq_iff_eq]; omega
   have tw:((c.Truth.length:Int) == ((2 ^ (c.Pins.length - 1):Nat):Int)) = true ↔ c.Truth.length = 2 ^ (c.Pins.length - 1):=by rw [beq_iff_eq]; omega
   have c0:(r.1 == 0) = true ↔ cnt c.Pins = 0:=by rw [beq_iff_eq,hcnt]; omega
   have c1:(r.1 == 1) = true ↔ cnt c.Pins = 1:=by rw [beq_iff_eq,hcnt]; omega
   have kk1:(gd l 1 == 0) = true ↔ ¬ hasK c.Arcs 1:=by rw [beq_iff_eq,← k1.2]; omega
   have kk3:(gd l 3 == 0) = true ↔ ¬ hasK c.Arcs 3:=by rw [beq_iff_eq,← k3.2]; omega
   have p1:decide (gd l 1 > 0) = true ↔ hasK c.Arcs 1:=by rw [decide_eq_true_eq]; exact k1.2
   have p2:decide (gd l 2 > 0) = true ↔ hasK c.Arcs 2:=by rw [decide_eq_true_eq]; exact k2.2
   have p3:decide (gd l 3 > 0) = true ↔ hasK c.Arcs 3:=by rw [decide_eq_true_eq]; exact k3.2
   have x23:(decide (gd l 2 > 0) != decide (gd l 3 > 0)) = true ↔ ¬ (hasK c.Arcs 2 ↔ hasK c.Arcs 3):=by
    rw [← p2,← p3]; cases decide (gd l 2 > 0) <;> cases decide (gd l 3 > 0) <;> simp
   by_cases q1:c.Kind = 1
   ·simp only [q1,show ((1:Int) == 1) = true from rfl,cT]
    refine (Tr1 (c:=c) (o:=some ((r.1 == 0) && ((c.Truth.length:Int) == ((2 ^ (c.Pins.length - 1):Nat):Int)))) (Q:=cnt c.Pins = 0 ∧ c.Truth.length = 2 ^ (c.Pins.length - 1)) h.truth hn (Tells.val (by rw [Bool.and_eq_true,c0,tw]))).iff ?_
    unfold KindOK
    constructor
    ·rintro ⟨a,b,d⟩; exact .inl ⟨q1,b,d,a⟩
    ·rintro (⟨_,b,d,a⟩ | ⟨a,_⟩ | ⟨a,_⟩)
     ·exact ⟨a,b,d⟩
     ·omega
     ·omega
   ·simp only [beq_eq_false_iff_ne.2 q1,cF]
    by_cases q2:c.Kind = 2
    ·simp only [q2,show ((2:Int) == 2) = true from rfl,cT]
     refine Tells.val ?_
     rw [Bool.and_eq_true,Bool.and_eq_true,Bool.and_eq_true,c1,kk1,x23,tl]
     unfold KindOK
     constructor
     ·rintro ⟨⟨⟨a,b⟩,d⟩,f⟩; exact .inr (.inl ⟨q2,a,f,b,d⟩)
     ·rintro (⟨a,_⟩ | ⟨_,a,f,b,d⟩ | ⟨a,_⟩)
      ·omega
      ·exact ⟨⟨⟨a,b⟩,d⟩,f⟩
      ·omega
    ·simp only [beq_eq_false_iff_ne.2 q2,cF]
     by_cases q3:c.Kind = 3
     ·simp only [q3,show ((3:Int) == 3) = true from rfl,cT]
      refine Tells.val ?_
      simp only [Bool.and_eq_true,true_and,c1,p1,p2,kk3,tl]
      unfold KindOK
      constructor
      ·rintro ⟨⟨⟨⟨a,b⟩,d⟩,x⟩,f⟩; exact .inr (.inr ⟨q3,a,f,b,d,x⟩)
      ·rintro (⟨a,_⟩ | ⟨a,_⟩ | ⟨_,a,f,b,d,x⟩)
       ·omega
       ·omega
       ·exact ⟨⟨⟨⟨a,b⟩,d⟩,x⟩,f⟩
     ·simp only [beq_eq_false_iff_ne.2 q3,cF]
      refine Tells.no ?_
      rintro (⟨a,_⟩ | ⟨a,_⟩ | ⟨a,_⟩)
      ·exact q1 a
      ·exact q2 a
      ·exact q3 a
  ·constructor
   ·rintro ⟨a,b⟩
    exact ⟨g.1.2,g.1.1,g.2.1,g.2.2.1,g.2.2.2,fun i hi=>a i (by omega) hi hi,b⟩
   ·rintro v
    exact ⟨fun i _ _ hi=>v.arcs i hi,v.kind⟩
 ·have gb:((((!r.2 || !nameB c.Name) || decide ((c.Arcs.length:Int) > 8)) || !(decide (c.Leak ≥ 0) && decide (c.Leak ≤ 100000))) || !(decide (c.Energy ≥ 0) && decide (c.Energy ≤ 100000))) = true:=by
   cases hq:((((!r.2 || !nameB c.Name) || decide ((c.Arcs.length:Int) > 8)) || !(decide (c.Leak ≥ 0) && decide (c.Leak ≤ 100000))) || !(decide (c.Energy ≥ 0) && decide (c.Energy ≤ 100000))) with
   | true=>rfl
   | false =>
    exfalso; apply g
    simp only [Bool.or_eq_false_iff,Bool.not_eq_false',decide_eq_false_iff_not,rngB] at hq
    exact ⟨⟨hr.1 hq.1.1.1.1,hq.1.1.1.2⟩,by omega,by simpa using hq.1.2,by simpa using hq.2⟩
  simp only [gb,cT]
  exact Tells.no fun v=>g ⟨⟨v.pins,v.name⟩,v.few,v.leak,v.energy⟩
theorem Cn {n:Nat} {l:List S_Pin} {K:Int → Option Bool} {c:S_Cell} (hc:c.Pins = l) (hl:l.length ≤ 1048576) (hn:1048577 ≤ n):F_08_L1 c (fun i _=>K i) n 0 0 = K (cnt l):=by
 subst hc
 refine loop (L:=fun m i (q:Int)=>F_08_L1 c (fun i _=>K i) m q i) c.Pins.length (fun i q=>q = cnt (c.Pins.take i)) (fun o=>o = K (cnt c.Pins)) ?_ ?_ n 0 0 (by omega) (by omega) (by simp [cnt])
 ·intro m i q hi hq
  have ct:=cnt_take hi
  have cl:cnt (c.Pins.take i) ≤ 1048576:=Nat.le_trans List.countP_le_length (by simp; omega)
  cases hk:c.Pins[i].Clock with
  | true =>
   rw [hk,if_pos rfl] at ct
   refine .inl ⟨q + 1,by rw [ct,hq]; simp,?_⟩
   simp only [F_08_L1.eq_2,dlt hi,cT,getI_el hi,obs,hk,wT i,wrap64 (x:=q + 1) (by omega) (by omega)]
  | false =>
   rw [hk] at ct
   refine .inl ⟨q,by rw [ct,hq]; simp,?_⟩
   simp only [F_08_L1.eq_2,dlt hi,cT,getI_el hi,obs,hk,cF,wT i]
 ·intro m q hq
  rw [List.take_length] at hq
  simp only [F_08_L1.eq_2,dnl,cF,hq]
theorem Kn2 {n:Nat} {c:S_Cell} (h:SMC c) (hv:VPins c.Pins) (hn:1048577 ≤ n):Tells (KindOK c) (F_08 n c):=by
 have few:=hv.few
 obtain ⟨b1,e1,h1⟩:=Hs (n:=n) h.arcs.1 1 hn
 obtain ⟨b2,e2,h2⟩:=Hs (n:=n) h.arcs.1 2 hn
 obtain ⟨b3,e3,h3⟩:=Hs (n:=n) h.arcs.1 3 hn
 have wl:IntKind.wrap .i64 ((c.Pins.length:Int) - 1) = (c.Pins.length:Int) - 1:=wrap64 (by omega) (by omega)
 have o:=(Cn (n:=n) (c:=c) (l:=c.Pins) (K:=fun i16=>(bif (c.Kind == 1) then (Option.bind (bif (i16 == 0) then (Option.bind (F_20 n c) fun r20=>(bif decide (r20 < 0) then none else (some ((((c.Truth.length:Int)) == (shlK .i64 1 r20)))))) else (some false)) fun c20=>(Option.bind (bif c20 then (Option.bind (F_w n c.Truth 0 1) fun r26=>(some r26)) else (some false)) fun c26=>(some c26))) else (bif (c.Kind == 2) then (Option.bind (bif (((i16 == 1)) && ((((c.Truth.length:Int)) == 0))) then (Option.bind (F_d n c 1) fun r38=>(some (!r38))) else (some false)) fun c38=>(Option.bind (bif c38 then (Option.bind (F_d n c 2) fun r43=>(Option.bind (F_d n c 3) fun r45=>(some ((r43 != r45))))) else (some false)) fun c43=>(some c43))) else (bif (c.Kind == 3) then (Option.bind (bif (((i16 == 1)) && ((((c.Truth.length:Int)) == 0))) then (Option.bind (F_d n c 1) fun r61=>(some r61)) else (some false)) fun c61=>(Option.bind (bif c61 then (Option.bind (F_d n c 2) fun r74=>(some r74)) else (some false)) fun c74=>(Option.bind (bif c74 then (Option.bind (F_d n c 3) fun r87=>(some (!r87))) else (some false)) fun c87=>(some c87)))) else (some false))))) rfl h.pins.1 hn)
 have o2:F_08 n c = _:=o
 rw [o2]
 obtain ⟨s1,s2,s3⟩:=shl_ok few.1 few.2
 have d0:decide ((c.Pins.length:Int) - 1 < 0) = false:=decide_eq_false (by omega)
 simp only [F_20,F_24,obs,wl,d0,cF,s1,AW (n:=n) h.truth hn,e1,e2,e3,bif_and]
 have tl:((c.Truth.length:Int) == 0) = true ↔ c.Truth.length = 0:=by rw [beq_iff_eq]; omega
 have tw:((c.Truth.length:Int) == ((2 ^ (c.Pins.length - 1):Nat):Int)) = true ↔ c.Truth.length = 2 ^ (c.Pins.length - 1):=by rw [beq_iff_eq]; omega
 have c0:((cnt c.Pins:Int) == 0) = true ↔ cnt c.Pins = 0:=by rw [beq_iff_eq]; omega
 have c1:((cnt c.Pins:Int) == 1) = true ↔ cnt c.Pins = 1:=by rw [beq_iff_eq]; omega
 have n1:(!b1) = true ↔ ¬ hasK c.Arcs 1:=by rw [← h1]; cases b1 <;> simp
 have n3:(!b3) = true ↔ ¬ hasK c.Arcs 3:=by rw [← h3]; cases b3 <;> simp
 have x23:(b2 != b3) = true ↔ ¬ (hasK c.Arcs 2 ↔ hasK c.Arcs 3):=by rw [← h2,← h3]; cases b2 <;> cases b3 <;> simp
 by_cases q1:c.Kind = 1
 ·simp only [q1,show ((1:Int) == 1) = true from rfl,cT]
  refine Tells.val ?_
  rw [Bool.and_eq_true,Bool.and_eq_true,c0,tw,AllGd]
  unfold KindOK
  constructor
  ·rintro ⟨⟨a,b⟩,d⟩; exact .inl ⟨q1,a,b,d⟩
  ·rintro (⟨_,a,b,d⟩ | ⟨a,_⟩ | ⟨a,_⟩)
   ·exact ⟨⟨a,b⟩,d⟩
   ·omega
   ·omega
 ·simp only [beq_eq_false_iff_ne.2 q1,cF]
  by_cases q2:c.Kind = 2
  ·simp only [q2,show ((2:Int) == 2) = true from rfl,cT]
   refine Tells.val ?_
   simp only [Bool.and_eq_true,c1,tl,n1,x23]
   unfold KindOK
   constructor
   ·rintro ⟨⟨⟨a,b⟩,d⟩,f⟩; exact .inr (.inl ⟨q2,a,b,d,f⟩)
   ·rintro (⟨a,_⟩ | ⟨_,a,b,d,f⟩ | ⟨a,_⟩)
    ·omega
    ·exact ⟨⟨⟨a,b⟩,d⟩,f⟩
    ·omega
  ·simp only [beq_eq_false_iff_ne.2 q2,cF]
   by_cases q3:c.Kind = 3
   ·simp only [q3,show ((3:Int) == 3) = true from rfl,cT]
    refine Tells.val ?_
    simp only [Bool.and_eq_true,true_and,c1,tl,h1,h2,n3]
    unfold KindOK
    constructor
    ·rintro ⟨⟨⟨⟨a,b⟩,d⟩,x⟩,f⟩; exact .inr (.inr ⟨q3,a,b,d,x,f⟩)
    ·rintro (⟨a,_⟩ | ⟨a,_⟩ | ⟨_,a,b,d,x,f⟩)
     ·omega
     ·omega
     ·exact ⟨⟨⟨⟨a,b⟩,d⟩,x⟩,f⟩
   ·simp only [beq_eq_false_iff_ne.2 q3,cF]
    refine Tells.no ?_
    rintro (⟨a,_⟩ | ⟨a,_⟩ | ⟨a,_⟩)
    ·exact q1 a
    ·exact q2 a
    ·exact q3 a
theorem As2 {n:Nat} {c:S_Cell} {r:Int} (h:SMC c) (hv:VPins c.Pins) (hr:F_2x n c = some r) (hn:1048577 ≤ n):Tells (ArcsOK (fun a=>ArcI c a r) c.Arcs ∧ c.Arcs.length ≤ 8) (F_15 n c):=by
 have few:=hv.few
 have hal:=h.arcs.1
 rw [F_15]
 refine (loopT (L:=fun m i=>F_15_L1 n c _ m i) (Q:=c.Arcs.length ≤ 8) c.Arcs.length 0 (fun i=>∀ (hi:i < c.Arcs.length),ArcI c c.Arcs[i] r ∧ ∀ j (hj:j < i),¬ sameA c.Arcs[j] c.Arcs[i]) ?_ ?_ n 0 (by omega) (by omega) (by omega) (fun j _ h=>by omega)).iff ⟨fun a=>⟨fun i hi=>a.1 i (by omega) hi hi,a.2⟩,fun a=>⟨fun i _ _ hi=>a.1 i hi,a.2⟩⟩
 ·intro m i _ hi
  obtain ⟨b,e,hb⟩:=Ar2i (n:=n) (c:=c) few.2 few.1 (h.arcs.2 _ (List.getElem_mem hi)) hr hn
  have hsub:subL c.Arcs 0 (i:Int) = some (c.Arcs.take i):=by
   unfold subL
   rw [if_pos ⟨by omega,by omega,by omega⟩]; simp
  obtain ⟨q,e2,hq,_⟩:=loop_any (xs:=c.Arcs.take i) (L:=fun m j=>F_14_L1 n (c.Arcs.take i) c.Arcs[i] (fun i6=>(some (-1))) m j) (f:=fun a=>F_46 n a c.Arcs[i]) (P:=fun a=>sameA a c.Arcs[i]) (fun p _=>by rw [F_46]; exact Tells.val (by unfold sameA; simp only [Bool.and_eq_true,beq_iff_eq])) (fun m j hj=>by
   simp only [F_14_L1.eq_2,dlt hj,cT,getI_el hj,obs,wS (show j < 4611686018427387904 by have:=hj; simp at this; omega)]) (fun m=>by
   simp only [F_14_L1.eq_2,dnl,cF]) n (by simp; omega)
  have e2:F_14_L1 n (c.Arcs.take i) c.Arcs[i] (fun i6=>(some (-1))) n 0 = some q:=e2
  simp only [F_15_L1.eq_2,dlt hi,cT,getI_el hi,obs,e,hsub,F_4p,F_14,e2,bif_or,wT i]
  have hd:(decide (q ≥ 0)) = true ↔ ¬ ∀ j (hj:j < i),¬ sameA c.Arcs[j] c.Arcs[i]:=by
   rw [decide_eq_true_eq,hq]
   constructor
   ·rintro ⟨x,hx,hs⟩ hall
    obtain ⟨j,hj,rfl⟩:=List.mem_take_iff_getElem.1 hx
    exact hall j (by omega) hs
   ·intro hna
    refine Classical.byContradiction fun hne=>hna fun j hj hs=>hne ⟨c.Arcs[j],List.mem_take_iff_getElem.2 ⟨j,by omega,rfl⟩,hs⟩
  cases hc:(!b || decide (q ≥ 0)) with
  | true =>
   refine .inr ⟨fun g=>?_,by trivial⟩
   have:=g hi
   rw [Bool.or_eq_true] at hc
   rcases hc with hc | hc
   ·rw [hb.2 this.1] at hc; cases hc
   ·exact hd.1 hc this.2
  | false =>
   rw [Bool.or_eq_false_iff] at hc
   refine .inl ⟨fun _=>⟨hb.1 (by simpa using hc.1),Classical.byContradiction fun g=>?_⟩,by trivial⟩
   have:=hd.2 g
   rw [hc.2] at this; cases this
 ·intro m i h1 h2 _
  obtain rfl:i = c.Arcs.length:=by omega
  simp only [F_15_L1.eq_2,dnl,cF]
  exact Tells.val (by rw [decide_eq_true_eq]; omega)
theorem IsC2 {n:Nat} {c:S_Cell} (h:SMC c) (hn:1048577 ≤ n):Tells (VCell c) (F_48 n c):=by
 obtain ⟨r,hr,hr0,hr1⟩:=Ck (n:=n) h.pins.1 hn
 rw [F_48,Nm1 h.name hn,obs]
 cases hnm:nameB c.Name with
 | false =>
  simp only [cF,obs]
  exact Tells.no fun v=>(by have:=v.name; rw [hnm] at this; cases this)
 | true =>
  obtain ⟨b,e,hb⟩:=Pn2 (n:=n) h.pins hn
  simp only [cT,e,obs]
  cases b with
  | false =>
   simp only [cF,obs]
   exact Tells.no fun v=>(by have:=hb.2 v.pins; cases this)
  | true =>
   have hv:=hb.1 rfl
   obtain ⟨b1,e1,h1⟩:=As2 (n:=n) h hv hr hn
   obtain ⟨b2,e2,h2⟩:=Kn2 (n:=n) h hv hn
   simp only [cT,e1,e2,F_3,obs,bif_and]
   refine Tells.val ?_
   rw [Bool.and_eq_true,Bool.and_eq_true,Bool.and_eq_true,h1,h2,rngB,rngB]
   constructor
   ·rintro ⟨⟨⟨⟨a,a8⟩,b⟩,d⟩,f⟩
    exact ⟨hnm,hv,a8,b,d,fun i hi=>⟨(Arc_iff hv f.cnt hr1 hr0).2 (a i hi).1,(a i hi).2⟩,f⟩
   ·rintro v
    exact ⟨⟨⟨⟨fun i hi=>⟨(Arc_iff hv v.kind.cnt hr1 hr0).1 (v.arcs i hi).1,(v.arcs i hi).2⟩,v.few⟩,v.leak⟩,v.energy⟩,v.kind⟩
def NamesOK (xs:List ByteArray):Prop:=∀ k (h:k < xs.length),nameB xs[k] = true ∧ ∀ i (hi:i < k),(xs[i].toList == xs[k].toList) = false
theorem l05N {n:Nat} {xs:List ByteArray} (h:xs.length ≤ 1048576) (hs:∀ x ∈ xs,x.size ≤ 1048576) (hn:1048577 ≤ n):Tells (NamesOK xs) (F_8 n xs):=by
 rw [F_8]
 refine (loopT (L:=fun m i=>F_8_L1 n xs _ m i) (Q:=True) xs.length 0 (fun i=>∀ (hi:i < xs.length),nameB xs[i] = true ∧ ∀ j (hj:j < i),(xs[j].toList == xs[i].toList) = false) ?_ ?_ n 0 (by omega) (by omega) (by omega) (fun j _ h=>by omega)).iff ⟨fun a k hk=>a.1 k (by omega) hk hk,fun a=>⟨fun i _ _ hi=>a i hi,trivial⟩⟩
 ·intro m i _ hi
  simp only [F_8_L1.eq_2,dlt hi,cT,getI_el hi,obs,Nm2 (hs _ (List.getElem_mem hi)) hn]
  cases hb:nameB xs[i] with
  | false=>simp only [Bool.not_false,cT]; exact .inr ⟨fun g=>(by have:=(g hi).1; rw [hb] at this; cases this),trivial⟩
  | true =>
   simp only [Bool.not_true,cF]
   have key:F_8_L2 xs (i:Int) (fun i22=>F_8_L1 n xs (fun i5=>some true) m (IntKind.wrap .i64 ((i:Int) + 1))) n 0 = bif (xs.take i).all (fun x=>!(x.toList == xs[i].toList)) then F_8_L1 n xs (fun i5=>some true) m (IntKind.wrap .i64 ((i:Int) + 1)) else some false:=by
    refine loop_all (xs:=xs.take i) (L:=fun q j=>F_8_L2 xs (i:Int) (fun i22=>F_8_L1 n xs (fun i5=>some true) m (IntKind.wrap .i64 ((i:Int) + 1))) q j) (fun x=>!(x.toList == xs[i].toList)) ?_ ?_ n (by simp; omega)
    ·intro q j hj
     have hj':j < i:=by simp at hj; omega
     have hd:decide ((j:Int) < (i:Int)) = true:=decide_eq_true (by omega)
     simp only [F_8_L2.eq_2,hd,cT,getI_el (show j < xs.length by omega),getI_el hi,obs,List.getElem_take,wT j]
     cases (xs[j].toList == xs[i].toList) <;> rfl
    ·intro q
     have hl:(xs.take i).length = i:=by simp; omega
     have hd:decide (((xs.take i).length:Int) < (i:Int)) = false:=decide_eq_false (by rw [hl]; omega)
     simp only [F_8_L2.eq_2,hd,cF]
   rw [key]
   cases ha:(xs.take i).all (fun x=>!(x.toList == xs[i].toList)) with
   | true =>
    rw [cT,wT i]
    refine .inl ⟨fun _=>⟨hb,fun j hj=>?_⟩,rfl⟩
    have:=List.all_eq_true.1 ha xs[j] (List.mem_take_iff_getElem.2 ⟨j,by omega,rfl⟩)
    simpa using this
   | false =>
    rw [cF]
    refine .inr ⟨fun g=>?_,rfl⟩
    have:(xs.take i).all (fun x=>!(x.toList == xs[i].toList)) = true:=by
     rw [List.all_eq_true]
     intro x hx
     obtain ⟨j,hj,rfl⟩:=List.mem_take_iff_getElem.1 hx
     have:=(g hi).2 j (by omega)
     simp [this]
    rw [ha] at this; cases this
 ·intro m i h1 h2 _
  obtain rfl:i = xs.length:=by omega
  simp only [F_8_L1.eq_2,dnl,cF]
  exact Tells.yes trivial
structure VLib (l:S_Library):Prop where
 few:l.Cells.length ≤ 8
 cells:∀ i (h:i < l.Cells.length),VCell l.Cells[i]
 names:∀ k (h:k < l.Cells.length),∀ i (hi:i < k),(l.Cells[i].Name.toList == l.Cells[k].Name.toList) = false
def SMLb (l:S_Library):Prop:=l.Cells.length ≤ 1048576 ∧ ∀ c ∈ l.Cells,SMC c
theorem Lb1 {n:Nat} {l:S_Library} (h:SMLb l) (hn:1048577 ≤ n):Tells (VLib l) (F_h n l):=by
 have h1:=h.1
 rw [F_h]
 refine (loopT (L:=fun m i=>F_h_L1 n l _ m i) (Q:=l.Cells.length ≤ 8) l.Cells.length 0 (fun i=>∀ (hi:i < l.Cells.length),VCell l.Cells[i] ∧ ∀ j (hj:j < i),(l.Cells[j].Name.toList == l.Cells[i].Name.toList) = false) ?_ ?_ n 0 (by omega) (by omega) (by omega) (fun j _ h=>by omega)).iff ⟨fun a=>⟨a.2,fun i hi=>(a.1 i (by omega) hi hi).1,fun k hk=>(a.1 k (by omega) hk hk).2⟩,fun a=>⟨fun i _ _ hi=>⟨a.cells i hi,a.names i hi⟩,a.few⟩⟩
 ·intro m i _ hi
  obtain ⟨b,e,hb⟩:=IsC1 (n:=n) (h.2 _ (List.getElem_mem hi)) hn
  simp only [F_h_L1.eq_2,dlt hi,cT,getI_el hi,obs,e]
  cases b with
  | false=>simp only [Bool.not_false,cT]; exact .inr ⟨fun g=>(by have:=hb.2 (g hi).1; cases this),trivial⟩
  | true =>
   simp only [Bool.not_true,cF]
   have key:F_h_L2 l (i:Int) (fun i36=>F_h_L1 n l (fun i12=>some (decide ((l.Cells.length:Int) ≤ 8))) m (IntKind.wrap .i64 ((i:Int) + 1))) n 0 = bif (l.Cells.take i).all (fun x=>!(x.Name.toList == l.Cells[i].Name.toList)) then F_h_L1 n l (fun i12=>some (decide ((l.Cells.length:Int) ≤ 8))) m (IntKind.wrap .i64 ((i:Int) + 1)) else some false:=by
    refine loop_all (xs:=l.Cells.take i) (L:=fun q j=>F_h_L2 l (i:Int) (fun i36=>F_h_L1 n l (fun i12=>some (decide ((l.Cells.length:Int) ≤ 8))) m (IntKind.wrap .i64 ((i:Int) + 1))) q j) (fun x=>!(x.Name.toList == l.Cells[i].Name.toList)) ?_ ?_ n (by simp; omega)
    ·intro q j hj
     have hj':j < i:=by simp at hj; omega
     have hd:decide ((j:Int) < (i:Int)) = true:=decide_eq_true (by omega)
     simp only [F_h_L2.eq_2,hd,cT,getI_el (show j < l.Cells.length by omega),getI_el hi,obs,List.getElem_take,wT j]
     cases (l.Cells[j].Name.toList == l.Cells[i].Name.toList) <;> rfl
    ·intro q
     have hl:(l.Cells.take i).length = i:=by simp; omega
     have hd:decide (((l.Cells.take i).length:Int) < (i:Int)) = false:=decide_eq_false (by rw [hl]; omega)
     simp only [F_h_L2.eq_2,hd,cF]
   rw [key]
   cases ha:(l.Cells.take i).all (fun x=>!(x.Name.toList == l.Cells[i].Name.toList)) with
   | true =>
    rw [cT,wT i]
    refine .inl ⟨fun _=>⟨hb.1 rfl,fun j hj=>?_⟩,rfl⟩
    have:=List.all_eq_true.1 ha l.Cells[j] (List.mem_take_iff_getElem.2 ⟨j,by omega,rfl⟩)
    simpa using this
   | false =>
    rw [cF]
    refine .inr ⟨fun g=>?_,rfl⟩
    have:(l.Cells.take i).all (fun x=>!(x.Name.toList == l.Cells[i].Name.toList)) = true:=by
     rw [List.all_eq_true]
     intro x hx
     obtain ⟨j,hj,rfl⟩:=List.mem_take_iff_getElem.1 hx
     have:=(g hi).2 j (by omega)
     simp [this]
    rw [ha] at this; cases this
 ·intro m i h1 h2 _
  obtain rfl:i = l.Cells.length:=by omega
  simp only [F_h_L1.eq_2,dnl,cF]
  exact Tells.val (by rw [decide_eq_true_eq]; omega)
theorem Lb2 {n:Nat} {l:S_Library} (h:SMLb l) (hn:1048577 ≤ n):Tells (VLib l) (F_17 n l):=by
 have h1:=h.1
 rw [F_17]
 refine loop (L:=fun m i (s:List ByteArray)=>F_17_L1 n l _ m s i) l.Cells.length (fun i s=>s = (l.Cells.take i).map (·.Name) ∧ ∀ j (hj:j < l.Cells.length),j < i → VCell l.Cells[j]) (fun o=>Tells (VLib l) o) ?_ ?_ n 0 [] (by omega) (by omega) ⟨by simp,fun j _ h=>by omega⟩
 ·intro m i s hi ⟨hs,hI⟩
  obtain ⟨b,e,hb⟩:=IsC2 (n:=n) (h.2 _ (List.getElem_mem hi)) hn
  have hsl:s.length = i:=by rw [hs]; simp; omega
  simp only [F_17_L1.eq_2,dlt hi,cT,getI_el hi,obs,e]
  cases b with
  | false=>simp only [Bool.not_false,cT]; exact .inr (Tells.no fun v=>by have:=hb.2 (v.cells i hi); cases this)
  | true =>
   simp only [Bool.not_true,cF,appN_ok (show s.length + [l.Cells[i].Name].length ≤ 16777216 by simp; omega) (show 16 ≤ 1048576 by omega),obs,wT i]
   refine .inl ⟨_,⟨?_,fun j hj hji=>?_⟩,rfl⟩
   ·rw [hs,List.take_succ_eq_append_getElem hi,List.map_append]; rfl
   ·by_cases ej:j = i
    ·subst ej; exact hb.1 rfl
    ·exact hI j hj (by omega)
 ·intro m s ⟨hs,hI⟩
  rw [List.take_length] at hs
  have hsl:s.length = l.Cells.length:=by rw [hs]; simp
  simp only [F_17_L1.eq_2,dnl,cF]
  by_cases c:l.Cells.length ≤ 8
  ·have d:decide ((l.Cells.length:Int) ≤ 8) = true:=decide_eq_true (by omega)
   obtain ⟨b,e,hb⟩:=AN (n:=n) (xs:=s) (by omega) (fun x hx=>by
    rw [hs] at hx
    obtain ⟨c,hc,rfl⟩:=List.mem_map.1 hx
    exact (h.2 c hc).name) hn
   simp only [d,cT,e,obs]
   refine Tells.val (hb.trans ⟨fun g=>⟨c,fun i hi=>hI i hi hi,fun k hk i hi=>?_⟩,fun v k hk=>⟨?_,fun i hi=>?_⟩⟩)
   ·have:=(g k (by omega)).2 i hi
    simpa [hs] using this
   ·have:=(v.cells k (by omega)).name
    simpa [hs] using this
   ·have:=v.names k (by omega) i hi
    simpa [hs] using this
  ·have d:decide ((l.Cells.length:Int) ≤ 8) = false:=decide_eq_false (by omega)
   simp only [d,cF,obs]
   exact Tells.no fun v=>c v.few
def Win (l:List Int) (lo hi:Int):Prop:=∀ i,i < l.length → lo ≤ gd l i ∧ gd l i ≤ hi
theorem loopW {n:Nat} {l:List Int} {lo hi:Int} (h:l.length ≤ 1048576) (hn:1048577 ≤ n):Tells (Win l lo hi) (F_w n l lo hi):=by
 rw [F_w,F_42,F_04]
 obtain ⟨r,e,h⟩:=loop_has (xs:=l) (L:=fun m i=>F_04_L1 n l lo hi (fun i7=>(some (-1))) m i) (fun x=>!((decide (x ≥ lo)) && (decide (x ≤ hi)))) (by
  intro m i hi
  simp only [F_04_L1.eq_2,dlt hi,cT,getI_el hi,obs,F_41,F_3,wT i]) (by
  intro m
  simp only [F_04_L1.eq_2,dnl,cF]) n (by omega)
 simp only [e,obs]
 refine Tells.val ?_
 rw [h,List.any_eq_not_all_not,Bool.not_not]
 simp only [Bool.not_not]
 exact AllGd
structure VWire (w:S_Wire) (s:Int):Prop where
 many:1 ≤ w.Parent.length ∧ w.Parent.length ≤ 8
 res:w.Res.length = w.Parent.length
 cap:w.Cap.length = w.Parent.length
 sink:(w.Sink.length:Int) = s
 root:gd w.Parent 0 = -1 ∧ gd w.Res 0 = 0
 tree:∀ i,0 < i → i < w.Parent.length → 0 ≤ gd w.Parent i ∧ gd w.Parent i ≤ (i:Int) - 1
 ress:Win w.Res 0 1000
 caps:Win w.Cap 0 500
 sinks:Win w.Sink 0 ((w.Parent.length:Int) - 1)
def Node (w:S_Wire) (i:Nat):Prop:=(i = 0 → gd w.Parent 0 = -1 ∧ gd w.Res 0 = 0) ∧ (0 < i → 0 ≤ gd w.Parent i ∧ gd w.Parent i ≤ (i:Int) - 1)
theorem Wr1 {n:Nat} {w:S_Wire} {s:Int} (h:w.Sink.length ≤ 1048576) (hn:1048577 ≤ n):Tells (VWire w s) (F_s n w s):=by
 rw [F_s]
 refine Tells.bif (fun c=>Tells.no fun v=>?_) (fun c=>?_)
 ·have:=v.many; have:=v.res; have:=v.cap; have:=v.sink
  simp only [Bool.or_eq_true,decide_eq_true_eq,bne_iff_ne,ne_eq] at c; omega
 ·simp only [Bool.or_eq_false_iff,decide_eq_false_iff_not,bne_eq_false_iff_eq] at c
  obtain ⟨⟨⟨⟨c1,c2⟩,c3⟩,c4⟩,c5⟩:=c
  refine (loopT (L:=fun m i=>F_s_L1 n w _ m i) (Q:=Win w.Sink 0 ((w.Parent.length:Int) - 1)) w.Parent.length 0 (fun i=>(0 ≤ gd w.Cap i ∧ gd w.Cap i ≤ 500) ∧ (0 ≤ gd w.Res i ∧ gd w.Res i ≤ 1000) ∧ Node w i) ?_ ?_ n 0 (by omega) (by omega) (by omega) (fun j _ h=>by omega)).iff ⟨fun a=>⟨by omega,by omega,by omega,c5,(a.1 0 (by omega) (by omega)).2.2.1 rfl,fun i h1 h2=>(a.1 i (by omega) h2).2.2.2 h1,fun i hi=>(a.1 i (by omega) (by omega)).2.1,fun i hi=>(a.1 i (by omega) (by omega)).1,a.2⟩,fun v=>⟨fun i _ hi=>⟨v.caps i (by omega),v.ress i (by omega),fun _=>v.root,fun h=>v.tree i h hi⟩,v.sinks⟩⟩
  ·intro m i _ hi
   have w1:IntKind.wrap .i64 ((i:Int) - 1) = (i:Int) - 1:=wrap64 (by omega) (by omega)
   simp only [F_s_L1.eq_2,dlt hi,cT,gI (show i < w.Parent.length by omega),gI (show i < w.Res.length by omega),gI (show i < w.Cap.length by omega),obs,F_1,bif_or,bif_and,w1,wT i]
   cases e1:(!(decide (gd w.Cap i ≥ 0) && decide (gd w.Cap i ≤ 500)) || !(decide (gd w.Res i ≥ 0) && decide (gd w.Res i ≤ 1000))) with
   | true =>
    rw [cT]
    refine .inr ⟨fun g=>?_,rfl⟩
    simp only [Bool.or_eq_true,Bool.not_eq_true',Bool.and_eq_false_iff,decide_eq_false_iff_not] at e1; omega
   | false =>
    rw [cF]
    simp only [Bool.or_eq_false_iff,Bool.not_eq_false',Bool.and_eq_true,decide_eq_true_eq] at e1
    cases e2:((((i:Int) == 0) && ((gd w.Parent i != -1) || (gd w.Res i != 0))) || (decide ((i:Int) > 0) && !(decide (gd w.Parent i ≥ 0) && decide (gd w.Parent i ≤ (i:Int) - 1)))) with
    | true =>
     rw [cT]
     refine .inr ⟨fun g=>?_,rfl⟩
     obtain ⟨_,_,g1,g2⟩:=g
     simp only [Bool.or_eq_true,Bool.not_eq_true',Bool.and_eq_false_iff,Bool.and_eq_true,decide_eq_false_iff_not,decide_eq_true_eq,beq_iff_eq,bne_iff_ne,ne_eq] at e2
     by_cases z:i = 0
     ·subst z; have:=g1 rfl; omega
     ·have:=g2 (by omega); omega
    | false =>
     rw [cF]
     refine .inl ⟨⟨by omega,by omega,?_⟩,rfl⟩
     simp only [Bool.or_eq_false_iff,Bool.not_eq_false',Bool.and_eq_false_iff,Bool.and_eq_true,decide_eq_false_iff_not,decide_eq_true_eq,beq_eq_false_iff_ne,bne_eq_false_iff_eq,ne_eq] at e2
     refine ⟨fun z=>?_,fun z=>by omega⟩
     subst z; omega
  ·intro m i h1 h2 _
   obtain rfl:i = w.Parent.length:=by omega
   have w1:IntKind.wrap .i64 ((w.Parent.length:Int) - 1) = (w.Parent.length:Int) - 1:=wrap64 (by omega) (by omega)
   simp only [F_s_L1.eq_2,dnl,cF]
   refine (loopT (L:=fun m i=>F_s_L2 n w _ m i) (Q:=True) w.Sink.length 0 (fun i=>0 ≤ gd w.Sink i ∧ gd w.Sink i ≤ (w.Parent.length:Int) - 1) ?_ ?_ n 0 (by omega) (by omega) (by omega) (fun j _ h=>by omega)).iff ⟨fun a i hi=>a.1 i (by omega) hi,fun v=>⟨fun i _ hi=>v i hi,trivial⟩⟩
   ·intro m i _ hi
    simp only [F_s_L2.eq_2,dlt hi,cT,gI hi,obs,F_1,w1,wT i]
    cases e:(!(decide (gd w.Sink i ≥ 0) && decide (gd w.Sink i ≤ (w.Parent.length:Int) - 1))) with
    | true=>refine .inr ⟨fun g=>?_,by trivial⟩; simp only [Bool.not_eq_true',Bool.and_eq_false_iff,decide_eq_false_iff_not] at e; omega
    | false=>refine .inl ⟨?_,by trivial⟩; simp only [Bool.not_eq_false',Bool.and_eq_true,decide_eq_true_eq] at e; omega
   ·intro m i h1 h2 _
    obtain rfl:i = w.Sink.length:=by omega
    simp only [F_s_L2.eq_2,dnl,cF]
    exact Tells.yes trivial
theorem Wr2t {n:Nat} {w:S_Wire} (h1:1 ≤ w.Parent.length) (h:w.Parent.length ≤ 8) (h2:w.Res.length = w.Parent.length) (hn:1048577 ≤ n):Tells (∀ i,0 ≤ i → i < w.Parent.length → Node w i) (F_18 n w):=by
 rw [F_18]
 refine (loopT (L:=fun m i=>F_18_L1 n w _ m i) (Q:=True) w.Parent.length 0 (fun i=>Node w i) ?_ ?_ n 0 (by omega) (by omega) (by omega) (fun j _ h=>by omega)).iff ⟨fun a=>a.1,fun a=>⟨a,trivial⟩⟩
 ·intro m i _ hi
  have w1:IntKind.wrap .i64 ((i:Int) - 1) = (i:Int) - 1:=wrap64 (by omega) (by omega)
  have w0:getI w.Res 0 = some (gd w.Res 0):=gI (i:=0) (by omega)
  simp only [F_18_L1.eq_2,dlt hi,cT,gI hi,w0,obs,F_3,bif_or,bif_and,w1,wT i]
  cases e2:((((i:Int) == 0) && ((gd w.Parent i != -1) || (gd w.Res 0 != 0))) || (decide ((i:Int) > 0) && !(decide (gd w.Parent i ≥ 0) && decide (gd w.Parent i ≤ (i:Int) - 1)))) with
  | true =>
   rw [cT]
   refine .inr ⟨fun g=>?_,rfl⟩
   obtain ⟨g1,g2⟩:=g
   simp only [Bool.or_eq_true,Bool.not_eq_true',Bool.and_eq_false_iff,Bool.and_eq_true,decide_eq_false_iff_not,decide_eq_true_eq,beq_iff_eq,bne_iff_ne,ne_eq] at e2
   by_cases z:i = 0
   ·subst z; have:=g1 rfl; omega
   ·have:=g2 (by omega); omega
  | false =>
   rw [cF]
   refine .inl ⟨?_,rfl⟩
   simp only [Bool.or_eq_false_iff,Bool.not_eq_false',Bool.and_eq_false_iff,Bool.and_eq_true,decide_eq_false_iff_not,decide_eq_true_eq,beq_eq_false_iff_ne,bne_eq_false_iff_eq,ne_eq] at e2
   refine ⟨fun z=>?_,fun z=>by omega⟩
   subst z; omega
 ·intro m i h1 h2 _
  obtain rfl:i = w.Parent.length:=by omega
  simp only [F_18_L1.eq_2,dnl,cF]
  exact Tells.yes trivial
theorem Tells.and {P Q:Prop} {o:Option Bool} {c:Bool} (hc:c = true ↔ P) (h:P → Tells Q o):Tells (P ∧ Q) (bif c then o else some false):=by
 cases c with
 | true=>exact (h (hc.1 rfl)).iff ⟨fun q=>⟨hc.1 rfl,q⟩,fun q=>q.2⟩
 | false=>exact Tells.no fun q=>by have:=hc.2 q.1; cases this
theorem Tells.ab {P R:Prop} {o:Option Bool} {f:Bool → Option Bool} (h:Tells P o) (k:∀ c:Bool,(c = true ↔ P) → Tells R (f c)):Tells R (Option.bind o f):=by
 obtain ⟨b,rfl,h⟩:=h
 exact k b h
theorem bind_eta {o:Option Bool}:(Option.bind o fun r=>some r) = o:=by cases o <;> rfl
theorem Wr2 {n:Nat} {w:S_Wire} {s:Int} (h:w.Sink.length ≤ 1048576) (hr:w.Res.length ≤ 1048576) (hc:w.Cap.length ≤ 1048576) (hp:w.Parent.length ≤ 1048576) (hn:1048577 ≤ n):Tells (VWire w s) (F_4a n w s):=by
 have w1:IntKind.wrap .i64 ((w.Parent.length:Int) - 1) = (w.Parent.length:Int) - 1:=wrap64 (by omega) (by omega)
 rw [F_4a]
 simp only [F_07,F_3,obs,w1,bif_and,bind_eta]
 refine Tells.ab (Tells.and (P:=(1 ≤ w.Parent.length ∧ w.Parent.length ≤ 8) ∧ w.Res.length = w.Parent.length ∧ w.Cap.length = w.Parent.length) (Q:=∀ i,0 ≤ i → i < w.Parent.length → Node w i) ?_ fun p=>Wr2t p.1.1 p.1.2 p.2.1 hn) fun c1 e1=>?_
 ·simp only [Bool.and_eq_true,decide_eq_true_eq,beq_iff_eq]; omega
 refine Tells.ab (Tells.and e1 fun _=>loopW hr hn) fun c2 e2=>?_
 refine Tells.ab (Tells.and e2 fun _=>loopW hc hn) fun c3 e3=>?_
 refine (Tells.and (P:=(((((1 ≤ w.Parent.length ∧ w.Parent.length ≤ 8) ∧ w.Res.length = w.Parent.length ∧ w.Cap.length = w.Parent.length) ∧ ∀ i,0 ≤ i → i < w.Parent.length → Node w i) ∧ Win w.Res 0 1000) ∧ Win w.Cap 0 500) ∧ (w.Sink.length:Int) = s) ?_ fun _=>loopW h hn).iff ⟨fun ⟨⟨⟨⟨⟨⟨a,b,c⟩,t⟩,r⟩,k⟩,s1⟩,s2⟩=>⟨a,b,c,s1,(t 0 (by omega) (by omega)).1 rfl,fun i h1 h2=>(t i (by omega) h2).2 h1,r,k,s2⟩,fun v=>⟨⟨⟨⟨⟨⟨v.many,v.res,v.cap⟩,fun i _ hi=>⟨fun _=>v.root,fun h=>v.tree i h hi⟩⟩,v.ress⟩,v.caps⟩,v.sink⟩,v.sinks⟩⟩
 rw [Bool.and_eq_true,e3,beq_iff_eq]
def bumpT (t:List Int) (q:Int):List Int:=t.set q.toNat (gd t q.toNat + 1)
def lastN (x:S_Instance):Int:=gd x.Nets (x.Nets.length - 1)
def cI (t:List Int) (x:S_Instance):List Int:=bumpT t (lastN x)
def cP (t:List Int) (p:S_Port):List Int:=if p.Dir = 1 then bumpT t p.Net else t
def drv (d:S_Design):List Int:=d.Ports.foldl cP (d.Instances.foldl cI (List.replicate d.Nets.length 0))
structure VInst (l:S_Library) (d:S_Design) (x:S_Instance):Prop where
 cell:0 ≤ x.Cell ∧ x.Cell ≤ (l.Cells.length:Int) - 1
 pins:∀ c,getI l.Cells x.Cell = some c → x.Nets.length = c.Pins.length
 nets:Win x.Nets 0 ((d.Nets.length:Int) - 1)
structure VPort (d:S_Design) (p:S_Port):Prop where
 dir:p.Dir = 1 ∨ p.Dir = 2
 net:0 ≤ p.Net ∧ p.Net ≤ (d.Nets.length:Int) - 1
structure VDesign (l:S_Library) (d:S_Design):Prop where
 lib:VLib l
 few:d.Instances.length ≤ 14 ∧ d.Nets.length ≤ 30 ∧ d.Ports.length ≤ 8
 inst:∀ x ∈ d.Instances,VInst l d x
 port:∀ p ∈ d.Ports,VPort d p
 ni:NamesOK (d.Instances.map (·.Name))
 np:NamesOK (d.Ports.map (·.Name))
 nn:NamesOK d.Nets
 one:∀ i,i < d.Nets.length → gd (drv d) i = 1
structure SMDs (d:S_Design):Prop where
 inst:d.Instances.length ≤ 1048576 ∧ ∀ x ∈ d.Instances,x.Name.size ≤ 1048576 ∧ x.Nets.length ≤ 1048576
 nets:d.Nets.length ≤ 1048576 ∧ ∀ x ∈ d.Nets,x.size ≤ 1048576
 ports:d.Ports.length ≤ 1048576 ∧ ∀ p ∈ d.Ports,p.Name.size ≤ 1048576
theorem VInst.long {l:S_Library} {d:S_Design} {x:S_Instance} (v:VInst l d x) (hl:VLib l):2 ≤ x.Nets.length ∧ x.Nets.length ≤ 5:=by
 obtain ⟨c,e,hc⟩:=getI_ok (xs:=l.Cells) v.cell.1 (by have:=v.cell.2; omega)
 have h:=v.pins c e
 obtain ⟨h1,h2⟩:=List.getElem?_eq_some_iff.1 hc
 have:=(hl.cells _ h1).pins.few
 rw [h2] at this; omega
theorem VInst.last {l:S_Library} {d:S_Design} {x:S_Instance} (v:VInst l d x) (hl:VLib l):0 ≤ lastN x ∧ lastN x < d.Nets.length:=by
 have:=v.long hl
 have:=v.nets (x.Nets.length - 1) (by omega)
 unfold lastN; omega
theorem loop_names {α:Type} {xs:List α} (nm:α → ByteArray) {L:Nat → List ByteArray → Int → Option Bool} {k:List ByteArray → Option Bool} (hl:xs.length ≤ 1048576)
 (hs:∀ (m i:Nat) (h:i < xs.length) (s:List ByteArray),L (m + 1) s (i:Int) = Option.bind (appN s [nm xs[i]] 16) fun z=>L m z ((i + 1:Nat):Int))
 (he:∀ (m:Nat) (s:List ByteArray),L (m + 1) s (xs.length:Int) = k s) (m:Nat) (hm:xs.length < m):L m [] 0 = k (xs.map nm):=by
 refine loop (L:=fun m i s=>L m s i) xs.length (fun i s=>s = (xs.take i).map nm) (fun o=>o = k (xs.map nm)) ?_ ?_ m 0 [] (by omega) (by omega) (by simp)
 ·intro m i s hi e
  refine .inl ⟨s ++ [nm xs[i]],?_,?_⟩
  ·rw [e,List.take_succ_eq_append_getElem hi,List.map_append]; rfl
  ·have:s.length = i:=by rw [e]; simp; omega
   show L (m + 1) s (i:Int) = _
   rw [hs m i hi,appN_ok (by simp; omega) (by omega),obs]
 ·intro m s e
  rw [List.take_length] at e
  show L (m + 1) s (xs.length:Int) = _
  rw [he,e]
def Ctr (N B:Nat) (t:List Int):Prop:=t.length = N ∧ ∀ j,0 ≤ gd t j ∧ gd t j ≤ B
theorem Ctr.bump {N B:Nat} {t:List Int} {q:Int} (h:Ctr N B t) (h0:0 ≤ q) (h1:q < N):Ctr N (B + 1) (bumpT t q):=by
 refine ⟨by unfold bumpT; simpa using h.1,fun j=>?_⟩
 unfold bumpT
 rw [gd_set (by have:=h.1; omega)]
 have:=h.2 j; have:=h.2 q.toNat
 split <;> omega
theorem Ctr.up {N B:Nat} {t:List Int} (h:Ctr N B t):Ctr N (B + 1) t:=⟨h.1,fun j=>by have:=h.2 j; omega⟩
theorem Ctr.step {N B:Nat} {t:List Int} {q:Int} (h:Ctr N B t) (h0:0 ≤ q) (h1:q < N) (hB:B ≤ 1048576):getI t q = some (gd t q.toNat) ∧ t.set q.toNat (IntKind.wrap .i64 (gd t q.toNat + 1)) = bumpT t q:=by
 refine ⟨getI_gd h0 (by rw [h.1]; exact h1),?_⟩
 have:=h.2 q.toNat
 rw [wrap64 (by omega) (by omega)]; rfl
theorem foldl_take {α σ:Type} {f:σ → α → σ} {xs:List α} {i:Nat} {s:σ} (h:i < xs.length):(xs.take (i + 1)).foldl f s = f ((xs.take i).foldl f s) xs[i]:=by
 rw [List.take_succ_eq_append_getElem h,List.foldl_append]; rfl
theorem Pa1 {n:Nat} {l:S_Library} {d:S_Design} (hl:VLib l) (h:SMDs d) (hn:1048577 ≤ n):Tells ((∀ x ∈ d.Instances,VInst l d x) ∧ ∀ p ∈ d.Ports,VPort d p) (F_5 n l d):=by
 have hi0:=h.inst.1; have hp0:=h.ports.1; have hn0:=h.nets.1; have hl0:=hl.few
 have wN:IntKind.wrap .i64 ((d.Nets.length:Int) - 1) = (d.Nets.length:Int) - 1:=wrap64 (by omega) (by omega)
 have wL:IntKind.wrap .i64 ((l.Cells.length:Int) - 1) = (l.Cells.length:Int) - 1:=wrap64 (by omega) (by omega)
 rw [F_5]
 refine (loopT (L:=fun m i=>F_5_L1 n l d _ m i) (Q:=∀ p ∈ d.Ports,VPort d p) d.Instances.length 0 (fun i=>∀ (hi:i < d.Instances.length),VInst l d d.Instances[i]) ?_ ?_ n 0 (by omega) (by omega) (by omega) (fun j _ h=>by omega)).iff ⟨fun a=>⟨fun x hx=>?_,a.2⟩,fun a=>⟨fun i _ _ hi=>a.1 _ (List.getElem_mem hi),a.2⟩⟩
 ·intro m i _ hi
  simp only [F_5_L1.eq_2,dlt hi,cT,getI_el hi,obs,F_1,wL,wT i]
  by_cases c1:0 ≤ d.Instances[i].Cell ∧ d.Instances[i].Cell ≤ (l.Cells.length:Int) - 1
  ·obtain ⟨c,ec,hc⟩:=getI_ok (xs:=l.Cells) c1.1 (by omega)
   have d1:(decide (d.Instances[i].Cell ≥ 0) && decide (d.Instances[i].Cell ≤ (l.Cells.length:Int) - 1)) = true:=by simp only [Bool.and_eq_true,decide_eq_true_eq]; omega
   simp only [d1,Bool.not_true,cF,ec,obs]
   by_cases c2:d.Instances[i].Nets.length = c.Pins.length
   ·have d2:((d.Instances[i].Nets.length:Int) != (c.Pins.length:Int)) = false:=by rw [bne_eq_false_iff_eq]; omega
    simp only [d2,cF]
    have hnl:=(h.inst.2 _ (List.getElem_mem hi)).2
    have key:F_5_L2 n d d.Instances[i] (fun i75=>F_5_L1 n l d (fun i25=>F_5_L3 n d (fun i30=>some true) n 0) m ((i + 1:Nat):Int)) n 0 = bif d.Instances[i].Nets.all (fun k=>decide (k ≥ 0) && decide (k ≤ (d.Nets.length:Int) - 1)) then F_5_L1 n l d (fun i25=>F_5_L3 n d (fun i30=>some true) n 0) m ((i + 1:Nat):Int) else some false:=by
     refine loop_all (xs:=d.Instances[i].Nets) (L:=fun q j=>F_5_L2 n d d.Instances[i] (fun i75=>F_5_L1 n l d (fun i25=>F_5_L3 n d (fun i30=>some true) n 0) m ((i + 1:Nat):Int)) q j) _ ?_ ?_ n (by omega)
     ·intro q j hj
      simp only [F_5_L2.eq_2,dlt hj,cT,getI_el hj,obs,F_1,wN,wT j]
      cases (decide (d.Instances[i].Nets[j] ≥ 0) && decide (d.Instances[i].Nets[j] ≤ (d.Nets.length:Int) - 1)) <;> rfl
     ·intro q
      simp only [F_5_L2.eq_2,dnl,cF]
    rw [key]
    cases ha:d.Instances[i].Nets.all (fun k=>decide (k ≥ 0) && decide (k ≤ (d.Nets.length:Int) - 1)) with
    | true =>
     rw [cT]
     exact .inl ⟨fun _=>⟨c1,fun c' e'=>(by rw [ec] at e'; cases e'; exact c2),AllGd.1 ha⟩,rfl⟩
    | false =>
     rw [cF]
     exact .inr ⟨fun g=>(by have:=AllGd.2 (g hi).nets; rw [ha] at this; cases this),rfl⟩
   ·have d2:((d.Instances[i].Nets.length:Int) != (c.Pins.length:Int)) = true:=by rw [bne_iff_ne]; omega
    simp only [d2,cT]
    exact .inr ⟨fun g=>c2 ((g hi).pins c ec),by trivial⟩
  ·have d1:(decide (d.Instances[i].Cell ≥ 0) && decide (d.Instances[i].Cell ≤ (l.Cells.length:Int) - 1)) = false:=by rw [Bool.and_eq_false_iff,decide_eq_false_iff_not,decide_eq_false_iff_not]; omega
   simp only [d1,Bool.not_false,cT,obs]
   exact .inr ⟨fun g=>c1 (g hi).cell,by trivial⟩
 ·intro m i h1 h2 _
  obtain rfl:i = d.Instances.length:=by omega
  simp only [F_5_L1.eq_2,dnl,cF]
  refine (loopT (L:=fun m i=>F_5_L3 n d _ m i) (Q:=True) d.Ports.length 0 (fun i=>∀ (hi:i < d.Ports.length),VPort d d.Ports[i]) ?_ ?_ n 0 (by omega) (by omega) (by omega) (fun j _ h=>by omega)).iff ⟨fun a p hp=>?_,fun a=>⟨fun i _ _ hi=>a _ (List.getElem_mem hi),trivial⟩⟩
  ·intro m i _ hi
   simp only [F_5_L3.eq_2,dlt hi,cT,getI_el hi,obs,F_1,wN,bif_or,wT i]
   cases e1:(!(decide (d.Ports[i].Dir ≥ 1) && decide (d.Ports[i].Dir ≤ 2)) || !(decide (d.Ports[i].Net ≥ 0) && decide (d.Ports[i].Net ≤ (d.Nets.length:Int) - 1))) with
   | true =>
    rw [cT]
    refine .inr ⟨fun g=>?_,rfl⟩
    have:=(g hi).dir; have:=(g hi).net
    simp only [Bool.or_eq_true,Bool.not_eq_true',Bool.and_eq_false_iff,decide_eq_false_iff_not] at e1; omega
   | false =>
    rw [cF]
    simp only [Bool.or_eq_false_iff,Bool.not_eq_false',Bool.and_eq_true,decide_eq_true_eq] at e1
    exact .inl ⟨fun _=>⟨by omega,by omega⟩,rfl⟩
  ·intro m i h1 h2 _
   obtain rfl:i = d.Ports.length:=by omega
   simp only [F_5_L3.eq_2,dnl,cF]
   exact Tells.yes trivial
  ·obtain ⟨j,hj,rfl⟩:=List.getElem_of_mem hp
   exact a.1 j (by omega) hj hj
 ·obtain ⟨j,hj,rfl⟩:=List.getElem_of_mem hx
  exact a.1 j (by omega) hj hj
theorem Dg1 {n:Nat} {l:S_Library} {d:S_Design} (h:SMLb l) (hd:SMDs d) (hn:1048577 ≤ n):Tells (VDesign l d) (F_0 n l d):=by
 have hi0:=hd.inst.1; have hp0:=hd.ports.1; have hn0:=hd.nets.1
 rw [F_0]
 refine (Lb1 h hn).bind (fun vl=>?_) (fun vl=>?_)
 ·simp only [Bool.not_true,Bool.false_or]
  by_cases c:(d.Instances.length ≤ 14 ∧ d.Nets.length ≤ 30) ∧ d.Ports.length ≤ 8
  ·have e:(decide ((d.Instances.length:Int) > 14) || decide ((d.Nets.length:Int) > 30) || decide ((d.Ports.length:Int) > 8)) = false:=by simp only [Bool.or_eq_false_iff,decide_eq_false_iff_not]; omega
   simp only [e,cF]
   obtain ⟨b,eb,hb⟩:=Pa1 (n:=n) vl hd hn
   rw [eb,obs,obs]
   cases b with
   | false =>
    simp only [Bool.not_false,cT]
    exact Tells.no fun v=>by have:=hb.2 ⟨v.inst,v.port⟩; cases this
   | true =>
    obtain ⟨v1,v2⟩:=hb.1 rfl
    simp only [Bool.not_true,cF]
    rw [loop_names (xs:=d.Instances) (·.Name) (L:=fun m s i=>F_0_L1 d _ m s i) (k:=fun s=>F_0_L2 d _ n [] 0) hi0 (by
     intro m i hi s
     simp only [F_0_L1.eq_2,dlt hi,cT,getI_el hi,obs,wT i]) (by
     intro m s
     simp only [F_0_L1.eq_2,dnl,cF]; rfl) n (by omega)]
    rw [loop_names (xs:=d.Ports) (·.Name) (L:=fun m s i=>F_0_L2 d _ m s i) hp0 (by
     intro m i hi s
     simp only [F_0_L2.eq_2,dlt hi,cT,getI_el hi,obs,wT i]) (by
     intro m s
     simp only [F_0_L2.eq_2,dnl,cF]; rfl) n (by omega)]
    obtain ⟨b1,e1,h1⟩:=l05N (n:=n) (xs:=d.Instances.map (·.Name)) (by simpa using hi0) (fun x hx=>by obtain ⟨y,hy,rfl⟩:=List.mem_map.1 hx; exact (hd.inst.2 y hy).1) hn
    obtain ⟨b2,e2,h2⟩:=l05N (n:=n) (xs:=d.Ports.map (·.Name)) (by simpa using hp0) (fun x hx=>by obtain ⟨y,hy,rfl⟩:=List.mem_map.1 hx; exact hd.ports.2 y hy) hn
    obtain ⟨b3,e3,h3⟩:=l05N (n:=n) (xs:=d.Nets) hn0 hd.nets.2 hn
    simp only [e1,e2,e3,obs,bif_or]
    cases eb:((!b1 || !b2) || !b3) with
    | true =>
     rw [cT]
     refine Tells.no fun v=>?_
     have:=h1.2 v.ni; have:=h2.2 v.np; have:=h3.2 v.nn
     subst b1 b2 b3; cases eb
    | false =>
     rw [cF]
     simp only [Bool.or_eq_false_iff,Bool.not_eq_false'] at eb
     obtain ⟨⟨rfl,rfl⟩,rfl⟩:=eb
     rw [mkN_ok (by omega) (by omega),obs]
     have k1:=loop_fold (xs:=d.Instances) (L:=fun m i s=>F_0_L3 d (fun i149 l151=>F_0_L4 d (fun i155 l157=>F_0_L5 l157 (fun i161=>some true) n 0) n 0 l151) m i s) (k:=fun s=>F_0_L4 d (fun i155 l157=>F_0_L5 l157 (fun i161=>some true) n 0) n 0 s) cI (fun i s=>Ctr d.Nets.length i s) (by
      intro m i hi s hs
      have hv:=v1 _ (List.getElem_mem hi)
      have hv2:=hv.long vl
      obtain ⟨q0,q1⟩:=hv.last vl
      obtain ⟨g1,g2⟩:=hs.step q0 q1 (by omega)
      have wx:IntKind.wrap .i64 ((d.Instances[i].Nets.length:Int) - 1) = ((d.Instances[i].Nets.length - 1:Nat):Int):=by rw [wrap64 (by omega) (by omega)]; omega
      refine ⟨?_,hs.bump q0 q1⟩
      simp only [F_0_L3.eq_2,dlt hi,cT,getI_el hi,obs,wx,gI (show d.Instances[i].Nets.length - 1 < d.Instances[i].Nets.length by omega),wT i]
      rw [show gd d.Instances[i].Nets (d.Instances[i].Nets.length - 1) = lastN d.Instances[i] from rfl,g1,obs,obs,g2]; rfl) (by
      intro m s _
      simp only [F_0_L3.eq_2,dnl,cF]) n (List.replicate d.Nets.length 0) ⟨by simp,fun j=>by rw [gd_rep]; omega⟩ (by omega)
     rw [k1.1]
     have k2:=loop_fold (xs:=d.Ports) (L:=fun m i s=>F_0_L4 d (fun i155 l157=>F_0_L5 l157 (fun i161=>some true) n 0) m i s) (k:=fun s=>F_0_L5 s (fun i161=>some true) n 0) cP (fun i s=>Ctr d.Nets.length (d.Instances.length + i) s) (by
      intro m i hi s hs
      have hv:=v2 _ (List.getElem_mem hi)
      obtain ⟨g1,g2⟩:=hs.step hv.net.1 (by have:=hv.net.2; omega) (by omega)
      simp only [F_0_L4.eq_2,dlt hi,cT,getI_el hi,obs,wT i,g1,g2]
      by_cases c:d.Ports[i].Dir = 1
      ·have e:(d.Ports[i].Dir == 1) = true:=beq_iff_eq.2 c
       have e':cP s d.Ports[i] = bumpT s d.Ports[i].Net:=if_pos c
       rw [e,cT,e']
       exact ⟨rfl,hs.bump hv.net.1 (by have:=hv.net.2; omega)⟩
      ·have e:(d.Ports[i].Dir == 1) = false:=beq_eq_false_iff_ne.2 c
       have e':cP s d.Ports[i] = s:=if_neg c
       rw [e,cF,e']
       exact ⟨rfl,hs.up⟩) (by
      intro m s _
      simp only [F_0_L4.eq_2,dnl,cF]) n _ k1.2 (by omega)
     rw [k2.1]
     show Tells _ (F_0_L5 (drv d) (fun i161=>some true) n 0)
     have hlen:(drv d).length = d.Nets.length:=k2.2.1
     refine (loopT (L:=fun m i=>F_0_L5 (drv d) (fun i161=>some true) m i) (Q:=True) d.Nets.length 0 (fun i=>gd (drv d) i = 1) ?_ ?_ n 0 (by omega) (by omega) (by omega) (fun j _ h=>by omega)).iff ⟨fun a=>⟨vl,⟨c.1.1,c.1.2,c.2⟩,v1,v2,h1.1 rfl,h2.1 rfl,h3.1 rfl,fun i hi=>a.1 i (by omega) hi⟩,fun v=>⟨fun i _ hi=>v.one i hi,trivial⟩⟩
     ·intro m i _ hi
      have hi':i < (drv d).length:=by omega
      simp only [F_0_L5.eq_2,dlt hi',cT,gI hi',obs,wT i]
      by_cases c:gd (drv d) i = 1
      ·have e:(gd (drv d) i != 1) = false:=bne_eq_false_iff_eq.2 c
       rw [e,cF]; exact .inl ⟨c,rfl⟩
      ·have e:(gd (drv d) i != 1) = true:=bne_iff_ne.2 c
       rw [e,cT]; exact .inr ⟨c,rfl⟩
     ·intro m i q1 q2 _
      obtain rfl:i = d.Nets.length:=by omega
      rw [← hlen]
      simp only [F_0_L5.eq_2,dnl,cF]
      exact Tells.yes trivial
  ·have e:(decide ((d.Instances.length:Int) > 14) || decide ((d.Nets.length:Int) > 30) || decide ((d.Ports.length:Int) > 8)) = true:=by simp only [Bool.or_eq_true,decide_eq_true_eq]; omega
   simp only [e,cT,obs]
   exact Tells.no fun v=>c ⟨⟨v.few.1,v.few.2.1⟩,v.few.2.2⟩
 ·simp only [Bool.not_false,Bool.true_or,cT,obs]
  exact Tells.no fun v=>vl v.lib
theorem Hn2 {n:Nat} {d:S_Design} (hd:SMDs d) (hn:1048577 ≤ n):Tells (((((d.Instances.length ≤ 14 ∧ d.Nets.length ≤ 30) ∧ d.Ports.length ≤ 8) ∧ NamesOK (d.Instances.map (·.Name))) ∧ NamesOK d.Nets) ∧ NamesOK (d.Ports.map (·.Name))) (F_p n d):=by
 have hi0:=hd.inst.1; have hp0:=hd.ports.1; have hn0:=hd.nets.1
 rw [F_p]
 rw [loop_names (xs:=d.Instances) (·.Name) (L:=fun m s i=>F_p_L1 d _ m s i) (k:=fun s=>F_p_L2 d _ n [] 0) hi0 (by
  intro m i hi s
  simp only [F_p_L1.eq_2,dlt hi,cT,getI_el hi,obs,wT i]) (by
  intro m s
  simp only [F_p_L1.eq_2,dnl,cF]; rfl) n (by omega)]
 rw [loop_names (xs:=d.Ports) (·.Name) (L:=fun m s i=>F_p_L2 d _ m s i) hp0 (by
  intro m i hi s
  simp only [F_p_L2.eq_2,dlt hi,cT,getI_el hi,obs,wT i]) (by
  intro m s
  simp only [F_p_L2.eq_2,dnl,cF]; rfl) n (by omega)]
 simp only [bind_eta,List.length_map]
 refine Tells.ab (Tells.and (P:=(d.Instances.length ≤ 14 ∧ d.Nets.length ≤ 30) ∧ d.Ports.length ≤ 8) (Q:=NamesOK (d.Instances.map fun x:S_Instance=>x.Name)) ?_ fun _=>AN (xs:=d.Instances.map fun x:S_Instance=>x.Name) (by simpa using hi0) (fun x hx=>by obtain ⟨y,hy,rfl⟩:=List.mem_map.1 hx; exact (hd.inst.2 y hy).1) hn) fun c1 e1=>?_
 ·simp only [Bool.and_eq_true,decide_eq_true_eq]; omega
 refine Tells.ab (Tells.and (Q:=NamesOK d.Nets) e1 fun _=>AN hn0 hd.nets.2 hn) fun c2 e2=>?_
 exact Tells.and (Q:=NamesOK (d.Ports.map fun x:S_Port=>x.Name)) e2 fun _=>AN (xs:=d.Ports.map fun x:S_Port=>x.Name) (by simpa using hp0) (fun x hx=>by obtain ⟨y,hy,rfl⟩:=List.mem_map.1 hx; exact hd.ports.2 y hy) hn
theorem nN {n:Nat} {d:S_Design} {q:Int} (hn0:d.Nets.length ≤ 1048576):F_2y n d q = some (decide (q ≥ 0) && decide (q ≤ (d.Nets.length:Int) - 1)):=by
 have wN:IntKind.wrap .i64 ((d.Nets.length:Int) - 1) = (d.Nets.length:Int) - 1:=wrap64 (by omega) (by omega)
 simp only [F_2y,F_4s,F_3,obs,wN]
theorem Ins2 {n:Nat} {l:S_Library} {d:S_Design} {x:S_Instance} (hl:VLib l) (hn0:d.Nets.length ≤ 1048576) (hx:x.Nets.length ≤ 1048576) (hn:1048577 ≤ n):Tells (VInst l d x) (F_49 n d l x):=by
 have hl0:=hl.few
 have wL:IntKind.wrap .i64 ((l.Cells.length:Int) - 1) = (l.Cells.length:Int) - 1:=wrap64 (by omega) (by omega)
 rw [F_49]
 simp only [F_4r,F_3,obs,wL,bind_eta]
 by_cases c1:0 ≤ x.Cell ∧ x.Cell ≤ (l.Cells.length:Int) - 1
 ·obtain ⟨c,ec,hc⟩:=getI_ok (xs:=l.Cells) c1.1 (by omega)
  have d1:(decide (x.Cell ≥ 0) && decide (x.Cell ≤ (l.Cells.length:Int) - 1)) = true:=by simp only [Bool.and_eq_true,decide_eq_true_eq]; omega
  simp only [d1,cT,ec,obs]
  by_cases c2:x.Nets.length = c.Pins.length
  ·have d2:((x.Nets.length:Int) == (c.Pins.length:Int)) = true:=by rw [beq_iff_eq]; omega
   simp only [d2,cT,F_4u,F_1v]
   obtain ⟨r,e,h⟩:=loop_has (xs:=x.Nets) (L:=fun m i=>F_1v_L1 n x.Nets d (fun i7=>(some (-1))) m i) (fun q=>!((decide (q ≥ 0)) && (decide (q ≤ (d.Nets.length:Int) - 1)))) (by
    intro m i hi
    simp only [F_1v_L1.eq_2,dlt hi,cT,getI_el hi,obs,F_4t,nN hn0,wT i]) (by
    intro m
    simp only [F_1v_L1.eq_2,dnl,cF]) n (by omega)
   simp only [e,obs]
   refine (Tells.val (P:=Win x.Nets 0 ((d.Nets.length:Int) - 1)) ?_).iff ⟨fun w=>⟨c1,fun c' e'=>(by rw [ec] at e'; cases e'; exact c2),w⟩,fun v=>v.nets⟩
   rw [h,List.any_eq_not_all_not,Bool.not_not]
   simp only [Bool.not_not]
   exact AllGd
  ·have d2:((x.Nets.length:Int) == (c.Pins.length:Int)) = false:=by rw [beq_eq_false_iff_ne]; omega
   simp only [d2,cF]
   exact Tells.no fun v=>c2 (v.pins c ec)
 ·have d1:(decide (x.Cell ≥ 0) && decide (x.Cell ≤ (l.Cells.length:Int) - 1)) = false:=by rw [Bool.and_eq_false_iff,decide_eq_false_iff_not,decide_eq_false_iff_not]; omega
  simp only [d1,cF,obs]
  exact Tells.no fun v=>c1 v.cell
theorem Dg2 {n:Nat} {l:S_Library} {d:S_Design} (h:SMLb l) (hd:SMDs d) (hn:1048577 ≤ n):Tells (VDesign l d) (F_q n l d):=by
 have hi0:=hd.inst.1; have hp0:=hd.ports.1; have hn0:=hd.nets.1
 rw [F_q]
 refine (Lb2 h hn).bind (fun vl=>?_) (fun vl=>?_)
 ·simp only [Bool.not_true,cF]
  obtain ⟨b,eb,hb⟩:=Hn2 (n:=n) hd hn
  rw [eb,obs,obs]
  cases b with
  | false =>
   simp only [Bool.not_false,cT]
   exact Tells.no fun v=>by have:=hb.2 ⟨⟨⟨⟨⟨v.few.1,v.few.2.1⟩,v.few.2.2⟩,v.ni⟩,v.nn⟩,v.np⟩; cases this
  | true =>
   obtain ⟨⟨⟨c,hni⟩,hnn⟩,hnp⟩:=hb.1 rfl
   simp only [Bool.not_true,cF]
   rw [mkN_ok (by omega) (by omega),obs]
   refine loop (L:=fun m i s=>F_q_L1 n l d _ m i s) d.Instances.length (fun i s=>(s = (d.Instances.take i).foldl cI (List.replicate d.Nets.length 0) ∧ Ctr d.Nets.length i s) ∧ ∀ j (hj:j < d.Instances.length),j < i → VInst l d d.Instances[j]) (fun o=>Tells (VDesign l d) o) ?_ ?_ n 0 _ (by omega) (by omega) ⟨⟨by simp,⟨by simp,fun j=>by rw [gd_rep]; omega⟩⟩,fun j _ h=>by omega⟩
   ·intro m i s hi ⟨⟨hs,hc⟩,hI⟩
    obtain ⟨b,eb,hb⟩:=Ins2 (n:=n) vl hn0 (hd.inst.2 _ (List.getElem_mem hi)).2 hn
    simp only [F_q_L1.eq_2,dlt hi,cT,getI_el hi,obs,eb,wT i]
    cases b with
    | false =>
     simp only [Bool.not_false,cT]
     exact .inr (Tells.no fun v=>by have:=hb.2 (v.inst _ (List.getElem_mem hi)); cases this)
    | true =>
     simp only [Bool.not_true,cF]
     have hv:=hb.1 rfl
     have hv2:=hv.long vl
     obtain ⟨q0,q1⟩:=hv.last vl
     obtain ⟨g1,g2⟩:=hc.step q0 q1 (by omega)
     have wx:IntKind.wrap .i64 ((d.Instances[i].Nets.length:Int) - 1) = ((d.Instances[i].Nets.length - 1:Nat):Int):=by rw [wrap64 (by omega) (by omega)]; omega
     refine .inl ⟨cI s d.Instances[i],⟨⟨by rw [foldl_take hi,hs],hc.bump q0 q1⟩,fun j hj hji=>?_⟩,?_⟩
     ·by_cases ej:j = i
      ·subst ej; exact hv
      ·exact hI j hj (by omega)
     ·rw [wx,gI (show d.Instances[i].Nets.length - 1 < d.Instances[i].Nets.length by omega),show gd d.Instances[i].Nets (d.Instances[i].Nets.length - 1) = lastN d.Instances[i] from rfl,obs,g1,obs,obs,g2]; rfl
   ·intro m s ⟨⟨hs,hc⟩,hI⟩
    rw [List.take_length] at hs
    have v1:∀ x ∈ d.Instances,VInst l d x:=fun x hx=>by obtain ⟨j,hj,rfl⟩:=List.getElem_of_mem hx; exact hI j hj hj
    simp only [F_q_L1.eq_2,dnl,cF]
    refine loop (L:=fun m i s=>F_q_L2 n d _ m i s) d.Ports.length (fun i s'=>(s' = (d.Ports.take i).foldl cP s ∧ Ctr d.Nets.length (d.Instances.length + i) s') ∧ ∀ j (hj:j < d.Ports.length),j < i → VPort d d.Ports[j]) (fun o=>Tells (VDesign l d) o) ?_ ?_ n 0 _ (by omega) (by omega) ⟨⟨by simp,hc⟩,fun j _ h=>by omega⟩
    ·intro m i s' hi ⟨⟨hs',hc'⟩,hI'⟩
     simp only [F_q_L2.eq_2,dlt hi,cT,getI_el hi,obs,nN hn0,bif_or,wT i]
     cases e1:(((d.Ports[i].Dir != 1) && (d.Ports[i].Dir != 2)) || !(decide (d.Ports[i].Net ≥ 0) && decide (d.Ports[i].Net ≤ (d.Nets.length:Int) - 1))) with
     | true =>
      rw [cT]
      refine .inr (Tells.no fun v=>?_)
      have g:=v.port _ (List.getElem_mem hi)
      have:=g.dir; have:=g.net
      simp only [Bool.or_eq_true,Bool.not_eq_true',Bool.and_eq_false_iff,Bool.and_eq_true,decide_eq_false_iff_not,bne_iff_ne,ne_eq] at e1; omega
     | false =>
      rw [cF]
      simp only [Bool.or_eq_false_iff,Bool.not_eq_false',Bool.and_eq_true,Bool.and_eq_false_iff,decide_eq_true_eq,bne_eq_false_iff_eq] at e1
      have hv:VPort d d.Ports[i]:=⟨e1.1,e1.2⟩
      obtain ⟨g1,g2⟩:=hc'.step hv.net.1 (by have:=hv.net.2; omega) (by omega)
      have hV:∀ j (hj:j < d.Ports.length),j < i + 1 → VPort d d.Ports[j]:=fun j hj hji=>by
       by_cases ej:j = i
       ·subst ej; exact hv
       ·exact hI' j hj (by omega)
      simp only [g1,g2,obs]
      by_cases c:d.Ports[i].Dir = 1
      ·have e:(d.Ports[i].Dir == 1) = true:=beq_iff_eq.2 c
       have e':cP s' d.Ports[i] = bumpT s' d.Ports[i].Net:=if_pos c
       rw [e,cT]
       exact .inl ⟨_,⟨⟨by rw [foldl_take hi,← hs',e'],hc'.bump hv.net.1 (by have:=hv.net.2; omega)⟩,hV⟩,rfl⟩
      ·have e:(d.Ports[i].Dir == 1) = false:=beq_eq_false_iff_ne.2 c
       have e':cP s' d.Ports[i] = s':=if_neg c
       rw [e,cF]
       exact .inl ⟨_,⟨⟨by rw [foldl_take hi,← hs',e'],hc'.up⟩,hV⟩,rfl⟩
    ·intro m s' ⟨⟨hs',hc'⟩,hI'⟩
     rw [List.take_length,hs] at hs'
     have hs':s' = drv d:=hs'
     have v2:∀ p ∈ d.Ports,VPort d p:=fun x hx=>by obtain ⟨j,hj,rfl⟩:=List.getElem_of_mem hx; exact hI' j hj hj
     simp only [F_q_L2.eq_2,dnl,cF,F_3b,F_1w]
     have hl':=hc'.1
     obtain ⟨r,e,h⟩:=loop_has (xs:=s') (L:=fun m i=>F_1w_L1 n s' (fun i7=>(some (-1))) m i) (fun q=>q != 1) (by
      intro m i hi
      simp only [F_1w_L1.eq_2,dlt hi,cT,getI_el hi,obs,F_4v,wT i]) (by
      intro m
      simp only [F_1w_L1.eq_2,dnl,cF]) n (by omega)
     simp only [e,obs]
     refine Tells.val ?_
     rw [h,Bool.not_eq_true',List.any_eq_false]
     refine ⟨fun a=>⟨vl,⟨c.1.1,c.1.2,c.2⟩,v1,v2,hni,hnp,hnn,fun i hi=>?_⟩,fun v x hx=>?_⟩
     ·have:=a s'[i] (List.getElem_mem (by omega))
      rw [← hs',gd_get (List.getElem?_eq_getElem (show i < s'.length by omega))]
      simpa using this
     ·obtain ⟨j,hj,rfl⟩:=List.getElem_of_mem hx
      have:=v.one j (by omega)
      rw [← hs',gd_get (List.getElem?_eq_getElem hj)] at this
      simp [this]
 ·simp only [Bool.not_false,cT,obs]
  exact Tells.no fun v=>vl v.lib
def idx {α β:Type} (g:Nat → α → List β):Nat → List α → List β
 | _,[]=>[]
 | i,x :: xs=>g i x ++ idx g (i + 1) xs
theorem idx_append {α β:Type} {g:Nat → α → List β}:∀ (xs ys:List α) (i:Nat),idx g i (xs ++ ys) = idx g i xs ++ idx g (i + xs.length) ys
 | [],ys,i=>by simp [idx]
 | x :: xs,ys,i=>by simp only [List.cons_append,idx,idx_append xs ys (i + 1),List.append_assoc,List.length_cons]; rw [show i + 1 + xs.length = i + (xs.length + 1) by omega]
theorem idx_take {α β:Type} {g:Nat → α → List β} {xs:List α} {i:Nat} (h:i < xs.length):idx g 0 (xs.take (i + 1)) = idx g 0 (xs.take i) ++ g i xs[i]:=by
 rw [List.take_succ_eq_append_getElem h,idx_append]
 simp [idx,Nat.min_eq_left (Nat.le_of_lt h)]
theorem idx_len {α β:Type} {g:Nat → α → List β} {c:Nat}:∀ (xs:List α) (i:Nat),(∀ j,∀ x ∈ xs,(g j x).length ≤ c) → (idx g i xs).length ≤ xs.length * c
 | [],i,_=>by simp [idx]
 | x :: xs,i,h=>by
  have h1:=h i x (by simp)
  have h2:=idx_len xs (i + 1) fun j y hy=>h j y (by simp [hy])
  simp only [idx,List.length_append,List.length_cons,Nat.add_mul]; omega
theorem idx_map {α β γ:Type} {g:Nat → α → List β} (f:β → γ):∀ (xs:List α) (i:Nat),(idx g i xs).map f = idx (fun i x=>(g i x).map f) i xs
 | [],i=>rfl
 | x :: xs,i=>by simp only [idx,List.map_append,idx_map f xs (i + 1)]
theorem loop_idx {α β R:Type} {xs:List α} {L:Nat → List β → Int → Option R} {k:List β → Option R} (g:Nat → α → List β) (c B:Nat) (hg:∀ j,∀ x ∈ xs,(g j x).length ≤ c) (hB:B + xs.length * c ≤ 1048576)
 (hs:∀ (m i:Nat) (h:i < xs.length) (s:List β),s.length + c ≤ 1048576 → L (m + 1) s (i:Int) = L m (s ++ g i xs[i]) ((i + 1:Nat):Int))
 (he:∀ (m:Nat) (s:List β),L (m + 1) s (xs.length:Int) = k s) (m:Nat) (hm:xs.length < m) (s0:List β) (h0:s0.length ≤ B):L m s0 0 = k (s0 ++ idx g 0 xs):=by
 refine loop (L:=fun m i s=>L m s i) xs.length (fun i s=>s = s0 ++ idx g 0 (xs.take i)) (fun o=>o = k (s0 ++ idx g 0 xs)) ?_ ?_ m 0 s0 (by omega) (by omega) (by simp [idx])
 ·intro m i s hi e
  refine .inl ⟨s ++ g i xs[i],?_,hs m i hi s ?_⟩
  ·rw [e,idx_take hi,List.append_assoc]
  ·have h1:=idx_len (g:=g) (c:=c) (xs.take i) 0 fun j y hy=>hg j y (List.mem_of_mem_take hy)
   have h2:(xs.take i).length = i:=by simp; omega
   rw [h2] at h1
   have h3:(i + 1) * c ≤ xs.length * c:=Nat.mul_le_mul_right c hi
   rw [Nat.add_mul] at h3
   rw [e,List.length_append]; omega
 ·intro m s e
  rw [List.take_length] at e
  show L (m + 1) s (xs.length:Int) = _
  rw [he,e]
def plI (i:Nat) (x:S_Instance):List S_place:=idx (fun j q=>[S_place.mk i j q ((j:Int) == (x.Nets.length:Int) - 1)]) 0 x.Nets
def plP (i:Nat) (p:S_Port):List S_place:=[S_place.mk (-1) i p.Net (p.Dir == 1)]
def pls (d:S_Design):List S_place:=idx plI 0 d.Instances ++ idx plP 0 d.Ports
def toP (p:S_place):S_l05Place:=⟨p.instance_,p.pin_,p.net_,p.drives_⟩
theorem plI_len {i:Nat} {x:S_Instance} (h:x.Nets.length ≤ 5):(plI i x).length ≤ 5:=by
 have:=idx_len (c:=1) (g:=fun j q=>[S_place.mk i j q ((j:Int) == (x.Nets.length:Int) - 1)]) x.Nets 0 fun j q _=>by simp
 unfold plI; omega
theorem pls_len {d:S_Design} (h:∀ x ∈ d.Instances,x.Nets.length ≤ 5) (h1:d.Instances.length ≤ 14) (h2:d.Ports.length ≤ 8):(pls d).length ≤ 78:=by
 have a:=idx_len (c:=5) (g:=plI) d.Instances 0 fun j q hq=>plI_len (h q hq)
 have b:=idx_len (c:=1) (g:=plP) d.Ports 0 fun j q _=>by simp [plP]
 unfold pls; rw [List.length_append]; omega
theorem Pls2 {n:Nat} {d:S_Design} (h:∀ x ∈ d.Instances,x.Nets.length ≤ 5) (h1:d.Instances.length ≤ 14) (h2:d.Ports.length ≤ 8) (hn:1048577 ≤ n):F_4 n d = some (pls d):=by
 rw [F_4]
 have a:=idx_len (c:=5) (g:=plI) d.Instances 0 fun j q hq=>plI_len (h q hq)
 rw [loop_idx (xs:=d.Instances) (L:=fun m s i=>F_4_L1 n d _ m s i) (k:=fun s=>F_4_L3 d _ n s 0) plI 5 0 (fun j q hq=>plI_len (h q hq)) (by omega) (by
  intro m i hi s hs
  have hx:=h _ (List.getElem_mem hi)
  have wx:IntKind.wrap .i64 ((d.Instances[i].Nets.length:Int) - 1) = (d.Instances[i].Nets.length:Int) - 1:=wrap64 (by omega) (by omega)
  simp only [F_4_L1.eq_2,dlt hi,cT,getI_el hi,obs,wT i]
  refine loop_idx (xs:=d.Instances[i].Nets) (L:=fun m s j=>F_4_L2 (i:Int) d.Instances[i] _ m s j) (k:=fun s=>F_4_L1 n d _ m s ((i + 1:Nat):Int)) (fun j q=>[S_place.mk i j q ((j:Int) == (d.Instances[i].Nets.length:Int) - 1)]) 1 s.length (fun j q _=>by simp) (by omega) ?_ ?_ n (by omega) s (by omega)
  ·intro m j hj s hs
   simp only [F_4_L2.eq_2,dlt hj,cT,getI_el hj,obs,wx,wT j]
   rw [appN_ok (by simp; omega) (by omega),obs]
  ·intro m s
   simp only [F_4_L2.eq_2,dnl,cF]) (by
  intro m s
  simp only [F_4_L1.eq_2,dnl,cF]; rfl) n (by omega) [] (by simp)]
 rw [loop_idx (xs:=d.Ports) (L:=fun m s i=>F_4_L3 d _ m s i) (k:=fun s=>some s) plP 1 70 (fun j q _=>by simp [plP]) (by omega) (by
  intro m i hi s hs
  simp only [F_4_L3.eq_2,dlt hi,cT,getI_el hi,obs,wT i]
  rw [appN_ok (by simp; omega) (by omega),obs]; rfl) (by
  intro m s
  simp only [F_4_L3.eq_2,dnl,cF]) n (by omega) _ (by simp; omega)]
 simp [pls]
theorem Pls1 {n:Nat} {d:S_Design} (h:∀ x ∈ d.Instances,x.Nets.length ≤ 5) (h1:d.Instances.length ≤ 14) (h2:d.Ports.length ≤ 8) (hn:1048577 ≤ n):F_6 n d = some ((pls d).map toP):=by
 rw [F_6]
 have hlI:∀ j,∀ x ∈ d.Instances,((plI j x).map toP).length ≤ 5:=fun j x hx=>by rw [List.length_map]; exact plI_len (h x hx)
 have a:=idx_len (c:=5) (g:=fun i x=>(plI i x).map toP) d.Instances 0 hlI
 rw [loop_idx (xs:=d.Instances) (L:=fun m s i=>F_6_L1 n d _ m s i) (k:=fun s=>F_6_L3 d _ n s 0) (fun i x=>(plI i x).map toP) 5 0 hlI (by omega) (by
  intro m i hi s hs
  have hx:=h _ (List.getElem_mem hi)
  have wx:IntKind.wrap .i64 ((d.Instances[i].Nets.length:Int) - 1) = (d.Instances[i].Nets.length:Int) - 1:=wrap64 (by omega) (by omega)
  simp only [F_6_L1.eq_2,dlt hi,cT,getI_el hi,obs,wT i]
  rw [plI,idx_map]
  refine loop_idx (xs:=d.Instances[i].Nets) (L:=fun m s j=>F_6_L2 (i:Int) d.Instances[i] _ m s j) (k:=fun s=>F_6_L1 n d _ m s ((i + 1:Nat):Int)) (fun j q=>[S_place.mk i j q ((j:Int) == (d.Instances[i].Nets.length:Int) - 1)].map toP) 1 s.length (fun j q _=>by simp) (by omega) ?_ ?_ n (by omega) s (by omega)
  ·intro m j hj s hs
   simp only [F_6_L2.eq_2,dlt hj,cT,getI_el hj,obs,wx,wT j]
   rw [appN_ok (by simp; omega) (by omega),obs]; rfl
  ·intro m s
   simp only [F_6_L2.eq_2,dnl,cF]) (by
  intro m s
  simp only [F_6_L1.eq_2,dnl,cF]; rfl) n (by omega) [] (by simp)]
 rw [loop_idx (xs:=d.Ports) (L:=fun m s i=>F_6_L3 d _ m s i) (k:=fun s=>some s) (fun i x=>(plP i x).map toP) 1 70 (fun j q _=>by simp [plP]) (by omega) (by
  intro m i hi s hs
  simp only [F_6_L3.eq_2,dlt hi,cT,getI_el hi,obs,wT i]
  rw [appN_ok (by simp; omega) (by omega),obs]; rfl) (by
  intro m s
  simp only [F_6_L3.eq_2,dnl,cF]) n (by omega) _ (by simp; omega)]
 simp [pls,idx_map]
def isSnk (q:Int) (p:S_place):Bool:=p.net_ == q && !p.drives_
def snk (d:S_Design) (q:Int):Nat:=(pls d).countP (isSnk q)
structure VBlock (b:S_Block):Prop where
 design:VDesign b.Library b.Design
 many:b.Wires.length = b.Design.Nets.length
 wire:∀ i (h:i < b.Wires.length),VWire b.Wires[i] (snk b.Design i)
def SMW (w:S_Wire):Prop:=((w.Parent.length ≤ 1048576 ∧ w.Res.length ≤ 1048576) ∧ w.Cap.length ≤ 1048576) ∧ w.Sink.length ≤ 1048576
structure SMBl (b:S_Block):Prop where
 lib:SMLb b.Library
 design:SMDs b.Design
 wires:b.Wires.length ≤ 1048576 ∧ ∀ w ∈ b.Wires,SMW w
theorem VDesign.short {l:S_Library} {d:S_Design} (v:VDesign l d):∀ x ∈ d.Instances,x.Nets.length ≤ 5:=fun x hx=>((v.inst x hx).long v.lib).2
theorem idx_all {α β:Type} {g:Nat → α → List β} {Q:β → Prop}:∀ (xs:List α) (i:Nat),(∀ j (h:j < xs.length),∀ y ∈ g (i + j) xs[j],Q y) → ∀ y ∈ idx g i xs,Q y
 | [],i,_,y,hy=>by simp [idx] at hy
 | x :: xs,i,h,y,hy=>by
  simp only [idx,List.mem_append] at hy
  rcases hy with hy | hy
  ·exact h 0 (by simp) y (by simpa using hy)
  ·refine idx_all xs (i + 1) (fun j hj y hy=>h (j + 1) (by simpa using hj) y ?_) y hy
   simpa [show i + 1 + j = i + (j + 1) by omega] using hy
theorem VDesign.net {l:S_Library} {d:S_Design} (v:VDesign l d):∀ p ∈ pls d,0 ≤ p.net_ ∧ p.net_ < d.Nets.length:=by
 intro p hp
 simp only [pls,List.mem_append] at hp
 rcases hp with hp | hp
 ·refine idx_all (Q:=fun p:S_place=>0 ≤ p.net_ ∧ p.net_ < d.Nets.length) d.Instances 0 (fun j hj y hy=>?_) p hp
  refine idx_all (Q:=fun p:S_place=>0 ≤ p.net_ ∧ p.net_ < d.Nets.length) _ 0 (fun k hk z hz=>?_) y hy
  have:=(v.inst _ (List.getElem_mem hj)).nets k hk
  rw [gd_get (List.getElem?_eq_getElem hk)] at this
  simp only [List.mem_singleton] at hz
  subst hz; show 0 ≤ d.Instances[j].Nets[k] ∧ d.Instances[j].Nets[k] < _; omega
 ·refine idx_all (Q:=fun p:S_place=>0 ≤ p.net_ ∧ p.net_ < d.Nets.length) d.Ports 0 (fun j hj y hy=>?_) p hp
  have:=(v.port _ (List.getElem_mem hj)).net
  simp only [plP,List.mem_singleton] at hy
  subst hy; show 0 ≤ d.Ports[j].Net ∧ d.Ports[j].Net < _; omega
def snkI (d:S_Design) (q:Int):List Int:=idx (fun i p=>if isSnk q p = true then [(i:Int)] else []) 0 (pls d)
theorem snkI_len {d:S_Design} {q:Int}:(snkI d q).length = snk d q:=by
 have:∀ (xs:List S_place) (i:Nat),(idx (fun i p=>if isSnk q p = true then [(i:Int)] else []) i xs).length = xs.countP (isSnk q):=by
  intro xs
  induction xs with
  | nil=>intro i; rfl
  | cons x xs ih =>
   intro i
   simp only [idx,List.length_append,ih,List.countP_cons]
   split <;> simp <;> omega
 exact this _ 0
theorem Snk1 {n:Nat} {l:S_Library} {d:S_Design} (v:VDesign l d) (q:Int) (hn:1048577 ≤ n):F_0k n d q = some (snkI d q):=by
 rw [F_0k,Pls1 v.short v.few.1 v.few.2.2 hn,obs]
 have hl:=pls_len v.short v.few.1 v.few.2.2
 have e:((pls d).map toP).length = (pls d).length:=by simp
 have:=loop_idx (xs:=(pls d).map toP) (L:=fun m s i=>F_0k_L1 q ((pls d).map toP) (fun l38 i42=>some l38) m s i) (k:=fun s=>some s) (fun i p=>if (p.net_ == q && !p.drives_) = true then [(i:Int)] else []) 1 0 (fun j p _=>by split <;> simp) (by omega) (by
  intro m i hi s hs
  simp only [F_0k_L1.eq_2,dlt hi,cT,getI_el hi,obs,bif_and,wT i]
  cases c:(((pls d).map toP)[i].net_ == q && !((pls d).map toP)[i].drives_) with
  | true=>rw [cT,if_pos rfl,appN_ok (by simp; omega) (by omega),obs]
  | false=>rw [cF,if_neg (by simp),List.append_nil]) (by
  intro m s
  simp only [F_0k_L1.eq_2,dnl,cF]) n (by omega) [] (by simp)
 rw [this,List.nil_append]
 congr 1
 have:∀ (xs:List S_place) (i:Nat),idx (fun i (p:S_l05Place)=>if (p.net_ == q && !p.drives_) = true then [(i:Int)] else []) i (xs.map toP) = idx (fun i p=>if isSnk q p = true then [(i:Int)] else []) i xs:=by
  intro xs
  induction xs with
  | nil=>intro i; rfl
  | cons x xs ih=>intro i; simp only [List.map_cons,idx,ih]; rfl
 exact this _ 0
theorem Bk1 {n:Nat} {b:S_Block} (h:SMBl b) (hn:1048577 ≤ n):Tells (VBlock b) (F_0z n b):=by
 have hw0:=h.wires.1
 rw [F_0z]
 refine (Dg1 h.lib h.design hn).bind (fun v=>?_) (fun v=>?_)
 ·simp only [Bool.not_true,Bool.false_or]
  refine Tells.bif (fun c=>Tells.no fun g=>?_) (fun c=>?_)
  ·have:=g.many; rw [bne_iff_ne] at c; omega
  ·rw [bne_eq_false_iff_eq] at c
   refine (loopT (L:=fun m i=>F_0z_L1 n b _ m i) (Q:=True) b.Wires.length 0 (fun i=>∀ (hi:i < b.Wires.length),VWire b.Wires[i] (snk b.Design i)) ?_ ?_ n 0 (by omega) (by omega) (by omega) (fun j _ h=>by omega)).iff ⟨fun a=>⟨v,by omega,fun i hi=>a.1 i (by omega) hi hi⟩,fun a=>⟨fun i _ _ hi=>a.wire i hi,trivial⟩⟩
   ·intro m i _ hi
    obtain ⟨r,e,hr⟩:=Wr1 (n:=n) (w:=b.Wires[i]) (s:=(snk b.Design i:Int)) (h.wires.2 _ (List.getElem_mem hi)).2 hn
    simp only [F_0z_L1.eq_2,dlt hi,cT,getI_el hi,obs,Snk1 v _ hn,snkI_len,e,wT i]
    cases r with
    | true=>exact .inl ⟨fun _=>hr.1 rfl,by trivial⟩
    | false=>exact .inr ⟨fun g=>(by have:=hr.2 (g hi); cases this),by trivial⟩
   ·intro m i h1 h2 _
    obtain rfl:i = b.Wires.length:=by omega
    simp only [F_0z_L1.eq_2,dnl,cF]
    exact Tells.yes trivial
 ·simp only [Bool.not_false,Bool.true_or,cT]
  exact Tells.no fun g=>v g.design
theorem Bk2 {n:Nat} {b:S_Block} (h:SMBl b) (hn:1048577 ≤ n):Tells (VBlock b) (F_r n b):=by
 have hw0:=h.wires.1
 rw [F_r]
 refine (Dg2 h.lib h.design hn).bind (fun v=>?_) (fun v=>?_)
 ·simp only [Bool.not_true,Bool.false_or]
  refine Tells.bif (fun c=>Tells.no fun g=>?_) (fun c=>?_)
  ·have:=g.many; rw [bne_iff_ne] at c; omega
  ·rw [bne_eq_false_iff_eq] at c
   have hl:=pls_len v.short v.few.1 v.few.2.2
   rw [mkN_ok (by omega) (by omega),obs,Pls2 v.short v.few.1 v.few.2.2 hn,obs]
   refine loop (L:=fun m i s=>F_r_L1 (pls b.Design) _ m i s) (pls b.Design).length (fun i s=>Ctr b.Wires.length i s ∧ ∀ q:Nat,q < b.Wires.length → gd s q = ((pls b.Design).take i).countP (isSnk q)) (fun o=>Tells (VBlock b) o) ?_ ?_ n 0 _ (by omega) (by omega) ⟨⟨by simp,fun j=>by rw [gd_rep]; omega⟩,fun q _=>by rw [gd_rep]; simp⟩
   ·intro m i s hi ⟨hc,hs⟩
    have hp:=v.net _ (List.getElem_mem hi)
    obtain ⟨g1,g2⟩:=hc.step hp.1 (by omega) (by omega)
    simp only [F_r_L1.eq_2,dlt hi,cT,getI_el hi,obs,g1,g2,wT i]
    cases hd:(pls b.Design)[i].drives_ with
    | true =>
     simp only [Bool.not_true,cF]
     refine .inl ⟨s,⟨hc.up,fun q hq=>?_⟩,rfl⟩
     rw [hs q hq,List.take_succ_eq_append_getElem hi,List.countP_append]
     simp [isSnk,hd]
    | false =>
     simp only [Bool.not_false,cT]
     refine .inl ⟨_,⟨hc.bump hp.1 (by omega),fun q hq=>?_⟩,rfl⟩
     rw [List.take_succ_eq_append_getElem hi,List.countP_append]
     unfold bumpT
     rw [gd_set (by have:=hc.1; omega)]
     by_cases e:(pls b.Design)[i].net_.toNat = q
     ·have e2:(pls b.Design)[i].net_ = (q:Int):=by omega
      rw [if_pos e,e,hs q hq]
      simp [isSnk,hd,e2]
     ·have e2:¬ (pls b.Design)[i].net_ = (q:Int):=by omega
      rw [if_neg e,hs q hq]
      simp [isSnk,hd,e2]
   ·intro m s ⟨hc,hs⟩
    simp only [F_r_L1.eq_2,dnl,cF]
    refine (loopT (L:=fun m i=>F_r_L2 n b s _ m i) (Q:=True) b.Wires.length 0 (fun i=>∀ (hi:i < b.Wires.length),VWire b.Wires[i] (snk b.Design i)) ?_ ?_ n 0 (by omega) (by omega) (by omega) (fun j _ h=>by omega)).iff ⟨fun a=>⟨v,by omega,fun i hi=>a.1 i (by omega) hi hi⟩,fun a=>⟨fun i _ _ hi=>a.wire i hi,trivial⟩⟩
    ·intro m i _ hi
     have hw:=h.wires.2 _ (List.getElem_mem hi)
     obtain ⟨r,e,hr⟩:=Wr2 (n:=n) (w:=b.Wires[i]) (s:=(snk b.Design i:Int)) hw.2 hw.1.1.2 hw.1.2 hw.1.1.1 hn
     have hg:gd s i = (snk b.Design i:Int):=by rw [hs i hi,List.take_length]; rfl
     simp only [F_r_L2.eq_2,dlt hi,cT,getI_el hi,gI (show i < s.length by rw [hc.1]; exact hi),hg,obs,e,wT i]
     cases r with
     | true=>exact .inl ⟨fun _=>hr.1 rfl,by trivial⟩
     | false=>exact .inr ⟨fun g=>(by have:=hr.2 (g hi); cases this),by trivial⟩
    ·intro m i h1 h2 _
     obtain rfl:i = b.Wires.length:=by omega
     simp only [F_r_L2.eq_2,dnl,cF]
     exact Tells.yes trivial
 ·simp only [Bool.not_false,Bool.true_or,cT]
  exact Tells.no fun g=>v g.design
theorem loop_tot {σ R:Type} {Q:R → Prop} {L:Nat → Int → σ → Option R} (N:Nat) (I:Nat → σ → Prop)
 (hs:∀ (m i:Nat) (st:σ),i < N → I i st → ∃ st',I (i + 1) st' ∧ L (m + 1) (i:Int) st = L m ((i + 1:Nat):Int) st')
 (he:∀ (m:Nat) (st:σ),I N st → Tot Q (L (m + 1) (N:Int) st)) (m:Nat) (st:σ) (hm:N < m) (h:I 0 st):Tot Q (L m 0 st) :=
 loop N I (Tot Q) (fun m i st a b=>.inl (hs m i st a b)) he m 0 st (by omega) (by omega) h
theorem loop_tot' {σ R:Type} {Q:R → Prop} {L:Nat → Int → σ → Option R} (s N:Nat) (I:Nat → σ → Prop)
 (hs:∀ (m i:Nat) (st:σ),s ≤ i → i < N → I i st → ∃ st',I (i + 1) st' ∧ L (m + 1) (i:Int) st = L m ((i + 1:Nat):Int) st')
 (he:∀ (m:Nat) (st:σ),I N st → Tot Q (L (m + 1) (N:Int) st)) (m:Nat) (st:σ) (hsN:s ≤ N) (hm:N < m) (h:I s st):Tot Q (L m (s:Int) st) :=
 loop N (fun i st=>s ≤ i ∧ I i st) (Tot Q) (fun m i st a b=>by
  obtain ⟨st',h1,h2⟩:=hs m i st b.1 a b.2
  exact .inl ⟨st',⟨by have:=b.1; omega,h1⟩,h2⟩) (fun m st h=>he m st h.2) m s st hsN (by omega) ⟨Nat.le_refl _,h⟩
theorem Snk2 {n:Nat} {l:S_Library} {d:S_Design} (v:VDesign l d) (q:Int) (hn:1048577 ≤ n):F_0o n d q = some (snkI d q):=by
 rw [F_0o,Pls2 v.short v.few.1 v.few.2.2 hn,obs]
 have hl:=pls_len v.short v.few.1 v.few.2.2
 have:=loop_idx (xs:=pls d) (L:=fun m s i=>F_0o_L1 q (pls d) (fun l29 i33=>some l29) m s i) (k:=fun s=>some s) (fun i p=>if isSnk q p = true then [(i:Int)] else []) 1 0 (fun j p _=>by split <;> simp) (by omega) (by
  intro m i hi s hs
  simp only [F_0o_L1.eq_2,dlt hi,cT,getI_el hi,obs,wT i]
  rw [show ((pls d)[i].net_ == q && !(pls d)[i].drives_) = isSnk q (pls d)[i] from rfl]
  cases c:isSnk q (pls d)[i] with
  | true=>rw [cT,if_pos rfl,appN_ok (by simp; omega) (by omega),obs]
  | false=>rw [cF,if_neg (by simp),List.append_nil]) (by
  intro m s
  simp only [F_0o_L1.eq_2,dnl,cF]) n (by omega) [] (by simp)
 rw [this,List.nil_append]; rfl
theorem snkI_rng {d:S_Design} {q:Int}:∀ x ∈ snkI d q,0 ≤ x ∧ x < (pls d).length:=by
 refine idx_all (Q:=fun x:Int=>0 ≤ x ∧ x < (pls d).length) _ 0 fun j hj y hy=>?_
 split at hy
 ·simp only [Nat.zero_add,List.mem_singleton] at hy; omega
 ·cases hy
theorem VDesign.place {l:S_Library} {d:S_Design} (v:VDesign l d):∀ p ∈ pls d,0 ≤ p.instance_ → ∃ x c pin,getI d.Instances p.instance_ = some x ∧ getI l.Cells x.Cell = some c ∧ getI c.Pins p.pin_ = some pin:=by
 intro p hp
 simp only [pls,List.mem_append] at hp
 rcases hp with hp | hp
 ·refine idx_all (Q:=fun p:S_place=>0 ≤ p.instance_ → ∃ x c pin,getI d.Instances p.instance_ = some x ∧ getI l.Cells x.Cell = some c ∧ getI c.Pins p.pin_ = some pin) d.Instances 0 (fun j hj y hy=>?_) p hp
  refine idx_all (Q:=fun p:S_place=>0 ≤ p.instance_ → ∃ x c pin,getI d.Instances p.instance_ = some x ∧ getI l.Cells x.Cell = some c ∧ getI c.Pins p.pin_ = some pin) _ 0 (fun k hk z hz=>?_) y hy
  have vi:=v.inst _ (List.getElem_mem hj)
  simp only [Nat.zero_add,List.mem_singleton] at hz
  subst hz
  intro _
  obtain ⟨c,ec,_⟩:=getI_ok (xs:=l.Cells) vi.cell.1 (by have:=vi.cell.2; omega)
  have hc:=vi.pins c ec
  exact ⟨_,c,_,getI_el hj,ec,getI_el (show k < c.Pins.length by omega)⟩
 ·refine idx_all (Q:=fun p:S_place=>0 ≤ p.instance_ → ∃ x c pin,getI d.Instances p.instance_ = some x ∧ getI l.Cells x.Cell = some c ∧ getI c.Pins p.pin_ = some pin) d.Ports 0 (fun j hj y hy=>?_) p hp
  simp only [plP,List.mem_singleton] at hy
  subst hy; intro h; exact absurd h (by show ¬ (0:Int) ≤ -1; decide)
theorem Cap2 {n:Nat} {l:S_Library} {d:S_Design} (v:VDesign l d) {p:S_place} (hp:p ∈ pls d):∃ r,F_4c n d l p = some r:=by
 rw [F_4c]
 by_cases c:p.instance_ < 0
 ·rw [decide_eq_true c,cT]; exact ⟨_,rfl⟩
 ·obtain ⟨x,c',pin,e1,e2,e3⟩:=v.place p hp (by omega)
  rw [decide_eq_false c,cF,e1,obs,e2,obs,e3,obs]; exact ⟨_,rfl⟩
theorem getI_in {t:List Int} {i:Int} (h0:0 ≤ i) (h1:i < t.length):∃ x,getI t i = some x:=⟨_,getI_gd h0 h1⟩
theorem Ld2 {n:Nat} {b:S_Block} (v:VBlock b) {i:Nat} (hi:i < b.Wires.length) (hn:1048577 ≤ n):Tot (fun r=>r.length = b.Wires[i].Parent.length) (F_j n b (i:Int)):=by
 have vd:=v.design
 have vw:=v.wire i hi
 have hm:=vw.many
 have hP:=vw.cap
 have hl:=pls_len vd.short vd.few.1 vd.few.2.2
 rw [F_j,getI_el hi,obs,F_4j,appN_ok (by simp; omega) (by omega),obs,obs,Pls2 vd.short vd.few.1 vd.few.2.2 hn,obs,Snk2 vd _ hn,obs,List.nil_append]
 have hsl:(snkI b.Design (i:Int)).length = b.Wires[i].Sink.length:=by rw [snkI_len]; have:=vw.sink; omega
 have hsn:snk b.Design (i:Int) ≤ 78:=Nat.le_trans List.countP_le_length hl
 have hsn2:=snkI_len (d:=b.Design) (q:=(i:Int))
 refine loop_tot (L:=fun m j s=>F_j_L1 n b b.Wires[i] (pls b.Design) (snkI b.Design (i:Int)) _ m j s) (snkI b.Design (i:Int)).length (fun _ s=>s.length = b.Wires[i].Parent.length) ?_ ?_ n _ (by omega) hP
 ·intro m j s hj hs
  have hj2:j < b.Wires[i].Sink.length:=by omega
  have hk:=vw.sinks j hj2
  have hq:=snkI_rng _ (List.getElem_mem hj)
  obtain ⟨a,ea⟩:=getI_in (t:=s) hk.1 (by omega)
  obtain ⟨p,ep,hp⟩:=getI_ok (xs:=pls b.Design) hq.1 hq.2
  obtain ⟨r,er⟩:=Cap2 (n:=n) vd (List.mem_of_getElem? hp)
  simp only [F_j_L1.eq_2,dlt hj,cT,getI_el hj,gI hj2,obs,ea,ep,er,wT j]
  exact ⟨_,by simpa using hs,rfl⟩
 ·intro m s hs
  simp only [F_j_L1.eq_2,dnl,cF]
  have wx:IntKind.wrap .i64 ((s.length:Int) - 1) = ((s.length - 1:Nat):Int):=by rw [wrap64 (by omega) (by omega)]; omega
  rw [wx]
  have key:∀ (m k:Nat) (s:List Int),k < b.Wires[i].Parent.length → s.length = b.Wires[i].Parent.length → k < m → Tot (fun r:List Int=>r.length = b.Wires[i].Parent.length) (F_j_L2 b.Wires[i] (fun i91 l93=>some l93) m (k:Int) s):=by
   intro m
   induction m with
   | zero=>intro k s _ _ h; omega
   | succ m ih =>
    intro k s hk hs hm
    by_cases c:0 < k
    ·have hd:decide ((k:Int) > 0) = true:=decide_eq_true (by omega)
     have ht:=vw.tree k c hk
     obtain ⟨a,ea⟩:=getI_in (t:=s) ht.1 (by omega)
     have wk:IntKind.wrap .i64 ((k:Int) - 1) = ((k - 1:Nat):Int):=by rw [wrap64 (by omega) (by omega)]; omega
     simp only [F_j_L2.eq_2,hd,cT,gI hk,obs,ea,gI (show k < s.length by omega),wk]
     exact ih (k - 1) _ (by omega) (by simpa using hs) (by omega)
    ·have hd:decide ((k:Int) > 0) = false:=decide_eq_false (by omega)
     simp only [F_j_L2.eq_2,hd,cF]
     exact ⟨s,rfl,hs⟩
  exact key n (s.length - 1) s (by omega) hs (by omega)
theorem Dl2 {n:Nat} {b:S_Block} (v:VBlock b) {i:Nat} (hi:i < b.Wires.length) (hn:1048577 ≤ n):Tot (fun r=>r.length = b.Wires[i].Parent.length) (F_19 n b (i:Int)):=by
 have vw:=v.wire i hi
 have hm:=vw.many
 have hR:=vw.res
 rw [F_19,getI_el hi,obs]
 refine (Ld2 v hi hn).bind fun r e hr=>?_
 rw [mkN_ok (by omega) (by omega),obs]
 refine loop_tot' (L:=fun m j s=>F_19_L1 b.Wires[i] r _ m j s) 1 b.Wires[i].Parent.length (fun _ s=>s.length = b.Wires[i].Parent.length) ?_ ?_ n _ (by omega) (by omega) (by simpa using hr)
 ·intro m j s h1 hj hs
  have ht:=vw.tree j (by omega) hj
  obtain ⟨a,ea⟩:=getI_in (t:=s) ht.1 (by omega)
  simp only [F_19_L1.eq_2,dlt (show j < s.length by omega),cT,gI hj,gI (show j < b.Wires[i].Res.length by omega),gI (show j < r.length by omega),gI (show j < s.length by omega),obs,ea,wT j]
  exact ⟨_,by simpa using hs,rfl⟩
 ·intro m s hs
  rw [← hs]
  simp only [F_19_L1.eq_2,dnl,cF]
  exact ⟨s,rfl,rfl⟩
theorem Ex2 {n:Nat} {b:S_Block} (v:VBlock b) {i:Nat} (hi:i < b.Wires.length) (hn:1048577 ≤ n):Tot (fun _=>True) (F_1a n b (i:Int)):=by
 have vw:=v.wire i hi
 have vd:=v.design
 have hl:=pls_len vd.short vd.few.1 vd.few.2.2
 have hsn:snk b.Design (i:Int) ≤ 78:=Nat.le_trans List.countP_le_length hl
 have hsk:=vw.sink
 rw [F_1a]
 refine (Dl2 v hi hn).bind fun r e hr=>?_
 rw [getI_el hi,obs]
 refine loop_tot (L:=fun m j s=>F_1a_L1 r b.Wires[i] _ m s j) b.Wires[i].Sink.length (fun j s=>s.length = j) ?_ ?_ n _ (by omega) rfl
 ·intro m j s hj hs
  have hk:=vw.sinks j hj
  obtain ⟨a,ea⟩:=getI_in (t:=r) hk.1 (by omega)
  refine ⟨s ++ [a],by simp; omega,?_⟩
  simp only [F_1a_L1.eq_2,dlt hj,cT,gI hj,obs,ea,wT j]
  rw [appN_ok (by simp; omega) (by omega),obs]
 ·intro m s hs
  simp only [F_1a_L1.eq_2,dnl,cF]
  exact ⟨s,rfl,trivial⟩
theorem Tr2 {n:Nat} (a:S_Arc):Tot (fun r:List A2_Int=>r.length ≤ 4) (F_4b n a):=by
 rw [F_4b]
 repeat' refine Tot.bif (fun _=>?_) (fun _=>?_)
 all_goals exact Tot.some (by simp)
theorem Ce2 {n:Nat} {b:S_Block} (v:VBlock b) {x:S_Instance} (hx:x ∈ b.Design.Instances) (q:Int) (hn:1048577 ≤ n):Tot (fun r:List S_Link=>r.length ≤ 32) (F_i n b x q):=by
 have vi:=v.design.inst x hx
 obtain ⟨c,ec,hc⟩:=getI_ok (xs:=b.Library.Cells) vi.cell.1 (by have:=vi.cell.2; omega)
 obtain ⟨h1,h2⟩:=List.getElem?_eq_some_iff.1 hc
 have few:=(v.design.lib.cells _ h1).few
 rw [h2] at few
 rw [F_i,ec,obs]
 refine loop_tot (L:=fun m j s=>F_i_L1 n q c _ m s j) c.Arcs.length (fun j s=>s.length ≤ 4 * j) ?_ ?_ n _ (by omega) (by simp)
 ·intro m j s hj hs
  obtain ⟨r,er,hr⟩:=Tr2 (n:=n) c.Arcs[j]
  have key:∃ s',s'.length ≤ 4 * (j + 1) ∧ F_i_L2 q (j:Int) c.Arcs[j] r (fun l88 i92=>F_i_L1 n q c (fun l46 i50=>some l46) m l88 (IntKind.wrap .i64 ((j:Int) + 1))) n s 0 = F_i_L1 n q c (fun l46 i50=>some l46) m s' (IntKind.wrap .i64 ((j:Int) + 1)):=by
   refine loop (L:=fun m k s=>F_i_L2 q (j:Int) c.Arcs[j] r _ m s k) r.length (fun k s=>s.length ≤ 4 * j + k) (fun o=>∃ s':List S_Link,s'.length ≤ 4 * (j + 1) ∧ o = F_i_L1 n q c (fun l46 i50=>some l46) m s' (IntKind.wrap .i64 ((j:Int) + 1))) ?_ ?_ n 0 s (by omega) (by omega) (by omega)
   ·intro m k s hk hs
    simp only [F_i_L2.eq_2,dlt hk,cT,getI_el hk,obs,wT k]
    rw [appN_ok (by simp; omega) (by omega),obs]
    exact .inl ⟨_,by simp; omega,rfl⟩
   ·intro m s hs
    simp only [F_i_L2.eq_2,dnl,cF]
    exact ⟨s,by omega,rfl⟩
  obtain ⟨s',hs',e'⟩:=key
  refine ⟨s',hs',?_⟩
  simp only [F_i_L1.eq_2,dlt hj,cT,getI_el hj,obs,er]
  rw [e',wT j]
 ·intro m s hs
  simp only [F_i_L1.eq_2,dnl,cF]
  exact ⟨s,rfl,by omega⟩
theorem Vw2 {n:Nat} {b:S_Block} (v:VBlock b) (hn:1048577 ≤ n):Tot (fun r:S_view=>r.places_ = pls b.Design) (F_2 n b):=by
 have vd:=v.design
 have f1:=vd.few.1; have f2:=vd.few.2.1
 have hl:=pls_len vd.short vd.few.1 vd.few.2.2
 have hW:=v.many
 rw [F_2,Pls2 vd.short vd.few.1 vd.few.2.2 hn,obs]
 refine loop_tot (L:=fun m j (s:Int × List S_Link)=>F_2_L1 n b _ m s.1 j s.2) b.Design.Instances.length (fun j s=>s.2.length ≤ 32 * j) ?_ ?_ n ((0:Int),[]) (by omega) (by simp)
 ·intro m j s hj hs
  obtain ⟨r,er,hr⟩:=Ce2 (n:=n) v (List.getElem_mem hj) s.1 hn
  simp only [F_2_L1.eq_2,dlt hj,cT,getI_el hj,obs,er,F_07,wT j]
  rw [appN_ok (by omega) (by omega),obs]
  exact ⟨(_,_),by simp; omega,rfl⟩
 ·intro m s hs
  simp only [F_2_L1.eq_2,dnl,cF]
  rw [mkN_ok (by omega) (by omega),obs,mkN_ok (by omega) (by omega),obs]
  refine loop_tot (L:=fun m j (s:List Int × List (List Int))=>F_2_L2 (pls b.Design) _ m j s.1 s.2) (pls b.Design).length (fun j s=>(s.1.length = b.Wires.length ∧ s.2.length = b.Wires.length) ∧ ∀ x ∈ s.2,x.length ≤ j) ?_ ?_ n (List.replicate b.Wires.length 0,List.replicate b.Wires.length []) (by omega) (by simp)
  ·intro m j s hj ⟨⟨h1,h2⟩,h3⟩
   have hp:=vd.net _ (List.getElem_mem hj)
   obtain ⟨a,ea⟩:=getI_in (t:=s.1) hp.1 (by omega)
   obtain ⟨y,ey,hy⟩:=getI_ok (xs:=s.2) hp.1 (by omega)
   have hyl:=h3 y (List.mem_of_getElem? hy)
   simp only [F_2_L2.eq_2,dlt hj,cT,getI_el hj,obs,ea,ey,wT j]
   cases (pls b.Design)[j].drives_ with
   | true =>
    rw [cT]
    exact ⟨(s.1.set (pls b.Design)[j].net_.toNat (j:Int),s.2),⟨⟨by simpa using h1,h2⟩,fun x hx=>by have:=h3 x hx; omega⟩,rfl⟩
   | false =>
    rw [cF,appN_ok (by simp; omega) (by omega),obs]
    refine ⟨(s.1,s.2.set (pls b.Design)[j].net_.toNat (y ++ [(j:Int)])),⟨⟨h1,by simpa using h2⟩,fun x hx=>?_⟩,rfl⟩
    rcases List.mem_or_eq_of_mem_set hx with h | h
    ·have:=h3 x h; omega
    ·subst h; simp; omega
  ·intro m t ⟨⟨h1,h2⟩,h3⟩
   simp only [F_2_L2.eq_2,dnl,cF]
   refine loop_tot (L:=fun m j (s:(List S_Link × List Int) × List Unit)=>F_2_L3 n b t.1 t.2 _ m j s.1.1 s.1.2 s.2) b.Wires.length (fun j u=>(u.1.1.length ≤ 448 + 156 * j ∧ u.1.2.length = j) ∧ u.2.length = j) ?_ ?_ n ((s.2,[]),[]) (by omega) (by simp; omega)
   ·intro m j u hj ⟨⟨g1,g2⟩,g3⟩
    obtain ⟨r,er,hr⟩:=Ld2 (n:=n) v hj hn
    obtain ⟨z,ez,_⟩:=Ex2 (n:=n) v hj hn
    have hm:=(v.wire j hj).many
    have e0:getI r 0 = some (gd r 0):=gI (i:=0) (by omega)
    have hj2:j < t.2.length:=by omega
    have hx:=h3 _ (List.getElem_mem hj2)
    simp only [F_2_L3.eq_2,dlt hj,cT,obs,er,e0,ez,getI_el hj2]
    rw [appN_ok (by simp; omega) (by omega),obs,appN_ok (by simp; omega) (by omega),obs]
    have key:∃ s',s'.length ≤ 448 + 156 * (j + 1) ∧ F_2_L4 n t.1 (j:Int) t.2[j] (fun i418 l421=>F_2_L3 n b t.1 t.2 (fun i115 l118 l125 l132=>some (S_view.mk b (pls b.Design) l118 l125 l132 [])) m (IntKind.wrap .i64 ((j:Int) + 1)) l421 (u.1.2 ++ [gd r 0]) (u.2 ++ List.map (fun _=>()) [z])) n 0 u.1.1 = F_2_L3 n b t.1 t.2 (fun i115 l118 l125 l132=>some (S_view.mk b (pls b.Design) l118 l125 l132 [])) m (IntKind.wrap .i64 ((j:Int) + 1)) s' (u.1.2 ++ [gd r 0]) (u.2 ++ List.map (fun _=>()) [z]):=by
     refine loop (L:=fun m' k s=>F_2_L4 n t.1 (j:Int) t.2[j] (fun i418 l421=>F_2_L3 n b t.1 t.2 (fun i115 l118 l125 l132=>some (S_view.mk b (pls b.Design) l118 l125 l132 [])) m (IntKind.wrap .i64 ((j:Int) + 1)) l421 (u.1.2 ++ [gd r 0]) (u.2 ++ List.map (fun _=>()) [z])) m' k s) t.2[j].length (fun k s=>s.length ≤ 448 + 156 * j + 2 * k) (fun o=>∃ s':List S_Link,s'.length ≤ 448 + 156 * (j + 1) ∧ o = F_2_L3 n b t.1 t.2 (fun i115 l118 l125 l132=>some (S_view.mk b (pls b.Design) l118 l125 l132 [])) m (IntKind.wrap .i64 ((j:Int) + 1)) s' (u.1.2 ++ [gd r 0]) (u.2 ++ List.map (fun _=>()) [z])) ?_ ?_ n 0 u.1.1 (by omega) (by omega) (by omega)
     ·intro m k s hk hs
      refine .inl ?_
      have a1:=gI (l:=t.1) (i:=j) (by omega)
      simp only [F_2_L4.eq_2,dlt hk,cT,gI hk,obs,wT k]
      obtain ⟨n',rfl⟩:∃ n',n = n' + 3:=⟨n - 3,by omega⟩
      have w1:IntKind.wrap .i64 ((0:Int) + 1) = 1:=by decide
      have w2:IntKind.wrap .i64 ((1:Int) + 1) = 2:=by decide
      rw [F_2_L5.eq_2,show decide ((0:Int) < 2) = true from rfl,cT,a1,obs,appN_ok (by simp; omega) (by omega),obs,w1,F_2_L5.eq_2,show decide ((1:Int) < 2) = true from rfl,cT,a1,obs,appN_ok (by simp; omega) (by omega),obs,w2,F_2_L5.eq_2,show decide ((2:Int) < 2) = false from rfl,cF]
      exact ⟨_,by simp; omega,rfl⟩
     ·intro m s hs
      simp only [F_2_L4.eq_2,dnl,cF]
      exact ⟨s,by omega,rfl⟩
    obtain ⟨s',q1,q2⟩:=key
    rw [q2,wT j]
    exact ⟨((_,_),_),⟨⟨q1,by simp; omega⟩,by simp; omega⟩,rfl⟩
   ·intro m u _
    simp only [F_2_L3.eq_2,dnl,cF]
    exact ⟨_,rfl,rfl⟩
theorem SM_Block.b {b:S_Block} (h:SM_Block b):SMBl b :=
 ⟨⟨h.1.1,fun c hc=>SM_Cell.c (c:=c) (h.1.2 c hc)⟩,⟨⟨h.2.1.1.1,fun x hx=>⟨(h.2.1.1.2 x hx).1,(h.2.1.1.2 x hx).2.2.1⟩⟩,⟨h.2.1.2.1.1,h.2.1.2.1.2⟩,⟨h.2.1.2.2.1,fun p hp=>(h.2.1.2.2.2 p hp).1⟩⟩,⟨h.2.2.1,fun w hw=>⟨⟨⟨(h.2.2.2 w hw).1.1,(h.2.2.2 w hw).2.1.1⟩,(h.2.2.2 w hw).2.2.1.1⟩,(h.2.2.2 w hw).2.2.2.1⟩⟩⟩
def nodes (b:S_Block):Int:=2 * ((pls b.Design).length:Int)
theorem Cnt1 {n:Nat} {b:S_Block} (v:VBlock b) (hn:1048577 ≤ n):F_3x n b = some (nodes b):=by
 have hl:=pls_len v.design.short v.design.few.1 v.design.few.2.2
 rw [F_3x,Pls1 v.design.short v.design.few.1 v.design.few.2.2 hn,obs,List.length_map,wrap64 (by omega) (by omega)]; rfl
theorem Nds2 {n:Nat} {b:S_Block} {r:S_view} (v:VBlock b) (e:r.places_ = pls b.Design):F_4d n r = some (nodes b):=by
 have hl:=pls_len v.design.short v.design.few.1 v.design.few.2.2
 rw [F_4d,F_4w,e,obs,wrap64 (by omega) (by omega)]; rfl
def TimesOK (s:S_Span):Bool:=(decide (s.Early ≥ -1000000000) && decide (s.Early ≤ 1000000000)) && (decide (s.Late ≥ -1000000000) && decide (s.Late ≤ 1000000000))
def SpanB (s:S_Span):Bool:=TimesOK s && decide (s.Early ≤ s.Late)
def SlewB (s:S_Span):Bool:=(decide (s.Early ≥ 0) && decide (s.Early ≤ s.Late)) && decide (s.Late ≤ 1000000)
theorem sp1 {n:Nat} {s:S_Span}:F_3y n s = some (SpanB s):=by
 simp only [F_3y,F_1,obs,bif_and]; rfl
theorem sp2 {n:Nat} {s:S_Span}:F_2z n s = some (SpanB s):=by
 simp only [F_2z,F_21,F_3,obs,bif_and]; rfl
theorem sl1 {n:Nat} {s:S_Span}:F_4l n s = some (SlewB s):=rfl
theorem sl2 {n:Nat} {s:S_Span}:F_4e n s = some (SlewB s):=by
 simp only [F_4e,sp2,F_3d,F_3,obs,bif_and]
 congr 1
 rw [Bool.eq_iff_iff]
 simp only [SpanB,TimesOK,SlewB,Bool.and_eq_true,decide_eq_true_eq]
 omega
def TimB (r:Bool) (a s:S_Span):Bool:=!((!SpanB a || !SlewB s) || (!r && (!(a.Early == 0 && a.Late == 0) || !(s.Early == 0 && s.Late == 0))))
structure TmOK (b:S_Block) (x:S_Timing):Prop where
 reached:(x.Reached.length:Int) = nodes b
 arr:(x.Arrival.length:Int) = nodes b
 slew:(x.Slew.length:Int) = nodes b
 each:∀ i (h:i < x.Reached.length) (h2:i < x.Arrival.length) (h3:i < x.Slew.length),TimB x.Reached[i] x.Arrival[i] x.Slew[i] = true
theorem Tm1 {n:Nat} {b:S_Block} {x:S_Timing} (hl:x.Reached.length ≤ 1048576) (hn:1048577 ≤ n):Tells (TmOK b x) (F_10 n (nodes b) x):=by
 rw [F_10]
 refine Tells.bif (fun c=>Tells.no fun v=>?_) (fun c=>?_)
 ·have:=v.reached; have:=v.arr; have:=v.slew
  simp only [Bool.or_eq_true,bne_iff_ne,ne_eq] at c; omega
 ·simp only [Bool.or_eq_false_iff,bne_eq_false_iff_eq] at c
  refine (loopT (L:=fun m i=>F_10_L1 n x _ m i) (Q:=True) x.Reached.length 0 (fun i=>∀ (h:i < x.Reached.length) (h2:i < x.Arrival.length) (h3:i < x.Slew.length),TimB x.Reached[i] x.Arrival[i] x.Slew[i] = true) ?_ ?_ n 0 (by omega) (by omega) (by omega) (fun j _ h=>by omega)).iff ⟨fun a=>⟨c.1.1,c.1.2,c.2,fun i h h2 h3=>a.1 i (by omega) h h h2 h3⟩,fun a=>⟨fun i _ _ h h2 h3=>a.each i h h2 h3,trivial⟩⟩
  ·intro m i _ hi
   have hi2:i < x.Arrival.length:=by omega
   have hi3:i < x.Slew.length:=by omega
   simp only [F_10_L1.eq_2,dlt hi,cT,getI_el hi,getI_el hi2,getI_el hi3,obs,sp1,sl1,bif_or,bif_and,wT i]
   cases e:((!SpanB x.Arrival[i] || !SlewB x.Slew[i]) || (!x.Reached[i] && (!(x.Arrival[i].Early == 0 && x.Arrival[i].Late == 0) || !(x.Slew[i].Early == 0 && x.Slew[i].Late == 0)))) with
   | true=>rw [cT]; exact .inr ⟨fun g=>(by have:=g hi hi2 hi3; unfold TimB at this; rw [e] at this; cases this),rfl⟩
   | false=>rw [cF]; exact .inl ⟨fun _ _ _=>(by unfold TimB; rw [e]; rfl),rfl⟩
  ·intro m i h1 h2 _
   obtain rfl:i = x.Reached.length:=by omega
   simp only [F_10_L1.eq_2,dnl,cF]
   exact Tells.yes trivial
theorem Tm2 {n:Nat} {b:S_Block} {r:S_view} {x:S_Timing} (v:VBlock b) (hr:r.places_ = pls b.Design) (hl:x.Reached.length ≤ 1048576) (hn:1048577 ≤ n):Tells (TmOK b x) (F_1b n r x):=by
 rw [F_1b]
 simp only [F_4x,F_3c,Nds2 v hr,obs,bif_or]
 refine Tells.bif (fun c=>Tells.no fun v=>?_) (fun c=>?_)
 ·have:=v.reached; have:=v.arr; have:=v.slew
  simp only [Bool.or_eq_true,bne_iff_ne,ne_eq] at c; omega
 ·simp only [Bool.or_eq_false_iff,bne_eq_false_iff_eq] at c
  refine (loopT (L:=fun m i=>F_1b_L1 n x _ m i) (Q:=True) x.Reached.length 0 (fun i=>∀ (h:i < x.Reached.length) (h2:i < x.Arrival.length) (h3:i < x.Slew.length),TimB x.Reached[i] x.Arrival[i] x.Slew[i] = true) ?_ ?_ n 0 (by omega) (by omega) (by omega) (fun j _ h=>by omega)).iff ⟨fun a=>⟨c.1.1,c.1.2,c.2,fun i h h2 h3=>a.1 i (by omega) h h h2 h3⟩,fun a=>⟨fun i _ _ h h2 h3=>a.each i h h2 h3,trivial⟩⟩
  ·intro m i _ hi
   have hi2:i < x.Arrival.length:=by omega
   have hi3:i < x.Slew.length:=by omega
   simp only [F_1b_L1.eq_2,dlt hi,cT,getI_el hi,getI_el hi2,getI_el hi3,obs,sp2,sl2,bif_or,bif_and,wT i]
   cases e:((!SpanB x.Arrival[i] || !SlewB x.Slew[i]) || (!x.Reached[i] && (!(x.Arrival[i].Early == 0 && x.Arrival[i].Late == 0) || !(x.Slew[i].Early == 0 && x.Slew[i].Late == 0)))) with
   | true=>rw [cT]; exact .inr ⟨fun g=>(by have:=g hi hi2 hi3; unfold TimB at this; rw [e] at this; cases this),rfl⟩
   | false=>rw [cF]; exact .inl ⟨fun _ _ _=>(by unfold TimB; rw [e]; rfl),rfl⟩
  ·intro m i h1 h2 _
   obtain rfl:i = x.Reached.length:=by omega
   simp only [F_1b_L1.eq_2,dnl,cF]
   exact Tells.yes trivial
theorem loop2 {σ τ R R':Type} {L:Nat → Int → σ → Option R} {M:Nat → Int → τ → Option R'} (N:Nat) (I:Nat → σ → τ → Prop) (Post:Option R → Option R' → Prop)
 (hs:∀ (m i:Nat) (s:σ) (t:τ),i < N → I i s t → ∃ s' t',I (i + 1) s' t' ∧ L (m + 1) (i:Int) s = L m ((i + 1:Nat):Int) s' ∧ M (m + 1) (i:Int) t = M m ((i + 1:Nat):Int) t')
 (he:∀ (m:Nat) (s:σ) (t:τ),I N s t → Post (L (m + 1) (N:Int) s) (M (m + 1) (N:Int) t)):∀ (m i:Nat) (s:σ) (t:τ),i ≤ N → N - i < m → I i s t → Post (L m (i:Int) s) (M m (i:Int) t)
 | 0,i,_,_,_,hm,_=>by omega
 | m + 1,i,s,t,hi,hm,h=>by
  by_cases hlt:i < N
  ·obtain ⟨s',t',h1,h2,h3⟩:=hs m i s t hlt h
   rw [h2,h3]; exact loop2 N I Post hs he m (i + 1) s' t' (by omega) (by omega) h1
  ·obtain rfl:i = N:=by omega
   exact he m s t h
theorem idx1_get {α β:Type} (h:Nat → α → β):∀ (xs:List α) (s j:Nat),(idx (fun j q=>[h j q]) s xs)[j]? = (xs[j]?).map (h (s + j))
 | [],s,j=>by simp [idx]
 | x :: xs,s,0=>by simp [idx]
 | x :: xs,s,j + 1=>by
  have:=idx1_get h xs (s + 1) j
  simp only [idx,List.singleton_append,List.getElem?_cons_succ,this]
  rw [show s + 1 + j = s + (j + 1) by omega]
structure FirstAt {α:Type} (f:α → Bool) (ys:List α) (k:Nat):Prop where
 hit:∃ y,ys[k]? = some y ∧ f y = true
 miss:∀ j y,j < k → ys[j]? = some y → f y = false
theorem FirstAt.lt {α:Type} {f:α → Bool} {ys:List α} {k:Nat} (h:FirstAt f ys k):k < ys.length:=by
 obtain ⟨y,e,_⟩:=h.hit
 exact (List.getElem?_eq_some_iff.1 e).1
def offI (d:S_Design) (i:Nat):Nat:=(idx plI 0 (d.Instances.take i)).length
def isPl (i q:Int) (p:S_place):Bool:=(p.instance_ == i) && (p.pin_ == q)
theorem pls_cut {d:S_Design} {i:Nat} (hi:i < d.Instances.length):∃ C,pls d = idx plI 0 (d.Instances.take i) ++ (plI i d.Instances[i] ++ C):=by
 refine ⟨idx plI (i + 1) (d.Instances.drop (i + 1)) ++ idx plP 0 d.Ports,?_⟩
 have e:d.Instances = d.Instances.take i ++ (d.Instances[i] :: d.Instances.drop (i + 1)):=by
  rw [← List.drop_eq_getElem_cons hi,List.take_append_drop]
 have e2:idx plI 0 d.Instances = idx plI 0 (d.Instances.take i) ++ (plI i d.Instances[i] ++ idx plI (i + 1) (d.Instances.drop (i + 1))):=by
  conv=>lhs; rw [e]
  rw [idx_append]
  simp [idx,Nat.min_eq_left (Nat.le_of_lt hi)]
 unfold pls
 rw [e2]; simp
theorem pls_first {d:S_Design} {i q:Nat} (hi:i < d.Instances.length) (hq:q < d.Instances[i].Nets.length):FirstAt (isPl i q) (pls d) (offI d i + q):=by
 obtain ⟨C,e⟩:=pls_cut hi
 have hp:∀ j:Nat,(plI i d.Instances[i])[j]? = (d.Instances[i].Nets[j]?).map fun x=>S_place.mk i j x ((j:Int) == (d.Instances[i].Nets.length:Int) - 1):=by
  intro j
  have:=idx1_get (fun j q=>S_place.mk i j q ((j:Int) == (d.Instances[i].Nets.length:Int) - 1)) d.Instances[i].Nets 0 j
  rw [Nat.zero_add] at this
  exact this
 have hl:(plI i d.Instances[i]).length = d.Instances[i].Nets.length:=by
  apply Nat.le_antisymm
  ·apply Nat.le_of_not_lt
   intro h
   have:=hp d.Instances[i].Nets.length
   rw [List.getElem?_eq_getElem h] at this
   simp at this
  ·apply Nat.le_of_not_lt
   intro h
   have:=hp (plI i d.Instances[i]).length
   rw [List.getElem?_eq_getElem h] at this
   simp at this
 have hA:∀ y ∈ idx plI 0 (d.Instances.take i),y.instance_ < (i:Int):=by
  refine idx_all (Q:=fun p:S_place=>p.instance_ < (i:Int)) _ 0 (fun j hj y hy=>?_)
  have hji:j < i:=by simp at hj; omega
  refine idx_all (Q:=fun p:S_place=>p.instance_ < (i:Int)) _ 0 (fun k hk z hz=>?_) y hy
  simp only [List.mem_singleton] at hz
  subst hz
  show ((0 + j:Nat):Int) < i
  omega
 refine ⟨⟨S_place.mk i q d.Instances[i].Nets[q] ((q:Int) == (d.Instances[i].Nets.length:Int) - 1),?_,by simp [isPl]⟩,?_⟩
 ·rw [e,offI,List.getElem?_append_right (by omega),Nat.add_sub_cancel_left,List.getElem?_append_left (by omega),hp,List.getElem?_eq_getElem hq]; rfl
 ·intro j y hj hy
  rw [e] at hy
  by_cases c:j < (idx plI 0 (d.Instances.take i)).length
  ·rw [List.getElem?_append_left c] at hy
   have:=hA y (List.mem_of_getElem? hy)
   simp only [isPl,Bool.and_eq_false_iff,beq_eq_false_iff_ne]; left; omega
  ·unfold offI at hj
   rw [List.getElem?_append_right (by omega),List.getElem?_append_left (by omega),hp] at hy
   obtain ⟨x,_,rfl⟩:=Option.map_eq_some_iff.1 hy
   simp only [isPl,Bool.and_eq_false_iff,beq_eq_false_iff_ne]; right
   show ((j - (idx plI 0 (d.Instances.take i)).length:Nat):Int) ≠ q
   omega
theorem Fnd1 {n:Nat} {l:S_Library} {d:S_Design} (v:VDesign l d) {i q:Nat} (hi:i < d.Instances.length) (hq:q < d.Instances[i].Nets.length) (hn:1048577 ≤ n):F_06 n d (i:Int) (q:Int) = some ((offI d i + q:Nat):Int):=by
 have f:=pls_first hi hq
 have hl:=pls_len v.short v.few.1 v.few.2.2
 have fl:=f.lt
 rw [F_06,Pls1 v.short v.few.1 v.few.2.2 hn,obs]
 refine loop (L:=fun m j (_:Unit)=>F_06_L1 (i:Int) (q:Int) ((pls d).map toP) (fun i26=>(some (-1))) m j) (offI d i + q + 1) (fun j _=>j ≤ offI d i + q) (fun o=>o = some ((offI d i + q:Nat):Int)) ?_ ?_ n 0 () (by omega) (by omega) (by omega)
 ·intro m j _ hj hI
  have hjl:j < (pls d).length:=by omega
  have hjm:j < ((pls d).map toP).length:=by simpa using hjl
  have hg:getI ((pls d).map toP) (j:Int) = some (toP (pls d)[j]):=by rw [getI_el hjm]; simp
  have hb:(Option.bind (bif ((toP (pls d)[j]).instance_ == (i:Int)) then some ((toP (pls d)[j]).pin_ == (q:Int)) else some false) fun c35=>(bif c35 then (some (j:Int)) else (F_06_L1 (i:Int) (q:Int) ((pls d).map toP) (fun i26=>(some (-1))) m (IntKind.wrap .i64 ((j:Int) + 1))))) = (bif isPl i q (pls d)[j] then some (j:Int) else F_06_L1 (i:Int) (q:Int) ((pls d).map toP) (fun i26=>(some (-1))) m ((j + 1:Nat):Int)):=by
   rw [wT j,bif_and,obs]; rfl
  simp only [F_06_L1.eq_2,dlt hjm,cT,hg,obs]
  rw [hb]
  by_cases c:j = offI d i + q
  ·obtain ⟨y,e,hy⟩:=f.hit
   rw [← c,List.getElem?_eq_getElem hjl] at e
   obtain rfl:=Option.some.inj e
   rw [hy,cT,← c]; exact .inr rfl
  ·have:=f.miss j _ (by omega) (List.getElem?_eq_getElem hjl)
   rw [this,cF]; exact .inl ⟨(),by omega,rfl⟩
 ·intro m _ hI
  omega
theorem Fnd2 {n:Nat} {l:S_Library} {d:S_Design} (v:VDesign l d) {i q:Nat} (hi:i < d.Instances.length) (hq:q < d.Instances[i].Nets.length) (hn:1048577 ≤ n):F_3f n d (i:Int) (q:Int) = some ((offI d i + q:Nat):Int):=by
 have f:=pls_first hi hq
 have hl:=pls_len v.short v.few.1 v.few.2.2
 have fl:=f.lt
 rw [F_3f,Pls2 v.short v.few.1 v.few.2.2 hn,obs,F_1x]
 obtain ⟨r,e,hr,h⟩:=loop_any (xs:=pls d) (L:=fun m j=>F_1x_L1 n (pls d) (i:Int) (q:Int) (fun i7=>(some (-1))) m j) (f:=fun p=>some (isPl i q p)) (P:=fun p=>isPl i q p = true) (fun x _=>⟨_,rfl,Iff.rfl⟩) (by
  intro m j hj
  simp only [F_1x_L1.eq_2,dlt hj,cT,getI_el hj,obs,F_4z,wT j]
  rfl) (by
  intro m
  simp only [F_1x_L1.eq_2,dnl,cF]) n (by omega)
 rw [e,obs]
 obtain ⟨y,ey,hy⟩:=f.hit
 obtain ⟨k1,k2⟩:=List.getElem?_eq_some_iff.1 ey
 rcases h with h | ⟨j,rfl,hj,h1,h2⟩
 ·subst h
  have:=hr.2 ⟨y,List.mem_of_getElem? ey,hy⟩
  omega
 ·have a:¬ j < offI d i + q:=fun c=>by
   have:=f.miss j _ c (List.getElem?_eq_getElem hj)
   rw [this] at h1; cases h1
  have b:¬ offI d i + q < j:=fun c=>h2 _ k1 c (by rw [k2]; exact hy)
  rw [show j = offI d i + q by omega]
def RelB (r:S_Relation):Bool:=((decide (r.Setup ≥ -1000000000) && decide (r.Setup ≤ 1000000000)) && (decide (r.Hold ≥ -1000000000) && decide (r.Hold ≤ 1000000000))) && (decide (r.Uncertainty ≥ 0) && decide (r.Uncertainty ≤ 1000000000))
theorem rl1 {n:Nat} {r:S_Relation}:F_3z n r = some (RelB r):=by
 simp only [F_3z,F_1,obs,bif_and]; rfl
theorem rl2 {n:Nat} {r:S_Relation}:F_30 n r = some (RelB r):=by
 simp only [F_30,F_21,F_3,obs,bif_and]; rfl
theorem VDesign.inst_at {l:S_Library} {d:S_Design} (v:VDesign l d) {i:Nat} (hi:i < d.Instances.length):∃ k,∃ h:k < l.Cells.length,d.Instances[i].Cell = (k:Int) ∧ getI l.Cells d.Instances[i].Cell = some l.Cells[k] ∧ d.Instances[i].Nets.length = l.Cells[k].Pins.length ∧ VCell l.Cells[k]:=by
 have x:=v.inst _ (List.getElem_mem hi)
 obtain ⟨k,hk⟩:=Int.eq_ofNat_of_zero_le x.cell.1
 have hk:d.Instances[i].Cell = (k:Int):=hk
 have h:k < l.Cells.length:=by have:=x.cell.2; omega
 have g:getI l.Cells d.Instances[i].Cell = some l.Cells[k]:=by rw [hk]; exact getI_el h
 exact ⟨k,h,hk,g,x.pins _ g,v.lib.cells k h⟩
theorem midB:∀ a:Nat,a < 5 → ∀ b:Nat,b < 5 → IntKind.wrap .i64 (shrK .u64 (IntKind.wrap IntKind.u64 (IntKind.wrap .i64 ((a:Int) + (b:Int)))) 1) = (((a + b) / 2:Nat):Int):=by decide
theorem VAx.mono {l:List Int} (h:VAx l):∀ (d i:Nat),i + d + 1 < l.length → gd l i < gd l (i + d + 1)
 | 0,i,hi=>by have:=h.2.2 (i + 0 + 1) hi (by omega); simpa using this
 | d + 1,i,hi=>by
  have a:=VAx.mono h d i (by omega)
  have b:=h.2.2 (i + (d + 1) + 1) hi (by omega)
  rw [show i + (d + 1) + 1 - 1 = i + d + 1 by omega] at b
  omega
theorem VAx.lt {l:List Int} (h:VAx l) {i j:Nat} (hij:i < j) (hj:j < l.length):gd l i < gd l j:=by
 have:=h.mono (j - i - 1) i (by omega)
 rwa [show i + (j - i - 1) + 1 = j by omega] at this
theorem BSL {n:Nat} {l:List Int} (h:VAx l) {c:Int} {K:Int → Int → Option (Int × Bool)}:∀ (m i j:Nat),i ≤ j → j ≤ l.length → j - i < m → (∀ k,k < i → gd l k < c) → (∀ k,j ≤ k → k < l.length → c ≤ gd l k) →
 ∃ p:Nat,p ≤ l.length ∧ (∀ k,k < p → gd l k < c) ∧ (∀ k,p ≤ k → k < l.length → c ≤ gd l k) ∧ F_0e_L1 n l c K m (i:Int) (j:Int) = K (p:Int) (p:Int)
 | 0,i,j,_,_,hm,_,_=>by omega
 | m + 1,i,j,hij,hj,hm,h1,h2=>by
  have few:=h.1.2
  rw [F_0e_L1.eq_2]
  by_cases c0:i < j
  ·have d0:decide ((i:Int) < (j:Int)) = true:=decide_eq_true (by omega)
   have hq:(i + j) / 2 < l.length:=by omega
   simp only [d0,cT,midB i (by omega) j (by omega),gI hq,obs,F_4k,F_32,bne_self_eq_false,cF,Bool.false_or]
   by_cases c1:gd l ((i + j) / 2) < c
   ·rw [decide_eq_true c1,cT,wS (show (i + j) / 2 < 4611686018427387904 by omega)]
    refine BSL h m ((i + j) / 2 + 1) j (by omega) hj (by omega) (fun k hk=>?_) h2
    by_cases e:k = (i + j) / 2
    ·rw [e]; exact c1
    ·have:=h.lt (show k < (i + j) / 2 by omega) hq; omega
   ·rw [decide_eq_false c1,cF]
    refine BSL h m i ((i + j) / 2) (by omega) (by omega) (by omega) h1 (fun k hk hk2=>?_)
    by_cases e:k = (i + j) / 2
    ·rw [e]; omega
    ·have:=h.lt (show (i + j) / 2 < k by omega) hk2; omega
  ·obtain rfl:i = j:=by omega
   have d0:decide ((i:Int) < (i:Int)) = false:=decide_eq_false (by omega)
   rw [d0,cF]
   exact ⟨i,hj,h1,h2,rfl⟩
def clampX (l:List Int) (x:Int):Int:=min (max x (gd l 0)) (gd l (l.length - 1))
theorem clamp_in {l:List Int} (h:VAx l) (x:Int):gd l 0 ≤ clampX l x ∧ clampX l x ≤ gd l (l.length - 1):=by
 have h1:=h.1.1
 have:gd l 0 ≤ gd l (l.length - 1):=by
  by_cases c:l.length = 1
  ·rw [c]; exact Int.le_refl _
  ·have:=h.lt (show 0 < l.length - 1 by omega) (by omega); omega
 unfold clampX; omega
theorem WtS {l:List Int} (h:VAx l) {x:Int} {q:Nat} {R:Int × Int × Int} (hq:q < l.length) (hk:∀ k,q < k → k < l.length → clampX l x < gd l k)
 (hR:∀ m,F_v_L1 l x (gd l 0) (gd l (l.length - 1)) (fun i21=>(some (0,1,0))) (m + 1) (q:Int) = some R) :
 ∀ (m i:Nat),q ≤ i → i < l.length → i - q < m → F_v_L1 l x (gd l 0) (gd l (l.length - 1)) (fun i21=>(some (0,1,0))) m (i:Int) = some R
 | 0,i,_,_,hm=>by omega
 | m + 1,i,hi,hil,hm=>by
  by_cases e:i = q
  ·rw [e]; exact hR m
  ·have a:=hk i (by omega) hil
   have a:min (max x (gd l 0)) (gd l (l.length - 1)) < gd l i:=a
   have d0:decide ((i:Int) ≥ 0) = true:=decide_eq_true (by omega)
   have d1:(min (max x (gd l 0)) (gd l (l.length - 1)) == gd l i) = false:=by rw [beq_eq_false_iff_ne]; omega
   have d2:decide (min (max x (gd l 0)) (gd l (l.length - 1)) > gd l i) = false:=decide_eq_false (by omega)
   have w:IntKind.wrap .i64 ((i:Int) - 1) = ((i - 1:Nat):Int):=by rw [wrap64 (by omega) (by have:=h.1.2; omega)]; omega
   simp only [F_v_L1.eq_2,d0,cT,gI hil,obs,d1,d2,cF,w]
   exact WtS h hq hk hR m (i - 1) (by omega) (by omega) (by omega)
theorem Wt {n:Nat} {l:List Int} (h:VAx l) (x:Int) (hn:1048577 ≤ n):∃ (i:Nat) (a b:Int),F_v n l x = some ((i:Int),a,b) ∧
 ((i < l.length ∧ a = 1 ∧ b = 0 ∧ F_26 n l x = some ([⟨(i:Int),1⟩],1)) ∨ (i + 1 < l.length ∧ (1 ≤ a ∧ a ≤ 100000) ∧ (1 ≤ b ∧ b ≤ 100000) ∧ F_26 n l x = some ([⟨(i:Int),a⟩,⟨((i + 1:Nat):Int),b⟩],a + b))):=by
 have h1:=h.1
 have ci:=clamp_in h x
 have w1:IntKind.wrap .i64 ((l.length:Int) - 1) = ((l.length - 1:Nat):Int):=by rw [wrap64 (by omega) (by omega)]; omega
 have g0:getI l 0 = some (gd l 0):=gI (l:=l) (i:=0) (by omega)
 have gL:getI l ((l.length - 1:Nat):Int) = some (gd l (l.length - 1)):=gI (by omega)
 obtain ⟨p,p1,p2,p3,p4⟩:=BSL (n:=n) h (c:=clampX l x) (K:=fun i5 i6=>(Option.bind (bif decide (i5 < (l.length:Int)) then (Option.bind (getI l i5) fun x7=>(Option.bind (bif (x7 == clampX l x) then (some true) else (Option.bind (getI l i5) fun x15=>(Option.bind (F_22 n x15) fun r23=>(Option.bind (bif r23 then (Option.bind (F_22 n (clampX l x)) fun r29=>(some r29)) else (some false)) fun c29=>(some c29))))) fun c15=>(some c15))) else (some false)) fun c7=>(some (i5,c7)))) n 0 l.length (by omega) (by omega) (by omega) (fun k hk=>by omega) (fun k hk hk2=>by omega)
 have pl:p < l.length:=by
  apply Nat.lt_of_not_le
  intro c
  have:=p2 (l.length - 1) (by omega); omega
 have hb:F_0e n l (clampX l x) = some ((p:Int),gd l p == clampX l x):=by
  rw [F_0e]
  refine p4.trans ?_
  simp only [dlt pl,cT,gI pl,obs,F_22,bne_self_eq_false,cF]
  cases (gd l p == clampX l x) <;> rfl
 have hi:F_26 n l x = (Option.bind (F_0e n l (clampX l x)) fun r23=>(bif r23.2 then (some ([(S_weight.mk r23.1 1)],1)) else (Option.bind (getI l r23.1) fun x41=>(Option.bind (getI l (IntKind.wrap .i64 (r23.1 - 1))) fun x49=>(Option.bind (getI l r23.1) fun x69=>(Option.bind (getI l (IntKind.wrap .i64 (r23.1 - 1))) fun x77=>(some ([(S_weight.mk (IntKind.wrap .i64 (r23.1 - 1)) (IntKind.wrap .i64 (x41 - (clampX l x)))),(S_weight.mk r23.1 (IntKind.wrap .i64 ((clampX l x) - x49)))],IntKind.wrap .i64 (x69 - x77))))))))):=by
  rw [F_26,g0,w1,obs,gL,obs]; rfl
 have hsp:F_v n l x = F_v_L1 l x (gd l 0) (gd l (l.length - 1)) (fun i21=>(some (0,1,0))) n ((l.length - 1:Nat):Int):=by
  rw [F_v,g0,w1,obs,gL,obs]
 have cp:=p3 p (Nat.le_refl _) pl
 by_cases c:gd l p = clampX l x
 ·refine ⟨p,1,0,?_,.inl ⟨pl,rfl,rfl,?_⟩⟩
  ·rw [hsp]
   refine WtS h pl (fun k hk hk2=>by have:=h.lt hk hk2; omega) (fun m=>?_) n _ (by omega) (by omega) (by omega)
   have d0:decide ((p:Int) ≥ 0) = true:=decide_eq_true (by omega)
   have d1:(min (max x (gd l 0)) (gd l (l.length - 1)) == gd l p) = true:=by rw [beq_iff_eq]; exact c.symm
   simp only [F_v_L1.eq_2,d0,cT,gI pl,obs,d1]
  ·rw [hi,hb,obs,show (gd l p == clampX l x) = true from by rw [beq_iff_eq]; exact c]; rfl
 ·have p0:0 < p:=by
   apply Nat.pos_of_ne_zero
   intro e; subst e; omega
  have b1:=p2 (p - 1) (by omega)
  have r1:=h.2.1 p pl
  have r2:=h.2.1 (p - 1) (by omega)
  have wp:IntKind.wrap .i64 ((p:Int) - 1) = ((p - 1:Nat):Int):=by rw [wrap64 (by omega) (by omega)]; omega
  have wq:IntKind.wrap .i64 (((p - 1:Nat):Int) + 1) = (p:Int):=by rw [wrap64 (by omega) (by omega)]; omega
  have e1:IntKind.wrap .i64 (gd l p - clampX l x) = gd l p - clampX l x:=wrap64 (by omega) (by omega)
  have e2:IntKind.wrap .i64 (clampX l x - gd l (p - 1)) = clampX l x - gd l (p - 1):=wrap64 (by omega) (by omega)
  have e3:IntKind.wrap .i64 (gd l p - gd l (p - 1)) = gd l p - clampX l x + (clampX l x - gd l (p - 1)):=by rw [wrap64 (by omega) (by omega)]; omega
  refine ⟨p - 1,gd l p - clampX l x,clampX l x - gd l (p - 1),?_,.inr ⟨by omega,by omega,by omega,?_⟩⟩
  ·rw [hsp]
   refine WtS h (show p - 1 < l.length by omega) (fun k hk hk2=>?_) (fun m=>?_) n _ (by omega) (by omega) (by omega)
   ·by_cases e:k = p
    ·rw [e]; omega
    ·have:=h.lt (show p < k by omega) hk2; omega
   ·have d0:decide (((p - 1:Nat):Int) ≥ 0) = true:=decide_eq_true (by omega)
    have d1:(min (max x (gd l 0)) (gd l (l.length - 1)) == gd l (p - 1)) = false:=by rw [beq_eq_false_iff_ne]; show clampX l x ≠ _; omega
    have d2:decide (min (max x (gd l 0)) (gd l (l.length - 1)) > gd l (p - 1)) = true:=decide_eq_true (show clampX l x > _ by omega)
    simp only [F_v_L1.eq_2,d0,cT,gI (show p - 1 < l.length by omega),obs,d1,d2,cF,wq,gI pl]
    show some (((p - 1:Nat):Int),IntKind.wrap .i64 (gd l p - clampX l x),IntKind.wrap .i64 (clampX l x - gd l (p - 1))) = _
    rw [e1,e2]
  ·rw [hi,hb,obs,show (gd l p == clampX l x) = false from by rw [beq_eq_false_iff_ne]; exact c]
   simp only [cF,wp,gI pl,gI (show p - 1 < l.length by omega),obs,e1,e2,e3]
   rw [show p - 1 + 1 = p by omega]
theorem Dv {n:Nat} {s D mode:Int} (h:D ≠ 0):∃ r,F_2f n s D mode = some r ∧ F_2g n s D mode = some r:=by
 have hz:(D == 0) = false:=by rw [beq_eq_false_iff_ne]; exact h
 rw [F_2f,F_2g,hz]
 simp only [cF]
 rw [Bool.and_comm,Bool.and_comm (decide (Int.tmod s D > 0))]
 cases (mode == 0) && decide (Int.tmod s D < 0) <;> cases (mode == 1) && decide (Int.tmod s D > 0) <;> exact ⟨_,rfl,rfl⟩
theorem trm {V a c:Int} (hV:-1000000 ≤ V ∧ V ≤ 1000000) (ha:1 ≤ a ∧ a ≤ 100000) (hc:1 ≤ c ∧ c ≤ 100000):IntKind.wrap .i64 (IntKind.wrap .i64 (a * c) * V) = IntKind.wrap .i64 (IntKind.wrap .i64 (V * a) * c) ∧ decide (IntKind.wrap .i64 (a * c) > 0) = true:=by
 have h1:0 < a * c:=Int.mul_pos (by omega) (by omega)
 have h2:a * c ≤ 100000 * c:=Int.mul_le_mul_of_nonneg_right ha.2 (by omega)
 have h3:V * a ≤ 1000000 * a:=Int.mul_le_mul_of_nonneg_right hV.2 (by omega)
 have h4:-1000000 * a ≤ V * a:=Int.mul_le_mul_of_nonneg_right hV.1 (by omega)
 rw [wrap64 (x:=a * c) (by omega) (by omega),wrap64 (x:=V * a) (by omega) (by omega)]
 refine ⟨by rw [Int.mul_comm (V * a) c,Int.mul_comm a c,Int.mul_assoc,Int.mul_comm a V],decide_eq_true h1⟩
theorem mw {a c:Int} (ha:0 ≤ a ∧ a ≤ 200000) (hc:0 ≤ c ∧ c ≤ 200000):IntKind.wrap .i64 (a * c) = a * c:=by
 have h1:0 ≤ a * c:=Int.mul_nonneg ha.1 hc.1
 have h2:a * c ≤ 200000 * c:=Int.mul_le_mul_of_nonneg_right ha.2 hc.1
 exact wrap64 (by omega) (by omega)
theorem ixI {i L k:Nat} (hi:i ≤ 4) (hL:L ≤ 4) (hk:k ≤ 4):IntKind.wrap .i64 (IntKind.wrap .i64 ((i:Int) * (L:Int)) + (k:Int)) = ((i * L + k:Nat):Int):=by
 have:i * L ≤ 4 * 4:=Nat.mul_le_mul hi hL
 rw [mulL hi hL,wrap64 (by omega) (by omega)]; omega
theorem ixS {i L k u v:Nat} (hi:i + u ≤ 4) (hL:L ≤ 4) (hk:k ≤ 4) (hv:v ≤ 1):IntKind.wrap .i64 (IntKind.wrap .i64 (IntKind.wrap .i64 (IntKind.wrap .i64 ((i:Int) + (u:Int)) * (L:Int)) + (k:Int)) + (v:Int)) = (((i + u) * L + (k + v):Nat):Int):=by
 have:(i + u) * L ≤ 4 * 4:=Nat.mul_le_mul hi hL
 rw [wrap64 (x:=(i:Int) + (u:Int)) (by omega) (by omega),show (i:Int) + (u:Int) = ((i + u:Nat):Int) by omega,mulL hi hL,wrap64 (x:=(((i + u) * L:Nat):Int) + (k:Int)) (by omega) (by omega),wrap64 (by omega) (by omega)]; omega
theorem ixB {S L i k:Nat} (hi:i < S) (hk:k < L):i * L + k < S * L:=by
 have:(i + 1) * L ≤ S * L:=Nat.mul_le_mul_right L hi
 rw [Nat.add_mul] at this; omega
theorem DvB {n:Nat} {s D mode:Int} (h:D ≠ 0):∃ r,(Option.bind (F_2f n s D mode) fun r=>some r) = some r ∧ (Option.bind (F_2g n s D mode) fun r=>some r) = some r:=by
 obtain ⟨r,a,b⟩:=Dv (n:=n) (s:=s) (mode:=mode) h
 exact ⟨r,by rw [a]; rfl,by rw [b]; rfl⟩
set_option maxHeartbeats 4000000 in
theorem Lk {n:Nat} {t:S_Table} (v:VT t) (x y mode:Int) (hn:1048577 ≤ n):∃ r,F_a n t x y mode = some r ∧ F_m n t x y mode = some r:=by
 obtain ⟨i,a,b,s1,e1⟩:=Wt (n:=n) v.1.1 x hn
 obtain ⟨k,c,d,s2,e2⟩:=Wt (n:=n) v.1.2 y hn
 have S4:=v.1.1.1.2
 have L4:=v.1.2.1.2
 have hV:=v.2.2
 have hlen:=v.2.1
 obtain ⟨m,rfl⟩:∃ m,n = m + 3:=⟨n - 3,by omega⟩
 rw [F_a,F_m,s1,s2]
 have w01:IntKind.wrap .i64 (0 + 1) = 1:=rfl
 have w12:IntKind.wrap .i64 (1 + 1) = 2:=rfl
 have l02:decide ((0:Int) < 2) = true:=rfl
 have l12:decide ((1:Int) < 2) = true:=rfl
 have l22:decide ((2:Int) < 2) = false:=rfl
 have l01:decide ((0:Int) < 1) = true:=rfl
 have l11:decide ((1:Int) < 1) = false:=rfl
 have b01:((0:Int) == 1) = false:=rfl
 have b11:((1:Int) == 1) = true:=rfl
 have b00:((0:Int) == 0) = true:=rfl
 have b10:((1:Int) == 0) = false:=rfl
 have z00:IntKind.wrap .i64 0 = 0:=rfl
 have z01:decide ((0:Int) > 0) = false:=rfl
 have o10:IntKind.wrap .i64 (1 + 0) = 1:=rfl
 have g10:∀ w:S_weight,getI [w] 0 = some w:=fun _=>rfl
 have g20:∀ w z:S_weight,getI [w,z] 0 = some w:=fun _ _=>rfl
 have g21:∀ w z:S_weight,getI [w,z] 1 = some z:=fun _ _=>rfl
 have n1:∀ w:S_weight,(([w]:List S_weight).length:Int) = 1:=fun _=>rfl
 have n2:∀ w z:S_weight,(([w,z]:List S_weight).length:Int) = 2:=fun _ _=>rfl
 have i00:=ixS (i:=i) (u:=0) (k:=k) (v:=0) (L:=t.Loads.length)
 have i01:=ixS (i:=i) (u:=0) (k:=k) (v:=1) (L:=t.Loads.length)
 have i10:=ixS (i:=i) (u:=1) (k:=k) (v:=0) (L:=t.Loads.length)
 have i11:=ixS (i:=i) (u:=1) (k:=k) (v:=1) (L:=t.Loads.length)
 simp only [Int.natCast_zero,Int.natCast_one,Nat.add_zero] at i00 i01 i10 i11
 rcases e1 with ⟨hi,ha,hb,e1⟩ | ⟨hi,ha,hb,e1⟩ <;> rcases e2 with ⟨hk,hc,hd,e2⟩ | ⟨hk,hc,hd,e2⟩ <;> rw [e1,e2]
 ·subst ha hb
  subst hc hd
  have q00:=ixB (S:=t.Slews.length) (L:=t.Loads.length) (i:=i) (k:=k) (by omega) (by omega)
  have t00:=trm (V:=gd t.Values (i * t.Loads.length + k)) (a:=1) (c:=1) (hV _ (by omega)) (by omega) (by omega)
  have j00:=i00 (by omega) (by omega) (by omega) (by omega)
  have p00:=ixI (i:=i) (k:=k) (L:=t.Loads.length) (by omega) (by omega) (by omega)
  have v00:=gI (l:=t.Values) (i:=i * t.Loads.length + k) (by omega)
  simp only [obs,F_a_L1.eq_2,F_a_L2.eq_2,F_m_L1.eq_2,F_m_L2.eq_2,n1,n2,g10,g20,g21,w01,w12,l02,l12,l22,l01,l11,cT,cF,b01,b11,b00,b10,Int.zero_mul,Int.mul_zero,z00,z01,o10,j00,p00,v00,t00.1,t00.2]
  refine DvB ?_
  exact (by decide:IntKind.wrap .i64 (1 * 1) ≠ 0)
 ·subst ha hb
  have q00:=ixB (S:=t.Slews.length) (L:=t.Loads.length) (i:=i) (k:=k) (by omega) (by omega)
  have t00:=trm (V:=gd t.Values (i * t.Loads.length + k)) (a:=1) (c:=c) (hV _ (by omega)) (by omega) (by omega)
  have j00:=i00 (by omega) (by omega) (by omega) (by omega)
  have p00:=ixI (i:=i) (k:=k) (L:=t.Loads.length) (by omega) (by omega) (by omega)
  have v00:=gI (l:=t.Values) (i:=i * t.Loads.length + k) (by omega)
  have q01:=ixB (S:=t.Slews.length) (L:=t.Loads.length) (i:=i) (k:=(k + 1)) (by omega) (by omega)
  have t01:=trm (V:=gd t.Values (i * t.Loads.length + (k + 1))) (a:=1) (c:=d) (hV _ (by omega)) (by omega) (by omega)
  have j01:=i01 (by omega) (by omega) (by omega) (by omega)
  have p01:=ixI (i:=i) (k:=(k + 1)) (L:=t.Loads.length) (by omega) (by omega) (by omega)
  have v01:=gI (l:=t.Values) (i:=i * t.Loads.length + (k + 1)) (by omega)
  have sB:IntKind.wrap .i64 (c + d) = c + d:=wrap64 (by omega) (by omega)
  simp only [obs,F_a_L1.eq_2,F_a_L2.eq_2,F_m_L1.eq_2,F_m_L2.eq_2,n1,n2,g10,g20,g21,w01,w12,l02,l12,l22,l01,l11,cT,cF,b01,b11,b00,b10,Int.zero_mul,Int.mul_zero,z00,z01,o10,j00,p00,v00,t00.1,t00.2,j01,p01,v01,t01.1,t01.2,sB]
  refine DvB ?_
  rw [mw (by omega) (by omega)]
  have:=Int.mul_pos (show 0 < (1:Int) by omega) (show 0 < (c + d) by omega)
  omega
 ·subst hc hd
  have q00:=ixB (S:=t.Slews.length) (L:=t.Loads.length) (i:=i) (k:=k) (by omega) (by omega)
  have t00:=trm (V:=gd t.Values (i * t.Loads.length + k)) (a:=a) (c:=1) (hV _ (by omega)) (by omega) (by omega)
  have j00:=i00 (by omega) (by omega) (by omega) (by omega)
  have p00:=ixI (i:=i) (k:=k) (L:=t.Loads.length) (by omega) (by omega) (by omega)
  have v00:=gI (l:=t.Values) (i:=i * t.Loads.length + k) (by omega)
  have q10:=ixB (S:=t.Slews.length) (L:=t.Loads.length) (i:=(i + 1)) (k:=k) (by omega) (by omega)
  have t10:=trm (V:=gd t.Values ((i + 1) * t.Loads.length + k)) (a:=b) (c:=1) (hV _ (by omega)) (by omega) (by omega)
  have j10:=i10 (by omega) (by omega) (by omega) (by omega)
  have p10:=ixI (i:=(i + 1)) (k:=k) (L:=t.Loads.length) (by omega) (by omega) (by omega)
  have v10:=gI (l:=t.Values) (i:=(i + 1) * t.Loads.length + k) (by omega)
  have sA:IntKind.wrap .i64 (a + b) = a + b:=wrap64 (by omega) (by omega)
  simp only [obs,F_a_L1.eq_2,F_a_L2.eq_2,F_m_L1.eq_2,F_m_L2.eq_2,n1,n2,g10,g20,g21,w01,w12,l02,l12,l22,l01,l11,cT,cF,b01,b11,b00,b10,Int.zero_mul,Int.mul_zero,z00,z01,o10,j00,p00,v00,t00.1,t00.2,j10,p10,v10,t10.1,t10.2,sA]
  refine DvB ?_
  rw [mw (by omega) (by omega)]
  have:=Int.mul_pos (show 0 < (a + b) by omega) (show 0 < (1:Int) by omega)
  omega
 ·have q00:=ixB (S:=t.Slews.length) (L:=t.Loads.length) (i:=i) (k:=k) (by omega) (by omega)
  have t00:=trm (V:=gd t.Values (i * t.Loads.length + k)) (a:=a) (c:=c) (hV _ (by omega)) (by omega) (by omega)
  have j00:=i00 (by omega) (by omega) (by omega) (by omega)
  have p00:=ixI (i:=i) (k:=k) (L:=t.Loads.length) (by omega) (by omega) (by omega)
  have v00:=gI (l:=t.Values) (i:=i * t.Loads.length + k) (by omega)
  have q01:=ixB (S:=t.Slews.length) (L:=t.Loads.length) (i:=i) (k:=(k + 1)) (by omega) (by omega)
  have t01:=trm (V:=gd t.Values (i * t.Loads.length + (k + 1))) (a:=a) (c:=d) (hV _ (by omega)) (by omega) (by omega)
  have j01:=i01 (by omega) (by omega) (by omega) (by omega)
  have p01:=ixI (i:=i) (k:=(k + 1)) (L:=t.Loads.length) (by omega) (by omega) (by omega)
  have v01:=gI (l:=t.Values) (i:=i * t.Loads.length + (k + 1)) (by omega)
  have q10:=ixB (S:=t.Slews.length) (L:=t.Loads.length) (i:=(i + 1)) (k:=k) (by omega) (by omega)
  have t10:=trm (V:=gd t.Values ((i + 1) * t.Loads.length + k)) (a:=b) (c:=c) (hV _ (by omega)) (by omega) (by omega)
  have j10:=i10 (by omega) (by omega) (by omega) (by omega)
  have p10:=ixI (i:=(i + 1)) (k:=k) (L:=t.Loads.length) (by omega) (by omega) (by omega)
  have v10:=gI (l:=t.Values) (i:=(i + 1) * t.Loads.length + k) (by omega)
  have q11:=ixB (S:=t.Slews.length) (L:=t.Loads.length) (i:=(i + 1)) (k:=(k + 1)) (by omega) (by omega)
  have t11:=trm (V:=gd t.Values ((i + 1) * t.Loads.length + (k + 1))) (a:=b) (c:=d) (hV _ (by omega)) (by omega) (by omega)
  have j11:=i11 (by omega) (by omega) (by omega) (by omega)
  have p11:=ixI (i:=(i + 1)) (k:=(k + 1)) (L:=t.Loads.length) (by omega) (by omega) (by omega)
  have v11:=gI (l:=t.Values) (i:=(i + 1) * t.Loads.length + (k + 1)) (by omega)
  have sA:IntKind.wrap .i64 (a + b) = a + b:=wrap64 (by omega) (by omega)
  have sB:IntKind.wrap .i64 (c + d) = c + d:=wrap64 (by omega) (by omega)
  simp only [obs,F_a_L1.eq_2,F_a_L2.eq_2,F_m_L1.eq_2,F_m_L2.eq_2,n1,n2,g10,g20,g21,w01,w12,l02,l12,l22,l01,l11,cT,cF,b01,b11,b00,b10,Int.zero_mul,Int.mul_zero,z00,z01,o10,j00,p00,v00,t00.1,t00.2,j01,p01,v01,t01.1,t01.2,j10,p10,v10,t10.1,t10.2,j11,p11,v11,t11.1,t11.2,sA,sB]
  refine DvB ?_
  rw [mw (by omega) (by omega)]
  have:=Int.mul_pos (show 0 < (a + b) by omega) (show 0 < (c + d) by omega)
  omega
theorem clk_cnt {l:List S_Pin} {i:Int} (h:clkAt l i = true):0 < cnt l:=by
 unfold clkAt at h
 cases e:l[i.toNat]? with
 | none=>rw [e] at h; cases h
 | some p =>
  rw [e] at h
  have h:p.Clock = true:=h
  exact List.countP_pos_iff.2 ⟨p,List.mem_of_getElem? e,h⟩
theorem EdgR {n:Nat} {c:S_Cell} (v:VCell c) (hn:1048577 ≤ n):∃ q,F_0l n c = some q ∧ F_4f n c = some q ∧ (c.Kind ≠ 1 → q = 0 ∨ q = 1):=by
 have hal:=v.few
 obtain ⟨b2,e3,h3⟩:=Hs (n:=n) (c:=c) (by omega) 2 hn
 simp only [F_0l,F_4f,e3,obs]
 rcases v.kind with ⟨k,_⟩ | ⟨k,_,_,_,x⟩ | ⟨k,_⟩
 ·rw [k]; exact ⟨_,rfl,rfl,fun h=>absurd rfl h⟩
 ·rw [k]
  simp only [show ((2:Int) == 3) = false from rfl,show ((2:Int) == 2) = true from rfl,show ((2:Int) == 1) = false from rfl,cT,cF]
  have key:∃ q,F_0l_L1 c (fun i19=>(some 0)) n 0 = some q ∧ (q = 0 ∧ ¬ hasK c.Arcs 3 ∨ q = 1 ∧ hasK c.Arcs 3):=by
   refine loop (L:=fun m i (_:Unit)=>F_0l_L1 c (fun i19=>(some 0)) m i) c.Arcs.length (fun i _=>∀ j (hj:j < c.Arcs.length),j < i → c.Arcs[j].Kind ≠ 3) (fun o=>∃ q,o = some q ∧ (q = 0 ∧ ¬ hasK c.Arcs 3 ∨ q = 1 ∧ hasK c.Arcs 3)) ?_ ?_ n 0 () (by omega) (by omega) (fun j _ hj=>by omega)
   ·intro m i _ hi hI
    simp only [F_0l_L1.eq_2,dlt hi,cT,getI_el hi,obs,wT i]
    by_cases q:c.Arcs[i].Kind = 3
    ·have:(c.Arcs[i].Kind == 3) = true:=by rw [beq_iff_eq]; exact q
     simp only [this,cT]
     exact .inr ⟨1,rfl,.inr ⟨rfl,_,List.getElem_mem hi,q⟩⟩
    ·have:(c.Arcs[i].Kind == 3) = false:=by rw [beq_eq_false_iff_ne]; exact q
     simp only [this,cF]
     refine .inl ⟨(),fun j hj hji=>?_,by trivial⟩
     by_cases ej:j = i
     ·subst ej; exact q
     ·exact hI j hj (by omega)
   ·intro m _ hI
    simp only [F_0l_L1.eq_2,dnl,cF]
    refine ⟨0,rfl,.inl ⟨rfl,fun ⟨a,ha,e⟩=>?_⟩⟩
    obtain ⟨j,hj,rfl⟩:=List.getElem_of_mem ha
    exact hI j hj hj e
  obtain ⟨q,e4,hq⟩:=key
  rw [e4]
  refine ⟨q,rfl,?_,fun _=>by omega⟩
  cases b2 with
  | true =>
   have:¬ hasK c.Arcs 3:=fun g=>x ⟨fun _=>g,fun _=>h3.1 rfl⟩
   rcases hq with hq | hq
   ·rw [hq.1]; rfl
   ·exact absurd hq.2 this
  | false =>
   have n2:¬ hasK c.Arcs 2:=fun g=>by have:=h3.2 g; cases this
   have:hasK c.Arcs 3:=Classical.byContradiction fun g=>x ⟨fun a=>absurd a n2,fun a=>absurd a g⟩
   rcases hq with hq | hq
   ·exact absurd this hq.2
   ·rw [hq.1]; rfl
 ·rw [k]; exact ⟨_,rfl,rfl,fun _=>.inr rfl⟩
structure ChkAt (b:S_Block) (inst arc:Int) (a:S_Arc) (i j:Nat) (c:S_Cell):Prop where
 ei:inst = (i:Int)
 ej:arc = (j:Int)
 hi:i < b.Design.Instances.length
 gc:getI b.Library.Cells b.Design.Instances[i].Cell = some c
 vc:VCell c
 nets:b.Design.Instances[i].Nets.length = c.Pins.length
 hj:j < c.Arcs.length
 ea:c.Arcs[j] = a
 kind:a.Kind = 4 ∨ a.Kind = 5
theorem ChkNodes {n:Nat} {b:S_Block} {r:S_view} {inst arc tr s:Int} {a:S_Arc} {i j:Nat} {c:S_Cell} (v:VBlock b) (hr:r.Block = b) (h:ChkAt b inst arc a i j c) (ht:tr = 0 ∨ tr = 1) (hn:1048577 ≤ n) :
 ∃ D C:Nat,F_2u n b [inst,arc,tr] = some ((D:Int),(C:Int)) ∧ F_4g n r ⟨inst,arc,tr,s⟩ = some ((D:Int),(C:Int)) ∧ (D:Int) < nodes b ∧ (C:Int) < nodes b:=by
 obtain ⟨rfl,rfl,hi,gc,vc,nets,hj,rfl,kind⟩:=h
 have ar:=(vc.arcs j hj).1
 unfold ArcS at ar
 have k1:¬ c.Arcs[j].Kind = 1:=by omega
 have k2:¬ (c.Arcs[j].Kind = 2 ∨ c.Arcs[j].Kind = 3):=by omega
 rw [if_neg k1,if_neg k2,if_pos kind] at ar
 obtain ⟨⟨hF,hT⟩,hck,hT2,_⟩:=ar
 have kg:c.Kind ≠ 1:=fun e=>by
  rcases vc.kind with ⟨_,z,_⟩ | ⟨z,_⟩ | ⟨z,_⟩
  ·have:=clk_cnt hck; omega
  ·omega
  ·omega
 obtain ⟨q,e1,e2,hq⟩:=EdgR (n:=n) vc hn
 have hq:=hq kg
 obtain ⟨F,eF⟩:=Int.eq_ofNat_of_zero_le hF.1
 have eF:c.Arcs[j].From = (F:Int):=eF
 obtain ⟨T,eT⟩:=Int.eq_ofNat_of_zero_le hT.1
 have eT:c.Arcs[j].To = (T:Int):=eT
 have hp:=pls_len v.design.short v.design.few.1 v.design.few.2.2
 have b1:=(pls_first (d:=b.Design) (q:=T) hi (by omega)).lt
 have b2:=(pls_first (d:=b.Design) (q:=F) hi (by omega)).lt
 have p1:=Fnd1 (n:=n) v.design (q:=T) hi (by omega) hn
 have p2:=Fnd1 (n:=n) v.design (q:=F) hi (by omega) hn
 have p3:F_3f n b.Design (i:Int) 0 = some ((offI b.Design i + 0:Nat):Int):=Fnd2 (n:=n) v.design (q:=0) hi (by omega) hn
 obtain ⟨O,hO⟩:∃ O:Nat,O = offI b.Design i:=⟨_,rfl⟩
 rw [← hO] at p1 p2 p3 b1 b2
 have nd:nodes b = 2 * ((pls b.Design).length:Int):=rfl
 refine ⟨2 * (O + T) + tr.toNat,2 * (O + F) + q.toNat,?_,?_,by omega,by omega⟩
 ·have g0:getI [(i:Int),(j:Int),tr] 0 = some (i:Int):=rfl
  have g1:getI [(i:Int),(j:Int),tr] 1 = some (j:Int):=rfl
  have g2:getI [(i:Int),(j:Int),tr] 2 = some tr:=rfl
  rw [F_2u]
  simp only [g0,g1,g2,obs,getI_el hi,gc,getI_el hj,eF,eT,p1,p2,e1]
  rw [wrap64 (x:=2 * ((O + T:Nat):Int)) (by omega) (by omega),wrap64 (x:=2 * ((O + F:Nat):Int)) (by omega) (by omega),wrap64 (by omega) (by omega),wrap64 (by omega) (by omega)]
  congr 2 <;> omega
 ·rw [F_4g]
  simp only [hr,obs,getI_el hi,gc,getI_el hj,eF,eT,p3,e2]
  rw [wrap64 (x:=((O + 0:Nat):Int) + (T:Int)) (by omega) (by omega),wrap64 (x:=((O + 0:Nat):Int) + (F:Int)) (by omega) (by omega),wrap64 (x:=2 * (((O + 0:Nat):Int) + (T:Int))) (by omega) (by omega),wrap64 (x:=2 * (((O + 0:Nat):Int) + (F:Int))) (by omega) (by omega),wrap64 (by omega) (by omega),wrap64 (by omega) (by omega)]
  congr 2 <;> omega
theorem ChkDelay {b:S_Block} {inst arc tr:Int} {a:S_Arc} {i j:Nat} {c:S_Cell} (h:ChkAt b inst arc a i j c) (ht:tr = 0 ∨ tr = 1):∃ t,getI a.Delay tr = some t ∧ VT t:=by
 obtain ⟨rfl,rfl,hi,gc,vc,nets,hj,rfl,kind⟩:=h
 have ar:=(vc.arcs j hj).1
 unfold ArcS at ar
 have k1:¬ c.Arcs[j].Kind = 1:=by omega
 have k2:¬ (c.Arcs[j].Kind = 2 ∨ c.Arcs[j].Kind = 3):=by omega
 rw [if_neg k1,if_neg k2,if_pos kind] at ar
 obtain ⟨_,_,_,_,_,hd,_⟩:=ar
 obtain ⟨t,e,he⟩:=getI_ok (xs:=c.Arcs[j].Delay) (i:=tr) (by omega) (by have:=hd.1; omega)
 exact ⟨t,e,(hd.2 t (List.mem_of_getElem? he)).1⟩
theorem bcw {x s:Int} {y:Option Int} (e:(bif decide (x < 0) then some (-1) else y) = some s) (hs:0 ≤ s):0 ≤ x ∧ y = some s:=by
 by_cases h:x < 0
 ·rw [decide_eq_true h,cT] at e; have:=Option.some.inj e; omega
 ·rw [decide_eq_false h,cF] at e; exact ⟨by omega,e⟩
theorem bch {s:Int} {o:Option Int} {g:Int → Option Int} (e:(Option.bind o fun r=>bif decide (r < 0) then some (-1) else g r) = some s) (hs:0 ≤ s):∃ r,o = some r ∧ 0 ≤ r ∧ g r = some s:=by
 cases o with
 | none=>cases e
 | some r =>
  rw [obs] at e
  obtain ⟨a,b⟩:=bcw e hs
  exact ⟨r,rfl,a,b⟩
theorem msL {α:Type} {xs:List α} {LZ LM:Nat → Int → Int → Option Int} {f:α → Int → Option Int}
 (hz:∀ (m i:Nat) (l:Int) (h:i < xs.length),LZ (m + 1) l (i:Int) = Option.bind (f xs[i] l) fun r=>bif decide (r < 0) then some (-1) else LZ m r ((i + 1:Nat):Int))
 (hze:∀ (m:Nat) (l:Int),LZ (m + 1) l (xs.length:Int) = some l)
 (hm:∀ (m i:Nat) (k l r:Int) (h:i < xs.length),f xs[i] l = some r → 0 ≤ r → 0 ≤ l → l ≤ 1048576 → 0 ≤ k → k + 4 + 4 * l ≤ 1152921504606846976 → r ≤ l ∧ ∃ k',LM (m + 1) k (i:Int) = LM m k' ((i + 1:Nat):Int) ∧ k ≤ k' ∧ k' ≤ k + 4 + 4 * (l - r))
 (hme:∀ (m:Nat) (k:Int),LM (m + 1) k (xs.length:Int) = some k) :
 ∀ (m i:Nat) (k l r:Int),i ≤ xs.length → xs.length - i < m → LZ m l (i:Int) = some r → 0 ≤ r → 0 ≤ l → l ≤ 1048576 → 0 ≤ k → k + 4 * ((xs.length - i:Nat):Int) + 4 * l ≤ 1152921504606846976 → r ≤ l ∧ ∃ k',LM m k (i:Int) = some k' ∧ k ≤ k' ∧ k' ≤ k + 4 * ((xs.length - i:Nat):Int) + 4 * (l - r)
 | 0,i,_,_,_,_,hf,_,_,_,_,_,_=>by omega
 | m + 1,i,k,l,r,hi,hf,e,hr,h0,h1,hk,hb=>by
  by_cases h:i < xs.length
  ·rw [hz m i l h] at e
   obtain ⟨r1,e1,p1,e2⟩:=bch e hr
   obtain ⟨q1,k1,a1,a2,a3⟩:=hm m i k l r1 h e1 p1 h0 h1 hk (by omega)
   obtain ⟨q2,k2,b1,b2,b3⟩:=msL hz hze hm hme m (i + 1) k1 r1 r (by omega) (by omega) e2 hr p1 (by omega) (by omega) (by omega)
   exact ⟨by omega,k2,by rw [a1,b1],by omega,by omega⟩
  ·obtain rfl:i = xs.length:=by omega
   rw [hze] at e
   obtain rfl:=Option.some.inj e
   exact ⟨Int.le_refl _,k,hme m k,Int.le_refl _,by omega⟩
theorem wk {k:Int} (h0:0 ≤ k) (h1:k ≤ 2305843009213693952):IntKind.wrap .i64 (k + 1) = k + 1:=wrap64 (by omega) (by omega)
theorem MS_Int64S {n:Nat} {a:List Int} {left k r:Int} (hR:(fun xs=>xs.length ≤ 9223372036854775807 ∧ ∀ x ∈ xs,inK .i64 x) a) (h0:0 ≤ left) (h1:left ≤ 1048576) (hn:1048577 ≤ n) (e:F_n n a left = some r) (hr:0 ≤ r) (k0:0 ≤ k) (k1:k + 4 * left ≤ 1152921504606846976) :
 r ≤ left ∧ ∃ k',F_b n a k = some k' ∧ k ≤ k' ∧ k' ≤ k + 4 * (left - r):=by
 have hl:=hR.1
 rw [F_n,wrap64 (by omega) (by omega)] at e
 obtain ⟨p,e⟩:=bcw e hr
 obtain rfl:=Option.some.inj e
 have key:∀ (m i:Nat) (k:Int),i ≤ a.length → a.length - i < m → 0 ≤ k → k + ((a.length - i:Nat):Int) ≤ 1152921504606846976 → F_b_L1 a (fun i5 i6=>some i5) m k (i:Int) = some (k + ((a.length - i:Nat):Int)):=by
  intro m
  induction m with
  | zero=>intro i k _ h; omega
  | succ m ih =>
   intro i k hi hm h0 hb
   by_cases h:i < a.length
   ·simp only [F_b_L1.eq_2,dlt h,cT,getI_el h,obs,wk (k:=k) h0 (by omega),wT i]
    rw [ih (i + 1) (k + 1) (by omega) (by omega) (by omega) (by omega)]
    congr 1; omega
   ·obtain rfl:i = a.length:=by omega
    simp only [F_b_L1.eq_2,dnl,cF]
    congr 1; omega
 refine ⟨by omega,k + (a.length:Int),?_,by omega,by omega⟩
 rw [F_b]
 have:=key n 0 k (by omega) (by omega) k0 (by simp; omega)
 simpa using this
theorem MS_PinS {n:Nat} {a:List S_Pin} {left k r:Int} (hR:(fun xs=>xs.length ≤ 9223372036854775807 ∧ ∀ x ∈ xs,R_Pin x) a) (h0:0 ≤ left) (h1:left ≤ 1048576) (hn:1048577 ≤ n) (e:F_x n a left = some r) (hr:0 ≤ r) (k0:0 ≤ k) (k1:k + 4 * left ≤ 1152921504606846976) :
 r ≤ left ∧ ∃ k',F_0s n a k = some k' ∧ k ≤ k' ∧ k' ≤ k + 4 * (left - r):=by
 have hl:=hR.1
 rw [F_x,wrap64 (by omega) (by omega)] at e
 obtain ⟨p,e⟩:=bcw e hr
 obtain ⟨q,k2,b1,b2,b3⟩:=msL (xs:=a) (LZ:=fun m l i=>F_x_L1 n a (fun i5 i6=>(some i5)) m l i) (LM:=fun m k i=>F_0s_L1 n a (fun i5 i6=>(some i5)) m k i) (f:=F_27 n)
  (fun m i l hi=>by
   simp only [F_x_L1.eq_2,dlt hi,cT,getI_el hi,obs,wT i])
  (fun m l=>by simp only [F_x_L1.eq_2,dnl,cF])
  (fun m i k l r hi e hr h0 h1 k0 k1=>by
   have hx:=hR.2 _ (List.getElem_mem hi)
   rw [F_27] at e
   have g:(a[i].Name.size:Int) ≤ 9223372036854775807:=by have g:=hx.1; rw [maxLen_is] at g; omega
   rw [wrap64 (x:=l - (a[i].Name.size:Int)) (by omega) (by omega)] at e
   obtain ⟨p0,e⟩:=bcw e hr
   obtain rfl:=Option.some.inj e
   obtain ⟨t,ht⟩:=MT (n:=n) (k:=k) (by omega) (by omega) hn
   refine ⟨by omega,k + 1 + 1 + 1 + 1,?_,by omega,by omega⟩
   simp only [F_0s_L1.eq_2,dlt hi,cT,getI_el hi,obs,wT i,ht,wk (k:=k) (by omega) (by omega),wk (k:=k + 1) (by omega) (by omega),wk (k:=k + 1 + 1) (by omega) (by omega),wk (k:=k + 1 + 1 + 1) (by omega) (by omega)])
  (fun m k=>by simp only [F_0s_L1.eq_2,dnl,cF]) n 0 k (left - (a.length:Int)) r (by omega) (by omega) e hr p (by omega) k0 (by omega)
 rw [Nat.sub_zero] at b3
 refine ⟨by omega,k2,?_,b2,by omega⟩
 rw [F_0s]; exact b1
theorem MS_TableS {n:Nat} {a:List S_Table} {left k r:Int} (hR:(fun xs=>xs.length ≤ 9223372036854775807 ∧ ∀ x ∈ xs,R_Table x) a) (h0:0 ≤ left) (h1:left ≤ 1048576) (hn:1048577 ≤ n) (e:F_u n a left = some r) (hr:0 ≤ r) (k0:0 ≤ k) (k1:k + 4 * left ≤ 1152921504606846976) :
 r ≤ left ∧ ∃ k',F_09 n a k = some k' ∧ k ≤ k' ∧ k' ≤ k + 4 * (left - r):=by
 have hl:=hR.1
 rw [F_u,wrap64 (by omega) (by omega)] at e
 obtain ⟨p,e⟩:=bcw e hr
 obtain ⟨q,k2,b1,b2,b3⟩:=msL (xs:=a) (LZ:=fun m l i=>F_u_L1 n a (fun i5 i6=>(some i5)) m l i) (LM:=fun m k i=>F_09_L1 n a (fun i5 i6=>(some i5)) m k i) (f:=F_28 n)
  (fun m i l hi=>by
   simp only [F_u_L1.eq_2,dlt hi,cT,getI_el hi,obs,wT i])
  (fun m l=>by simp only [F_u_L1.eq_2,dnl,cF])
  (fun m i k l r hi e hr h0 h1 k0 k1=>by
   have hx:=hR.2 _ (List.getElem_mem hi)
   rw [F_28] at e
   obtain ⟨r0,e0,p1,e⟩:=bch e hr
   obtain ⟨r1,e1,p2,e⟩:=bch e hr
   obtain ⟨r2,e2,p3,e⟩:=bch e hr
   obtain rfl:=Option.some.inj e
   obtain ⟨u0,k_0,m0,v0,z0⟩:=MS_Int64S (n:=n) (a:=a[i].Slews) (left:=l) (k:=k) (hx.1) (by omega) (by omega) hn e0 (by omega) (by omega) (by omega)
   obtain ⟨u1,k_1,m1,v1,z1⟩:=MS_Int64S (n:=n) (a:=a[i].Loads) (left:=r0) (k:=k_0) (hx.2.1) (by omega) (by omega) hn e1 (by omega) (by omega) (by omega)
   obtain ⟨u2,k_2,m2,v2,z2⟩:=MS_Int64S (n:=n) (a:=a[i].Values) (left:=r1) (k:=k_1) (hx.2.2) (by omega) (by omega) hn e2 (by omega) (by omega) (by omega)
   refine ⟨by omega,k_2,?_,by omega,by omega⟩
   simp only [F_09_L1.eq_2,dlt hi,cT,getI_el hi,obs,wT i,m0,m1,m2])
  (fun m k=>by simp only [F_09_L1.eq_2,dnl,cF]) n 0 k (left - (a.length:Int)) r (by omega) (by omega) e hr p (by omega) k0 (by omega)
 rw [Nat.sub_zero] at b3
 refine ⟨by omega,k2,?_,b2,by omega⟩
 rw [F_09]; exact b1
theorem MS_ArcS {n:Nat} {a:List S_Arc} {left k r:Int} (hR:(fun xs=>xs.length ≤ 9223372036854775807 ∧ ∀ x ∈ xs,R_Arc x) a) (h0:0 ≤ left) (h1:left ≤ 1048576) (hn:1048577 ≤ n) (e:F_y n a left = some r) (hr:0 ≤ r) (k0:0 ≤ k) (k1:k + 4 * left ≤ 1152921504606846976) :
 r ≤ left ∧ ∃ k',F_0t n a k = some k' ∧ k ≤ k' ∧ k' ≤ k + 4 * (left - r):=by
 have hl:=hR.1
 rw [F_y,wrap64 (by omega) (by omega)] at e
 obtain ⟨p,e⟩:=bcw e hr
 obtain ⟨q,k2,b1,b2,b3⟩:=msL (xs:=a) (LZ:=fun m l i=>F_y_L1 n a (fun i5 i6=>(some i5)) m l i) (LM:=fun m k i=>F_0t_L1 n a (fun i5 i6=>(some i5)) m k i) (f:=F_29 n)
  (fun m i l hi=>by
   simp only [F_y_L1.eq_2,dlt hi,cT,getI_el hi,obs,wT i])
  (fun m l=>by simp only [F_y_L1.eq_2,dnl,cF])
  (fun m i k l r hi e hr h0 h1 k0 k1=>by
   have hx:=hR.2 _ (List.getElem_mem hi)
   rw [F_29] at e
   obtain ⟨r0,e0,p1,e⟩:=bch e hr
   obtain ⟨r1,e1,p2,e⟩:=bch e hr
   obtain rfl:=Option.some.inj e
   obtain ⟨u0,k_0,m0,v0,z0⟩:=MS_TableS (n:=n) (a:=a[i].Delay) (left:=l) (k:=k + 1 + 1 + 1 + 1) (hx.2.2.2.2.1) (by omega) (by omega) hn e0 (by omega) (by omega) (by omega)
   obtain ⟨u1,k_1,m1,v1,z1⟩:=MS_TableS (n:=n) (a:=a[i].Slew) (left:=r0) (k:=k_0) (hx.2.2.2.2.2) (by omega) (by omega) hn e1 (by omega) (by omega) (by omega)
   refine ⟨by omega,k_1,?_,by omega,by omega⟩
   simp only [F_0t_L1.eq_2,dlt hi,cT,getI_el hi,obs,wT i,wk (k:=k) (by omega) (by omega),wk (k:=k + 1) (by omega) (by omega),wk (k:=k + 1 + 1) (by omega) (by omega),wk (k:=k + 1 + 1 + 1) (by omega) (by omega),m0,m1])
  (fun m k=>by simp only [F_0t_L1.eq_2,dnl,cF]) n 0 k (left - (a.length:Int)) r (by omega) (by omega) e hr p (by omega) k0 (by omega)
 rw [Nat.sub_zero] at b3
 refine ⟨by omega,k2,?_,b2,by omega⟩
 rw [F_0t]; exact b1
theorem MS_CellS {n:Nat} {a:List S_Cell} {left k r:Int} (hR:(fun xs=>xs.length ≤ 9223372036854775807 ∧ ∀ x ∈ xs,R_Cell x) a) (h0:0 ≤ left) (h1:left ≤ 1048576) (hn:1048577 ≤ n) (e:F_z n a left = some r) (hr:0 ≤ r) (k0:0 ≤ k) (k1:k + 4 * left ≤ 1152921504606846976) :
 r ≤ left ∧ ∃ k',F_0u n a k = some k' ∧ k ≤ k' ∧ k' ≤ k + 4 * (left - r):=by
 have hl:=hR.1
 rw [F_z,wrap64 (by omega) (by omega)] at e
 obtain ⟨p,e⟩:=bcw e hr
 obtain ⟨q,k2,b1,b2,b3⟩:=msL (xs:=a) (LZ:=fun m l i=>F_z_L1 n a (fun i5 i6=>(some i5)) m l i) (LM:=fun m k i=>F_0u_L1 n a (fun i5 i6=>(some i5)) m k i) (f:=F_2a n)
  (fun m i l hi=>by
   simp only [F_z_L1.eq_2,dlt hi,cT,getI_el hi,obs,wT i])
  (fun m l=>by simp only [F_z_L1.eq_2,dnl,cF])
  (fun m i k l r hi e hr h0 h1 k0 k1=>by
   have hx:=hR.2 _ (List.getElem_mem hi)
   rw [F_2a] at e
   have g:(a[i].Name.size:Int) ≤ 9223372036854775807:=by have g:=hx.1; rw [maxLen_is] at g; omega
   rw [wrap64 (x:=l - (a[i].Name.size:Int)) (by omega) (by omega)] at e
   obtain ⟨p0,e⟩:=bcw e hr
   obtain ⟨r0,e0,p1,e⟩:=bch e hr
   obtain ⟨r1,e1,p2,e⟩:=bch e hr
   obtain ⟨r2,e2,p3,e⟩:=bch e hr
   obtain rfl:=Option.some.inj e
   obtain ⟨t,ht⟩:=MT (n:=n) (k:=k) (by omega) (by omega) hn
   obtain ⟨u0,k_0,m0,v0,z0⟩:=MS_PinS (n:=n) (a:=a[i].Pins) (left:=(l - (a[i].Name.size:Int))) (k:=k + 1 + 1) (hx.2.2.1) (by omega) (by omega) hn e0 (by omega) (by omega) (by omega)
   obtain ⟨u1,k_1,m1,v1,z1⟩:=MS_ArcS (n:=n) (a:=a[i].Arcs) (left:=r0) (k:=k_0) (hx.2.2.2.1) (by omega) (by omega) hn e1 (by omega) (by omega) (by omega)
   obtain ⟨u2,k_2,m2,v2,z2⟩:=MS_Int64S (n:=n) (a:=a[i].Truth) (left:=r1) (k:=k_1) (hx.2.2.2.2.1) (by omega) (by omega) hn e2 (by omega) (by omega) (by omega)
   refine ⟨by omega,k_2 + 1 + 1,?_,by omega,by omega⟩
   simp only [F_0u_L1.eq_2,dlt hi,cT,getI_el hi,obs,wT i,ht,wk (k:=k) (by omega) (by omega),wk (k:=k + 1) (by omega) (by omega),m0,m1,m2,wk (k:=k_2) (by omega) (by omega),wk (k:=k_2 + 1) (by omega) (by omega)])
  (fun m k=>by simp only [F_0u_L1.eq_2,dnl,cF]) n 0 k (left - (a.length:Int)) r (by omega) (by omega) e hr p (by omega) k0 (by omega)
 rw [Nat.sub_zero] at b3
 refine ⟨by omega,k2,?_,b2,by omega⟩
 rw [F_0u]; exact b1
theorem MS_Library {n:Nat} {a:S_Library} {left k r:Int} (hR:R_Library a) (h0:0 ≤ left) (h1:left ≤ 1048576) (hn:1048577 ≤ n) (e:F_2h n a left = some r) (hr:0 ≤ r) (k0:0 ≤ k) (k1:k + 4 * left ≤ 1152921504606846976) :
 r ≤ left ∧ ∃ k',F_3q n a k = some k' ∧ k ≤ k' ∧ k' ≤ k + 4 * (left - r):=by
 rw [F_2h] at e
 obtain ⟨r0,e0,p0,e⟩:=bch e hr
 obtain rfl:=Option.some.inj e
 obtain ⟨u0,k_0,m0,v0,z0⟩:=MS_CellS (n:=n) (a:=a.Cells) (left:=left) (k:=k) (hR) (by omega) (by omega) hn e0 (by omega) (by omega) (by omega)
 exact ⟨by omega,k_0,by simp only [F_3q,obs,m0],by omega,by omega⟩
theorem MS_InstanceS {n:Nat} {a:List S_Instance} {left k r:Int} (hR:(fun xs=>xs.length ≤ 9223372036854775807 ∧ ∀ x ∈ xs,R_Instance x) a) (h0:0 ≤ left) (h1:left ≤ 1048576) (hn:1048577 ≤ n) (e:F_00 n a left = some r) (hr:0 ≤ r) (k0:0 ≤ k) (k1:k + 4 * left ≤ 1152921504606846976) :
 r ≤ left ∧ ∃ k',F_0v n a k = some k' ∧ k ≤ k' ∧ k' ≤ k + 4 * (left - r):=by
 have hl:=hR.1
 rw [F_00,wrap64 (by omega) (by omega)] at e
 obtain ⟨p,e⟩:=bcw e hr
 obtain ⟨q,k2,b1,b2,b3⟩:=msL (xs:=a) (LZ:=fun m l i=>F_00_L1 n a (fun i5 i6=>(some i5)) m l i) (LM:=fun m k i=>F_0v_L1 n a (fun i5 i6=>(some i5)) m k i) (f:=F_2b n)
  (fun m i l hi=>by
   simp only [F_00_L1.eq_2,dlt hi,cT,getI_el hi,obs,wT i])
  (fun m l=>by simp only [F_00_L1.eq_2,dnl,cF])
  (fun m i k l r hi e hr h0 h1 k0 k1=>by
   have hx:=hR.2 _ (List.getElem_mem hi)
   rw [F_2b] at e
   have g:(a[i].Name.size:Int) ≤ 9223372036854775807:=by have g:=hx.1; rw [maxLen_is] at g; omega
   rw [wrap64 (x:=l - (a[i].Name.size:Int)) (by omega) (by omega)] at e
   obtain ⟨p0,e⟩:=bcw e hr
   obtain ⟨r0,e0,p1,e⟩:=bch e hr
   obtain rfl:=Option.some.inj e
   obtain ⟨t,ht⟩:=MT (n:=n) (k:=k) (by omega) (by omega) hn
   obtain ⟨u0,k_0,m0,v0,z0⟩:=MS_Int64S (n:=n) (a:=a[i].Nets) (left:=(l - (a[i].Name.size:Int))) (k:=k + 1 + 1) (hx.2.2) (by omega) (by omega) hn e0 (by omega) (by omega) (by omega)
   refine ⟨by omega,k_0,?_,by omega,by omega⟩
   simp only [F_0v_L1.eq_2,dlt hi,cT,getI_el hi,obs,wT i,ht,wk (k:=k) (by omega) (by omega),wk (k:=k + 1) (by omega) (by omega),m0])
  (fun m k=>by simp only [F_0v_L1.eq_2,dnl,cF]) n 0 k (left - (a.length:Int)) r (by omega) (by omega) e hr p (by omega) k0 (by omega)
 rw [Nat.sub_zero] at b3
 refine ⟨by omega,k2,?_,b2,by omega⟩
 rw [F_0v]; exact b1
theorem MS_StringS {n:Nat} {a:List ByteArray} {left k r:Int} (hR:(fun xs=>xs.length ≤ 9223372036854775807 ∧ ∀ x ∈ xs,(fun s=>s.size ≤ maxLen) x) a) (h0:0 ≤ left) (h1:left ≤ 1048576) (hn:1048577 ≤ n) (e:F_01 n a left = some r) (hr:0 ≤ r) (k0:0 ≤ k) (k1:k + 4 * left ≤ 1152921504606846976) :
 r ≤ left ∧ ∃ k',F_1c n a k = some k' ∧ k ≤ k' ∧ k' ≤ k + 4 * (left - r):=by
 have hl:=hR.1
 rw [F_01,wrap64 (by omega) (by omega)] at e
 obtain ⟨p,e⟩:=bcw e hr
 obtain ⟨q,k2,b1,b2,b3⟩:=msL (xs:=a) (LZ:=fun m l i=>F_01_L1 a (fun i5 i6=>(some i5)) m l i) (LM:=fun m k i=>F_1c_L1 n a (fun i5 i6=>(some i5)) m k i) (f:=(fun (x:ByteArray) (l:Int)=>bif decide (IntKind.wrap .i64 (l - (x.size:Int)) < 0) then some (-1) else some (IntKind.wrap .i64 (l - (x.size:Int)))))
  (fun m i l hi=>by
   simp only [F_01_L1.eq_2,dlt hi,cT,getI_el hi,obs,wT i]
   cases d:decide (IntKind.wrap .i64 (l - (a[i].size:Int)) < 0) with
   | true=>rfl
   | false=>simp only [cF,obs,d])
  (fun m l=>by simp only [F_01_L1.eq_2,dnl,cF])
  (fun m i k l r hi e hr h0 h1 k0 k1=>by
   have hx:=hR.2 _ (List.getElem_mem hi)
   have g:(a[i].size:Int) ≤ 9223372036854775807:=by have g:=hx; rw [maxLen_is] at g; omega
   rw [wrap64 (x:=l - (a[i].size:Int)) (by omega) (by omega)] at e
   obtain ⟨p0,e⟩:=bcw e hr
   obtain rfl:=Option.some.inj e
   obtain ⟨t,ht⟩:=MT (n:=n) (k:=k) (by omega) (by omega) hn
   refine ⟨by omega,k + 1,?_,by omega,by omega⟩
   simp only [F_1c_L1.eq_2,dlt hi,cT,getI_el hi,obs,wT i,ht,wk (k:=k) (by omega) (by omega)])
  (fun m k=>by simp only [F_1c_L1.eq_2,dnl,cF]) n 0 k (left - (a.length:Int)) r (by omega) (by omega) e hr p (by omega) k0 (by omega)
 rw [Nat.sub_zero] at b3
 refine ⟨by omega,k2,?_,b2,by omega⟩
 rw [F_1c]; exact b1
theorem MS_PortS {n:Nat} {a:List S_Port} {left k r:Int} (hR:(fun xs=>xs.length ≤ 9223372036854775807 ∧ ∀ x ∈ xs,R_Port x) a) (h0:0 ≤ left) (h1:left ≤ 1048576) (hn:1048577 ≤ n) (e:F_02 n a left = some r) (hr:0 ≤ r) (k0:0 ≤ k) (k1:k + 4 * left ≤ 1152921504606846976) :
 r ≤ left ∧ ∃ k',F_1d n a k = some k' ∧ k ≤ k' ∧ k' ≤ k + 4 * (left - r):=by
 have hl:=hR.1
 rw [F_02,wrap64 (by omega) (by omega)] at e
 obtain ⟨p,e⟩:=bcw e hr
 obtain ⟨q,k2,b1,b2,b3⟩:=msL (xs:=a) (LZ:=fun m l i=>F_02_L1 n a (fun i5 i6=>(some i5)) m l i) (LM:=fun m k i=>F_1d_L1 n a (fun i5 i6=>(some i5)) m k i) (f:=F_2c n)
  (fun m i l hi=>by
   simp only [F_02_L1.eq_2,dlt hi,cT,getI_el hi,obs,wT i])
  (fun m l=>by simp only [F_02_L1.eq_2,dnl,cF])
  (fun m i k l r hi e hr h0 h1 k0 k1=>by
   have hx:=hR.2 _ (List.getElem_mem hi)
   rw [F_2c] at e
   have g:(a[i].Name.size:Int) ≤ 9223372036854775807:=by have g:=hx.1; rw [maxLen_is] at g; omega
   rw [wrap64 (x:=l - (a[i].Name.size:Int)) (by omega) (by omega)] at e
   obtain ⟨p0,e⟩:=bcw e hr
   obtain rfl:=Option.some.inj e
   obtain ⟨t,ht⟩:=MT (n:=n) (k:=k) (by omega) (by omega) hn
   refine ⟨by omega,k + 1 + 1 + 1,?_,by omega,by omega⟩
   simp only [F_1d_L1.eq_2,dlt hi,cT,getI_el hi,obs,wT i,ht,wk (k:=k) (by omega) (by omega),wk (k:=k + 1) (by omega) (by omega),wk (k:=k + 1 + 1) (by omega) (by omega)])
  (fun m k=>by simp only [F_1d_L1.eq_2,dnl,cF]) n 0 k (left - (a.length:Int)) r (by omega) (by omega) e hr p (by omega) k0 (by omega)
 rw [Nat.sub_zero] at b3
 refine ⟨by omega,k2,?_,b2,by omega⟩
 rw [F_1d]; exact b1
theorem MS_Design {n:Nat} {a:S_Design} {left k r:Int} (hR:R_Design a) (h0:0 ≤ left) (h1:left ≤ 1048576) (hn:1048577 ≤ n) (e:F_2i n a left = some r) (hr:0 ≤ r) (k0:0 ≤ k) (k1:k + 4 * left ≤ 1152921504606846976) :
 r ≤ left ∧ ∃ k',F_4h n a k = some k' ∧ k ≤ k' ∧ k' ≤ k + 4 * (left - r):=by
 rw [F_2i] at e
 obtain ⟨r0,e0,p0,e⟩:=bch e hr
 obtain ⟨r1,e1,p1,e⟩:=bch e hr
 obtain ⟨r2,e2,p2,e⟩:=bch e hr
 obtain rfl:=Option.some.inj e
 obtain ⟨u0,k_0,m0,v0,z0⟩:=MS_InstanceS (n:=n) (a:=a.Instances) (left:=left) (k:=k) (hR.1) (by omega) (by omega) hn e0 (by omega) (by omega) (by omega)
 obtain ⟨u1,k_1,m1,v1,z1⟩:=MS_StringS (n:=n) (a:=a.Nets) (left:=r0) (k:=k_0) (hR.2.1) (by omega) (by omega) hn e1 (by omega) (by omega) (by omega)
 obtain ⟨u2,k_2,m2,v2,z2⟩:=MS_PortS (n:=n) (a:=a.Ports) (left:=r1) (k:=k_1) (hR.2.2) (by omega) (by omega) hn e2 (by omega) (by omega) (by omega)
 exact ⟨by omega,k_2,by simp only [F_4h,obs,m0,m1,m2],by omega,by omega⟩
theorem MS_WireS {n:Nat} {a:List S_Wire} {left k r:Int} (hR:(fun xs=>xs.length ≤ 9223372036854775807 ∧ ∀ x ∈ xs,R_Wire x) a) (h0:0 ≤ left) (h1:left ≤ 1048576) (hn:1048577 ≤ n) (e:F_03 n a left = some r) (hr:0 ≤ r) (k0:0 ≤ k) (k1:k + 4 * left ≤ 1152921504606846976) :
 r ≤ left ∧ ∃ k',F_1e n a k = some k' ∧ k ≤ k' ∧ k' ≤ k + 4 * (left - r):=by
 have hl:=hR.1
 rw [F_03,wrap64 (by omega) (by omega)] at e
 obtain ⟨p,e⟩:=bcw e hr
 obtain ⟨q,k2,b1,b2,b3⟩:=msL (xs:=a) (LZ:=fun m l i=>F_03_L1 n a (fun i5 i6=>(some i5)) m l i) (LM:=fun m k i=>F_1e_L1 n a (fun i5 i6=>(some i5)) m k i) (f:=F_2d n)
  (fun m i l hi=>by
   simp only [F_03_L1.eq_2,dlt hi,cT,getI_el hi,obs,wT i])
  (fun m l=>by simp only [F_03_L1.eq_2,dnl,cF])
  (fun m i k l r hi e hr h0 h1 k0 k1=>by
   have hx:=hR.2 _ (List.getElem_mem hi)
   rw [F_2d] at e
   obtain ⟨r0,e0,p1,e⟩:=bch e hr
   obtain ⟨r1,e1,p2,e⟩:=bch e hr
   obtain ⟨r2,e2,p3,e⟩:=bch e hr
   obtain ⟨r3,e3,p4,e⟩:=bch e hr
   obtain rfl:=Option.some.inj e
   obtain ⟨u0,k_0,m0,v0,z0⟩:=MS_Int64S (n:=n) (a:=a[i].Parent) (left:=l) (k:=k) (hx.1) (by omega) (by omega) hn e0 (by omega) (by omega) (by omega)
   obtain ⟨u1,k_1,m1,v1,z1⟩:=MS_Int64S (n:=n) (a:=a[i].Res) (left:=r0) (k:=k_0) (hx.2.1) (by omega) (by omega) hn e1 (by omega) (by omega) (by omega)
   obtain ⟨u2,k_2,m2,v2,z2⟩:=MS_Int64S (n:=n) (a:=a[i].Cap) (left:=r1) (k:=k_1) (hx.2.2.1) (by omega) (by omega) hn e2 (by omega) (by omega) (by omega)
   obtain ⟨u3,k_3,m3,v3,z3⟩:=MS_Int64S (n:=n) (a:=a[i].Sink) (left:=r2) (k:=k_2) (hx.2.2.2) (by omega) (by omega) hn e3 (by omega) (by omega) (by omega)
   refine ⟨by omega,k_3,?_,by omega,by omega⟩
   simp only [F_1e_L1.eq_2,dlt hi,cT,getI_el hi,obs,wT i,m0,m1,m2,m3])
  (fun m k=>by simp only [F_1e_L1.eq_2,dnl,cF]) n 0 k (left - (a.length:Int)) r (by omega) (by omega) e hr p (by omega) k0 (by omega)
 rw [Nat.sub_zero] at b3
 refine ⟨by omega,k2,?_,b2,by omega⟩
 rw [F_1e]; exact b1
theorem MS_Block {n:Nat} {a:S_Block} {left k r:Int} (hR:R_Block a) (h0:0 ≤ left) (h1:left ≤ 1048576) (hn:1048577 ≤ n) (e:F_2j n a left = some r) (hr:0 ≤ r) (k0:0 ≤ k) (k1:k + 4 * left ≤ 1152921504606846976) :
 r ≤ left ∧ ∃ k',F_4i n a k = some k' ∧ k ≤ k' ∧ k' ≤ k + 4 * (left - r):=by
 rw [F_2j] at e
 obtain ⟨r0,e0,p0,e⟩:=bch e hr
 obtain ⟨r1,e1,p1,e⟩:=bch e hr
 obtain ⟨r2,e2,p2,e⟩:=bch e hr
 obtain rfl:=Option.some.inj e
 obtain ⟨u0,k_0,m0,v0,z0⟩:=MS_Library (n:=n) (a:=a.Library) (left:=left) (k:=k) (hR.1) (by omega) (by omega) hn e0 (by omega) (by omega) (by omega)
 obtain ⟨u1,k_1,m1,v1,z1⟩:=MS_Design (n:=n) (a:=a.Design) (left:=r0) (k:=k_0) (hR.2.1) (by omega) (by omega) hn e1 (by omega) (by omega) (by omega)
 obtain ⟨u2,k_2,m2,v2,z2⟩:=MS_WireS (n:=n) (a:=a.Wires) (left:=r1) (k:=k_1) (hR.2.2) (by omega) (by omega) hn e2 (by omega) (by omega) (by omega)
 exact ⟨by omega,k_2,by simp only [F_4i,obs,m0,m1,m2],by omega,by omega⟩
def chkB (a:S_Arc):Bool:=a.Kind == 4 || a.Kind == 5
def arcsOf (b:S_Block) (x:S_Instance):List S_Arc:=match getI b.Library.Cells x.Cell with
 | some c=>c.Arcs
 | none=>[]
def siteA (i j:Nat) (a:S_Arc):List (Int × Int × Int):=if chkB a = true then [((i:Int),(j:Int),0),((i:Int),(j:Int),1)] else []
def siteI (b:S_Block) (i:Nat) (x:S_Instance):List (Int × Int × Int):=idx (siteA i) 0 (arcsOf b x)
def sitesT (b:S_Block):List (Int × Int × Int):=idx (siteI b) 0 b.Design.Instances
def toS (p:Int × Int × Int):List Int:=[p.1,p.2.1,p.2.2]
def toC (p:Int × Int × Int):S_Check:=⟨p.1,p.2.1,p.2.2,0⟩
theorem siteA_len (i j:Nat) (a:S_Arc):(siteA i j a).length ≤ 2:=by unfold siteA; split <;> simp
theorem siteI_len {b:S_Block} (v:VBlock b) (i:Nat) {x:S_Instance} (hx:x ∈ b.Design.Instances):(siteI b i x).length ≤ 16:=by
 obtain ⟨j,hj,rfl⟩:=List.getElem_of_mem hx
 obtain ⟨k,hk,_,gc,_,vc⟩:=v.design.inst_at hj
 have:=idx_len (c:=2) (g:=siteA i) (arcsOf b b.Design.Instances[j]) 0 fun j a _=>siteA_len i j a
 have few:=vc.few
 unfold siteI
 unfold arcsOf at this ⊢
 rw [gc] at this ⊢
 simp only at this ⊢
 omega
theorem sitesT_len {b:S_Block} (v:VBlock b):(sitesT b).length ≤ 224:=by
 have:=idx_len (c:=16) (g:=siteI b) b.Design.Instances 0 fun j x hx=>siteI_len v j hx
 have:=v.design.few.1
 unfold sitesT; omega
theorem Sites1 {n:Nat} {b:S_Block} (v:VBlock b) (hn:1048577 ≤ n):F_k n b = some ((sitesT b).map toS):=by
 have few:=v.design.few.1
 rw [F_k]
 rw [loop_idx (xs:=b.Design.Instances) (L:=fun m s i=>F_k_L1 n b (fun l32 i36=>(some l32)) m s i) (k:=fun s=>some s) (fun i x=>(siteI b i x).map toS) 16 0 (fun j x hx=>by rw [List.length_map]; exact siteI_len v j hx) (by omega) (by
  intro m i hi s hs
  obtain ⟨k,hk,_,gc,_,vc⟩:=v.design.inst_at hi
  have fa:=vc.few
  simp only [F_k_L1.eq_2,dlt hi,cT,getI_el hi,gc,obs,wT i]
  have ea:arcsOf b b.Design.Instances[i] = b.Library.Cells[k].Arcs:=by unfold arcsOf; rw [gc]
  rw [siteI,ea,idx_map]
  refine loop_idx (xs:=b.Library.Cells[k].Arcs) (L:=fun m s j=>F_k_L2 (i:Int) b.Library.Cells[k] _ m s j) (k:=fun s=>F_k_L1 n b (fun l32 i36=>(some l32)) m s ((i + 1:Nat):Int)) (fun j a=>(siteA i j a).map toS) 2 s.length (fun j a _=>by rw [List.length_map]; exact siteA_len i j a) (by omega) ?_ ?_ n (by omega) s (by omega)
  ·intro m j hj s hs
   simp only [F_k_L2.eq_2,dlt hj,cT,getI_el hj,obs,wT j]
   have eb:(Option.bind (bif (b.Library.Cells[k].Arcs[j].Kind == 4) then (some true) else (some (b.Library.Cells[k].Arcs[j].Kind == 5))) fun c92=>(some c92)) = some (chkB b.Library.Cells[k].Arcs[j]):=by
    unfold chkB; cases (b.Library.Cells[k].Arcs[j].Kind == 4) <;> rfl
   have eb2:(bif (b.Library.Cells[k].Arcs[j].Kind == 4) then (some true) else (some (b.Library.Cells[k].Arcs[j].Kind == 5))) = some (chkB b.Library.Cells[k].Arcs[j]):=by
    unfold chkB; cases (b.Library.Cells[k].Arcs[j].Kind == 4) <;> rfl
   rw [eb2,obs]
   unfold siteA
   cases chkB b.Library.Cells[k].Arcs[j] with
   | true=>rw [cT,appN_ok (by simp; omega) (by omega),obs]; rfl
   | false=>simp
  ·intro m s
   simp only [F_k_L2.eq_2,dnl,cF]) (by
  intro m s
  simp only [F_k_L1.eq_2,dnl,cF]) n (by omega) [] (by simp)]
 rw [List.nil_append,sitesT,idx_map]
theorem Sites2 {n:Nat} {b:S_Block} (v:VBlock b) (hn:1048577 ≤ n):F_l n b = some ((sitesT b).map toC):=by
 have few:=v.design.few.1
 rw [F_l]
 rw [loop_idx (xs:=b.Design.Instances) (L:=fun m s i=>F_l_L1 n b (fun l23 i27=>(some l23)) m s i) (k:=fun s=>some s) (fun i x=>(siteI b i x).map toC) 16 0 (fun j x hx=>by rw [List.length_map]; exact siteI_len v j hx) (by omega) (by
  intro m i hi s hs
  obtain ⟨k,hk,_,gc,_,vc⟩:=v.design.inst_at hi
  have fa:=vc.few
  simp only [F_l_L1.eq_2,dlt hi,cT,getI_el hi,gc,obs,wT i]
  have ea:arcsOf b b.Design.Instances[i] = b.Library.Cells[k].Arcs:=by unfold arcsOf; rw [gc]
  rw [siteI,ea,idx_map]
  refine loop_idx (xs:=b.Library.Cells[k].Arcs) (L:=fun m s j=>F_l_L2 n (i:Int) b.Library.Cells[k] _ m s j) (k:=fun s=>F_l_L1 n b (fun l23 i27=>(some l23)) m s ((i + 1:Nat):Int)) (fun j a=>(siteA i j a).map toC) 2 s.length (fun j a _=>by rw [List.length_map]; exact siteA_len i j a) (by omega) ?_ ?_ n (by omega) s (by omega)
  ·intro m j hj s hs
   simp only [F_l_L2.eq_2,dlt hj,cT,getI_el hj,obs,F_23,wT j]
   have eb:(b.Library.Cells[k].Arcs[j].Kind == 4 || b.Library.Cells[k].Arcs[j].Kind == 5) = chkB b.Library.Cells[k].Arcs[j]:=rfl
   rw [eb]
   unfold siteA
   cases chkB b.Library.Cells[k].Arcs[j] with
   | true=>rw [cT,appN_ok (by simp; omega) (by omega),obs]; rfl
   | false=>simp
  ·intro m s
   simp only [F_l_L2.eq_2,dnl,cF]) (by
  intro m s
  simp only [F_l_L1.eq_2,dnl,cF]) n (by omega) [] (by simp)]
 rw [List.nil_append,sitesT,idx_map]
theorem sitesT_chk {b:S_Block} (v:VBlock b):∀ p ∈ sitesT b,(p.2.2 = 0 ∨ p.2.2 = 1) ∧ ∃ a i j c,ChkAt b p.1 p.2.1 a i j c:=by
 refine idx_all (Q:=fun p:Int × Int × Int=>(p.2.2 = 0 ∨ p.2.2 = 1) ∧ ∃ a i j c,ChkAt b p.1 p.2.1 a i j c) b.Design.Instances 0 (fun i hi y hy=>?_)
 rw [Nat.zero_add] at hy
 obtain ⟨k,hk,_,gc,hnl,vc⟩:=v.design.inst_at hi
 have ea:arcsOf b b.Design.Instances[i] = b.Library.Cells[k].Arcs:=by unfold arcsOf; rw [gc]
 rw [siteI,ea] at hy
 refine idx_all (Q:=fun p:Int × Int × Int=>(p.2.2 = 0 ∨ p.2.2 = 1) ∧ ∃ a i j c,ChkAt b p.1 p.2.1 a i j c) _ 0 (fun j hj z hz=>?_) y hy
 rw [Nat.zero_add] at hz
 unfold siteA at hz
 split at hz
 ·rename_i hc
  have kd:b.Library.Cells[k].Arcs[j].Kind = 4 ∨ b.Library.Cells[k].Arcs[j].Kind = 5:=by
   simpa [chkB] using hc
  simp only [List.mem_cons,List.not_mem_nil,or_false] at hz
  rcases hz with rfl | rfl
  ·exact ⟨.inl rfl,_,i,j,_,rfl,rfl,hi,gc,vc,hnl,hj,rfl,kd⟩
  ·exact ⟨.inr rfl,_,i,j,_,rfl,rfl,hi,gc,vc,hnl,hj,rfl,kd⟩
 ·simp at hz
theorem ChkArc2 {n:Nat} {b:S_Block} (v:VBlock b) {inst arc:Int} {a:S_Arc} {i j:Nat} {c:S_Cell} (h:ChkAt b inst arc a i j c):F_3g n b inst arc = some (a,true):=by
 obtain ⟨rfl,rfl,hi,gc,vc,nets,hj,rfl,kind⟩:=h
 have fw:=v.design.few
 have fa:=vc.few
 have wI:IntKind.wrap .i64 ((b.Design.Instances.length:Int) - 1) = (b.Design.Instances.length:Int) - 1:=wrap64 (by omega) (by omega)
 have wA:IntKind.wrap .i64 ((c.Arcs.length:Int) - 1) = (c.Arcs.length:Int) - 1:=wrap64 (by omega) (by omega)
 have d1:(decide ((i:Int) ≥ 0) && decide ((i:Int) ≤ (b.Design.Instances.length:Int) - 1)) = true:=by simp only [Bool.and_eq_true,decide_eq_true_eq]; omega
 have d2:(decide ((j:Int) ≥ 0) && decide ((j:Int) ≤ (c.Arcs.length:Int) - 1)) = true:=by simp only [Bool.and_eq_true,decide_eq_true_eq]; omega
 have d3:(c.Arcs[j].Kind == 4 || c.Arcs[j].Kind == 5) = true:=by simpa using kind
 rw [F_3g]
 simp only [F_50,F_3,F_51,obs,wI,d1,Bool.not_true,cF,getI_el hi,gc,wA,d2,getI_el hj,F_23,d3]
theorem AllS {n:Nat} {b:S_Block} {t:S_Timing} {rel:S_Relation} {w:S_view} (v:VBlock b) (vt:TmOK b t) (hn:1048577 ≤ n) :
 ∃ g:List S_Check,g.length ≤ 1048576 ∧ F_0m n b t rel = some g ∧ F_0p n ⟨b,w.places_,w.links_,w.loads_,w.delays_,w.extras_⟩ t rel = some g:=by
 have hl:=sitesT_len v
 rw [F_0m,F_0p,Sites1 v hn,Sites2 v hn,obs,obs]
 refine loop2 (L:=fun m i (s:List S_Check)=>F_0m_L1 n b t rel ((sitesT b).map toS) (fun l62 i66=>(some l62)) m s i) (M:=fun m i (s:List S_Check)=>F_0p_L1 n ⟨b,w.places_,w.links_,w.loads_,w.delays_,w.extras_⟩ t rel ((sitesT b).map toC) (fun l57 i61=>(some l57)) m s i) (sitesT b).length
  (fun i s s'=>s = s' ∧ s.length ≤ i) (fun o o'=>∃ g:List S_Check,g.length ≤ 1048576 ∧ o = some g ∧ o' = some g) ?_ ?_ n 0 [] [] (by omega) (by omega) ⟨rfl,by simp⟩
 ·intro m i s s' hi hr
  obtain ⟨rfl,hs⟩:=hr
  have l1:i < ((sitesT b).map toS).length:=by simpa using hi
  have l2:i < ((sitesT b).map toC).length:=by simpa using hi
  have e1:getI ((sitesT b).map toS) (i:Int) = some (toS (sitesT b)[i]):=by rw [getI_el l1]; simp
  have e2:getI ((sitesT b).map toC) (i:Int) = some (toC (sitesT b)[i]):=by rw [getI_el l2]; simp
  obtain ⟨htr,a,i',j',c,ck⟩:=sitesT_chk v _ (List.getElem_mem hi)
  generalize (sitesT b)[i] = p at htr ck e1 e2
  obtain ⟨inst,arc,tr⟩:=p
  have htr:tr = 0 ∨ tr = 1:=htr
  have ck:ChkAt b inst arc a i' j' c:=ck
  have g0:getI [inst,arc,tr] 0 = some inst:=rfl
  have g1:getI [inst,arc,tr] 1 = some arc:=rfl
  have g2:getI [inst,arc,tr] 2 = some tr:=rfl
  have e1:getI ((sitesT b).map toS) (i:Int) = some [inst,arc,tr]:=e1
  have e2:getI ((sitesT b).map toC) (i:Int) = some ⟨inst,arc,tr,0⟩:=e2
  obtain ⟨D,C,n1,n2,hD,hC⟩:=ChkNodes (n:=n) (r:=⟨b,w.places_,w.links_,w.loads_,w.delays_,w.extras_⟩) (s:=0) v rfl ck htr hn
  obtain ⟨tb,q1,vtb⟩:=ChkDelay ck htr
  have z1:=vt.reached; have z2:=vt.arr; have z3:=vt.slew
  obtain ⟨r1,k1,_⟩:=getI_ok (xs:=t.Reached) (i:=(D:Int)) (by omega) (by omega)
  obtain ⟨r2,k2,_⟩:=getI_ok (xs:=t.Reached) (i:=(C:Int)) (by omega) (by omega)
  obtain ⟨y1,k3,_⟩:=getI_ok (xs:=t.Arrival) (i:=(D:Int)) (by omega) (by omega)
  obtain ⟨y2,k4,_⟩:=getI_ok (xs:=t.Arrival) (i:=(C:Int)) (by omega) (by omega)
  obtain ⟨s1,k5,_⟩:=getI_ok (xs:=t.Slew) (i:=(D:Int)) (by omega) (by omega)
  obtain ⟨s2,k6,_⟩:=getI_ok (xs:=t.Slew) (i:=(C:Int)) (by omega) (by omega)
  obtain ⟨R,k7,k8⟩:=Lk (n:=n) vtb s1.Late s2.Late 1 hn
  have gi:getI b.Design.Instances inst = some (b.Design.Instances[i']'ck.hi):=(congrArg (getI b.Design.Instances) ck.ei).trans (getI_el ck.hi)
  have ga:getI c.Arcs arc = some a:=by rw [ck.ej,getI_el ck.hj,ck.ea]
  have ca:=ChkArc2 (n:=n) v ck
  have dl:decide ((i:Int) < (((sitesT b).map toS).length:Int)) = true:=decide_eq_true (by omega)
  have dm:decide ((i:Int) < (((sitesT b).map toC).length:Int)) = true:=decide_eq_true (by omega)
  simp only [F_0m_L1.eq_2,F_0p_L1.eq_2,dl,dm,cT,e1,e2,obs,F_4m,F_4n,F_52,n1,n2,g0,g1,g2,k1,k2,k3,k4,k5,k6,gi,ck.gc,ga,q1,k7,k8,ca,wT i]
  cases r1 with
  | false=>exact ⟨s,s,⟨rfl,by omega⟩,rfl,rfl⟩
  | true =>
   cases r2 with
   | false=>exact ⟨s,s,⟨rfl,by omega⟩,rfl,rfl⟩
   | true =>
    cases (a.Kind == 4) <;> simp only [Bool.not_true,cT,cF,obs] <;> rw [appN_ok (by simp; omega) (by omega)] <;> exact ⟨_,_,⟨rfl,by simp; omega⟩,rfl,rfl⟩
 ·intro m s s' hr
  obtain ⟨rfl,hs⟩:=hr
  have dl:decide (((sitesT b).length:Int) < (((sitesT b).map toS).length:Int)) = false:=decide_eq_false (by simp)
  have dm:decide (((sitesT b).length:Int) < (((sitesT b).map toC).length:Int)) = false:=decide_eq_false (by simp)
  simp only [F_0m_L1.eq_2,F_0p_L1.eq_2,dl,dm,cF]
  exact ⟨s,by omega,rfl,rfl⟩
theorem Code16 {n:Nat} {b:S_Block} {t:S_Timing} {rel:S_Relation} (hb:SMBl b) (ht:t.Reached.length ≤ 1048576) (hn:1048577 ≤ n) :
 (F_38 n b t rel = some 0 ∧ (VBlock b ∧ TmOK b t) ∧ ∃ w:S_view,F_3e n b t rel = some (some w,0)) ∨ (∃ c:Int,(c != 0) = true ∧ F_38 n b t rel = some c ∧ F_3e n b t rel = some (none,c)):=by
 obtain ⟨c,e1,hc⟩:=Bk1 hb hn
 obtain ⟨c2,e2,hc2⟩:=Bk2 hb hn
 obtain rfl:c = c2:=by rw [Bool.eq_iff_iff,hc,hc2]
 rw [F_38,F_3e,F_4y,e1,e2,rl1]
 simp only [obs]
 cases c with
 | false=>exact .inr ⟨1,rfl,rfl,rfl⟩
 | true =>
  have v:=hc.1 rfl
  obtain ⟨w,ew,hw⟩:=Vw2 (n:=n) v hn
  obtain ⟨p,f1,hp⟩:=Tm1 (b:=b) ht hn
  obtain ⟨p2,f2,hp2⟩:=Tm2 (r:=⟨b,w.places_,w.links_,w.loads_,w.delays_,w.extras_⟩) v hw ht hn
  obtain rfl:p = p2:=by rw [Bool.eq_iff_iff,hp,hp2]
  simp only [Bool.not_true,cF,Cnt1 v hn,obs,f1,ew,f2]
  cases p with
  | false=>exact .inr ⟨1,rfl,rfl,rfl⟩
  | true =>
   simp only [Bool.not_true,cF,obs,oelim,bne_self_eq_false,rl2]
   cases RelB rel with
   | false=>exact .inr ⟨2,rfl,rfl,rfl⟩
   | true=>exact .inl ⟨rfl,⟨v,hp.1 rfl⟩,_,rfl⟩
theorem PFnExactAllChecks {a:S_Block} {t:S_Timing} {rel:S_Relation} (hR:R_Block a) (hL:R_Timing t) (_hrel:R_Relation rel):∃ n,F_54 n a t rel = some true:=by
 obtain ⟨n,hn⟩:∃ n,1048577 ≤ n:=⟨_,Nat.le_refl _⟩
 refine ⟨n,?_⟩
 rw [F_54]
 obtain ⟨r,e,hr,hs⟩:=Z_Block (n:=n) (left:=1048576) hR (by omega) (by omega) hn
 rw [e,obs]
 by_cases h0:r < 0
 ·rw [decide_eq_true h0]; rfl
 have hS:=hs (by omega)
 obtain ⟨r2,e2,hr2,hs2⟩:=Z_Timing (n:=n) (left:=r) hL (by omega) (by omega) hn
 rw [decide_eq_false h0,cF,e2,obs]
 by_cases h2:r2 < 0
 ·rw [decide_eq_true h2]; rfl
 have hT:=hs2 (by omega)
 obtain ⟨g,c,hg,g1,g2⟩:∃ (g:List S_Check) (c:Int),g.length ≤ 1048576 ∧ F_40 n a t rel = some (g,c) ∧ F_31 n a t rel = some (g,c):=by
  rw [F_40,F_31]
  rcases Code16 (n:=n) (rel:=rel) (SM_Block.b hS) hT.1.1 hn with ⟨f1,⟨v,vt⟩,w,f2⟩ | ⟨c,hc,f1,f2⟩
  ·rw [f1,f2]
   simp only [obs,cF,oelim,bne_self_eq_false]
   obtain ⟨g,k0,k1,k2⟩:=AllS (n:=n) (rel:=rel) (w:=w) v vt hn
   exact ⟨g,0,k0,by rw [k1]; rfl,by rw [k2]; rfl⟩
  ·rw [f1,f2]
   simp only [obs,oelim,hc,cT]
   exact ⟨[],c,by simp,rfl,rfl⟩
 obtain ⟨_,k1,m1,u1,v1⟩:=MS_Block (n:=n) (left:=1048576) (k:=1) hR (by omega) (by omega) hn e (by omega) (by omega) (by omega)
 obtain ⟨q2,m2,u2,v2⟩:=M_Timing (n:=n) (k:=k1) hT (by omega) (by omega) hn
 obtain ⟨q4,m4,u4,v4,z4⟩:=M_CheckS (n:=n) (a:=g) (k:=1) hg (by omega) (by omega) hn
 have hG:(fun xs=>xs.length ≤ 1048576 ∧ ∀ x ∈ xs,SM_Check x) g:=⟨hg,fun _ _=>⟨trivial,trivial,trivial,trivial⟩⟩
 simp only [decide_eq_false h2,cF,T_Block hS hn,T_Timing hT hn,show F_2e n rel = some rel from rfl,obs,g1,g2,bne_self_eq_false,Bool.or_self,E_Block hS hn,E_Timing hT hn,E_CheckS hG hn,Bool.not_true,m1,m2,decide_eq_false (show ¬ q2.1 < 0 by omega),m4,z4,decide_eq_false (show ¬ q4.1 < 0 by omega)]
def cf (l:List Bool):Nat:=l.countP (fun b=>!b)
end Go.Proofs.YtiaobghojdehbaaGreatDoor
