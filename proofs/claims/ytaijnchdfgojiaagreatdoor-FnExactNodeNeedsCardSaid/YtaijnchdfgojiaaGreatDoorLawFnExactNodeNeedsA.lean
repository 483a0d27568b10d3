/- The plain law behind FnExactNodeNeeds: the plain function answers true; no condition. -/
import Derived.Test.YtaijnchdfgojiaaGreatDoorWalkFnExactNodeNeeds
set_option linter.all false
set_option maxHeartbeats 4000000
namespace Go.Proofs.YtaijnchdfgojiaaGreatDoor
open Go Go.RowKit Go.Eng
open Go.IntKind (wrap)

theorem Dz{b c:Bool}:(cond b (some true) (some c))=some (b||c):=by cases b<;>rfl
theorem CG{b c:Bool}:(cond b (some c) (some false))=some (b&&c):=by cases b<;>rfl
theorem DP{i N:Nat}(h:i<N):decide ((i:Int)<(N:Int))=true:=decide_eq_true (by omega)
theorem Dc(N:Nat):decide ((N:Int)<(N:Int))=false:=decide_eq_false (by omega)
theorem wS{i:Nat}(h:i<4611686018427387904):wrap .i64 ((i:Int)+1)=((i+1:Nat):Int):=by rw [Ac (by omega) (by omega)];simp
theorem AU{α:Type}{xs:List α}{i:Nat}(h:i<xs.length):AG xs (i:Int)=some xs[i]:=by rw [EA];exact List.getElem?_eq_getElem h
theorem GX{α:Type}{xs:List α}{i:Int}(h0:0<=i)(h1:i<xs.length):∃x,AG xs i=some x∧xs[i.toNat]? =some x:=by
 obtain⟨x,hx,_⟩:=Fu h0 h1
 exact⟨x,hx,(EQ hx).2.2⟩
theorem loop{σ R:Type}{L:Nat->Int->σ->Option R}(N:Nat)(I:Nat->σ->Prop)(Post:Option R->Prop)
 (hs:∀(m i:Nat) (st:σ),i<N->I i st->(∃st',I (i+1) st'∧L (m+1) (i:Int) st=L m ((i+1:Nat):Int) st')∨Post (L (m+1) (i:Int) st))
 (he:∀(m:Nat) (st:σ),I N st->Post (L (m+1) (N:Int) st)):∀(m i:Nat) (st:σ),i<=N->N-i<m->I i st->Post (L m (i:Int) st)
 |0,i,st,_,hm,_=>by omega
 |m+1,i,st,hi,hm,h=>by
  by_cases hlt:i<N
  ·rcases hs m i st hlt h with ⟨st',h1,h2⟩|h1
   ·rw [h2];exact loop N I Post hs he m (i+1) st' (by omega) (by omega) h1
   ·exact h1
  ·obtain rfl:i=N:=by omega
   exact he m st h
theorem PR{α σ R:Type}{xs:List α}{L:Nat->Int->σ->Option R}{k:σ->Option R}(f:σ->α->σ)(I:Nat->σ->Prop)
 (hs:∀(m i:Nat) (h:i<xs.length) (st:σ),I i st->L (m+1) (i:Int) st=L m ((i+1:Nat):Int) (f st xs[i])∧I (i+1) (f st xs[i]))
 (he:∀(m:Nat) (st:σ),I xs.length st->L (m+1) (xs.length:Int) st=k st) (m:Nat) (st:σ) (h:I 0 st) (hm:xs.length<m):L m 0 st=k (xs.foldl f st)∧I xs.length (xs.foldl f st):=by
 refine loop xs.length (fun i s=>I i s∧(xs.drop i).foldl f s=xs.foldl f st) (fun o=>o=k (xs.foldl f st)∧I xs.length (xs.foldl f st)) ?_ ?_ m 0 st (by omega) (by omega) ⟨h,by simp⟩
 ·intro m i s hi ⟨h1,h2⟩
  obtain⟨e,h3⟩:=hs m i hi s h1
  exact .inl ⟨_,⟨h3,by rw [List.drop_eq_getElem_cons hi]at h2;exact h2⟩,e⟩
 ·intro m s ⟨h1,h2⟩
  rw [List.drop_length]at h2
  have h2:s=xs.foldl f st:=h2
  rw [←h2]
  exact⟨he m s h1,h1⟩
theorem CC{α:Type}{xs ys:List α}{b:Nat}(h:xs.length+ys.length<=16777216)(hb:b<=1048576):Dm xs ys b=some (xs++ys):=by
 unfold Dm
 have:(xs.length+ys.length)*b<=16777216*1048576:=Nat.mul_le_mul h hb
 rw [if_pos ⟨by omega,by omega⟩]
theorem Nl{α R:Type}{xs:List α}{L:Nat->Int->Option R}{k no:Option R}(p:α->Bool)(hs:∀(m i:Nat) (h:i<xs.length),L (m+1) (i:Int)=cond (p xs[i]) (L m ((i+1:Nat):Int)) no)
 (he:∀m:Nat,L (m+1) (xs.length:Int)=k) (m:Nat) (hm:xs.length<m):L m 0=cond (xs.all p) k no:=by
 refine loop (L:=fun m i (_:Unit)=>L m i) xs.length (fun i _=>xs.all p=(xs.drop i).all p) (fun o=>o=cond (xs.all p) k no) ?_ ?_ m 0 () (by omega) (by omega) (by simp)
 ·intro m i _ hi h
  rw [List.drop_eq_getElem_cons hi,List.all_cons]at h
  cases hp:p xs[i]with
  |false=>refine .inr ?_;rw [h,hp];simp only [hs m i hi,hp,cF,Bool.false_and]
  |true=>refine .inl ⟨(),by rw [h,hp];simp,?_⟩;simp only [hs m i hi,hp,cT]
 ·intro m _ h
  rw [List.drop_length]at h
  rw [h];simp [he m]
def Gc{α:Type}(Q:α->Prop)(o:Option α):Prop:=∃v,o=some v∧Q v
theorem Df{α:Type}{Q:α->Prop}{v:α}(h:Q v):Gc Q (some v):=⟨v,rfl,h⟩
theorem Gc.bind{α β:Type}{A:α->Prop}{Q:β->Prop}{o:Option α}{f:α->Option β}(h:Gc A o)(k:∀v,o=Option.some v->A v->Gc Q (f v)):Gc Q (Option.bind o f):=by
 obtain⟨v,e,hv⟩:=h
 rw [e];exact k v e hv
theorem Ki{α:Type}{Q:α->Prop}{c:Bool}{x y:Option α}(h1:c=true->Gc Q x)(h2:c=false->Gc Q y):Gc Q (cond c x y):=by
 cases c
 ·exact h2 rfl
 ·exact h1 rfl
theorem Gc.get{α:Type}{Q:α->Prop}{xs:List α}{i:Int}(h0:0<=i)(h1:i<xs.length)(h:∀x∈xs,Q x):Gc Q (AG xs i):=by
 obtain⟨x,hx,hm⟩:=Fu h0 h1
 exact⟨x,hx,h x hm⟩
theorem KN{α:Type}{xs:List α}{L:Nat->Int->Option Int}(p:α->Bool)(hs:∀(m i:Nat) (h:i<xs.length),L (m+1) (i:Int)=cond (p xs[i]) (some (i:Int)) (L m ((i+1:Nat):Int)))
 (he:∀m:Nat,L (m+1) (xs.length:Int)=some (-1)) (m:Nat) (hm:xs.length<m):∃r,L m 0=some r∧decide (r>=0)=xs.any p:=by
 refine loop (L:=fun m i (_:Unit)=>L m i) xs.length (fun i _=>xs.any p=(xs.drop i).any p) (fun o=>∃r,o=some r∧decide (r>=0)=xs.any p) ?_ ?_ m 0 () (by omega) (by omega) (by simp)
 ·intro m i _ hi h
  rw [List.drop_eq_getElem_cons hi,List.any_cons]at h
  cases hp:p xs[i]with
  |false=>refine .inl ⟨(),by rw [h,hp];simp,?_⟩;simp only [hs m i hi,hp,cF]
  |true=>refine .inr ⟨(i:Int),?_,?_⟩
         ·simp only [hs m i hi,hp,cT]
         ·rw [h,hp];simp
 ·intro m _ h
  rw [List.drop_length]at h
  exact⟨-1,he m,by rw [h];rfl⟩
theorem fA{a b:Int}(ha:0<=a)(hb:0<b):0<=Int.tmod a b∧Int.tmod a b<b:=⟨Int.tmod_nonneg _ ha,Int.tmod_lt_of_pos _ hb⟩
def gd(t:List Int)(j:Nat):Int:=t.getD j 0
theorem KI{t:List Int}{j:Nat}{v:Int}(h:t[j]? =some v):gd t j=v:=by simp [gd,h]
theorem oA{t:List Int}{j:Nat}(h:j<t.length):t[j]? =some (gd t j):=by simp [gd,h]
theorem Gi{t:List Int}{i j:Nat}{v:Int}(h:i<t.length):gd (t.set i v) j=if i=j then v else gd t j:=by
 unfold gd
 rw [List.getD_eq_getElem?_getD,List.getD_eq_getElem?_getD,List.getElem?_set]
 by_cases e:i=j
 ·subst e;simp [h]
 ·simp [e]
theorem NU{t:List Int}{i:Int}(h0:0<=i)(h1:i<t.length):AG t i=some (gd t i.toNat):=by
 obtain⟨x,hx,h⟩:=GX h0 h1
 rw [hx,KI h]
def gb(t:List Bool)(j:Nat):Bool:=t.getD j false
theorem Mp{t:List Bool}{i j:Nat}{v:Bool}(h:i<t.length):gb (t.set i v) j=if i=j then v else gb t j:=by
 unfold gb
 rw [List.getD_eq_getElem?_getD,List.getD_eq_getElem?_getD,List.getElem?_set]
 by_cases e:i=j
 ·subst e;simp [h]
 ·simp [e]
theorem rJ{t u:List Bool}(h:t.length=u.length)(e:∀j,j<t.length->gb t j=gb u j):t=u:=by
 apply List.ext_getElem?
 intro j
 by_cases hj:j<t.length
 ·have:=e j hj
  simp only [gb,List.getD_eq_getElem?_getD,List.getElem?_eq_getElem hj,List.getElem?_eq_getElem (h▸hj),Option.getD_some]at this
  rw [List.getElem?_eq_getElem hj,List.getElem?_eq_getElem (h▸hj),this]
 ·rw [List.getElem?_eq_none (by omega),List.getElem?_eq_none (by omega)]
theorem Lo{n j:Nat}:gd (List.replicate n 0) j=0:=by
 simp only [gd,List.getD_eq_getElem?_getD,List.getElem?_replicate];split<;>rfl
def LH(b:UInt8):Bool:=decide ((b.toNat:Int)>=97)&&decide ((b.toNat:Int)<=122)
def Qk(b:UInt8):Bool:=decide ((b.toNat:Int)>=48)&&decide ((b.toNat:Int)<=57)
def EC(s:ByteArray):Bool:=(decide ((s.size:Int)>=1)&&decide ((s.size:Int)<=8))&&(s.data.toList.all fun b=>LH b||Qk b)&&(s.data.toList.take 1).all LH
theorem NC(s:ByteArray):s.size=s.data.toList.length:=by rw [Array.length_toList];rfl
theorem Uw{s:ByteArray}{i:Nat}(h:i<s.data.toList.length):Pt s (i:Int)=some ((s.data.toList[i].toNat:Nat):Int):=by
 unfold Pt
 rw [if_pos (by omega),Int.toNat_natCast]
 have:s[i]? =some s.data.toList[i]:=by
  have hs:i<s.size:=by rw [NC];exact h
  rw [show s[i]? =some s[i]from getElem?_pos s i hs]
  rfl
 rw [this];rfl
theorem aV(p q:UInt8->Bool)(h:(List.range 256).all (fun i=>p (UInt8.ofNat i)==q (UInt8.ofNat i))=true)(b:UInt8):p b=q b:=by
 have:=List.all_eq_true.1 h b.toNat (List.mem_range.2 b.toNat_lt)
 rw [UInt8.ofNat_toNat]at this
 exact eq_of_beq this
def lettersL:List UInt8:=[97,98,99,100,101,102,103,104,105,106,107,108,109,110,111,112,113,114,115,116,117,118,119,120,121,122]
def nameL:List UInt8:=[97,98,99,100,101,102,103,104,105,106,107,108,109,110,111,112,113,114,115,116,117,118,119,120,121,122,48,49,50,51,52,53,54,55,56,57]
theorem Yj(b:UInt8):nameL.contains b=(LH b||Qk b):=aV (fun b=>nameL.contains b) (fun b=>LH b||Qk b) (by decide+kernel) b
theorem SR(b:UInt8):lettersL.contains b=LH b:=aV (fun b=>lettersL.contains b) (fun b=>LH b) (by decide+kernel) b
theorem Ms{p:UInt8->Bool}:∀{l:List UInt8} (h:0<l.length),(l.take 1).all p=p l[0]
 |[],h=>by simp at h
 |a::r,_=>by simp
theorem Fr{p:UInt8->Bool}:∀(l:List UInt8),(l.dropWhile p=[])↔l.all p=true
 |[]=>by simp
 |a::l=>by
  rw [List.dropWhile_cons,List.all_cons]
  cases h:p a with
  |true=>simpa using Fr l
  |false=>simp
theorem Jv{p:UInt8->Bool}:∀{l:List UInt8} {a:UInt8} {r:List UInt8},l.dropWhile p=a::r->p a=false
 |b::l,a,r,h=>by
  rw [List.dropWhile_cons]at h
  split at h
  ·exact Jv h
  ·next q=>simp only [List.cons.injEq]at h;rw [←h.1];simpa using q
theorem Wz(l cs:List UInt8):(Lib.trimS l cs==[])=l.all (cs.contains ·):=by
 rw [Bool.eq_iff_iff,beq_iff_eq]
 unfold Lib.trimS Lib.trimLeftS Lib.trimRightS
 rw [Fr,List.all_reverse]
 rw [show l.all (cs.contains ·)=l.reverse.all (cs.contains ·) by rw [List.all_reverse]]
 constructor
 ·intro h
  cases hd:l.reverse.dropWhile (cs.contains ·)with
  |nil=>exact(Fr _).1 hd
  |cons a r=>
   have h1:=Jv hd
   rw [hd,List.all_cons,h1]at h
   cases h
 ·intro h
  rw [(Fr _).2 h];rfl
theorem Mc:∀(l:List UInt8) (c:UInt8),decide (Lib.indexByte l c>=0)=l.contains c∧Lib.indexByte l c>= -1
 |[],c=>by simp [Lib.indexByte]
 |b::l,c=>by
  obtain⟨h1,h2⟩:=Mc l c
  rw [Lib.indexByte,List.contains_cons]
  by_cases e:b=c
  ·subst e;simp
  ·have e1:(b==c)=false:=beq_eq_false_iff_ne.2 e
   have e2:(c==b)=false:=beq_eq_false_iff_ne.2 fun q=>e q.symm
   rw [e1,e2,Bool.false_or,←h1]
   by_cases h:Lib.indexByte l c= -1
   ·rw [h];simp
   ·have:(Lib.indexByte l c== -1)=false:=beq_eq_false_iff_ne.2 h
    rw [this]
    have hge:Lib.indexByte l c>=0:=by omega
    rw [decide_eq_true hge]
    simp only [Bool.false_eq_true,if_false]
    exact⟨decide_eq_true (by omega),by omega⟩
theorem Nm1{n:Nat}{s:ByteArray}(hs:s.size<=1048576)(hn:1048577<=n):Th n s=some (EC s):=by
 rw [Th,JL,Ai]
 unfold EC
 cases hw:(decide ((s.size:Int)>=1)&&decide ((s.size:Int)<=8))with
 |false=>simp
 |true=>
  have hsz:1<=s.size:=by simp only [Bool.and_eq_true,decide_eq_true_eq]at hw;omega
  have ht:XI n s ((ByteArray.mk #[97,98,99,100,101,102,103,104,105,106,107,108,109,110,111,112,113,114,115,116,117,118,119,120,121,122,48,49,50,51,52,53,54,55,56,57]))=some ⟨(Lib.trimS s.data.toList nameL).toArray⟩:=by
   unfold XI
   rw [if_pos ⟨by omega,by decide,by decide⟩];rfl
  simp only [cT,ht,Ai,Bool.true_and]
  have hb:((⟨(Lib.trimS s.data.toList nameL).toArray⟩:ByteArray).toList==((ByteArray.mk #[])).toList)=(s.data.toList.all fun b=>LH b||Qk b):=by
   rw [Lib.toList_data,Lib.toList_data]
   show((Lib.trimS s.data.toList nameL)==[])=_
   rw [Wz]
   congr 1
   funext b;exact Yj b
  rw [hb]
  cases(s.data.toList.all fun b=>LH b||Qk b)with
  |false=>simp
  |true=>
   rw [NC]at hsz
   have hg:=Uw (s:=s) (i:=0) (by omega)
   simp only [cT,show((0:Int))=((0:Nat):Int)from rfl,hg,Ai,rC,Bool.true_and]
   have h1:=(Mc lettersL (s.data.toList[0])).1
   rw [SR]at h1
   have e1:(((s.data.toList[0].toNat:Nat):Int).toNat.toUInt8)=s.data.toList[0]:=by rw [Int.toNat_natCast];exact UInt8.ofNat_toNat
   rw [e1]
   have e2:(s.data.toList.take 1).all LH=LH s.data.toList[0]:=Ms (by omega)
   rw [e2,←h1];rfl
theorem zB{n:Nat}{s:ByteArray}(hs:s.size<=1048576)(hn:1048577<=n):kY n s=some (EC s):=by
 rw [kY]
 have hl:=NC s
 refine loop (L:=fun m i (_:Unit)=>GH s _ m i) s.data.toList.length (fun i _=>EC s=((decide ((s.size:Int)>=1)&&decide ((s.size:Int)<=8))&&((s.data.toList.drop i).all fun b=>LH b||Qk b)&&((s.data.toList.take 1).drop i).all LH)) (fun r=>r=some (EC s)) ?_ ?_ n 0 () (by omega) (by omega) (by simp [EC])
 ·intro m i _ hi hI
  have g:=Uw hi
  have hd:decide ((i:Int)<(s.size:Int))=true:=decide_eq_true (by omega)
  have key:GH s (fun i3=>(some (((decide ((s.size:Int)>=1))&&(decide ((s.size:Int)<=8)))))) (m+1) (i:Int)=cond (!LH s.data.toList[i]&& !(Qk s.data.toList[i]&&decide (0<i))) (some false) (GH s (fun i3=>(some (((decide ((s.size:Int)>=1))&&(decide ((s.size:Int)<=8)))))) m ((i+1:Nat):Int)):=by
   have e0:decide ((i:Int)>0)=decide (0<i):=by by_cases h:0<i<;>simp [h]<;>omega
   simp only [GH.eq_2,hd,cT,g,Ai,CG,wT i,e0]
   rfl
  by_cases hc:(!LH s.data.toList[i]&& !(Qk s.data.toList[i]&&decide (0<i)))=true
  ·refine .inr ?_
   show GH s _ (m+1) (i:Int)=_
   rw [key,hc,cT]
   have:EC s=false:=by
    rw [hI,List.drop_eq_getElem_cons hi,List.all_cons]
    simp only [Bool.and_eq_true,Bool.not_eq_true',Bool.and_eq_false_iff,decide_eq_false_iff_not]at hc
    obtain⟨h1,h2⟩:=hc
    rw [h1]
    rcases h2 with h2|h2
    ·rw [h2];simp
    ·obtain rfl:i=0:=by omega
     rw [List.drop_zero,Ms hi,h1];simp
   rw [this]
  ·refine .inl ⟨(),?_,?_⟩
   ·rw [hI,List.drop_eq_getElem_cons hi,List.all_cons]
    have hc:=Bool.eq_false_iff.2 hc
    simp only [Bool.and_eq_false_iff,Bool.not_eq_false',Bool.and_eq_true,decide_eq_true_eq]at hc
    by_cases h0:i=0
    ·subst h0
     have h1:LH s.data.toList[0]=true:=by
      rcases hc with h|h
      ·exact h
      ·omega
     have e2:(s.data.toList.take 1).drop (0+1)=[]:=List.drop_eq_nil_of_le (by simp;omega)
     rw [List.drop_zero,Ms hi,e2,h1];simp
    ·have e1:(s.data.toList.take 1).drop i=[]:=List.drop_eq_nil_of_le (by simp;omega)
     have e2:(s.data.toList.take 1).drop (i+1)=[]:=List.drop_eq_nil_of_le (by simp;omega)
     rw [e1,e2]
     have:(LH s.data.toList[i]||Qk s.data.toList[i])=true:=by
      rcases hc with h|h
      ·rw [h];rfl
      ·rw [h.1];simp
     rw [this];simp
   ·show GH s _ (m+1) (i:Int)=GH s _ m ((i+1:Nat):Int)
    rw [key,Bool.eq_false_iff.2 hc,cF]
 ·intro m _ hI
  have hd:decide (((s.data.toList.length:Nat):Int)<(s.size:Int))=false:=decide_eq_false (by omega)
  simp only [GH.eq_2,hd,cF]
  rw [hI,List.drop_length,List.drop_eq_nil_of_le (by simp;omega)]
  simp
def BF(P:Prop)(r:Option Bool):Prop:=∃b:Bool,r=some b∧(b=true↔P)
theorem BB{P:Prop}(h:¬P):BF P (some false):=⟨false,rfl,by simp [h]⟩
theorem CS{P:Prop}(h:P):BF P (some true):=⟨true,rfl,by simp [h]⟩
theorem Ct1{n:Nat}{xs:List ByteArray}{x:ByteArray}(h:xs.length<=1048576)(hn:1048577<=n):aD n xs x=some (xs.any fun y=>x.toList==y.toList):=by
 rw [aD,jK]
 obtain⟨r,e1,e2⟩:=KN (xs:=xs) (L:=fun m i=>HM xs x (fun i5=>(some (-1))) m i) (fun y=>x.toList==y.toList) (fun m i hi=>by
  simp only [HM.eq_2,DP hi,cT,AU hi,Ai,wT i]) (fun m=>by
  simp only [HM.eq_2,Dc,cF]) n (by omega)
 have e1:HM xs x (fun i5=>(some (-1))) n 0=some r:=e1
 rw [e1,Ai,e2]
theorem AN{n:Nat}{xs:List ByteArray}(h:xs.length<=1048576)(hs:∀x∈xs,x.size<=1048576)(hn:1048577<=n):BF (∀k (h:k<xs.length),EC xs[k]=true∧∀i (hi:i<k),(xs[i].toList==xs[k].toList)=false) (iP n xs):=by
 rw [iP]
 refine loop (L:=fun m i (_:Unit)=>Lu n xs _ m i) xs.length (fun i _=>∀k (h:k<xs.length),k<i->EC xs[k]=true∧∀i (hi:i<k),(xs[i].toList==xs[k].toList)=false) _ ?_ ?_ n 0 () (by omega) (by omega) (fun k h hk=>by omega)
 ·intro m i _ hi hI
  have hsub:RJ xs 0 (i:Int)=some (xs.take i):=by
   unfold RJ
   rw [if_pos ⟨by omega,by omega,by omega⟩];simp
  have hct:=Ct1 (n:=n) (xs:=xs.take i) (x:=xs[i]) (by simp;omega) hn
  simp only [Lu.eq_2,DP hi,cT,AU hi,Ai,Nm1 (hs _ (List.getElem_mem hi)) hn,hsub,hct,Dz,wT i]
  cases hb:(!EC xs[i]||(xs.take i).any fun y=>xs[i].toList==y.toList)with
  |true=>
   refine .inr (BB fun hv=>?_)
   obtain⟨h1,h2⟩:=hv i hi
   rw [h1,Bool.not_true,Bool.false_or,List.any_eq_true]at hb
   obtain⟨y,hy,he⟩:=hb
   obtain⟨j,hj,rfl⟩:=List.mem_iff_getElem.1 hy
   rw [List.length_take]at hj
   rw [List.getElem_take]at he
   have:=h2 j (by omega)
   rw [beq_eq_false_iff_ne]at this
   exact this (eq_of_beq he).symm
  |false=>
   simp only [Bool.or_eq_false_iff,Bool.not_eq_false']at hb
   refine .inl ⟨(),fun k h hk=>?_,rfl⟩
   by_cases e:k=i
   ·subst e
    refine⟨hb.1,fun j hj=>?_⟩
    rw [beq_eq_false_iff_ne]
    intro he
    have:=List.any_eq_false.1 hb.2 xs[j] (List.mem_iff_getElem.2 ⟨j,by rw [List.length_take];omega,by rw [List.getElem_take]⟩)
    exact this (by rw [he];simp)
   ·exact hI k h (by omega)
 ·intro m _ hI
  simp only [Lu.eq_2,Dc,cF]
  exact CS fun k h=>hI k h h
theorem AW{n:Nat}{ks:List Int}{lo hi:Int}(h:ks.length<=1048576)(hn:1048577<=n):MK n ks lo hi=some (ks.all fun k=>decide (k>=lo)&&decide (k<=hi)):=by
 rw [MK,bM,Yf]
 obtain⟨r,e1,e2⟩:=KN (xs:=ks) (L:=fun m i=>FT n ks lo hi (fun i7=>(some (-1))) m i) (fun k=>!(decide (k>=lo)&&decide (k<=hi))) (fun m i hi=>by
  simp only [FT.eq_2,DP hi,cT,AU hi,Ai,Xh,JL,wT i]) (fun m=>by
  simp only [FT.eq_2,Dc,cF]) n (by omega)
 have e1:FT n ks lo hi (fun i7=>(some (-1))) n 0=some r:=e1
 rw [e1,Ai,Ai,e2]
 congr 1
 rw [List.not_any_eq_all_not]
 congr 1
 funext k;rw [Bool.not_not]
theorem BF.iff{P Q:Prop}{o:Option Bool}(h:BF P o)(e:P↔Q):BF Q o:=by
 obtain⟨b,rfl,h⟩:=h;exact⟨b,rfl,h.trans e⟩
theorem BN{P:Prop}{b:Bool}(h:b=true↔P):BF P (some b):=⟨b,rfl,h⟩
theorem BF.bind{P R:Prop}{o:Option Bool}{f:Bool->Option Bool}(h:BF P o)(h1:P->BF R (f true))(h0:¬P->BF R (f false)):BF R (Option.bind o f):=by
 obtain⟨b,rfl,h⟩:=h
 cases b with
 |true=>exact h1 (h.1 rfl)
 |false=>exact h0 fun p=>by have:=h.2 p;cases this
theorem Eb{R:Prop}{c:Bool}{x y:Option Bool}(h1:c=true->BF R x)(h0:c=false->BF R y):BF R (cond c x y):=by
 cases c
 ·exact h0 rfl
 ·exact h1 rfl
theorem EH{L:Nat->Int->Option Bool}{Q:Prop}(N s:Nat)(p:Nat->Prop)
 (hs:∀(m i:Nat),s<=i->i<N->(p i∧L (m+1) (i:Int)=L m ((i+1:Nat):Int))∨(¬p i∧L (m+1) (i:Int)=some false))
 (he:∀(m i:Nat),N<=i->i<=N+s->(∀j,s<=j->j<N->p j)->BF Q (L (m+1) (i:Int))):∀(m i:Nat),s<=i->i<=N+s->N-i<m->(∀j,s<=j->j<i->j<N->p j)->BF ((∀i,s<=i->i<N->p i)∧Q) (L m (i:Int))
 |0,i,_,_,hm,_=>by omega
 |m+1,i,hi,hi2,hm,hI=>by
  by_cases hlt:i<N
  ·rcases hs m i hi hlt with ⟨h1,h2⟩|⟨h1,h2⟩
   ·rw [h2]
    refine EH N s p hs he m (i+1) (by omega) (by omega) (by omega) fun j h3 h4 h5=>?_
    by_cases e:j=i
    ·subst e;exact h1
    ·exact hI j h3 (by omega) h5
   ·rw [h2];exact BB fun h=>h1 (h.1 i hi hlt)
  ·have ha:∀j,s<=j->j<N->p j:=fun j h3 h4=>hI j h3 (by omega) h4
   exact(he m i (by omega) hi2 ha).iff ⟨fun q=>⟨ha,q⟩,fun q=>q.2⟩
theorem MW{α:Type}{xs:List α}{L:Nat->Int->Option Int}{f:α->Option Bool}{P:α->Prop}(hf:∀x∈xs,BF (P x) (f x))(hs:∀(m i:Nat) (h:i<xs.length),L (m+1) (i:Int)=Option.bind (f xs[i]) fun r=>cond r (some (i:Int)) (L m ((i+1:Nat):Int)))
 (he:∀m:Nat,L (m+1) (xs.length:Int)=some (-1)) (m:Nat) (hm:xs.length<m):∃r,L m 0=some r∧(r>=0↔∃x∈xs,P x)∧(r= -1∨∃j:Nat,r=(j:Int)∧∃h:j<xs.length,P xs[j]∧∀i (hi:i<xs.length),i<j->¬P xs[i]):=by
 refine loop (L:=fun m i (_:Unit)=>L m i) xs.length (fun i _=>∀j (h:j<xs.length),j<i->¬P xs[j]) (fun o=>∃r,o=some r∧(r>=0↔∃x∈xs,P x)∧(r= -1∨∃j:Nat,r=(j:Int)∧∃h:j<xs.length,P xs[j]∧∀i (hi:i<xs.length),i<j->¬P xs[i])) ?_ ?_ m 0 () (by omega) (by omega) (fun j _ h=>by omega)
 ·intro m i _ hi hI
  obtain⟨b,e,hb⟩:=hf _ (List.getElem_mem hi)
  rw [hs m i hi,e,Ai]
  cases b with
  |true=>exact .inr ⟨(i:Int),rfl,⟨fun _=>⟨_,List.getElem_mem hi,hb.1 rfl⟩,fun _=>by omega⟩,.inr ⟨i,rfl,hi,hb.1 rfl,hI⟩⟩
  |false=>
   refine .inl ⟨(),fun j h hj=>?_,by trivial⟩
   by_cases ej:j=i
   ·subst ej;intro hp;have:=hb.2 hp;cases this
   ·exact hI j h (by omega)
 ·intro m _ hI
  refine⟨-1,he m,⟨fun h=>by omega,fun⟨x,hx,hp⟩=>?_⟩,.inl rfl⟩
  obtain⟨j,hj,rfl⟩:=List.getElem_of_mem hx
  exact absurd hp (hI j hj hj)
theorem gI{l:List Int}{i:Nat}(h:i<l.length):AG l (i:Int)=some (gd l i):=by rw [EA];exact oA h
def VA(l:List Int):Prop:=(1<=l.length∧l.length<=4)∧(∀i,i<l.length->0<=gd l i∧gd l i<=100000)∧∀i,i<l.length->0<i->gd l (i-1)<gd l i
def VT(t:Aa):Prop:=(VA t.Slews∧VA t.Loads)∧t.Values.length=t.Slews.length*t.Loads.length∧∀i,i<t.Values.length-> -1000000<=gd t.Values i∧gd t.Values i<=1000000
theorem OF{l:List Int}{lo hi:Int}:(l.all fun k=>decide (k>=lo)&&decide (k<=hi))=true↔∀i,i<l.length->lo<=gd l i∧gd l i<=hi:=by
 rw [List.all_eq_true]
 constructor
 ·intro h i hi
  have:=h _ (List.getElem_mem hi)
  simp only [Bool.and_eq_true,decide_eq_true_eq]at this
  rw [KI (List.getElem?_eq_getElem hi)];omega
 ·intro h x hx
  obtain⟨j,hj,rfl⟩:=List.getElem_of_mem hx
  have:=h j hj
  rw [KI (List.getElem?_eq_getElem hj)]at this
  simp only [Bool.and_eq_true,decide_eq_true_eq];omega
theorem Ax1{n:Nat}{l:List Int}(h:l.length<=1048576)(hn:1048577<=n):BF (VA l) (VZ n l):=by
 rw [VZ]
 refine(EH (L:=fun m i=>IY n l _ m i) (Q:=1<=l.length∧l.length<=4) l.length 0 (fun i=>(0<=gd l i∧gd l i<=100000)∧(0<i->gd l (i-1)<gd l i)) ?_ ?_ n 0 (by omega) (by omega) (by omega) (fun j _ h=>by omega)).iff ?_
 ·intro m i _ hi
  have w1:0<i->wrap .i64 ((i:Int)-1)=((i-1:Nat):Int):=fun h0=>by rw [Ac (by omega) (by omega)];omega
  simp only [IY.eq_2,DP hi,cT,gI hi,Ai,Gx,wT i]
  by_cases c1:0<=gd l i∧gd l i<=100000
  ·have d1:(decide (gd l i>=0)&&decide (gd l i<=100000))=true:=by simp only [Bool.and_eq_true,decide_eq_true_eq];omega
   simp only [d1,Bool.not_true,cF]
   by_cases h0:0<i
   ·have d2:decide ((i:Int)>0)=true:=decide_eq_true (by omega)
    simp only [d2,cT,w1 h0,gI (show i-1<l.length by omega),Ai]
    by_cases c2:gd l (i-1)<gd l i
    ·have d3:decide (gd l (i-1)>=gd l i)=false:=decide_eq_false (by omega)
     simp only [d3,cF]
     exact .inl ⟨⟨c1,fun _=>c2⟩,by trivial⟩
    ·have d3:decide (gd l (i-1)>=gd l i)=true:=decide_eq_true (by omega)
     simp only [d3,cT]
     exact .inr ⟨fun h=>c2 (h.2 h0),by trivial⟩
   ·have d2:decide ((i:Int)>0)=false:=decide_eq_false (by omega)
    simp only [d2,cF,Ai]
    exact .inl ⟨⟨c1,fun h=>absurd h h0⟩,by trivial⟩
  ·have d1:(decide (gd l i>=0)&&decide (gd l i<=100000))=false:=by
    rw [Bool.and_eq_false_iff,decide_eq_false_iff_not,decide_eq_false_iff_not];omega
   simp only [d1,Bool.not_false,cT,Ai]
   exact .inr ⟨fun h=>c1 h.1,by trivial⟩
 ·intro m i h1 h2 _
  obtain rfl:i=l.length:=by omega
  simp only [IY.eq_2,Dc,cF]
  exact BN (by simp only [Bool.and_eq_true,decide_eq_true_eq];omega)
 ·exact⟨fun⟨a,b⟩=>⟨b,fun i hi=>(a i (by omega) hi).1,fun i hi h0=>(a i (by omega) hi).2 h0⟩,fun⟨a,b,c⟩=>⟨fun i _ hi=>⟨b i hi,c i hi⟩,a⟩⟩
theorem Inc{n:Nat}{l:List Int}(h:l.length<=1048576)(hn:1048577<=n):BF (∀i,i<l.length->0<i->gd l (i-1)<gd l i) (WK n l):=by
 rw [WK]
 refine(EH (L:=fun m i=>Is l _ m i) (Q:=True) l.length 1 (fun i=>gd l (i-1)<gd l i) ?_ ?_ n 1 (by omega) (by omega) (by omega) (fun j _ h=>by omega)).iff ?_
 ·intro m i h0 hi
  have w1:wrap .i64 ((i:Int)-1)=((i-1:Nat):Int):=by rw [Ac (by omega) (by omega)];omega
  simp only [Is.eq_2,DP hi,cT,w1,gI hi,gI (show i-1<l.length by omega),Ai,wT i]
  by_cases c2:gd l (i-1)<gd l i
  ·have d3:decide (gd l (i-1)>=gd l i)=false:=decide_eq_false (by omega)
   simp only [d3,cF]
   exact .inl ⟨c2,by trivial⟩
  ·have d3:decide (gd l (i-1)>=gd l i)=true:=decide_eq_true (by omega)
   simp only [d3,cT]
   exact .inr ⟨c2,by trivial⟩
 ·intro m i h1 h2 _
  have:decide ((i:Int)<(l.length:Int))=false:=decide_eq_false (by omega)
  simp only [Is.eq_2,this,cF]
  exact CS trivial
 ·exact⟨fun a i hi h0=>a.1 i h0 hi,fun a=>⟨fun i h0 hi=>a i hi h0,trivial⟩⟩
theorem Ax2{n:Nat}{l:List Int}(h:l.length<=1048576)(hn:1048577<=n):BF (VA l) (WI n l):=by
 obtain⟨b,e,hb⟩:=Inc (n:=n) h hn
 rw [WI]
 simp only [Nt,JL,AW (n:=n) h hn,e,Ai,CG]
 refine BN ?_
 rw [Bool.and_eq_true,Bool.and_eq_true,OF,hb]
 simp only [Bool.and_eq_true,decide_eq_true_eq]
 exact⟨fun⟨⟨a,b⟩,c⟩=>⟨by omega,b,c⟩,fun⟨a,b,c⟩=>⟨⟨by omega,b⟩,c⟩⟩
theorem eK{a b:Nat}(ha:a<=4)(hb:b<=4):wrap .i64 ((a:Int)*(b:Int))=((a*b:Nat):Int):=by
 have:a*b<=4*4:=Nat.mul_le_mul ha hb
 have e:((a*b:Nat):Int)=(a:Int)*b:=by simp
 rw [←e,Ac (by omega) (by omega)]
def kU(t:Aa):Prop:=t.Slews.length<=1048576∧t.Loads.length<=1048576∧t.Values.length<=1048576
theorem Dx.t{t:Aa}(h:Dx t):kU t:=⟨h.1.1,h.2.1.1,h.2.2.1⟩
theorem Tb1{n:Nat}{t:Aa}(h:kU t)(hn:1048577<=n):BF (VT t) (Yw n t):=by
 rw [Yw]
 refine BF.bind (Ax1 h.1 hn) (fun v1=>?_) fun v1=>?_
 ·simp only [Bool.not_true,cF]
  obtain⟨b,e,hb⟩:=Ax1 (n:=n) h.2.1 hn
  rw [e,Ai,Ai]
  cases b with
  |false=>
   simp only [Bool.not_false,Bool.true_or,cT]
   exact BB fun v=>by have:=hb.2 v.1.2;cases this
  |true=>
   have v2:=hb.1 rfl
   rw [eK v1.1.2 v2.1.2]
   simp only [Bool.not_true,Bool.false_or]
   refine Eb (fun c=>?_) fun c=>?_
   ·refine BB fun v=>?_
    rw [v.2.1]at c;simp at c
   ·have c:t.Values.length=t.Slews.length*t.Loads.length:=by
     rw [bne_eq_false_iff_eq]at c;omega
    have hv:=h.2.2
    refine(EH (L:=fun m i=>IL n t _ m i) (Q:=True) t.Values.length 0 (fun i=>-1000000<=gd t.Values i∧gd t.Values i<=1000000) ?_ ?_ n 0 (by omega) (by omega) (by omega) (fun j _ h=>by omega)).iff ?_
    ·intro m i _ hi
     simp only [IL.eq_2,DP hi,cT,gI hi,Ai,Gx,wT i]
     by_cases c1:-1000000<=gd t.Values i∧gd t.Values i<=1000000
     ·have d1:(decide (gd t.Values i>= -1000000)&&decide (gd t.Values i<=1000000))=true:=by simp only [Bool.and_eq_true,decide_eq_true_eq];omega
      simp only [d1,Bool.not_true,cF]
      exact .inl ⟨c1,by trivial⟩
     ·have d1:(decide (gd t.Values i>= -1000000)&&decide (gd t.Values i<=1000000))=false:=by
       rw [Bool.and_eq_false_iff,decide_eq_false_iff_not,decide_eq_false_iff_not];omega
      simp only [d1,Bool.not_false,cT]
      exact .inr ⟨c1,by trivial⟩
    ·intro m i h1 h2 _
     obtain rfl:i=t.Values.length:=by omega
     simp only [IL.eq_2,Dc,cF]
     exact CS trivial
    ·exact⟨fun a=>⟨⟨v1,v2⟩,c,fun i hi=>a.1 i (by omega) hi⟩,fun a=>⟨fun i _ hi=>a.2.2 i hi,trivial⟩⟩
 ·simp only [Bool.not_false,cT,Ai,Bool.true_or]
  exact BB fun v=>v1 v.1.1
theorem Tb2{n:Nat}{t:Aa}(h:kU t)(hn:1048577<=n):BF (VT t) (Yk n t):=by
 rw [Yk]
 refine BF.bind (Ax2 h.1 hn) (fun v1=>?_) fun v1=>?_
 ·simp only [cT]
  obtain⟨b,e,hb⟩:=Ax2 (n:=n) h.2.1 hn
  rw [e,Ai,Ai]
  cases b with
  |false=>
   simp only [Bool.false_and,cF,Ai]
   exact BB fun v=>by have:=hb.2 v.1.2;cases this
  |true=>
   have v2:=hb.1 rfl
   rw [eK v1.1.2 v2.1.2,AW (n:=n) h.2.2 hn]
   simp only [Bool.true_and,Ai,CG]
   refine BN ?_
   rw [Bool.and_eq_true,OF,beq_iff_eq]
   exact⟨fun⟨a,b⟩=>⟨⟨v1,v2⟩,by omega,b⟩,fun a=>⟨by have:=a.2.1;omega,a.2.2⟩⟩
 ·simp only [cF,Ai,Bool.false_and]
  exact BB fun v=>v1 v.1.1
theorem VT.pos{t:Aa}(h:VT t):0<t.Values.length∧t.Values.length<=16:=by
 have a:=h.1.1.1
 have b:=h.1.2.1
 rw [h.2.1]
 exact⟨Nat.mul_pos (by omega) (by omega),(Nat.mul_le_mul a.2 b.2:_<=4*4)⟩
def VP(t:Aa):Prop:=∀j,j<t.Values.length->0<=gd t.Values j
theorem Bnd{n:Nat}{t:Aa}(h:kU t)(hn:1048577<=n):(¬VT t∧∃s:AX,Wk n t=some (s,1))∨(VT t∧∃s:AX,Wk n t=some (s,0)∧(s.Early<0↔¬VP t)):=by
 obtain⟨b,e,hb⟩:=Tb1 (n:=n) h hn
 rw [Wk,e,Ai]
 cases b with
 |false=>exact .inl ⟨fun v=>(by have:=hb.2 v;cases this),_,rfl⟩
 |true=>
  have v:=hb.1 rfl
  have hp:=v.pos
  have g0:AG t.Values 0=some (gd t.Values 0):=gI (i:=0) (by omega)
  refine .inr ⟨v,?_⟩
  simp only [Bool.not_true,cF,g0,Ai]
  refine loop (L:=fun m i (p:Int×Int)=>JD t (fun i93 i97 i98=>(some ((AX.mk i97 i98),0))) m i p.1 p.2) t.Values.length (fun i p=>(p.1<0↔¬∀j,j<i->0<=gd t.Values j)) (fun o=>∃s:AX,o=some (s,0)∧(s.Early<0↔¬VP t)) ?_ ?_ n 1 (gd t.Values 0,gd t.Values 0) (by omega) (by omega) ?_
  ·intro m i ⟨a,c⟩ hi hI
   dsimp only at hI ⊢
   refine .inl ⟨(min a (gd t.Values i),max c (gd t.Values i)),?_,?_⟩
   ·dsimp only
    constructor
    ·intro hm hall
     by_cases ha:a<0
     ·exact hI.1 ha fun j hj=>hall j (by omega)
     ·have:=hall i (by omega);omega
    ·intro hna
     by_cases ha:a<0
     ·omega
     ·have hall:∀j,j<i->0<=gd t.Values j:=fun j hj=>by
       by_cases q:0<=gd t.Values j
       ·exact q
       ·exact absurd (hI.2 fun hh=>q (hh j hj)) ha
      by_cases q:0<=gd t.Values i
      ·exfalso;apply hna;intro j hj
       by_cases ej:j=i
       ·subst ej;exact q
       ·exact hall j (by omega)
      ·omega
   ·simp only [JD.eq_2,DP hi,cT,gI hi,Ai,wT i]
  ·intro m ⟨a,c⟩ hI
   dsimp only at hI ⊢
   simp only [JD.eq_2,Dc,cF]
   exact⟨_,rfl,hI⟩
  ·dsimp only
   constructor
   ·intro h0 hall;have:=hall 0 (by omega);omega
   ·intro h0
    by_cases q:gd t.Values 0<0
    ·exact q
    ·exfalso;apply h0;intro j hj;obtain rfl:j=0:=by omega
     omega
theorem Mn{n:Nat}{l:List Int}(h0:0<l.length)(h:l.length<=1048576)(hn:1048577<=n):∃r,aB n l=some r∧(r<0↔¬∀j,j<l.length->0<=gd l j):=by
 have g0:AG l 0=some (gd l 0):=gI (i:=0) (by omega)
 have d0:decide ((l.length:Int)<1)=false:=decide_eq_false (by omega)
 rw [aB,d0,cF,g0,Ai]
 refine loop (L:=fun m i (a:Int)=>IC l (fun i15 i16=>(some i15)) m a i) l.length (fun i a=>(a<0↔¬∀j,j<i->0<=gd l j)) (fun o=>∃r,o=some r∧(r<0↔¬∀j,j<l.length->0<=gd l j)) ?_ ?_ n 1 (gd l 0) (by omega) (by omega) ?_
 ·intro m i a hi hI
  refine .inl ⟨min a (gd l i),?_,?_⟩
  ·constructor
   ·intro hm hall
    by_cases ha:a<0
    ·exact hI.1 ha fun j hj=>hall j (by omega)
    ·have:=hall i (by omega);omega
   ·intro hna
    by_cases ha:a<0
    ·omega
    ·have hall:∀j,j<i->0<=gd l j:=fun j hj=>by
      by_cases q:0<=gd l j
      ·exact q
      ·exact absurd (hI.2 fun hh=>q (hh j hj)) ha
     by_cases q:0<=gd l i
     ·exfalso;apply hna;intro j hj
      by_cases ej:j=i
      ·subst ej;exact q
      ·exact hall j (by omega)
     ·omega
  ·simp only [IC.eq_2,DP hi,cT,gI hi,Ai,wT i]
 ·intro m a hI
  simp only [IC.eq_2,Dc,cF]
  exact⟨_,rfl,hI⟩
 ·constructor
  ·intro h0 hall;have:=hall 0 (by omega);omega
  ·intro h0
   by_cases q:gd l 0<0
   ·exact q
   ·exfalso;apply h0;intro j hj;obtain rfl:j=0:=by omega
    omega
def Qq(l:List Aa)(pos:Bool):Prop:=l.length=2∧∀t∈l,VT t∧(pos=true->VP t)
theorem Ts1{n:Nat}{l:List Aa}{pos:Bool}(h:∀t∈l,kU t)(hn:1048577<=n):BF (Qq l pos) (Ue n l pos):=by
 rw [Ue]
 refine Eb (fun c=>?_) fun c=>?_
 ·refine BB fun v=>?_
  rw [v.1]at c;simp at c
 ·have c:l.length=2:=by rw [bne_eq_false_iff_eq]at c;omega
  refine(EH (L:=fun m i=>Li n l pos _ m i) (Q:=True) 2 0 (fun i=>∀t,l[i]? =some t->VT t∧(pos=true->VP t)) ?_ ?_ n 0 (by omega) (by omega) (by omega) (fun j _ h=>by omega)).iff ?_
  ·intro m i _ hi
   have hil:i<l.length:=by omega
   have g:=List.getElem?_eq_getElem hil
   have d1:decide ((i:Int)<2)=true:=decide_eq_true (by omega)
   simp only [Li.eq_2,d1,cT,AU hil,Ai,wT i,g]
   rcases Bnd (n:=n) (h _ (List.getElem_mem hil)) hn with ⟨v,s,e⟩|⟨v,s,e,hs⟩
   ·rw [e]
    exact .inr ⟨fun q=>v (q _ rfl).1,by trivial⟩
   ·rw [e]
    simp only [Ai,bne_self_eq_false,Bool.false_or]
    by_cases hp:pos=true
    ·subst hp
     by_cases q:s.Early<0
     ·rw [decide_eq_true q]
      exact .inr ⟨fun r=>(hs.1 q) ((r _ rfl).2 rfl),by trivial⟩
     ·rw [decide_eq_false q]
      refine .inl ⟨fun t ht=>?_,by trivial⟩
      obtain rfl:=Option.some.inj ht
      exact⟨v,fun _=>Classical.byContradiction fun r=>q (hs.2 r)⟩
    ·have hp:pos=false:=by simpa using hp
     subst hp
     refine .inl ⟨fun t ht=>?_,by trivial⟩
     obtain rfl:=Option.some.inj ht
     exact⟨v,fun h=>by cases h⟩
  ·intro m i h1 h2 _
   obtain rfl:i=2:=by omega
   simp only [Li.eq_2,show decide (((2:Nat):Int)<2)=false from rfl,cF]
   exact CS trivial
  ·constructor
   ·rintro ⟨a,_⟩
    refine⟨c,fun t ht=>?_⟩
    obtain⟨j,hj⟩:=List.getElem?_of_mem ht
    have hjl:j<l.length:=(List.getElem?_eq_some_iff.1 hj).1
    exact a j (by omega) (by omega) t hj
   ·rintro ⟨_,a⟩
    exact⟨fun i _ _ t ht=>a t (List.mem_of_getElem? ht),trivial⟩
theorem Ts2{n:Nat}{l:List Aa}{pos:Bool}(h:∀t∈l,kU t)(hl:l.length<=1048576)(hn:1048577<=n):BF (Qq l pos) (TE n l pos):=by
 rw [TE]
 have hf:∀t∈l,BF (¬(VT t∧(pos=true->VP t))) (Wd n t pos):=by
  intro t ht
  have hm:=h t ht
  rw [Wd]
  refine BF.bind (Tb2 hm hn) (fun v=>?_) fun v=>?_
  ·simp only [Bool.not_true,cF]
   by_cases hp:pos=true
   ·subst hp
    obtain⟨r,e,hr⟩:=Mn (n:=n) v.pos.1 hm.2.2 hn
    simp only [cT,e,Ai]
    refine BN ?_
    rw [decide_eq_true_eq,hr]
    exact⟨fun a b=>a (b.2 trivial),fun a b=>a ⟨v,fun _=>b⟩⟩
   ·have hp:pos=false:=by simpa using hp
    subst hp
    exact BB fun a=>a ⟨v,fun h=>by cases h⟩
  ·simp only [Bool.not_false,cT,Ai]
   exact CS fun a=>v a.1
 obtain⟨r,e,hr,_⟩:=MW (xs:=l) (L:=fun m i=>HI n l pos (fun i6=>(some (-1))) m i) (f:=fun t=>Wd n t pos) hf (fun m i hi=>by
  simp only [HI.eq_2,DP hi,cT,AU hi,Ai,wT i]) (fun m=>by
  simp only [HI.eq_2,Dc,cF]) n (by omega)
 have e:HI n l pos (fun i6=>(some (-1))) n 0=some r:=e
 rw [iT,iS,e]
 simp only [Ai]
 by_cases c:l.length=2
 ·have:((l.length:Int)==2)=true:=by simp;omega
  rw [this]
  simp only [cT,Ai]
  refine BN ?_
  rw [Bool.not_eq_true',decide_eq_false_iff_not,hr]
  exact⟨fun a=>⟨c,fun t ht=>Classical.byContradiction fun q=>a ⟨t,ht,q⟩⟩,fun a ⟨t,ht,q⟩=>q (a.2 t ht)⟩
 ·have:((l.length:Int)==2)=false:=by rw [beq_eq_false_iff_ne];omega
  rw [this]
  exact BB fun v=>c v.1
def SI(N i:Nat)(p:BR):Prop:=(0<=p.Cap∧p.Cap<=500)∧(i+1=N->p.Dir=2∧p.Cap=0∧p.Clock=false)∧(i+1<N->p.Dir=1)
structure LK(l:List BR):Prop where
 few:2<=l.length∧l.length<=5
 pin:∀i (h:i<l.length),SI l.length i l[i]
 nm:∀k (h:k<l.length),EC l[k].Name=true∧∀i (hi:i<k),(l[i].Name.toList==l[k].Name.toList)=false
def cnt(l:List BR):Nat:=l.countP (·.Clock)
def SMP(l:List BR):Prop:=l.length<=1048576∧∀p∈l,p.Name.size<=1048576
theorem Ri{l:List BR}{i:Nat}(h:i<l.length):cnt (l.take (i+1))=cnt (l.take i)+if l[i].Clock=true then 1 else 0:=by
 unfold cnt
 rw [List.take_succ_eq_append_getElem h,List.countP_append]
 congr 1
 by_cases e:l[i].Clock=true
 ·rw [if_pos e];simp [e]
 ·rw [if_neg e];simp [e]
theorem Pn1{n:Nat}{c:Af}(h:SMP c.Pins)(hn:1048577<=n):∃r:Int×Bool,sU n c=some r∧(r.2=true↔LK c.Pins)∧(r.2=true->r.1=cnt c.Pins):=by
 rw [sU]
 by_cases hl:2<=c.Pins.length∧c.Pins.length<=5
 ·have d:(decide ((c.Pins.length:Int)<2)||decide ((c.Pins.length:Int)>5))=false:=by
   simp only [Bool.or_eq_false_iff,decide_eq_false_iff_not];omega
  rw [d,cF]
  have wl:wrap .i64 ((c.Pins.length:Int)-1)=(c.Pins.length:Int)-1:=Ac (by omega) (by omega)
  refine loop (L:=fun m i (q:Int)=>KK n c (fun i23 i24=>(some (i23,true))) m q i) c.Pins.length (fun i q=>q=cnt (c.Pins.take i)∧∀k (h:k<c.Pins.length),k<i->SI c.Pins.length k c.Pins[k]∧EC c.Pins[k].Name=true∧∀j (hj:j<k),(c.Pins[j].Name.toList==c.Pins[k].Name.toList)=false)
   (fun o=>∃r:Int×Bool,o=some r∧(r.2=true↔LK c.Pins)∧(r.2=true->r.1=cnt c.Pins)) ?_ ?_ n 0 0 (by omega) (by omega) ⟨by simp [cnt],fun k _ hk=>by omega⟩
  ·intro m i q hi ⟨hq,hI⟩
   have no:∀o:Option (Int×Bool),o=some (0,false)->¬LK c.Pins->∃r:Int×Bool,o=some r∧(r.2=true↔LK c.Pins)∧(r.2=true->r.1=cnt c.Pins):=fun o e hv=>⟨_,e,by simp [hv],fun h=>by cases h⟩
   have wi:decide ((i:Int)<(c.Pins.length:Int))=true:=DP hi
   rw [KK.eq_2]
   simp only [wi,cT,AU hi,Ai]
   have inner:∀k2:Int->Option (Int×Bool),(∀j (hj:j<i),(c.Pins[j].Name.toList==c.Pins[i].Name.toList)=false)∧IZ c i c.Pins[i] k2 n 0=k2 i∨(¬∀j (hj:j<i),(c.Pins[j].Name.toList==c.Pins[i].Name.toList)=false)∧IZ c i c.Pins[i] k2 n 0=some (0,false):=by
    intro k2
    refine loop (L:=fun m j (_:Unit)=>IZ c i c.Pins[i] k2 m j) i (fun b _=>∀j (hj:j<i),j<b->(c.Pins[j].Name.toList==c.Pins[i].Name.toList)=false) (fun o=>(∀j (hj:j<i),(c.Pins[j].Name.toList==c.Pins[i].Name.toList)=false)∧o=k2 i∨(¬∀j (hj:j<i),(c.Pins[j].Name.toList==c.Pins[i].Name.toList)=false)∧o=some (0,false)) ?_ ?_ n 0 () (by omega) (by omega) (fun j _ hj=>by omega)
    ·intro m j _ hj hJ
     simp only [IZ.eq_2,DP hj,cT,AU (show j<c.Pins.length by omega),Ai,wT j]
     cases e:(c.Pins[j].Name.toList==c.Pins[i].Name.toList)with
     |true=>exact .inr (.inr ⟨fun h=>(by rw [h j hj]at e;cases e),by trivial⟩)
     |false=>
      refine .inl ⟨(),fun a ha hb=>?_,by trivial⟩
      by_cases ea:a=j
      ·subst ea;exact e
      ·exact hJ a ha (by omega)
    ·intro m _ hJ
     simp only [IZ.eq_2,Dc,cF]
     exact .inl ⟨fun j hj=>hJ j hj hj,by trivial⟩
   rcases inner _ with ⟨g1,g2⟩|⟨g1,g2⟩
   ·rw [g2]
    have hsz:=h.2 _ (List.getElem_mem hi)
    simp only [zB hsz hn,Ai,Gx,Dz,wl]
    cases hnm:EC c.Pins[i].Name with
    |false=>
     simp only [Bool.not_false,Bool.true_or,cT]
     exact .inr (no _ rfl fun v=>by have:=(v.nm i hi).1;rw [hnm]at this;cases this)
    |true=>
     simp only [Bool.not_true,Bool.false_or]
     by_cases c1:0<=c.Pins[i].Cap∧c.Pins[i].Cap<=500
     ·have d1:(decide (c.Pins[i].Cap>=0)&&decide (c.Pins[i].Cap<=500))=true:=by simp only [Bool.and_eq_true,decide_eq_true_eq];omega
      simp only [d1,Bool.not_true,cF]
      have pI:SI c.Pins.length i c.Pins[i]↔((((i:Int)==(c.Pins.length:Int)-1)&&((((c.Pins[i].Dir !=2))||((c.Pins[i].Cap !=0)))||c.Pins[i].Clock))||((decide ((i:Int)<(c.Pins.length:Int)-1))&&((c.Pins[i].Dir !=1))))=false:=by
       unfold SI
       by_cases e1:i+1=c.Pins.length
       ·have t1:((i:Int)==(c.Pins.length:Int)-1)=true:=by rw [beq_iff_eq];omega
        have t2:decide ((i:Int)<(c.Pins.length:Int)-1)=false:=decide_eq_false (by omega)
        simp only [t1,t2,Bool.true_and,Bool.false_and,Bool.or_false,Bool.or_eq_false_iff,bne_eq_false_iff_eq]
        exact⟨fun⟨_,a,_⟩=>⟨⟨(a e1).1,(a e1).2.1⟩,(a e1).2.2⟩,fun⟨⟨a,b⟩,d⟩=>⟨c1,fun _=>⟨a,b,d⟩,fun h=>by omega⟩⟩
       ·have t1:((i:Int)==(c.Pins.length:Int)-1)=false:=by rw [beq_eq_false_iff_ne];omega
        have t2:decide ((i:Int)<(c.Pins.length:Int)-1)=true:=decide_eq_true (by omega)
        simp only [t1,t2,Bool.true_and,Bool.false_and,Bool.false_or,bne_eq_false_iff_eq]
        exact⟨fun⟨_,_,a⟩=>a (by omega),fun a=>⟨c1,fun h=>absurd h e1,fun _=>a⟩⟩
      cases hc:((((i:Int)==(c.Pins.length:Int)-1)&&((((c.Pins[i].Dir !=2))||((c.Pins[i].Cap !=0)))||c.Pins[i].Clock))||((decide ((i:Int)<(c.Pins.length:Int)-1))&&((c.Pins[i].Dir !=1))))with
      |true=>
       rw [hc]at pI
       simp only [cT]
       exact .inr (no _ rfl fun v=>by have:=pI.1 (v.pin i hi);cases this)
      |false=>
       have hp:=pI.2 hc
       simp only [cF]
       have hI':∀k (h:k<c.Pins.length),k<i+1->SI c.Pins.length k c.Pins[k]∧EC c.Pins[k].Name=true∧∀j (hj:j<k),(c.Pins[j].Name.toList==c.Pins[k].Name.toList)=false:=fun k hk hki=>by
        by_cases ek:k=i
        ·subst ek;exact⟨hp,hnm,g1⟩
        ·exact hI k hk (by omega)
       have ct:=Ri hi
       have cl:cnt (c.Pins.take i)<=5:=Nat.le_trans List.countP_le_length (by simp;omega)
       cases hk:c.Pins[i].Clock with
       |true=>
        rw [hk,if_pos rfl]at ct
        refine .inl ⟨q+1,⟨by rw [ct,hq];simp,hI'⟩,?_⟩
        simp only [cT,wT i,Ac (x:=q+1) (by omega) (by omega)]
       |false=>
        rw [hk]at ct
        refine .inl ⟨q,⟨by rw [ct,hq];simp,hI'⟩,?_⟩
        simp only [cF,wT i]
     ·have d1:(decide (c.Pins[i].Cap>=0)&&decide (c.Pins[i].Cap<=500))=false:=by
       rw [Bool.and_eq_false_iff,decide_eq_false_iff_not,decide_eq_false_iff_not];omega
      simp only [d1,Bool.not_false,cT]
      exact .inr (no _ rfl fun v=>c1 (v.pin i hi).1)
   ·rw [g2]
    exact .inr (no _ rfl fun v=>g1 (v.nm i hi).2)
  ·intro m q ⟨hq,hI⟩
   simp only [KK.eq_2,Dc,cF]
   rw [List.take_length]at hq
   exact⟨_,rfl,⟨fun _=>⟨hl,fun i h=>(hI i h h).1,fun k h=>(hI k h h).2⟩,fun _=>rfl⟩,fun _=>hq⟩
 ·have d:(decide ((c.Pins.length:Int)<2)||decide ((c.Pins.length:Int)>5))=true:=by
   rw [Bool.or_eq_true,decide_eq_true_eq,decide_eq_true_eq];omega
  rw [d,cT]
  exact⟨_,rfl,⟨fun h=>(by cases h),fun v=>absurd v.few hl⟩,fun h=>(by cases h)⟩
theorem Pn2{n:Nat}{l:List BR}(h:SMP l)(hn:1048577<=n):BF (LK l) (YI n l):=by
 have hl:=h.1
 rw [YI]
 have wl:0<l.length->wrap .i64 ((l.length:Int)-1)=(l.length:Int)-1:=fun h0=>Ac (by omega) (by omega)
 refine loop (L:=fun m i (q:List ByteArray)=>HK n l _ m q i) l.length (fun i q=>q=(l.take i).map (·.Name)∧∀k (h:k<l.length),k<i->SI l.length k l[k]) _ ?_ ?_ n 0 [] (by omega) (by omega) ⟨by simp,fun k _ hk=>by omega⟩
 ·intro m i q hi ⟨hq,hI⟩
  have hql:q.length<=1048576:=by rw [hq];simp;omega
  have ha:=CC (xs:=q) (ys:=[l[i].Name]) (b:=16) (by simp;omega) (by omega)
  have hq':q++[l[i].Name]=(l.take (i+1)).map (·.Name):=by rw [hq,List.take_succ_eq_append_getElem hi,List.map_append];rfl
  simp only [HK.eq_2,DP hi,cT,AU hi,Ai,ha,wl (by omega),JL,wT i]
  have stepI:SI l.length i l[i]->∀k (h:k<l.length),k<i+1->SI l.length k l[k]:=fun hp k hk hki=>by
   by_cases ek:k=i
   ·subst ek;exact hp
   ·exact hI k hk (by omega)
  by_cases e1:i+1=l.length
  ·have t1:((i:Int)==(l.length:Int)-1)=true:=by rw [beq_iff_eq];omega
   simp only [t1,cT]
   cases hc:((((l[i].Dir !=2))||((l[i].Cap !=0)))||l[i].Clock)with
   |true=>
    refine .inr (BB fun v=>?_)
    have:=(v.pin i hi).2.1 e1
    rw [this.1,this.2.1,this.2.2]at hc;cases hc
   |false=>
    simp only [Bool.or_eq_false_iff,bne_eq_false_iff_eq]at hc
    exact .inl ⟨_,⟨hq',stepI ⟨by omega,fun _=>⟨hc.1.1,hc.1.2,hc.2⟩,fun h=>by omega⟩⟩,by trivial⟩
  ·have t1:((i:Int)==(l.length:Int)-1)=false:=by rw [beq_eq_false_iff_ne];omega
   simp only [t1,cF,Dz,Ai]
   by_cases c1:l[i].Dir=1∧0<=l[i].Cap∧l[i].Cap<=500
   ·have d1:((l[i].Dir !=1)|| !(decide (l[i].Cap>=0)&&decide (l[i].Cap<=500)))=false:=by
     simp only [Bool.or_eq_false_iff,bne_eq_false_iff_eq,Bool.not_eq_false',Bool.and_eq_true,decide_eq_true_eq];omega
    simp only [d1,cF]
    exact .inl ⟨_,⟨hq',stepI ⟨by omega,fun h=>absurd h e1,fun _=>c1.1⟩⟩,by trivial⟩
   ·have d1:((l[i].Dir !=1)|| !(decide (l[i].Cap>=0)&&decide (l[i].Cap<=500)))=true:=by
     simp only [Bool.or_eq_true,bne_iff_ne,Bool.not_eq_true',Bool.and_eq_false_iff,decide_eq_false_iff_not];omega
    simp only [d1,cT]
    exact .inr (BB fun v=>c1 ⟨(v.pin i hi).2.2 (by omega),(v.pin i hi).1⟩)
 ·intro m q ⟨hq,hI⟩
  rw [List.take_length]at hq
  obtain⟨b,e,hb⟩:=AN (n:=n) (xs:=q) (by rw [hq];simpa using hl) (by rw [hq];intro x hx;obtain⟨p,hp,rfl⟩:=List.mem_map.1 hx;exact h.2 p hp) hn
  simp only [HK.eq_2,Dc,cF,Tm,JL,e,Ai,CG]
  refine BN ?_
  rw [Bool.and_eq_true,hb,Bool.and_eq_true,decide_eq_true_eq,decide_eq_true_eq]
  subst hq
  simp only [List.length_map,List.getElem_map]
  exact⟨fun⟨a,b⟩=>⟨by omega,fun i hi=>hI i hi hi,b⟩,fun v=>⟨by have:=v.few;omega,v.nm⟩⟩
def Jp(l:List BR)(i:Int):Bool:=((l[i.toNat]?).map (·.Clock)).getD false
theorem rN{l:List BR}{i:Int}(h0:0<=i)(h1:i<l.length):∃x,AG l i=some x∧x.Clock=Jp l i:=by
 obtain⟨x,e,h⟩:=GX h0 h1
 exact⟨x,e,by simp [Jp,h]⟩
theorem Tf{l:List BR}{j:Nat}(h:j<l.length):Jp l (j:Int)=l[j].Clock:=by simp [Jp,h]
theorem UZ{l:List BR}(hc:cnt l<=1){i j:Nat}(hi:i<l.length)(hj:j<l.length)(h1:l[i].Clock=true)(h2:l[j].Clock=true):i=j:=by
 have key:∀i j:Nat,∀(hi:i<l.length) (hj:j<l.length),l[i].Clock=true->l[j].Clock=true->¬i<j:=by
  intro i j hi hj h1 h2 hlt
  have e:cnt l=cnt (l.take (i+1))+cnt (l.drop (i+1)):=by unfold cnt;rw [←List.countP_append,List.take_append_drop]
  have p1:0<cnt (l.take (i+1)):=List.countP_pos_iff.2 ⟨l[i],by rw [List.mem_take_iff_getElem];exact⟨i,by omega,rfl⟩,h1⟩
  have p2:0<cnt (l.drop (i+1)):=List.countP_pos_iff.2 ⟨l[j],by rw [List.mem_drop_iff_getElem];exact⟨j-(i+1),by omega,by congr 1;omega⟩,h2⟩
  omega
 have a:=key i j hi hj h1 h2
 have b:=key j i hj hi h2 h1
 omega
theorem Ck{n:Nat}{c:Af}(h:c.Pins.length<=1048576)(hn:1048577<=n):∃r,Tu n c=some r∧(r>=0↔∃x∈c.Pins,x.Clock=true)∧(r= -1∨∃j:Nat,r=(j:Int)∧∃h:j<c.Pins.length,c.Pins[j].Clock=true∧∀i (hi:i<c.Pins.length),i<j->¬c.Pins[i].Clock=true):=by
 obtain⟨r,e,hr⟩:=MW (xs:=c.Pins) (L:=fun m i=>HF n c.Pins (fun i5=>(some (-1))) m i) (f:=fun p=>XH n p) (P:=fun p=>p.Clock=true) (fun p _=>by rw [XH];exact BN Iff.rfl) (fun m i hi=>by
  simp only [HF.eq_2,DP hi,cT,AU hi,Ai,wT i]) (fun m=>by
  simp only [HF.eq_2,Dc,cF]) n (by omega)
 have e:HF n c.Pins (fun i5=>(some (-1))) n 0=some r:=e
 exact⟨r,by rw [Tu,jJ,e];rfl,hr⟩
def SMA(a:Ap):Prop:=(a.Delay.length<=1048576∧∀t∈a.Delay,kU t)∧(a.Slew.length<=1048576∧∀t∈a.Slew,kU t)
structure sH(c:Af):Prop where
 name:c.Name.size<=1048576
 pins:SMP c.Pins
 arcs:c.Arcs.length<=1048576∧∀a∈c.Arcs,SMA a
 truth:c.Truth.length<=1048576
theorem FK.c{c:Af}(h:FK c):sH c:=
 ⟨h.1,⟨h.2.2.1.1,fun p hp=>(h.2.2.1.2 p hp).1⟩,⟨h.2.2.2.1.1,fun a ha=>⟨⟨(h.2.2.2.1.2 a ha).2.2.2.2.1.1,fun t ht=>Dx.t (t:=t) ((h.2.2.2.1.2 a ha).2.2.2.2.1.2 t ht)⟩,⟨(h.2.2.2.1.2 a ha).2.2.2.2.2.1,fun t ht=>Dx.t (t:=t) ((h.2.2.2.1.2 a ha).2.2.2.2.2.2 t ht)⟩⟩⟩,h.2.2.2.2.1.1⟩
def Mh(c:Af)(a:Ap):Prop:=((0<=a.From∧a.From+2<=c.Pins.length)∧(0<=a.To∧a.To+1<=c.Pins.length))∧
 if a.Kind=1 then Jp c.Pins a.From=false∧a.To+1=c.Pins.length∧(1<=a.Sense∧a.Sense<=3)∧Qq a.Delay true∧Qq a.Slew true
 else if a.Kind=2∨a.Kind=3 then Jp c.Pins a.From=true∧a.To+1=c.Pins.length∧a.Sense=0∧Qq a.Delay true∧Qq a.Slew true
 else if a.Kind=4∨a.Kind=5 then Jp c.Pins a.From=true∧a.To+1<c.Pins.length∧Jp c.Pins a.To=false∧a.Sense=0∧Qq a.Delay false∧a.Slew.length=0
 else False
def Vk(c:Af)(a:Ap)(r:Int):Prop:=
 if a.Kind=4∨a.Kind=5 then a.Sense=0∧a.Slew.length=0∧Qq a.Delay false∧a.From=r∧0<=a.From∧(0<=a.To∧a.To+2<=c.Pins.length)∧a.To≠a.From
 else Qq a.Delay true∧Qq a.Slew true∧a.To+1=c.Pins.length∧(0<=a.From∧a.From+2<=c.Pins.length)∧
  if a.Kind=1 then Jp c.Pins a.From=false∧1<=a.Sense∧a.Sense<=3 else if a.Kind=2∨a.Kind=3 then Jp c.Pins a.From=true∧a.Sense=0 else False
theorem jW(k:Int):k=1∨k=2∨k=3∨k=4∨k=5∨(k≠1∧k≠2∧k≠3∧k≠4∧k≠5):=by omega
theorem LV{x lo hi:Int}:(decide (x>=lo)&&decide (x<=hi))=true↔lo<=x∧x<=hi:=by simp only [Bool.and_eq_true,decide_eq_true_eq,ge_iff_le]
theorem AfE{n:Nat}{c:Af}{a:Ap}(hp:c.Pins.length<=5)(h2:2<=c.Pins.length)(h:SMA a)(hn:1048577<=n):BF (Mh c a) (dU n c a):=by
 have w1:wrap .i64 ((c.Pins.length:Int)-1)=(c.Pins.length:Int)-1:=Ac (by omega) (by omega)
 have w2:wrap .i64 ((c.Pins.length:Int)-1-1)=(c.Pins.length:Int)-1-1:=Ac (by omega) (by omega)
 obtain⟨t1,e1,h1⟩:=Ts1 (n:=n) (pos:=true) h.1.2 hn
 obtain⟨t2,e2,h2'⟩:=Ts1 (n:=n) (pos:=true) h.2.2 hn
 obtain⟨t3,e3,h3⟩:=Ts1 (n:=n) (pos:=false) h.1.2 hn
 rw [dU]
 simp only [Gx,Ai,w1,w2,Dz]
 by_cases c1:(0<=a.From∧a.From+2<=c.Pins.length)∧(0<=a.To∧a.To+1<=c.Pins.length)
 ·have d1:(decide (a.From>=0)&&decide (a.From<=(c.Pins.length:Int)-1-1))=true:=LV.2 (by omega)
  have d2:(decide (a.To>=0)&&decide (a.To<=(c.Pins.length:Int)-1))=true:=LV.2 (by omega)
  obtain⟨x,ex,hx⟩:=rN (l:=c.Pins) c1.1.1 (by omega)
  obtain⟨y,ey,hy⟩:=rN (l:=c.Pins) c1.2.1 (by omega)
  simp only [d1,d2,Bool.not_true,Bool.or_self,cF,ex,ey,Ai,hx,hy,e1,e2,e3,CG]
  have to1:(a.To==(c.Pins.length:Int)-1)=true↔a.To+1=c.Pins.length:=by rw [beq_iff_eq];omega
  have to2:decide (a.To<(c.Pins.length:Int)-1)=true↔a.To+1<c.Pins.length:=by rw [decide_eq_true_eq];omega
  have sl:((a.Slew.length:Int)==0)=true↔a.Slew.length=0:=by rw [beq_iff_eq];omega
  have nb:∀b:Bool,(!b)=true↔b=false:=by simp
  rcases jW a.Kind with k|k|k|k|k|k
  ·have:Mh c a↔_:=Iff.rfl
   simp only [k,show((1:Int)==1)=true from rfl,cT]
   refine BN ?_
   unfold Mh
   simp only [k,if_true,Bool.and_eq_true,nb,to1,LV,h1,h2']
   exact⟨fun⟨⟨⟨⟨p,q⟩,s⟩,u⟩,v⟩=>⟨c1,p,q,by simpa using s,u,v⟩,fun⟨_,p,q,s,u,v⟩=>⟨⟨⟨⟨p,q⟩,by simpa using s⟩,u⟩,v⟩⟩
  ·simp only [k,show((2:Int)==1)=false from rfl,show((2:Int)==2)=true from rfl,cT,cF]
   refine BN ?_
   unfold Mh
   simp only [k,show¬((2:Int)=1) by omega,if_false,true_or,if_true,Bool.and_eq_true,beq_iff_eq,to1,h1,h2']
   exact⟨fun⟨⟨⟨⟨p,q⟩,s⟩,u⟩,v⟩=>⟨c1,p,by omega,s,u,v⟩,fun⟨_,p,q,s,u,v⟩=>⟨⟨⟨⟨p,by omega⟩,s⟩,u⟩,v⟩⟩
  ·simp only [k,show((3:Int)==1)=false from rfl,show((3:Int)==2)=false from rfl,show((3:Int)==3)=true from rfl,cT,cF]
   refine BN ?_
   unfold Mh
   simp only [k,show¬((3:Int)=1) by omega,if_false,or_true,if_true,Bool.and_eq_true,beq_iff_eq,to1,h1,h2']
   exact⟨fun⟨⟨⟨⟨p,q⟩,s⟩,u⟩,v⟩=>⟨c1,p,by omega,s,u,v⟩,fun⟨_,p,q,s,u,v⟩=>⟨⟨⟨⟨p,by omega⟩,s⟩,u⟩,v⟩⟩
  ·simp only [k,show((4:Int)==1)=false from rfl,show((4:Int)==2)=false from rfl,show((4:Int)==3)=false from rfl,show((4:Int)==4)=true from rfl,cT,cF]
   refine BN ?_
   unfold Mh
   simp only [k,show¬((4:Int)=1) by omega,show¬((4:Int)=2∨(4:Int)=3) by omega,if_false,true_or,if_true,Bool.and_eq_true,beq_iff_eq,nb,to2,sl,h3,true_and]
   exact⟨fun⟨⟨⟨⟨⟨p,q⟩,z⟩,s⟩,u⟩,v⟩=>⟨c1,p,q,z,s,u,by omega⟩,fun⟨_,p,q,z,s,u,v⟩=>⟨⟨⟨⟨⟨p,q⟩,z⟩,s⟩,u⟩,by omega⟩⟩
  ·simp only [k,show((5:Int)==1)=false from rfl,show((5:Int)==2)=false from rfl,show((5:Int)==3)=false from rfl,show((5:Int)==4)=false from rfl,show((5:Int)==5)=true from rfl,cT,cF]
   refine BN ?_
   unfold Mh
   simp only [k,show¬((5:Int)=1) by omega,show¬((5:Int)=2∨(5:Int)=3) by omega,if_false,or_true,if_true,Bool.and_eq_true,beq_iff_eq,nb,to2,sl,h3,true_and]
   exact⟨fun⟨⟨⟨⟨⟨p,q⟩,z⟩,s⟩,u⟩,v⟩=>⟨c1,p,q,z,s,u,by omega⟩,fun⟨_,p,q,z,s,u,v⟩=>⟨⟨⟨⟨⟨p,q⟩,z⟩,s⟩,u⟩,by omega⟩⟩
  ·obtain⟨k1,k2,k3,k4,k5⟩:=k
   simp only [beq_eq_false_iff_ne.2 k1,beq_eq_false_iff_ne.2 k2,beq_eq_false_iff_ne.2 k3,beq_eq_false_iff_ne.2 k4,beq_eq_false_iff_ne.2 k5,cF]
   refine BB fun v=>?_
   have:=v.2
   rw [if_neg k1,if_neg (by omega),if_neg (by omega)]at this
   exact this
 ·have d1:(!(decide (a.From>=0)&&decide (a.From<=(c.Pins.length:Int)-1-1))|| !(decide (a.To>=0)&&decide (a.To<=(c.Pins.length:Int)-1)))=true:=by
   rw [Bool.or_eq_true,Bool.not_eq_true',Bool.not_eq_true',Bool.and_eq_false_iff,Bool.and_eq_false_iff,decide_eq_false_iff_not,decide_eq_false_iff_not,decide_eq_false_iff_not,decide_eq_false_iff_not]
   omega
  simp only [d1,cT]
  exact BB fun v=>c1 v.1
theorem AbK{n:Nat}{c:Af}{a:Ap}{r:Int}(hp:c.Pins.length<=5)(h2:2<=c.Pins.length)(h:SMA a)(hr:Tu n c=some r)(hn:1048577<=n):BF (Vk c a r) (Zn n c a):=by
 have w1:wrap .i64 ((c.Pins.length:Int)-1)=(c.Pins.length:Int)-1:=Ac (by omega) (by omega)
 have w2:wrap .i64 ((c.Pins.length:Int)-1-1)=(c.Pins.length:Int)-1-1:=Ac (by omega) (by omega)
 obtain⟨t1,e1,h1⟩:=Ts2 (n:=n) (pos:=true) h.1.2 h.1.1 hn
 obtain⟨t2,e2,h2'⟩:=Ts2 (n:=n) (pos:=true) h.2.2 h.2.1 hn
 obtain⟨t3,e3,h3⟩:=Ts2 (n:=n) (pos:=false) h.1.2 h.1.1 hn
 rw [Zn]
 simp only [jP,aT,Qw,Tm,JL,Ai,w1,w2,e1,e2,e3,hr,CG,Dz]
 unfold Vk
 by_cases k:a.Kind=4∨a.Kind=5
 ·have kb:((a.Kind==4)||(a.Kind==5))=true:=by rw [Bool.or_eq_true,beq_iff_eq,beq_iff_eq];exact k
  simp only [kb,cT,if_pos k]
  refine BN ?_
  simp only [Bool.and_eq_true,beq_iff_eq,bne_iff_ne,decide_eq_true_eq,h3]
  exact⟨fun⟨⟨⟨⟨⟨⟨p,q⟩,s⟩,t⟩,u⟩,v⟩,x⟩=>⟨p,by omega,s,t,by omega,by omega,x⟩,fun⟨p,q,s,t,u,v,x⟩=>⟨⟨⟨⟨⟨⟨p,by omega⟩,s⟩,t⟩,by omega⟩,by omega⟩,x⟩⟩
 ·have kb:((a.Kind==4)||(a.Kind==5))=false:=by rw [Bool.or_eq_false_iff,beq_eq_false_iff_ne,beq_eq_false_iff_ne];omega
  simp only [kb,cF,if_neg k]
  by_cases g:(Qq a.Delay true∧Qq a.Slew true)∧a.To+1=c.Pins.length∧(0<=a.From∧a.From+2<=c.Pins.length)
  ·have gb:(((!t1|| !t2)||(a.To !=(c.Pins.length:Int)-1))|| !(decide (a.From>=0)&&decide (a.From<=(c.Pins.length:Int)-1-1)))=false:=by
    rw [h1.2 g.1.1,h2'.2 g.1.2]
    simp only [Bool.not_true,Bool.or_self,Bool.false_or,Bool.or_eq_false_iff,bne_eq_false_iff_eq,Bool.not_eq_false',LV];omega
   obtain⟨x,ex,hx⟩:=rN (l:=c.Pins) g.2.2.1 (by omega)
   simp only [gb,cF,ex,Ai,hx]
   have nb:∀b:Bool,(!b)=true↔b=false:=by simp
   have red:∀R:Prop,(Qq a.Delay true∧Qq a.Slew true∧a.To+1=c.Pins.length∧(0<=a.From∧a.From+2<=c.Pins.length)∧R)↔R:=fun R=>⟨fun q=>q.2.2.2.2,fun q=>⟨g.1.1,g.1.2,g.2.1,g.2.2,q⟩⟩
   rw [red]
   by_cases k1:a.Kind=1
   ·simp only [k1,show((1:Int)==1)=true from rfl,cT,if_true]
    refine BN ?_
    simp only [Bool.and_eq_true,nb,decide_eq_true_eq]
   ·simp only [beq_eq_false_iff_ne.2 k1,cF,if_neg k1]
    by_cases k2:a.Kind=2
    ·simp only [k2,show((2:Int)==2)=true from rfl,cT,true_or,if_true]
     refine BN ?_
     simp only [Bool.and_eq_true,beq_iff_eq]
    ·simp only [beq_eq_false_iff_ne.2 k2,cF]
     by_cases k3:a.Kind=3
     ·simp only [k3,show((3:Int)==3)=true from rfl,cT,or_true,if_true]
      refine BN ?_
      simp only [Bool.and_eq_true,beq_iff_eq]
     ·simp only [beq_eq_false_iff_ne.2 k3,cF]
      rw [if_neg (by omega)]
      exact BB fun v=>v
  ·have gb:(((!t1|| !t2)||(a.To !=(c.Pins.length:Int)-1))|| !(decide (a.From>=0)&&decide (a.From<=(c.Pins.length:Int)-1-1)))=true:=by
    cases hq:(((!t1|| !t2)||(a.To !=(c.Pins.length:Int)-1))|| !(decide (a.From>=0)&&decide (a.From<=(c.Pins.length:Int)-1-1)))with
    |true=>rfl
    |false=>
     exfalso;apply g
     simp only [Bool.or_eq_false_iff,Bool.not_eq_false',bne_eq_false_iff_eq,LV]at hq
     exact⟨⟨h1.1 hq.1.1.1,h2'.1 hq.1.1.2⟩,by omega,by omega⟩
   simp only [gb,cT]
   exact BB fun v=>g ⟨⟨v.1,v.2.1⟩,v.2.2.1,v.2.2.2.1⟩
theorem VM{c:Af}{a:Ap}{r:Int}(hv:LK c.Pins)(hc:cnt c.Pins<=1)(hr:r= -1∨∃j:Nat,r=(j:Int)∧∃h:j<c.Pins.length,c.Pins[j].Clock=true∧∀i (hi:i<c.Pins.length),i<j->¬c.Pins[i].Clock=true)(hr0:r>=0↔∃x∈c.Pins,x.Clock=true):Mh c a↔Vk c a r:=by
 have few:=hv.few
 unfold Mh Vk
 by_cases k:a.Kind=4∨a.Kind=5
 ·rw [if_neg (by omega),if_neg (by omega),if_pos k,if_pos k]
  constructor
  ·rintro ⟨⟨⟨a1,a2⟩,a3,a4⟩,b1,b2,b3,b4,b5,b6⟩
   obtain⟨f,hf⟩:=Int.eq_ofNat_of_zero_le a1
   have hf:a.From=(f:Int):=hf
   have hfl:f<c.Pins.length:=by omega
   have cf:c.Pins[f].Clock=true:=by rw [hf,Tf hfl]at b1;exact b1
   have hge:r>=0:=hr0.2 ⟨_,List.getElem_mem hfl,cf⟩
   rcases hr with hr|⟨j,rfl,hj,hj1,_⟩
   ·omega
   ·have:=UZ hc hfl hj cf hj1
    subst this
    refine⟨b4,b6,b5,hf,a1,by omega,fun e=>?_⟩
    rw [e,b1]at b3;cases b3
  ·rintro ⟨b1,b2,b3,b4,b5,⟨b6,b7⟩,b8⟩
   rcases hr with hr|⟨j,hj0,hj,hj1,_⟩
   ·omega
   ·have cf:Jp c.Pins a.From=true:=by rw [b4,hj0,Tf hj];exact hj1
    have hjl:j+1<c.Pins.length:=by
     by_cases q:j+1<c.Pins.length
     ·exact q
     ·have:=(hv.pin j hj).2.1 (by omega)
      rw [this.2.2]at hj1;cases hj1
    obtain⟨t,ht⟩:=Int.eq_ofNat_of_zero_le b6
    have ht:a.To=(t:Int):=ht
    have htl:t<c.Pins.length:=by omega
    refine⟨⟨⟨by omega,by omega⟩,by omega,by omega⟩,cf,by omega,?_,b1,b3,b2⟩
    rw [ht,Tf htl]
    cases hq:c.Pins[t].Clock with
    |false=>rfl
    |true=>have:=UZ hc htl hj hq hj1;omega
 ·rw [if_neg k,if_neg k]
  by_cases k1:a.Kind=1
  ·rw [if_pos k1,if_pos k1]
   exact⟨fun⟨p,q,s,t,u,v⟩=>⟨u,v,s,p.1,q,t⟩,fun⟨u,v,s,p,q,t⟩=>⟨⟨p,by omega,by omega⟩,q,s,t,u,v⟩⟩
  ·rw [if_neg k1,if_neg k1]
   by_cases k2:a.Kind=2∨a.Kind=3
   ·rw [if_pos k2,if_pos k2]
    exact⟨fun⟨p,q,s,t,u,v⟩=>⟨u,v,s,p.1,q,t⟩,fun⟨u,v,s,p,q,t⟩=>⟨⟨p,by omega,by omega⟩,q,s,t,u,v⟩⟩
   ·rw [if_neg k2,if_neg k2]
    exact⟨fun h=>h.2.elim,fun h=>h.2.2.2.2.elim⟩
def Hi(a b:Ap):Prop:=(a.Kind=b.Kind∧a.From=b.From)∧a.To=b.To
def Fj(l:List Ap)(k:Int):Prop:=∃a∈l,a.Kind=k
def Gg(c:Af):Prop:=
 (c.Kind=1∧cnt c.Pins=0∧c.Truth.length=2^(c.Pins.length-1)∧∀i,i<c.Truth.length->0<=gd c.Truth i∧gd c.Truth i<=1)∨
 (c.Kind=2∧cnt c.Pins=1∧c.Truth.length=0∧¬Fj c.Arcs 1∧¬(Fj c.Arcs 2↔Fj c.Arcs 3))∨
 (c.Kind=3∧cnt c.Pins=1∧c.Truth.length=0∧Fj c.Arcs 1∧Fj c.Arcs 2∧¬Fj c.Arcs 3)
def bE(A:Ap->Prop)(l:List Ap):Prop:=∀i (h:i<l.length),A l[i]∧∀j (hj:j<i),¬Hi l[j] l[i]
structure Oa(c:Af):Prop where
 name:EC c.Name=true
 pins:LK c.Pins
 few:c.Arcs.length<=8
 leak:0<=c.Leak∧c.Leak<=100000
 energy:0<=c.Energy∧c.Energy<=100000
 arcs:bE (Mh c) c.Arcs
 kind:Gg c
theorem Gg.cnt{c:Af}(h:Gg c):cnt c.Pins<=1:=by
 rcases h with h|h|h<;>omega
theorem Kd{n:Nat}{c:Af}(hl:c.Arcs.length<=1048576)(hk:∀a∈c.Arcs,0<=a.Kind∧a.Kind<6)(hn:1048577<=n):∃l,Zc n c=some l∧l.length=6∧∀k:Nat,k<6->0<=gd l k∧(gd l k>0↔Fj c.Arcs k):=by
 have m6:ME 6 8=some 6:=DX (n:=6) (by omega) (by omega)
 rw [Zc,m6,Ai]
 refine loop (L:=fun m i (l:List Int)=>Ia c (fun i31 l33=>(some l33)) m i l) c.Arcs.length (fun i l=>l.length=6∧∀k:Nat,k<6->(0<=gd l k∧gd l k<=i)∧(gd l k>0↔Fj (c.Arcs.take i) k)) (fun o=>∃l,o=some l∧l.length=6∧∀k:Nat,k<6->0<=gd l k∧(gd l k>0↔Fj c.Arcs k)) ?_ ?_ n 0 (List.replicate 6 0) (by omega) (by omega) ⟨by simp,fun k hk=>?_⟩
 ·intro m i l hi ⟨hll,hI⟩
  have hx:=hk _ (List.getElem_mem hi)
  obtain⟨q,hq⟩:=Int.eq_ofNat_of_zero_le hx.1
  have hq:c.Arcs[i].Kind=(q:Int):=hq
  have hq6:q<6:=by omega
  have hg:AG l c.Arcs[i].Kind=some (gd l q):=by rw [hq];exact gI (by omega)
  have hb:=(hI q hq6).1
  refine .inl ⟨l.set q (gd l q+1),⟨by simpa using hll,fun k hk6=>?_⟩,?_⟩
  ·have h1:=hI k hk6
   rw [Gi (by omega)]
   have hs:Fj (c.Arcs.take (i+1)) k↔Fj (c.Arcs.take i) k∨c.Arcs[i].Kind=(k:Int):=by
    rw [List.take_succ_eq_append_getElem hi]
    unfold Fj
    constructor
    ·rintro ⟨a,ha,e⟩
     rcases List.mem_append.1 ha with ha|ha
     ·exact .inl ⟨a,ha,e⟩
     ·obtain rfl:=List.mem_singleton.1 ha;exact .inr e
    ·rintro (⟨a,ha,e⟩|e)
     ·exact⟨a,List.mem_append.2 (.inl ha),e⟩
     ·exact⟨_,List.mem_append.2 (.inr (List.mem_singleton.2 rfl)),e⟩
   rw [hs]
   by_cases e:q=k
   ·subst e
    rw [if_pos rfl]
    exact⟨⟨by omega,by omega⟩,⟨fun _=>.inr hq,fun _=>by omega⟩⟩
   ·rw [if_neg e]
    refine⟨⟨by omega,by omega⟩,h1.2.trans ⟨.inl,fun h=>h.resolve_right fun h=>e (by omega)⟩⟩
  ·simp only [Ia.eq_2,DP hi,cT,AU hi,Ai,hg,wT i,Ac (x:=gd l q+1) (by omega) (by omega)]
   rw [hq,Int.toNat_natCast]
 ·intro m l ⟨hll,hI⟩
  simp only [Ia.eq_2,Dc,cF]
  refine⟨l,rfl,hll,fun k hk6=>?_⟩
  have:=hI k hk6
  rw [List.take_length]at this
  exact⟨this.1.1,this.2⟩
 ·have:gd (List.replicate 6 0) k=0:=by simp only [gd,List.getD_eq_getElem?_getD,List.getElem?_replicate];split<;>rfl
  rw [this]
  refine⟨by omega,⟨fun h=>by omega,fun⟨a,ha,_⟩=>by simp at ha⟩⟩
theorem Hs{n:Nat}{c:Af}(hl:c.Arcs.length<=1048576)(k:Int)(hn:1048577<=n):BF (Fj c.Arcs k) (Sv n c k):=by
 obtain⟨r,e,hr,_⟩:=MW (xs:=c.Arcs) (L:=fun m i=>HP n c.Arcs k (fun i6=>(some (-1))) m i) (f:=fun a=>XN n a k) (P:=fun a=>a.Kind=k) (fun p _=>by rw [XN];exact BN beq_iff_eq) (fun m i hi=>by
  simp only [HP.eq_2,DP hi,cT,AU hi,Ai,wT i]) (fun m=>by
  simp only [HP.eq_2,Dc,cF]) n (by omega)
 have e:HP n c.Arcs k (fun i6=>(some (-1))) n 0=some r:=e
 rw [Sv,iD,gO,e]
 exact BN (by rw [decide_eq_true_eq];exact hr)
theorem bR{L:Nat}(h1:2<=L)(h2:L<=5):TW .i64 1 ((L:Int)-1)=((2^(L-1):Nat):Int)∧TW .i64 1 (IntKind.wrap IntKind.u64 ((L:Int)-1))=((2^(L-1):Nat):Int)∧decide (IntKind.wrap IntKind.u64 ((L:Int)-1)<0)=false:=by
 have:L=2∨L=3∨L=4∨L=5:=by omega
 rcases this with rfl|rfl|rfl|rfl<;>decide
theorem Tr1{n:Nat}{c:Af}{o:Option Bool}{Q:Prop}(h:c.Truth.length<=1048576)(hn:1048577<=n)(hQ:BF Q o):BF ((∀i,i<c.Truth.length->0<=gd c.Truth i∧gd c.Truth i<=1)∧Q) (Jg n c (fun _=>o) n 0):=by
 refine(EH (L:=fun m i=>Jg n c (fun _=>o) m i) (Q:=Q) c.Truth.length 0 (fun i=>0<=gd c.Truth i∧gd c.Truth i<=1) ?_ ?_ n 0 (by omega) (by omega) (by omega) (fun j _ h=>by omega)).iff ⟨fun a=>⟨fun i hi=>a.1 i (by omega) hi,a.2⟩,fun a=>⟨fun i _ hi=>a.1 i hi,a.2⟩⟩
 ·intro m i _ hi
  simp only [Jg.eq_2,DP hi,cT,gI hi,Ai,Gx,wT i]
  by_cases c1:0<=gd c.Truth i∧gd c.Truth i<=1
  ·have d1:(decide (gd c.Truth i>=0)&&decide (gd c.Truth i<=1))=true:=LV.2 c1
   simp only [d1,Bool.not_true,cF]
   exact .inl ⟨c1,by trivial⟩
  ·have d1:(decide (gd c.Truth i>=0)&&decide (gd c.Truth i<=1))=false:=by
    rw [Bool.and_eq_false_iff,decide_eq_false_iff_not,decide_eq_false_iff_not];omega
   simp only [d1,Bool.not_false,cT]
   exact .inr ⟨c1,by trivial⟩
 ·intro m i h1 h2 _
  obtain rfl:i=c.Truth.length:=by omega
  simp only [Jg.eq_2,Dc,cF]
  exact hQ
theorem In2{n:Nat}{c:Af}{i:Nat}(hi:i<c.Arcs.length)(hl:c.Arcs.length<=1048576)(hn:1048577<=n)(k2:Int->Option Bool):(∀j (hj:j<i),¬Hi c.Arcs[j] c.Arcs[i])∧IV c i c.Arcs[i] k2 n 0=k2 i∨(¬∀j (hj:j<i),¬Hi c.Arcs[j] c.Arcs[i])∧IV c i c.Arcs[i] k2 n 0=some false:=by
 refine loop (L:=fun m j (_:Unit)=>IV c i c.Arcs[i] k2 m j) i (fun b _=>∀j (hj:j<i),j<b->¬Hi c.Arcs[j] c.Arcs[i]) (fun o=>(∀j (hj:j<i),¬Hi c.Arcs[j] c.Arcs[i])∧o=k2 i∨(¬∀j (hj:j<i),¬Hi c.Arcs[j] c.Arcs[i])∧o=some false) ?_ ?_ n 0 () (by omega) (by omega) (fun j _ hj=>by omega)
 ·intro m j _ hj hJ
  have e1:Hi c.Arcs[j] c.Arcs[i]↔(((c.Arcs[j].Kind==c.Arcs[i].Kind)&&(c.Arcs[j].From==c.Arcs[i].From))&&(c.Arcs[j].To==c.Arcs[i].To))=true:=by
   unfold Hi;simp only [Bool.and_eq_true,beq_iff_eq]
  simp only [IV.eq_2,DP hj,cT,AU (show j<c.Arcs.length by omega),Ai,CG,wT j]
  cases e:(((c.Arcs[j].Kind==c.Arcs[i].Kind)&&(c.Arcs[j].From==c.Arcs[i].From))&&(c.Arcs[j].To==c.Arcs[i].To))with
  |true=>exact .inr (.inr ⟨fun h=>h j hj (e1.2 e),by trivial⟩)
  |false=>
   refine .inl ⟨(),fun a ha hb=>?_,by trivial⟩
   by_cases ea:a=j
   ·subst ea;intro hs;rw [e1.1 hs]at e;cases e
   ·exact hJ a ha (by omega)
 ·intro m _ hJ
  simp only [IV.eq_2,Dc,cF]
  exact .inl ⟨fun j hj=>hJ j hj hj,by trivial⟩
theorem AgL{n:Nat}{c:Af}(h:sH c)(hn:1048577<=n):BF (Oa c) (tM n c):=by
 obtain⟨r,e,hr,hc⟩:=Pn1 (n:=n) h.pins hn
 rw [tM,e]
 simp only [Ai,zB h.name hn,Gx,Dz]
 by_cases g:(LK c.Pins∧EC c.Name=true)∧c.Arcs.length<=8∧(0<=c.Leak∧c.Leak<=100000)∧(0<=c.Energy∧c.Energy<=100000)
 ·have rt:r.2=true:=hr.2 g.1.1
  have gb:((((!r.2|| !EC c.Name)||decide ((c.Arcs.length:Int)>8))|| !(decide (c.Leak>=0)&&decide (c.Leak<=100000)))|| !(decide (c.Energy>=0)&&decide (c.Energy<=100000)))=false:=by
   rw [rt,g.1.2]
   simp only [Bool.not_true,Bool.or_self,Bool.false_or,Bool.or_eq_false_iff,decide_eq_false_iff_not,Bool.not_eq_false',LV];omega
  simp only [gb,cF]
  have few:=g.1.1.few
  have hal:=h.arcs.1
  have hcnt:=hc rt
  refine(EH (L:=fun m i=>Jm n c _ m i) (Q:=Gg c) c.Arcs.length 0 (fun i=>∀(hi:i<c.Arcs.length),Mh c c.Arcs[i]∧∀j (hj:j<i),¬Hi c.Arcs[j] c.Arcs[i]) ?_ ?_ n 0 (by omega) (by omega) (by omega) (fun j _ h=>by omega)).iff ?_
  ·intro m i _ hi
   obtain⟨b,e,hb⟩:=AfE (n:=n) (c:=c) few.2 few.1 (h.arcs.2 _ (List.getElem_mem hi)) hn
   simp only [Jm.eq_2,DP hi,cT,AU hi,Ai,e]
   cases b with
   |false=>exact .inr ⟨fun q=>(by have:=hb.2 (q hi).1;cases this),by trivial⟩
   |true=>
    simp only [Bool.not_true,cF,wT i]
    rcases In2 (n:=n) hi hal hn (fun _=>Jm n c _ m ((i+1:Nat):Int))with ⟨q1,q2⟩|⟨q1,q2⟩
    ·exact .inl ⟨fun _=>⟨hb.1 rfl,q1⟩,q2⟩
    ·exact .inr ⟨fun q=>q1 (q hi).2,q2⟩
  ·intro m i h1 h2 hA
   obtain rfl:i=c.Arcs.length:=by omega
   simp only [Jm.eq_2,Dc,cF]
   obtain⟨l,e,hl6,hl⟩:=Kd (n:=n) hal (fun a ha=>by
    obtain⟨j,hj,rfl⟩:=List.getElem_of_mem ha
    have:=(hA j (by omega) hj hj).1.2
    rcases jW c.Arcs[j].Kind with k|k|k|k|k|k<;>first|omega|skip
    obtain⟨k1,k2,k3,k4,k5⟩:=k
    rw [if_neg k1,if_neg (by omega),if_neg (by omega)]at this
    exact this.elim) hn
   have g1:AG l 1=some (gd l 1):=gI (i:=1) (by omega)
   have g2:AG l 2=some (gd l 2):=gI (i:=2) (by omega)
   have g3:AG l 3=some (gd l 3):=gI (i:=3) (by omega)
   have k1:0<=gd l 1∧(gd l 1>0↔Fj c.Arcs 1):=hl 1 (by omega)
   have k2:0<=gd l 2∧(gd l 2>0↔Fj c.Arcs 2):=hl 2 (by omega)
   have k3:0<=gd l 3∧(gd l 3>0↔Fj c.Arcs 3):=hl 3 (by omega)
   have wl:wrap .i64 ((c.Pins.length:Int)-1)=(c.Pins.length:Int)-1:=Ac (by omega) (by omega)
   obtain⟨s1,s2,s3⟩:=bR few.1 few.2
   rw [e,Ai]
   simp only [g1,g2,g3,Ai,wl,s2,s3,cF,CG]
   have tl:((c.Truth.length:Int)==0)=true↔c.Truth.length=0:=by rw [beq_iff_eq];omega
   have tw:((c.Truth.length:Int)==((2^(c.Pins.length-1):Nat):Int))=true↔c.Truth.length=2^(c.Pins.length-1):=by rw [beq_iff_eq];omega
   have c0:(r.1==0)=true↔cnt c.Pins=0:=by rw [beq_iff_eq,hcnt];omega
   have c1:(r.1==1)=true↔cnt c.Pins=1:=by rw [beq_iff_eq,hcnt];omega
   have kk1:(gd l 1==0)=true↔¬Fj c.Arcs 1:=by rw [beq_iff_eq,←k1.2];omega
   have kk3:(gd l 3==0)=true↔¬Fj c.Arcs 3:=by rw [beq_iff_eq,←k3.2];omega
   have p1:decide (gd l 1>0)=true↔Fj c.Arcs 1:=by rw [decide_eq_true_eq];exact k1.2
   have p2:decide (gd l 2>0)=true↔Fj c.Arcs 2:=by rw [decide_eq_true_eq];exact k2.2
   have p3:decide (gd l 3>0)=true↔Fj c.Arcs 3:=by rw [decide_eq_true_eq];exact k3.2
   have x23:(decide (gd l 2>0) !=decide (gd l 3>0))=true↔¬(Fj c.Arcs 2↔Fj c.Arcs 3):=by
    rw [←p2,←p3];cases decide (gd l 2>0)<;>cases decide (gd l 3>0)<;>simp
   by_cases q1:c.Kind=1
   ·simp only [q1,show((1:Int)==1)=true from rfl,cT]
    refine(Tr1 (c:=c) (o:=some ((r.1==0)&&((c.Truth.length:Int)==((2^(c.Pins.length-1):Nat):Int)))) (Q:=cnt c.Pins=0∧c.Truth.length=2^(c.Pins.length-1)) h.truth hn (BN (by rw [Bool.and_eq_true,c0,tw]))).iff ?_
    unfold Gg
    constructor
    ·rintro ⟨a,b,d⟩;exact .inl ⟨q1,b,d,a⟩
    ·rintro (⟨_,b,d,a⟩|⟨a,_⟩|⟨a,_⟩)
     ·exact⟨a,b,d⟩
     ·omega
     ·omega
   ·simp only [beq_eq_false_iff_ne.2 q1,cF]
    by_cases q2:c.Kind=2
    ·simp only [q2,show((2:Int)==2)=true from rfl,cT]
     refine BN ?_
     rw [Bool.and_eq_true,Bool.and_eq_true,Bool.and_eq_true,c1,kk1,x23,tl]
     unfold Gg
     constructor
     ·rintro ⟨⟨⟨a,b⟩,d⟩,f⟩;exact .inr (.inl ⟨q2,a,f,b,d⟩)
     ·rintro (⟨a,_⟩|⟨_,a,f,b,d⟩|⟨a,_⟩)
      ·omega
      ·exact⟨⟨⟨a,b⟩,d⟩,f⟩
      ·omega
    ·simp only [beq_eq_false_iff_ne.2 q2,cF]
     by_cases q3:c.Kind=3
     ·simp only [q3,show((3:Int)==3)=true from rfl,cT]
      refine BN ?_
      simp only [Bool.and_eq_true,true_and,c1,p1,p2,kk3,tl]
      unfold Gg
      constructor
      ·rintro ⟨⟨⟨⟨a,b⟩,d⟩,x⟩,f⟩;exact .inr (.inr ⟨q3,a,f,b,d,x⟩)
      ·rintro (⟨a,_⟩|⟨a,_⟩|⟨_,a,f,b,d,x⟩)
       ·omega
       ·omega
       ·exact⟨⟨⟨⟨a,b⟩,d⟩,x⟩,f⟩
     ·simp only [beq_eq_false_iff_ne.2 q3,cF]
      refine BB ?_
      rintro (⟨a,_⟩|⟨a,_⟩|⟨a,_⟩)
      ·exact q1 a
      ·exact q2 a
      ·exact q3 a
  ·constructor
   ·rintro ⟨a,b⟩
    exact⟨g.1.2,g.1.1,g.2.1,g.2.2.1,g.2.2.2,fun i hi=>a i (by omega) hi hi,b⟩
   ·rintro v
    exact⟨fun i _ _ hi=>v.arcs i hi,v.kind⟩
 ·have gb:((((!r.2|| !EC c.Name)||decide ((c.Arcs.length:Int)>8))|| !(decide (c.Leak>=0)&&decide (c.Leak<=100000)))|| !(decide (c.Energy>=0)&&decide (c.Energy<=100000)))=true:=by
   cases hq:((((!r.2|| !EC c.Name)||decide ((c.Arcs.length:Int)>8))|| !(decide (c.Leak>=0)&&decide (c.Leak<=100000)))|| !(decide (c.Energy>=0)&&decide (c.Energy<=100000)))with
   |true=>rfl
   |false=>
    exfalso;apply g
    simp only [Bool.or_eq_false_iff,Bool.not_eq_false',decide_eq_false_iff_not,LV]at hq
    exact⟨⟨hr.1 hq.1.1.1.1,hq.1.1.1.2⟩,by omega,by simpa using hq.1.2,by simpa using hq.2⟩
  simp only [gb,cT]
  exact BB fun v=>g ⟨⟨v.pins,v.name⟩,v.few,v.leak,v.energy⟩
theorem Cn{n:Nat}{l:List BR}{K:Int->Option Bool}{c:Af}(hc:c.Pins=l)(hl:l.length<=1048576)(hn:1048577<=n):Fs c (fun i _=>K i) n 0 0=K (cnt l):=by
 subst hc
 refine loop (L:=fun m i (q:Int)=>Fs c (fun i _=>K i) m q i) c.Pins.length (fun i q=>q=cnt (c.Pins.take i)) (fun o=>o=K (cnt c.Pins)) ?_ ?_ n 0 0 (by omega) (by omega) (by simp [cnt])
 ·intro m i q hi hq
  have ct:=Ri hi
  have cl:cnt (c.Pins.take i)<=1048576:=Nat.le_trans List.countP_le_length (by simp;omega)
  cases hk:c.Pins[i].Clock with
  |true=>
   rw [hk,if_pos rfl]at ct
   refine .inl ⟨q+1,by rw [ct,hq];simp,?_⟩
   simp only [Fs.eq_2,DP hi,cT,AU hi,Ai,hk,wT i,Ac (x:=q+1) (by omega) (by omega)]
  |false=>
   rw [hk]at ct
   refine .inl ⟨q,by rw [ct,hq];simp,?_⟩
   simp only [Fs.eq_2,DP hi,cT,AU hi,Ai,hk,cF,wT i]
 ·intro m q hq
  rw [List.take_length]at hq
  simp only [Fs.eq_2,Dc,cF,hq]
theorem Kn2{n:Nat}{c:Af}(h:sH c)(hv:LK c.Pins)(hn:1048577<=n):BF (Gg c) (aI n c):=by
 have few:=hv.few
 obtain⟨b1,e1,h1⟩:=Hs (n:=n) h.arcs.1 1 hn
 obtain⟨b2,e2,h2⟩:=Hs (n:=n) h.arcs.1 2 hn
 obtain⟨b3,e3,h3⟩:=Hs (n:=n) h.arcs.1 3 hn
 have wl:wrap .i64 ((c.Pins.length:Int)-1)=(c.Pins.length:Int)-1:=Ac (by omega) (by omega)
 have o:=(Cn (n:=n) (c:=c) (l:=c.Pins) (K:=fun i16=>(cond (c.Kind==1) (Option.bind (cond (i16==0) (Option.bind (Qw n c) fun r20=>(cond (decide (r20<0)) none (some ((((c.Truth.length:Int))==(TW .i64 1 r20)))))) (some false)) fun c20=>(Option.bind (cond c20 (Option.bind (MK n c.Truth 0 1) fun r26=>(some r26)) (some false)) fun c26=>(some c26))) (cond (c.Kind==2) (Option.bind (cond (((i16==1))&&((((c.Truth.length:Int))==0))) (Option.bind (Sv n c 1) fun r38=>(some (!r38))) (some false)) fun c38=>(Option.bind (cond c38 (Option.bind (Sv n c 2) fun r43=>(Option.bind (Sv n c 3) fun r45=>(some ((r43 !=r45))))) (some false)) fun c43=>(some c43))) (cond (c.Kind==3) (Option.bind (cond (((i16==1))&&((((c.Truth.length:Int))==0))) (Option.bind (Sv n c 1) fun r61=>(some r61)) (some false)) fun c61=>(Option.bind (cond c61 (Option.bind (Sv n c 2) fun r74=>(some r74)) (some false)) fun c74=>(Option.bind (cond c74 (Option.bind (Sv n c 3) fun r87=>(some (!r87))) (some false)) fun c87=>(some c87)))) (some false))))) rfl h.pins.1 hn)
 have o2:aI n c=_:=o
 rw [o2]
 obtain⟨s1,s2,s3⟩:=bR few.1 few.2
 have d0:decide ((c.Pins.length:Int)-1<0)=false:=decide_eq_false (by omega)
 simp only [Qw,Tm,Ai,wl,d0,cF,s1,AW (n:=n) h.truth hn,e1,e2,e3,CG]
 have tl:((c.Truth.length:Int)==0)=true↔c.Truth.length=0:=by rw [beq_iff_eq];omega
 have tw:((c.Truth.length:Int)==((2^(c.Pins.length-1):Nat):Int))=true↔c.Truth.length=2^(c.Pins.length-1):=by rw [beq_iff_eq];omega
 have c0:((cnt c.Pins:Int)==0)=true↔cnt c.Pins=0:=by rw [beq_iff_eq];omega
 have c1:((cnt c.Pins:Int)==1)=true↔cnt c.Pins=1:=by rw [beq_iff_eq];omega
 have n1:(!b1)=true↔¬Fj c.Arcs 1:=by rw [←h1];cases b1<;>simp
 have n3:(!b3)=true↔¬Fj c.Arcs 3:=by rw [←h3];cases b3<;>simp
 have x23:(b2 !=b3)=true↔¬(Fj c.Arcs 2↔Fj c.Arcs 3):=by rw [←h2,←h3];cases b2<;>cases b3<;>simp
 by_cases q1:c.Kind=1
 ·simp only [q1,show((1:Int)==1)=true from rfl,cT]
  refine BN ?_
  rw [Bool.and_eq_true,Bool.and_eq_true,c0,tw,OF]
  unfold Gg
  constructor
  ·rintro ⟨⟨a,b⟩,d⟩;exact .inl ⟨q1,a,b,d⟩
  ·rintro (⟨_,a,b,d⟩|⟨a,_⟩|⟨a,_⟩)
   ·exact⟨⟨a,b⟩,d⟩
   ·omega
   ·omega
 ·simp only [beq_eq_false_iff_ne.2 q1,cF]
  by_cases q2:c.Kind=2
  ·simp only [q2,show((2:Int)==2)=true from rfl,cT]
   refine BN ?_
   simp only [Bool.and_eq_true,c1,tl,n1,x23]
   unfold Gg
   constructor
   ·rintro ⟨⟨⟨a,b⟩,d⟩,f⟩;exact .inr (.inl ⟨q2,a,b,d,f⟩)
   ·rintro (⟨a,_⟩|⟨_,a,b,d,f⟩|⟨a,_⟩)
    ·omega
    ·exact⟨⟨⟨a,b⟩,d⟩,f⟩
    ·omega
  ·simp only [beq_eq_false_iff_ne.2 q2,cF]
   by_cases q3:c.Kind=3
   ·simp only [q3,show((3:Int)==3)=true from rfl,cT]
    refine BN ?_
    simp only [Bool.and_eq_true,true_and,c1,tl,h1,h2,n3]
    unfold Gg
    constructor
    ·rintro ⟨⟨⟨⟨a,b⟩,d⟩,x⟩,f⟩;exact .inr (.inr ⟨q3,a,b,d,x,f⟩)
    ·rintro (⟨a,_⟩|⟨a,_⟩|⟨_,a,b,d,x,f⟩)
     ·omega
     ·omega
     ·exact⟨⟨⟨⟨a,b⟩,d⟩,x⟩,f⟩
   ·simp only [beq_eq_false_iff_ne.2 q3,cF]
    refine BB ?_
    rintro (⟨a,_⟩|⟨a,_⟩|⟨a,_⟩)
    ·exact q1 a
    ·exact q2 a
    ·exact q3 a
theorem As2{n:Nat}{c:Af}{r:Int}(h:sH c)(hv:LK c.Pins)(hr:Tu n c=some r)(hn:1048577<=n):BF (bE (fun a=>Vk c a r) c.Arcs∧c.Arcs.length<=8) (ZG n c):=by
 have few:=hv.few
 have hal:=h.arcs.1
 rw [ZG]
 refine(EH (L:=fun m i=>Ik n c _ m i) (Q:=c.Arcs.length<=8) c.Arcs.length 0 (fun i=>∀(hi:i<c.Arcs.length),Vk c c.Arcs[i] r∧∀j (hj:j<i),¬Hi c.Arcs[j] c.Arcs[i]) ?_ ?_ n 0 (by omega) (by omega) (by omega) (fun j _ h=>by omega)).iff ⟨fun a=>⟨fun i hi=>a.1 i (by omega) hi hi,a.2⟩,fun a=>⟨fun i _ _ hi=>a.1 i hi,a.2⟩⟩
 ·intro m i _ hi
  obtain⟨b,e,hb⟩:=AbK (n:=n) (c:=c) few.2 few.1 (h.arcs.2 _ (List.getElem_mem hi)) hr hn
  have hsub:RJ c.Arcs 0 (i:Int)=some (c.Arcs.take i):=by
   unfold RJ
   rw [if_pos ⟨by omega,by omega,by omega⟩];simp
  obtain⟨q,e2,hq,_⟩:=MW (xs:=c.Arcs.take i) (L:=fun m j=>HJ n (c.Arcs.take i) c.Arcs[i] (fun i6=>(some (-1))) m j) (f:=fun a=>aE n a c.Arcs[i]) (P:=fun a=>Hi a c.Arcs[i]) (fun p _=>by rw [aE];exact BN (by unfold Hi;simp only [Bool.and_eq_true,beq_iff_eq])) (fun m j hj=>by
   simp only [HJ.eq_2,DP hj,cT,AU hj,Ai,wS (show j<4611686018427387904 by have:=hj;simp at this;omega)]) (fun m=>by
   simp only [HJ.eq_2,Dc,cF]) n (by simp;omega)
  have e2:HJ n (c.Arcs.take i) c.Arcs[i] (fun i6=>(some (-1))) n 0=some q:=e2
  simp only [Ik.eq_2,DP hi,cT,AU hi,Ai,e,hsub,eJ,eW,e2,Dz,wT i]
  have hd:(decide (q>=0))=true↔¬∀j (hj:j<i),¬Hi c.Arcs[j] c.Arcs[i]:=by
   rw [decide_eq_true_eq,hq]
   constructor
   ·rintro ⟨x,hx,hs⟩ hall
    obtain⟨j,hj,rfl⟩:=List.mem_take_iff_getElem.1 hx
    exact hall j (by omega) hs
   ·intro hna
    refine Classical.byContradiction fun hne=>hna fun j hj hs=>hne ⟨c.Arcs[j],List.mem_take_iff_getElem.2 ⟨j,by omega,rfl⟩,hs⟩
  cases hc:(!b||decide (q>=0))with
  |true=>
   refine .inr ⟨fun g=>?_,by trivial⟩
   have:=g hi
   rw [Bool.or_eq_true]at hc
   rcases hc with hc|hc
   ·rw [hb.2 this.1]at hc;cases hc
   ·exact hd.1 hc this.2
  |false=>
   rw [Bool.or_eq_false_iff]at hc
   refine .inl ⟨fun _=>⟨hb.1 (by simpa using hc.1),Classical.byContradiction fun g=>?_⟩,by trivial⟩
   have:=hd.2 g
   rw [hc.2]at this;cases this
 ·intro m i h1 h2 _
  obtain rfl:i=c.Arcs.length:=by omega
  simp only [Ik.eq_2,Dc,cF]
  exact BN (by rw [decide_eq_true_eq];omega)
theorem AcK{n:Nat}{c:Af}(h:sH c)(hn:1048577<=n):BF (Oa c) (aO n c):=by
 obtain⟨r,hr,hr0,hr1⟩:=Ck (n:=n) h.pins.1 hn
 rw [aO,Nm1 h.name hn,Ai]
 cases hnm:EC c.Name with
 |false=>
  simp only [cF,Ai]
  exact BB fun v=>(by have:=v.name;rw [hnm]at this;cases this)
 |true=>
  obtain⟨b,e,hb⟩:=Pn2 (n:=n) h.pins hn
  simp only [cT,e,Ai]
  cases b with
  |false=>
   simp only [cF,Ai]
   exact BB fun v=>(by have:=hb.2 v.pins;cases this)
  |true=>
   have hv:=hb.1 rfl
   obtain⟨b1,e1,h1⟩:=As2 (n:=n) h hv hr hn
   obtain⟨b2,e2,h2⟩:=Kn2 (n:=n) h hv hn
   simp only [cT,e1,e2,JL,Ai,CG]
   refine BN ?_
   rw [Bool.and_eq_true,Bool.and_eq_true,Bool.and_eq_true,h1,h2,LV,LV]
   constructor
   ·rintro ⟨⟨⟨⟨a,a8⟩,b⟩,d⟩,f⟩
    exact⟨hnm,hv,a8,b,d,fun i hi=>⟨(VM hv f.cnt hr1 hr0).2 (a i hi).1,(a i hi).2⟩,f⟩
   ·rintro v
    exact⟨⟨⟨⟨fun i hi=>⟨(VM hv v.kind.cnt hr1 hr0).1 (v.arcs i hi).1,(v.arcs i hi).2⟩,v.few⟩,v.leak⟩,v.energy⟩,v.kind⟩
def Fo(xs:List ByteArray):Prop:=∀k (h:k<xs.length),EC xs[k]=true∧∀i (hi:i<k),(xs[i].toList==xs[k].toList)=false
theorem nR{n:Nat}{xs:List ByteArray}(h:xs.length<=1048576)(hs:∀x∈xs,x.size<=1048576)(hn:1048577<=n):BF (Fo xs) (lQ n xs):=by
 rw [lQ]
 refine(EH (L:=fun m i=>Hg n xs _ m i) (Q:=True) xs.length 0 (fun i=>∀(hi:i<xs.length),EC xs[i]=true∧∀j (hj:j<i),(xs[j].toList==xs[i].toList)=false) ?_ ?_ n 0 (by omega) (by omega) (by omega) (fun j _ h=>by omega)).iff ⟨fun a k hk=>a.1 k (by omega) hk hk,fun a=>⟨fun i _ _ hi=>a i hi,trivial⟩⟩
 ·intro m i _ hi
  simp only [Hg.eq_2,DP hi,cT,AU hi,Ai,zB (hs _ (List.getElem_mem hi)) hn]
  cases hb:EC xs[i]with
  |false=>simp only [Bool.not_false,cT];exact .inr ⟨fun g=>(by have:=(g hi).1;rw [hb]at this;cases this),trivial⟩
  |true=>
   simp only [Bool.not_true,cF]
   have key:Jx xs (i:Int) (fun i22=>Hg n xs (fun i5=>some true) m (wrap .i64 ((i:Int)+1))) n 0=cond ((xs.take i).all (fun x=>!(x.toList==xs[i].toList))) (Hg n xs (fun i5=>some true) m (wrap .i64 ((i:Int)+1))) (some false):=by
    refine Nl (xs:=xs.take i) (L:=fun q j=>Jx xs (i:Int) (fun i22=>Hg n xs (fun i5=>some true) m (wrap .i64 ((i:Int)+1))) q j) (fun x=>!(x.toList==xs[i].toList)) ?_ ?_ n (by simp;omega)
    ·intro q j hj
     have hj':j<i:=by simp at hj;omega
     have hd:decide ((j:Int)<(i:Int))=true:=decide_eq_true (by omega)
     simp only [Jx.eq_2,hd,cT,AU (show j<xs.length by omega),AU hi,Ai,List.getElem_take,wT j]
     cases(xs[j].toList==xs[i].toList)<;>rfl
    ·intro q
     have hl:(xs.take i).length=i:=by simp;omega
     have hd:decide (((xs.take i).length:Int)<(i:Int))=false:=decide_eq_false (by rw [hl];omega)
     simp only [Jx.eq_2,hd,cF]
   rw [key]
   cases ha:(xs.take i).all (fun x=>!(x.toList==xs[i].toList))with
   |true=>
    rw [cT,wT i]
    refine .inl ⟨fun _=>⟨hb,fun j hj=>?_⟩,rfl⟩
    have:=List.all_eq_true.1 ha xs[j] (List.mem_take_iff_getElem.2 ⟨j,by omega,rfl⟩)
    simpa using this
   |false=>
    rw [cF]
    refine .inr ⟨fun g=>?_,rfl⟩
    have:(xs.take i).all (fun x=>!(x.toList==xs[i].toList))=true:=by
     rw [List.all_eq_true]
     intro x hx
     obtain⟨j,hj,rfl⟩:=List.mem_take_iff_getElem.1 hx
     have:=(g hi).2 j (by omega)
     simp [this]
    rw [ha]at this;cases this
 ·intro m i h1 h2 _
  obtain rfl:i=xs.length:=by omega
  simp only [Hg.eq_2,Dc,cF]
  exact CS trivial
structure Rw(l:Ad):Prop where
 few:l.Cells.length<=8
 cells:∀i (h:i<l.Cells.length),Oa l.Cells[i]
 names:∀k (h:k<l.Cells.length),∀i (hi:i<k),(l.Cells[i].Name.toList==l.Cells[k].Name.toList)=false
def cQ(l:Ad):Prop:=l.Cells.length<=1048576∧∀c∈l.Cells,sH c
theorem Lb1{n:Nat}{l:Ad}(h:cQ l)(hn:1048577<=n):BF (Rw l) (vV n l):=by
 have h1:=h.1
 rw [vV]
 refine(EH (L:=fun m i=>HU n l _ m i) (Q:=l.Cells.length<=8) l.Cells.length 0 (fun i=>∀(hi:i<l.Cells.length),Oa l.Cells[i]∧∀j (hj:j<i),(l.Cells[j].Name.toList==l.Cells[i].Name.toList)=false) ?_ ?_ n 0 (by omega) (by omega) (by omega) (fun j _ h=>by omega)).iff ⟨fun a=>⟨a.2,fun i hi=>(a.1 i (by omega) hi hi).1,fun k hk=>(a.1 k (by omega) hk hk).2⟩,fun a=>⟨fun i _ _ hi=>⟨a.cells i hi,a.names i hi⟩,a.few⟩⟩
 ·intro m i _ hi
  obtain⟨b,e,hb⟩:=AgL (n:=n) (h.2 _ (List.getElem_mem hi)) hn
  simp only [HU.eq_2,DP hi,cT,AU hi,Ai,e]
  cases b with
  |false=>simp only [Bool.not_false,cT];exact .inr ⟨fun g=>(by have:=hb.2 (g hi).1;cases this),trivial⟩
  |true=>
   simp only [Bool.not_true,cF]
   have key:Ju l (i:Int) (fun i36=>HU n l (fun i12=>some (decide ((l.Cells.length:Int)<=8))) m (wrap .i64 ((i:Int)+1))) n 0=cond ((l.Cells.take i).all (fun x=>!(x.Name.toList==l.Cells[i].Name.toList))) (HU n l (fun i12=>some (decide ((l.Cells.length:Int)<=8))) m (wrap .i64 ((i:Int)+1))) (some false):=by
    refine Nl (xs:=l.Cells.take i) (L:=fun q j=>Ju l (i:Int) (fun i36=>HU n l (fun i12=>some (decide ((l.Cells.length:Int)<=8))) m (wrap .i64 ((i:Int)+1))) q j) (fun x=>!(x.Name.toList==l.Cells[i].Name.toList)) ?_ ?_ n (by simp;omega)
    ·intro q j hj
     have hj':j<i:=by simp at hj;omega
     have hd:decide ((j:Int)<(i:Int))=true:=decide_eq_true (by omega)
     simp only [Ju.eq_2,hd,cT,AU (show j<l.Cells.length by omega),AU hi,Ai,List.getElem_take,wT j]
     cases(l.Cells[j].Name.toList==l.Cells[i].Name.toList)<;>rfl
    ·intro q
     have hl:(l.Cells.take i).length=i:=by simp;omega
     have hd:decide (((l.Cells.take i).length:Int)<(i:Int))=false:=decide_eq_false (by rw [hl];omega)
     simp only [Ju.eq_2,hd,cF]
   rw [key]
   cases ha:(l.Cells.take i).all (fun x=>!(x.Name.toList==l.Cells[i].Name.toList))with
   |true=>
    rw [cT,wT i]
    refine .inl ⟨fun _=>⟨hb.1 rfl,fun j hj=>?_⟩,rfl⟩
    have:=List.all_eq_true.1 ha l.Cells[j] (List.mem_take_iff_getElem.2 ⟨j,by omega,rfl⟩)
    simpa using this
   |false=>
    rw [cF]
    refine .inr ⟨fun g=>?_,rfl⟩
    have:(l.Cells.take i).all (fun x=>!(x.Name.toList==l.Cells[i].Name.toList))=true:=by
     rw [List.all_eq_true]
     intro x hx
     obtain⟨j,hj,rfl⟩:=List.mem_take_iff_getElem.1 hx
     have:=(g hi).2 j (by omega)
     simp [this]
    rw [ha]at this;cases this
 ·intro m i h1 h2 _
  obtain rfl:i=l.Cells.length:=by omega
  simp only [HU.eq_2,Dc,cF]
  exact BN (by rw [decide_eq_true_eq];omega)
theorem Lb2{n:Nat}{l:Ad}(h:cQ l)(hn:1048577<=n):BF (Rw l) (ZA n l):=by
 have h1:=h.1
 rw [ZA]
 refine loop (L:=fun m i (s:List ByteArray)=>IG n l _ m s i) l.Cells.length (fun i s=>s=(l.Cells.take i).map (·.Name)∧∀j (hj:j<l.Cells.length),j<i->Oa l.Cells[j]) (fun o=>BF (Rw l) o) ?_ ?_ n 0 [] (by omega) (by omega) ⟨by simp,fun j _ h=>by omega⟩
 ·intro m i s hi ⟨hs,hI⟩
  obtain⟨b,e,hb⟩:=AcK (n:=n) (h.2 _ (List.getElem_mem hi)) hn
  have hsl:s.length=i:=by rw [hs];simp;omega
  simp only [IG.eq_2,DP hi,cT,AU hi,Ai,e]
  cases b with
  |false=>simp only [Bool.not_false,cT];exact .inr (BB fun v=>by have:=hb.2 (v.cells i hi);cases this)
  |true=>
   simp only [Bool.not_true,cF,CC (show s.length+[l.Cells[i].Name].length<=16777216 by simp;omega) (show 16<=1048576 by omega),Ai,wT i]
   refine .inl ⟨_,⟨?_,fun j hj hji=>?_⟩,rfl⟩
   ·rw [hs,List.take_succ_eq_append_getElem hi,List.map_append];rfl
   ·by_cases ej:j=i
    ·subst ej;exact hb.1 rfl
    ·exact hI j hj (by omega)
 ·intro m s ⟨hs,hI⟩
  rw [List.take_length]at hs
  have hsl:s.length=l.Cells.length:=by rw [hs];simp
  simp only [IG.eq_2,Dc,cF]
  by_cases c:l.Cells.length<=8
  ·have d:decide ((l.Cells.length:Int)<=8)=true:=decide_eq_true (by omega)
   obtain⟨b,e,hb⟩:=AN (n:=n) (xs:=s) (by omega) (fun x hx=>by
    rw [hs]at hx
    obtain⟨c,hc,rfl⟩:=List.mem_map.1 hx
    exact(h.2 c hc).name) hn
   simp only [d,cT,e,Ai]
   refine BN (hb.trans ⟨fun g=>⟨c,fun i hi=>hI i hi hi,fun k hk i hi=>?_⟩,fun v k hk=>⟨?_,fun i hi=>?_⟩⟩)
   ·have:=(g k (by omega)).2 i hi
    simpa [hs] using this
   ·have:=(v.cells k (by omega)).name
    simpa [hs] using this
   ·have:=v.names k (by omega) i hi
    simpa [hs] using this
  ·have d:decide ((l.Cells.length:Int)<=8)=false:=decide_eq_false (by omega)
   simp only [d,cF,Ai]
   exact BB fun v=>c v.few
def iV(l:List Int)(lo hi:Int):Prop:=∀i,i<l.length->lo<=gd l i∧gd l i<=hi
theorem Yo{n:Nat}{l:List Int}{lo hi:Int}(h:l.length<=1048576)(hn:1048577<=n):BF (iV l lo hi) (MK n l lo hi):=by
 rw [MK,bM,Yf]
 obtain⟨r,e,h⟩:=KN (xs:=l) (L:=fun m i=>FT n l lo hi (fun i7=>(some (-1))) m i) (fun x=>!((decide (x>=lo))&&(decide (x<=hi)))) (by
  intro m i hi
  simp only [FT.eq_2,DP hi,cT,AU hi,Ai,Xh,JL,wT i]) (by
  intro m
  simp only [FT.eq_2,Dc,cF]) n (by omega)
 simp only [e,Ai]
 refine BN ?_
 rw [h,List.any_eq_not_all_not,Bool.not_not]
 simp only [Bool.not_not]
 exact OF
structure Rb(w:Av)(s:Int):Prop where
 many:1<=w.Parent.length∧w.Parent.length<=8
 res:w.Res.length=w.Parent.length
 cap:w.Cap.length=w.Parent.length
 sink:(w.Sink.length:Int)=s
 root:gd w.Parent 0= -1∧gd w.Res 0=0
 tree:∀i,0<i->i<w.Parent.length->0<=gd w.Parent i∧gd w.Parent i<=(i:Int)-1
 ress:iV w.Res 0 1000
 caps:iV w.Cap 0 500
 sinks:iV w.Sink 0 ((w.Parent.length:Int)-1)
def Node(w:Av)(i:Nat):Prop:=(i=0->gd w.Parent 0= -1∧gd w.Res 0=0)∧(0<i->0<=gd w.Parent i∧gd w.Parent i<=(i:Int)-1)
theorem Wr1{n:Nat}{w:Av}{s:Int}(h:w.Sink.length<=1048576)(hn:1048577<=n):BF (Rb w s) (vN n w s):=by
 rw [vN]
 refine Eb (fun c=>BB fun v=>?_) (fun c=>?_)
 ·have:=v.many;have:=v.res;have:=v.cap;have:=v.sink
  simp only [Bool.or_eq_true,decide_eq_true_eq,bne_iff_ne,ne_eq]at c;omega
 ·simp only [Bool.or_eq_false_iff,decide_eq_false_iff_not,bne_eq_false_iff_eq]at c
  obtain⟨⟨⟨⟨c1,c2⟩,c3⟩,c4⟩,c5⟩:=c
  refine(EH (L:=fun m i=>Lg n w _ m i) (Q:=iV w.Sink 0 ((w.Parent.length:Int)-1)) w.Parent.length 0 (fun i=>(0<=gd w.Cap i∧gd w.Cap i<=500)∧(0<=gd w.Res i∧gd w.Res i<=1000)∧Node w i) ?_ ?_ n 0 (by omega) (by omega) (by omega) (fun j _ h=>by omega)).iff ⟨fun a=>⟨by omega,by omega,by omega,c5,(a.1 0 (by omega) (by omega)).2.2.1 rfl,fun i h1 h2=>(a.1 i (by omega) h2).2.2.2 h1,fun i hi=>(a.1 i (by omega) (by omega)).2.1,fun i hi=>(a.1 i (by omega) (by omega)).1,a.2⟩,fun v=>⟨fun i _ hi=>⟨v.caps i (by omega),v.ress i (by omega),fun _=>v.root,fun h=>v.tree i h hi⟩,v.sinks⟩⟩
  ·intro m i _ hi
   have w1:wrap .i64 ((i:Int)-1)=(i:Int)-1:=Ac (by omega) (by omega)
   simp only [Lg.eq_2,DP hi,cT,gI (show i<w.Parent.length by omega),gI (show i<w.Res.length by omega),gI (show i<w.Cap.length by omega),Ai,Gx,Dz,CG,w1,wT i]
   cases e1:(!(decide (gd w.Cap i>=0)&&decide (gd w.Cap i<=500))|| !(decide (gd w.Res i>=0)&&decide (gd w.Res i<=1000)))with
   |true=>
    rw [cT]
    refine .inr ⟨fun g=>?_,rfl⟩
    simp only [Bool.or_eq_true,Bool.not_eq_true',Bool.and_eq_false_iff,decide_eq_false_iff_not]at e1;omega
   |false=>
    rw [cF]
    simp only [Bool.or_eq_false_iff,Bool.not_eq_false',Bool.and_eq_true,decide_eq_true_eq]at e1
    cases e2:((((i:Int)==0)&&((gd w.Parent i != -1)||(gd w.Res i !=0)))||(decide ((i:Int)>0)&& !(decide (gd w.Parent i>=0)&&decide (gd w.Parent i<=(i:Int)-1))))with
    |true=>
     rw [cT]
     refine .inr ⟨fun g=>?_,rfl⟩
     obtain⟨_,_,g1,g2⟩:=g
     simp only [Bool.or_eq_true,Bool.not_eq_true',Bool.and_eq_false_iff,Bool.and_eq_true,decide_eq_false_iff_not,decide_eq_true_eq,beq_iff_eq,bne_iff_ne,ne_eq]at e2
     by_cases z:i=0
     ·subst z;have:=g1 rfl;omega
     ·have:=g2 (by omega);omega
    |false=>
     rw [cF]
     refine .inl ⟨⟨by omega,by omega,?_⟩,rfl⟩
     simp only [Bool.or_eq_false_iff,Bool.not_eq_false',Bool.and_eq_false_iff,Bool.and_eq_true,decide_eq_false_iff_not,decide_eq_true_eq,beq_eq_false_iff_ne,bne_eq_false_iff_eq,ne_eq]at e2
     refine⟨fun z=>?_,fun z=>by omega⟩
     subst z;omega
  ·intro m i h1 h2 _
   obtain rfl:i=w.Parent.length:=by omega
   have w1:wrap .i64 ((w.Parent.length:Int)-1)=(w.Parent.length:Int)-1:=Ac (by omega) (by omega)
   simp only [Lg.eq_2,Dc,cF]
   refine(EH (L:=fun m i=>MC n w _ m i) (Q:=True) w.Sink.length 0 (fun i=>0<=gd w.Sink i∧gd w.Sink i<=(w.Parent.length:Int)-1) ?_ ?_ n 0 (by omega) (by omega) (by omega) (fun j _ h=>by omega)).iff ⟨fun a i hi=>a.1 i (by omega) hi,fun v=>⟨fun i _ hi=>v i hi,trivial⟩⟩
   ·intro m i _ hi
    simp only [MC.eq_2,DP hi,cT,gI hi,Ai,Gx,w1,wT i]
    cases e:(!(decide (gd w.Sink i>=0)&&decide (gd w.Sink i<=(w.Parent.length:Int)-1)))with
    |true=>refine .inr ⟨fun g=>?_,by trivial⟩;simp only [Bool.not_eq_true',Bool.and_eq_false_iff,decide_eq_false_iff_not]at e;omega
    |false=>refine .inl ⟨?_,by trivial⟩;simp only [Bool.not_eq_false',Bool.and_eq_true,decide_eq_true_eq]at e;omega
   ·intro m i h1 h2 _
    obtain rfl:i=w.Sink.length:=by omega
    simp only [MC.eq_2,Dc,cF]
    exact CS trivial
theorem AcG{n:Nat}{w:Av}(h1:1<=w.Parent.length)(h:w.Parent.length<=8)(h2:w.Res.length=w.Parent.length)(hn:1048577<=n):BF (∀i,0<=i->i<w.Parent.length->Node w i) (dO n w):=by
 rw [dO]
 refine(EH (L:=fun m i=>Ig n w _ m i) (Q:=True) w.Parent.length 0 (fun i=>Node w i) ?_ ?_ n 0 (by omega) (by omega) (by omega) (fun j _ h=>by omega)).iff ⟨fun a=>a.1,fun a=>⟨a,trivial⟩⟩
 ·intro m i _ hi
  have w1:wrap .i64 ((i:Int)-1)=(i:Int)-1:=Ac (by omega) (by omega)
  have w0:AG w.Res 0=some (gd w.Res 0):=gI (i:=0) (by omega)
  simp only [Ig.eq_2,DP hi,cT,gI hi,w0,Ai,JL,Dz,CG,w1,wT i]
  cases e2:((((i:Int)==0)&&((gd w.Parent i != -1)||(gd w.Res 0 !=0)))||(decide ((i:Int)>0)&& !(decide (gd w.Parent i>=0)&&decide (gd w.Parent i<=(i:Int)-1))))with
  |true=>
   rw [cT]
   refine .inr ⟨fun g=>?_,rfl⟩
   obtain⟨g1,g2⟩:=g
   simp only [Bool.or_eq_true,Bool.not_eq_true',Bool.and_eq_false_iff,Bool.and_eq_true,decide_eq_false_iff_not,decide_eq_true_eq,beq_iff_eq,bne_iff_ne,ne_eq]at e2
   by_cases z:i=0
   ·subst z;have:=g1 rfl;omega
   ·have:=g2 (by omega);omega
  |false=>
   rw [cF]
   refine .inl ⟨?_,rfl⟩
   simp only [Bool.or_eq_false_iff,Bool.not_eq_false',Bool.and_eq_false_iff,Bool.and_eq_true,decide_eq_false_iff_not,decide_eq_true_eq,beq_eq_false_iff_ne,bne_eq_false_iff_eq,ne_eq]at e2
   refine⟨fun z=>?_,fun z=>by omega⟩
   subst z;omega
 ·intro m i h1 h2 _
  obtain rfl:i=w.Parent.length:=by omega
  simp only [Ig.eq_2,Dc,cF]
  exact CS trivial
theorem BF.and{P Q:Prop}{o:Option Bool}{c:Bool}(hc:c=true↔P)(h:P->BF Q o):BF (P∧Q) (cond c o (some false)):=by
 cases c with
 |true=>exact(h (hc.1 rfl)).iff ⟨fun q=>⟨hc.1 rfl,q⟩,fun q=>q.2⟩
 |false=>exact BB fun q=>by have:=hc.2 q.1;cases this
theorem BF.ab{P R:Prop}{o:Option Bool}{f:Bool->Option Bool}(h:BF P o)(k:∀c:Bool,(c=true↔P)->BF R (f c)):BF R (Option.bind o f):=by
 obtain⟨b,rfl,h⟩:=h
 exact k b h
theorem OW{o:Option Bool}:(Option.bind o fun r=>some r)=o:=by cases o<;>rfl
theorem Wr2{n:Nat}{w:Av}{s:Int}(h:w.Sink.length<=1048576)(hr:w.Res.length<=1048576)(hc:w.Cap.length<=1048576)(hp:w.Parent.length<=1048576)(hn:1048577<=n):BF (Rb w s) (Zq n w s):=by
 have w1:wrap .i64 ((w.Parent.length:Int)-1)=(w.Parent.length:Int)-1:=Ac (by omega) (by omega)
 rw [Zq]
 simp only [Nt,JL,Ai,w1,CG,OW]
 refine BF.ab (BF.and (P:=(1<=w.Parent.length∧w.Parent.length<=8)∧w.Res.length=w.Parent.length∧w.Cap.length=w.Parent.length) (Q:=∀i,0<=i->i<w.Parent.length->Node w i) ?_ fun p=>AcG p.1.1 p.1.2 p.2.1 hn) fun c1 e1=>?_
 ·simp only [Bool.and_eq_true,decide_eq_true_eq,beq_iff_eq];omega
 refine BF.ab (BF.and e1 fun _=>Yo hr hn) fun c2 e2=>?_
 refine BF.ab (BF.and e2 fun _=>Yo hc hn) fun c3 e3=>?_
 refine(BF.and (P:=(((((1<=w.Parent.length∧w.Parent.length<=8)∧w.Res.length=w.Parent.length∧w.Cap.length=w.Parent.length)∧∀i,0<=i->i<w.Parent.length->Node w i)∧iV w.Res 0 1000)∧iV w.Cap 0 500)∧(w.Sink.length:Int)=s) ?_ fun _=>Yo h hn).iff ⟨fun⟨⟨⟨⟨⟨⟨a,b,c⟩,t⟩,r⟩,k⟩,s1⟩,s2⟩=>⟨a,b,c,s1,(t 0 (by omega) (by omega)).1 rfl,fun i h1 h2=>(t i (by omega) h2).2 h1,r,k,s2⟩,fun v=>⟨⟨⟨⟨⟨⟨v.many,v.res,v.cap⟩,fun i _ hi=>⟨fun _=>v.root,fun h=>v.tree i h hi⟩⟩,v.ress⟩,v.caps⟩,v.sink⟩,v.sinks⟩⟩
 rw [Bool.and_eq_true,e3,beq_iff_eq]
def Hm(t:List Int)(q:Int):List Int:=t.set q.toNat (gd t q.toNat+1)
def Jn(x:AV):Int:=gd x.Nets (x.Nets.length-1)
def cI(t:List Int)(x:AV):List Int:=Hm t (Jn x)
def cP(t:List Int)(p:BS):List Int:=if p.Dir=1 then Hm t p.Net else t
def Wu(d:AQ):List Int:=d.Ports.foldl cP (d.Instances.foldl cI (List.replicate d.Nets.length 0))
structure LL(l:Ad)(d:AQ)(x:AV):Prop where
 cell:0<=x.Cell∧x.Cell<=(l.Cells.length:Int)-1
 pins:∀c,AG l.Cells x.Cell=some c->x.Nets.length=c.Pins.length
 nets:iV x.Nets 0 ((d.Nets.length:Int)-1)
structure NM(d:AQ)(p:BS):Prop where
 dir:p.Dir=1∨p.Dir=2
 net:0<=p.Net∧p.Net<=(d.Nets.length:Int)-1
structure Cj(l:Ad)(d:AQ):Prop where
 lib:Rw l
 few:d.Instances.length<=14∧d.Nets.length<=30∧d.Ports.length<=8
 inst:∀x∈d.Instances,LL l d x
 port:∀p∈d.Ports,NM d p
 ni:Fo (d.Instances.map (·.Name))
 np:Fo (d.Ports.map (·.Name))
 nn:Fo d.Nets
 one:∀i,i<d.Nets.length->gd (Wu d) i=1
structure dH(d:AQ):Prop where
 inst:d.Instances.length<=1048576∧∀x∈d.Instances,x.Name.size<=1048576∧x.Nets.length<=1048576
 nets:d.Nets.length<=1048576∧∀x∈d.Nets,x.size<=1048576
 ports:d.Ports.length<=1048576∧∀p∈d.Ports,p.Name.size<=1048576
theorem LL.long{l:Ad}{d:AQ}{x:AV}(v:LL l d x)(hl:Rw l):2<=x.Nets.length∧x.Nets.length<=5:=by
 obtain⟨c,e,hc⟩:=GX (xs:=l.Cells) v.cell.1 (by have:=v.cell.2;omega)
 have h:=v.pins c e
 obtain⟨h1,h2⟩:=List.getElem?_eq_some_iff.1 hc
 have:=(hl.cells _ h1).pins.few
 rw [h2]at this;omega
theorem LL.last{l:Ad}{d:AQ}{x:AV}(v:LL l d x)(hl:Rw l):0<=Jn x∧Jn x<d.Nets.length:=by
 have:=v.long hl
 have:=v.nets (x.Nets.length-1) (by omega)
 unfold Jn;omega
theorem II{α:Type}{xs:List α}(nm:α->ByteArray){L:Nat->List ByteArray->Int->Option Bool}{k:List ByteArray->Option Bool}(hl:xs.length<=1048576)
 (hs:∀(m i:Nat) (h:i<xs.length) (s:List ByteArray),L (m+1) s (i:Int)=Option.bind (Dm s [nm xs[i]] 16) fun z=>L m z ((i+1:Nat):Int))
 (he:∀(m:Nat) (s:List ByteArray),L (m+1) s (xs.length:Int)=k s) (m:Nat) (hm:xs.length<m):L m [] 0=k (xs.map nm):=by
 refine loop (L:=fun m i s=>L m s i) xs.length (fun i s=>s=(xs.take i).map nm) (fun o=>o=k (xs.map nm)) ?_ ?_ m 0 [] (by omega) (by omega) (by simp)
 ·intro m i s hi e
  refine .inl ⟨s++[nm xs[i]],?_,?_⟩
  ·rw [e,List.take_succ_eq_append_getElem hi,List.map_append];rfl
  ·have:s.length=i:=by rw [e];simp;omega
   show L (m+1) s (i:Int)=_
   rw [hs m i hi,CC (by simp;omega) (by omega),Ai]
 ·intro m s e
  rw [List.take_length]at e
  show L (m+1) s (xs.length:Int)=_
  rw [he,e]
def WP(N B:Nat)(t:List Int):Prop:=t.length=N∧∀j,0<=gd t j∧gd t j<=B
theorem WP.bump{N B:Nat}{t:List Int}{q:Int}(h:WP N B t)(h0:0<=q)(h1:q<N):WP N (B+1) (Hm t q):=by
 refine⟨by unfold Hm;simpa using h.1,fun j=>?_⟩
 unfold Hm
 rw [Gi (by have:=h.1;omega)]
 have:=h.2 j;have:=h.2 q.toNat
 split<;>omega
theorem WP.up{N B:Nat}{t:List Int}(h:WP N B t):WP N (B+1) t:=⟨h.1,fun j=>by have:=h.2 j;omega⟩
theorem WP.step{N B:Nat}{t:List Int}{q:Int}(h:WP N B t)(h0:0<=q)(h1:q<N)(hB:B<=1048576):AG t q=some (gd t q.toNat)∧t.set q.toNat (wrap .i64 (gd t q.toNat+1))=Hm t q:=by
 refine⟨NU h0 (by rw [h.1];exact h1),?_⟩
 have:=h.2 q.toNat
 rw [Ac (by omega) (by omega)];rfl
theorem Lr{α σ:Type}{f:σ->α->σ}{xs:List α}{i:Nat}{s:σ}(h:i<xs.length):(xs.take (i+1)).foldl f s=f ((xs.take i).foldl f s) xs[i]:=by
 rw [List.take_succ_eq_append_getElem h,List.foldl_append];rfl
theorem Pa1{n:Nat}{l:Ad}{d:AQ}(hl:Rw l)(h:dH d)(hn:1048577<=n):BF ((∀x∈d.Instances,LL l d x)∧∀p∈d.Ports,NM d p) (yL n l d):=by
 have hi0:=h.inst.1;have hp0:=h.ports.1;have hn0:=h.nets.1;have hl0:=hl.few
 have wN:wrap .i64 ((d.Nets.length:Int)-1)=(d.Nets.length:Int)-1:=Ac (by omega) (by omega)
 have wL:wrap .i64 ((l.Cells.length:Int)-1)=(l.Cells.length:Int)-1:=Ac (by omega) (by omega)
 rw [yL]
 refine(EH (L:=fun m i=>HS n l d _ m i) (Q:=∀p∈d.Ports,NM d p) d.Instances.length 0 (fun i=>∀(hi:i<d.Instances.length),LL l d d.Instances[i]) ?_ ?_ n 0 (by omega) (by omega) (by omega) (fun j _ h=>by omega)).iff ⟨fun a=>⟨fun x hx=>?_,a.2⟩,fun a=>⟨fun i _ _ hi=>a.1 _ (List.getElem_mem hi),a.2⟩⟩
 ·intro m i _ hi
  simp only [HS.eq_2,DP hi,cT,AU hi,Ai,Gx,wL,wT i]
  by_cases c1:0<=d.Instances[i].Cell∧d.Instances[i].Cell<=(l.Cells.length:Int)-1
  ·obtain⟨c,ec,hc⟩:=GX (xs:=l.Cells) c1.1 (by omega)
   have d1:(decide (d.Instances[i].Cell>=0)&&decide (d.Instances[i].Cell<=(l.Cells.length:Int)-1))=true:=by simp only [Bool.and_eq_true,decide_eq_true_eq];omega
   simp only [d1,Bool.not_true,cF,ec,Ai]
   by_cases c2:d.Instances[i].Nets.length=c.Pins.length
   ·have d2:((d.Instances[i].Nets.length:Int) !=(c.Pins.length:Int))=false:=by rw [bne_eq_false_iff_eq];omega
    simp only [d2,cF]
    have hnl:=(h.inst.2 _ (List.getElem_mem hi)).2
    have key:KP n d d.Instances[i] (fun i75=>HS n l d (fun i25=>Hd n d (fun i30=>some true) n 0) m ((i+1:Nat):Int)) n 0=cond (d.Instances[i].Nets.all (fun k=>decide (k>=0)&&decide (k<=(d.Nets.length:Int)-1))) (HS n l d (fun i25=>Hd n d (fun i30=>some true) n 0) m ((i+1:Nat):Int)) (some false):=by
     refine Nl (xs:=d.Instances[i].Nets) (L:=fun q j=>KP n d d.Instances[i] (fun i75=>HS n l d (fun i25=>Hd n d (fun i30=>some true) n 0) m ((i+1:Nat):Int)) q j) _ ?_ ?_ n (by omega)
     ·intro q j hj
      simp only [KP.eq_2,DP hj,cT,AU hj,Ai,Gx,wN,wT j]
      cases(decide (d.Instances[i].Nets[j]>=0)&&decide (d.Instances[i].Nets[j]<=(d.Nets.length:Int)-1))<;>rfl
     ·intro q
      simp only [KP.eq_2,Dc,cF]
    rw [key]
    cases ha:d.Instances[i].Nets.all (fun k=>decide (k>=0)&&decide (k<=(d.Nets.length:Int)-1))with
    |true=>
     rw [cT]
     exact .inl ⟨fun _=>⟨c1,fun c' e'=>(by rw [ec]at e';cases e';exact c2),OF.1 ha⟩,rfl⟩
    |false=>
     rw [cF]
     exact .inr ⟨fun g=>(by have:=OF.2 (g hi).nets;rw [ha]at this;cases this),rfl⟩
   ·have d2:((d.Instances[i].Nets.length:Int) !=(c.Pins.length:Int))=true:=by rw [bne_iff_ne];omega
    simp only [d2,cT]
    exact .inr ⟨fun g=>c2 ((g hi).pins c ec),by trivial⟩
  ·have d1:(decide (d.Instances[i].Cell>=0)&&decide (d.Instances[i].Cell<=(l.Cells.length:Int)-1))=false:=by rw [Bool.and_eq_false_iff,decide_eq_false_iff_not,decide_eq_false_iff_not];omega
   simp only [d1,Bool.not_false,cT,Ai]
   exact .inr ⟨fun g=>c1 (g hi).cell,by trivial⟩
 ·intro m i h1 h2 _
  obtain rfl:i=d.Instances.length:=by omega
  simp only [HS.eq_2,Dc,cF]
  refine(EH (L:=fun m i=>Hd n d _ m i) (Q:=True) d.Ports.length 0 (fun i=>∀(hi:i<d.Ports.length),NM d d.Ports[i]) ?_ ?_ n 0 (by omega) (by omega) (by omega) (fun j _ h=>by omega)).iff ⟨fun a p hp=>?_,fun a=>⟨fun i _ _ hi=>a _ (List.getElem_mem hi),trivial⟩⟩
  ·intro m i _ hi
   simp only [Hd.eq_2,DP hi,cT,AU hi,Ai,Gx,wN,Dz,wT i]
   cases e1:(!(decide (d.Ports[i].Dir>=1)&&decide (d.Ports[i].Dir<=2))|| !(decide (d.Ports[i].Net>=0)&&decide (d.Ports[i].Net<=(d.Nets.length:Int)-1)))with
   |true=>
    rw [cT]
    refine .inr ⟨fun g=>?_,rfl⟩
    have:=(g hi).dir;have:=(g hi).net
    simp only [Bool.or_eq_true,Bool.not_eq_true',Bool.and_eq_false_iff,decide_eq_false_iff_not]at e1;omega
   |false=>
    rw [cF]
    simp only [Bool.or_eq_false_iff,Bool.not_eq_false',Bool.and_eq_true,decide_eq_true_eq]at e1
    exact .inl ⟨fun _=>⟨by omega,by omega⟩,rfl⟩
  ·intro m i h1 h2 _
   obtain rfl:i=d.Ports.length:=by omega
   simp only [Hd.eq_2,Dc,cF]
   exact CS trivial
  ·obtain⟨j,hj,rfl⟩:=List.getElem_of_mem hp
   exact a.1 j (by omega) hj hj
 ·obtain⟨j,hj,rfl⟩:=List.getElem_of_mem hx
  exact a.1 j (by omega) hj hj
theorem Dg1{n:Nat}{l:Ad}{d:AQ}(h:cQ l)(hd:dH d)(hn:1048577<=n):BF (Cj l d) (yR n l d):=by
 have hi0:=hd.inst.1;have hp0:=hd.ports.1;have hn0:=hd.nets.1
 rw [yR]
 refine(Lb1 h hn).bind (fun vl=>?_) (fun vl=>?_)
 ·simp only [Bool.not_true,Bool.false_or]
  by_cases c:(d.Instances.length<=14∧d.Nets.length<=30)∧d.Ports.length<=8
  ·have e:(decide ((d.Instances.length:Int)>14)||decide ((d.Nets.length:Int)>30)||decide ((d.Ports.length:Int)>8))=false:=by simp only [Bool.or_eq_false_iff,decide_eq_false_iff_not];omega
   simp only [e,cF]
   obtain⟨b,eb,hb⟩:=Pa1 (n:=n) vl hd hn
   rw [eb,Ai,Ai]
   cases b with
   |false=>
    simp only [Bool.not_false,cT]
    exact BB fun v=>by have:=hb.2 ⟨v.inst,v.port⟩;cases this
   |true=>
    obtain⟨v1,v2⟩:=hb.1 rfl
    simp only [Bool.not_true,cF]
    rw [II (xs:=d.Instances) (·.Name) (L:=fun m s i=>Lf d _ m s i) (k:=fun s=>KB d _ n [] 0) hi0 (by
     intro m i hi s
     simp only [Lf.eq_2,DP hi,cT,AU hi,Ai,wT i]) (by
     intro m s
     simp only [Lf.eq_2,Dc,cF];rfl) n (by omega)]
    rw [II (xs:=d.Ports) (·.Name) (L:=fun m s i=>KB d _ m s i) hp0 (by
     intro m i hi s
     simp only [KB.eq_2,DP hi,cT,AU hi,Ai,wT i]) (by
     intro m s
     simp only [KB.eq_2,Dc,cF];rfl) n (by omega)]
    obtain⟨b1,e1,h1⟩:=nR (n:=n) (xs:=d.Instances.map (·.Name)) (by simpa using hi0) (fun x hx=>by obtain⟨y,hy,rfl⟩:=List.mem_map.1 hx;exact(hd.inst.2 y hy).1) hn
    obtain⟨b2,e2,h2⟩:=nR (n:=n) (xs:=d.Ports.map (·.Name)) (by simpa using hp0) (fun x hx=>by obtain⟨y,hy,rfl⟩:=List.mem_map.1 hx;exact hd.ports.2 y hy) hn
    obtain⟨b3,e3,h3⟩:=nR (n:=n) (xs:=d.Nets) hn0 hd.nets.2 hn
    simp only [e1,e2,e3,Ai,Dz]
    cases eb:((!b1|| !b2)|| !b3)with
    |true=>
     rw [cT]
     refine BB fun v=>?_
     have:=h1.2 v.ni;have:=h2.2 v.np;have:=h3.2 v.nn
     subst b1 b2 b3;cases eb
    |false=>
     rw [cF]
     simp only [Bool.or_eq_false_iff,Bool.not_eq_false']at eb
     obtain⟨⟨rfl,rfl⟩,rfl⟩:=eb
     rw [DX (by omega) (by omega),Ai]
     have k1:=PR (xs:=d.Instances) (L:=fun m i s=>Lm d (fun i149 l151=>HV d (fun i155 l157=>GG l157 (fun i161=>some true) n 0) n 0 l151) m i s) (k:=fun s=>HV d (fun i155 l157=>GG l157 (fun i161=>some true) n 0) n 0 s) cI (fun i s=>WP d.Nets.length i s) (by
      intro m i hi s hs
      have hv:=v1 _ (List.getElem_mem hi)
      have hv2:=hv.long vl
      obtain⟨q0,q1⟩:=hv.last vl
      obtain⟨g1,g2⟩:=hs.step q0 q1 (by omega)
      have wx:wrap .i64 ((d.Instances[i].Nets.length:Int)-1)=((d.Instances[i].Nets.length-1:Nat):Int):=by rw [Ac (by omega) (by omega)];omega
      refine⟨?_,hs.bump q0 q1⟩
      simp only [Lm.eq_2,DP hi,cT,AU hi,Ai,wx,gI (show d.Instances[i].Nets.length-1<d.Instances[i].Nets.length by omega),wT i]
      rw [show gd d.Instances[i].Nets (d.Instances[i].Nets.length-1)=Jn d.Instances[i]from rfl,g1,Ai,Ai,g2];rfl) (by
      intro m s _
      simp only [Lm.eq_2,Dc,cF]) n (List.replicate d.Nets.length 0) ⟨by simp,fun j=>by rw [Lo];omega⟩ (by omega)
     rw [k1.1]
     have k2:=PR (xs:=d.Ports) (L:=fun m i s=>HV d (fun i155 l157=>GG l157 (fun i161=>some true) n 0) m i s) (k:=fun s=>GG s (fun i161=>some true) n 0) cP (fun i s=>WP d.Nets.length (d.Instances.length+i) s) (by
      intro m i hi s hs
      have hv:=v2 _ (List.getElem_mem hi)
      obtain⟨g1,g2⟩:=hs.step hv.net.1 (by have:=hv.net.2;omega) (by omega)
      simp only [HV.eq_2,DP hi,cT,AU hi,Ai,wT i,g1,g2]
      by_cases c:d.Ports[i].Dir=1
      ·have e:(d.Ports[i].Dir==1)=true:=beq_iff_eq.2 c
       have e':cP s d.Ports[i]=Hm s d.Ports[i].Net:=if_pos c
       rw [e,cT,e']
       exact⟨rfl,hs.bump hv.net.1 (by have:=hv.net.2;omega)⟩
      ·have e:(d.Ports[i].Dir==1)=false:=beq_eq_false_iff_ne.2 c
       have e':cP s d.Ports[i]=s:=if_neg c
       rw [e,cF,e']
       exact⟨rfl,hs.up⟩) (by
      intro m s _
      simp only [HV.eq_2,Dc,cF]) n _ k1.2 (by omega)
     rw [k2.1]
     show BF _ (GG (Wu d) (fun i161=>some true) n 0)
     have hlen:(Wu d).length=d.Nets.length:=k2.2.1
     refine(EH (L:=fun m i=>GG (Wu d) (fun i161=>some true) m i) (Q:=True) d.Nets.length 0 (fun i=>gd (Wu d) i=1) ?_ ?_ n 0 (by omega) (by omega) (by omega) (fun j _ h=>by omega)).iff ⟨fun a=>⟨vl,⟨c.1.1,c.1.2,c.2⟩,v1,v2,h1.1 rfl,h2.1 rfl,h3.1 rfl,fun i hi=>a.1 i (by omega) hi⟩,fun v=>⟨fun i _ hi=>v.one i hi,trivial⟩⟩
     ·intro m i _ hi
      have hi':i<(Wu d).length:=by omega
      simp only [GG.eq_2,DP hi',cT,gI hi',Ai,wT i]
      by_cases c:gd (Wu d) i=1
      ·have e:(gd (Wu d) i !=1)=false:=bne_eq_false_iff_eq.2 c
       rw [e,cF];exact .inl ⟨c,rfl⟩
      ·have e:(gd (Wu d) i !=1)=true:=bne_iff_ne.2 c
       rw [e,cT];exact .inr ⟨c,rfl⟩
     ·intro m i q1 q2 _
      obtain rfl:i=d.Nets.length:=by omega
      rw [←hlen]
      simp only [GG.eq_2,Dc,cF]
      exact CS trivial
  ·have e:(decide ((d.Instances.length:Int)>14)||decide ((d.Nets.length:Int)>30)||decide ((d.Ports.length:Int)>8))=true:=by simp only [Bool.or_eq_true,decide_eq_true_eq];omega
   simp only [e,cT,Ai]
   exact BB fun v=>c ⟨⟨v.few.1,v.few.2.1⟩,v.few.2.2⟩
 ·simp only [Bool.not_false,Bool.true_or,cT,Ai]
  exact BB fun v=>vl v.lib
theorem Hn2{n:Nat}{d:AQ}(hd:dH d)(hn:1048577<=n):BF (((((d.Instances.length<=14∧d.Nets.length<=30)∧d.Ports.length<=8)∧Fo (d.Instances.map (·.Name)))∧Fo d.Nets)∧Fo (d.Ports.map (·.Name))) (tK n d):=by
 have hi0:=hd.inst.1;have hp0:=hd.ports.1;have hn0:=hd.nets.1
 rw [tK]
 rw [II (xs:=d.Instances) (·.Name) (L:=fun m s i=>Lv d _ m s i) (k:=fun s=>KF d _ n [] 0) hi0 (by
  intro m i hi s
  simp only [Lv.eq_2,DP hi,cT,AU hi,Ai,wT i]) (by
  intro m s
  simp only [Lv.eq_2,Dc,cF];rfl) n (by omega)]
 rw [II (xs:=d.Ports) (·.Name) (L:=fun m s i=>KF d _ m s i) hp0 (by
  intro m i hi s
  simp only [KF.eq_2,DP hi,cT,AU hi,Ai,wT i]) (by
  intro m s
  simp only [KF.eq_2,Dc,cF];rfl) n (by omega)]
 simp only [OW,List.length_map]
 refine BF.ab (BF.and (P:=(d.Instances.length<=14∧d.Nets.length<=30)∧d.Ports.length<=8) (Q:=Fo (d.Instances.map fun x:AV=>x.Name)) ?_ fun _=>AN (xs:=d.Instances.map fun x:AV=>x.Name) (by simpa using hi0) (fun x hx=>by obtain⟨y,hy,rfl⟩:=List.mem_map.1 hx;exact(hd.inst.2 y hy).1) hn) fun c1 e1=>?_
 ·simp only [Bool.and_eq_true,decide_eq_true_eq];omega
 refine BF.ab (BF.and (Q:=Fo d.Nets) e1 fun _=>AN hn0 hd.nets.2 hn) fun c2 e2=>?_
 exact BF.and (Q:=Fo (d.Ports.map fun x:BS=>x.Name)) e2 fun _=>AN (xs:=d.Ports.map fun x:BS=>x.Name) (by simpa using hp0) (fun x hx=>by obtain⟨y,hy,rfl⟩:=List.mem_map.1 hx;exact hd.ports.2 y hy) hn
theorem nN{n:Nat}{d:AQ}{q:Int}(hn0:d.Nets.length<=1048576):WZ n d q=some (decide (q>=0)&&decide (q<=(d.Nets.length:Int)-1)):=by
 have wN:wrap .i64 ((d.Nets.length:Int)-1)=(d.Nets.length:Int)-1:=Ac (by omega) (by omega)
 simp only [WZ,iW,JL,Ai,wN]
theorem AgN{n:Nat}{l:Ad}{d:AQ}{x:AV}(hl:Rw l)(hn0:d.Nets.length<=1048576)(hx:x.Nets.length<=1048576)(hn:1048577<=n):BF (LL l d x) (aA n d l x):=by
 have hl0:=hl.few
 have wL:wrap .i64 ((l.Cells.length:Int)-1)=(l.Cells.length:Int)-1:=Ac (by omega) (by omega)
 rw [aA]
 simp only [iQ,JL,Ai,wL,OW]
 by_cases c1:0<=x.Cell∧x.Cell<=(l.Cells.length:Int)-1
 ·obtain⟨c,ec,hc⟩:=GX (xs:=l.Cells) c1.1 (by omega)
  have d1:(decide (x.Cell>=0)&&decide (x.Cell<=(l.Cells.length:Int)-1))=true:=by simp only [Bool.and_eq_true,decide_eq_true_eq];omega
  simp only [d1,cT,ec,Ai]
  by_cases c2:x.Nets.length=c.Pins.length
  ·have d2:((x.Nets.length:Int)==(c.Pins.length:Int))=true:=by rw [beq_iff_eq];omega
   simp only [d2,cT,iJ,gA]
   obtain⟨r,e,h⟩:=KN (xs:=x.Nets) (L:=fun m i=>JA n x.Nets d (fun i7=>(some (-1))) m i) (fun q=>!((decide (q>=0))&&(decide (q<=(d.Nets.length:Int)-1)))) (by
    intro m i hi
    simp only [JA.eq_2,DP hi,cT,AU hi,Ai,fW,nN hn0,wT i]) (by
    intro m
    simp only [JA.eq_2,Dc,cF]) n (by omega)
   simp only [e,Ai]
   refine(BN (P:=iV x.Nets 0 ((d.Nets.length:Int)-1)) ?_).iff ⟨fun w=>⟨c1,fun c' e'=>(by rw [ec]at e';cases e';exact c2),w⟩,fun v=>v.nets⟩
   rw [h,List.any_eq_not_all_not,Bool.not_not]
   simp only [Bool.not_not]
   exact OF
  ·have d2:((x.Nets.length:Int)==(c.Pins.length:Int))=false:=by rw [beq_eq_false_iff_ne];omega
   simp only [d2,cF]
   exact BB fun v=>c2 (v.pins c ec)
 ·have d1:(decide (x.Cell>=0)&&decide (x.Cell<=(l.Cells.length:Int)-1))=false:=by rw [Bool.and_eq_false_iff,decide_eq_false_iff_not,decide_eq_false_iff_not];omega
  simp only [d1,cF,Ai]
  exact BB fun v=>c1 v.cell
theorem Dg2{n:Nat}{l:Ad}{d:AQ}(h:cQ l)(hd:dH d)(hn:1048577<=n):BF (Cj l d) (vY n l d):=by
 have hi0:=hd.inst.1;have hp0:=hd.ports.1;have hn0:=hd.nets.1
 rw [vY]
 refine(Lb2 h hn).bind (fun vl=>?_) (fun vl=>?_)
 ·simp only [Bool.not_true,cF]
  obtain⟨b,eb,hb⟩:=Hn2 (n:=n) hd hn
  rw [eb,Ai,Ai]
  cases b with
  |false=>
   simp only [Bool.not_false,cT]
   exact BB fun v=>by have:=hb.2 ⟨⟨⟨⟨⟨v.few.1,v.few.2.1⟩,v.few.2.2⟩,v.ni⟩,v.nn⟩,v.np⟩;cases this
  |true=>
   obtain⟨⟨⟨c,hni⟩,hnn⟩,hnp⟩:=hb.1 rfl
   simp only [Bool.not_true,cF]
   rw [DX (by omega) (by omega),Ai]
   refine loop (L:=fun m i s=>LZ n l d _ m i s) d.Instances.length (fun i s=>(s=(d.Instances.take i).foldl cI (List.replicate d.Nets.length 0)∧WP d.Nets.length i s)∧∀j (hj:j<d.Instances.length),j<i->LL l d d.Instances[j]) (fun o=>BF (Cj l d) o) ?_ ?_ n 0 _ (by omega) (by omega) ⟨⟨by simp,⟨by simp,fun j=>by rw [Lo];omega⟩⟩,fun j _ h=>by omega⟩
   ·intro m i s hi ⟨⟨hs,hc⟩,hI⟩
    obtain⟨b,eb,hb⟩:=AgN (n:=n) vl hn0 (hd.inst.2 _ (List.getElem_mem hi)).2 hn
    simp only [LZ.eq_2,DP hi,cT,AU hi,Ai,eb,wT i]
    cases b with
    |false=>
     simp only [Bool.not_false,cT]
     exact .inr (BB fun v=>by have:=hb.2 (v.inst _ (List.getElem_mem hi));cases this)
    |true=>
     simp only [Bool.not_true,cF]
     have hv:=hb.1 rfl
     have hv2:=hv.long vl
     obtain⟨q0,q1⟩:=hv.last vl
     obtain⟨g1,g2⟩:=hc.step q0 q1 (by omega)
     have wx:wrap .i64 ((d.Instances[i].Nets.length:Int)-1)=((d.Instances[i].Nets.length-1:Nat):Int):=by rw [Ac (by omega) (by omega)];omega
     refine .inl ⟨cI s d.Instances[i],⟨⟨by rw [Lr hi,hs],hc.bump q0 q1⟩,fun j hj hji=>?_⟩,?_⟩
     ·by_cases ej:j=i
      ·subst ej;exact hv
      ·exact hI j hj (by omega)
     ·rw [wx,gI (show d.Instances[i].Nets.length-1<d.Instances[i].Nets.length by omega),show gd d.Instances[i].Nets (d.Instances[i].Nets.length-1)=Jn d.Instances[i]from rfl,Ai,g1,Ai,Ai,g2];rfl
   ·intro m s ⟨⟨hs,hc⟩,hI⟩
    rw [List.take_length]at hs
    have v1:∀x∈d.Instances,LL l d x:=fun x hx=>by obtain⟨j,hj,rfl⟩:=List.getElem_of_mem hx;exact hI j hj hj
    simp only [LZ.eq_2,Dc,cF]
    refine loop (L:=fun m i s=>Jw n d _ m i s) d.Ports.length (fun i s'=>(s'=(d.Ports.take i).foldl cP s∧WP d.Nets.length (d.Instances.length+i) s')∧∀j (hj:j<d.Ports.length),j<i->NM d d.Ports[j]) (fun o=>BF (Cj l d) o) ?_ ?_ n 0 _ (by omega) (by omega) ⟨⟨by simp,hc⟩,fun j _ h=>by omega⟩
    ·intro m i s' hi ⟨⟨hs',hc'⟩,hI'⟩
     simp only [Jw.eq_2,DP hi,cT,AU hi,Ai,nN hn0,Dz,wT i]
     cases e1:(((d.Ports[i].Dir !=1)&&(d.Ports[i].Dir !=2))|| !(decide (d.Ports[i].Net>=0)&&decide (d.Ports[i].Net<=(d.Nets.length:Int)-1)))with
     |true=>
      rw [cT]
      refine .inr (BB fun v=>?_)
      have g:=v.port _ (List.getElem_mem hi)
      have:=g.dir;have:=g.net
      simp only [Bool.or_eq_true,Bool.not_eq_true',Bool.and_eq_false_iff,Bool.and_eq_true,decide_eq_false_iff_not,bne_iff_ne,ne_eq]at e1;omega
     |false=>
      rw [cF]
      simp only [Bool.or_eq_false_iff,Bool.not_eq_false',Bool.and_eq_true,Bool.and_eq_false_iff,decide_eq_true_eq,bne_eq_false_iff_eq]at e1
      have hv:NM d d.Ports[i]:=⟨e1.1,e1.2⟩
      obtain⟨g1,g2⟩:=hc'.step hv.net.1 (by have:=hv.net.2;omega) (by omega)
      have hV:∀j (hj:j<d.Ports.length),j<i+1->NM d d.Ports[j]:=fun j hj hji=>by
       by_cases ej:j=i
       ·subst ej;exact hv
       ·exact hI' j hj (by omega)
      simp only [g1,g2,Ai]
      by_cases c:d.Ports[i].Dir=1
      ·have e:(d.Ports[i].Dir==1)=true:=beq_iff_eq.2 c
       have e':cP s' d.Ports[i]=Hm s' d.Ports[i].Net:=if_pos c
       rw [e,cT]
       exact .inl ⟨_,⟨⟨by rw [Lr hi,←hs',e'],hc'.bump hv.net.1 (by have:=hv.net.2;omega)⟩,hV⟩,rfl⟩
      ·have e:(d.Ports[i].Dir==1)=false:=beq_eq_false_iff_ne.2 c
       have e':cP s' d.Ports[i]=s':=if_neg c
       rw [e,cF]
       exact .inl ⟨_,⟨⟨by rw [Lr hi,←hs',e'],hc'.up⟩,hV⟩,rfl⟩
    ·intro m s' ⟨⟨hs',hc'⟩,hI'⟩
     rw [List.take_length,hs]at hs'
     have hs':s'=Wu d:=hs'
     have v2:∀p∈d.Ports,NM d p:=fun x hx=>by obtain⟨j,hj,rfl⟩:=List.getElem_of_mem hx;exact hI' j hj hj
     simp only [Jw.eq_2,Dc,cF,gR,fZ]
     have hl':=hc'.1
     obtain⟨r,e,h⟩:=KN (xs:=s') (L:=fun m i=>If n s' (fun i7=>(some (-1))) m i) (fun q=>q !=1) (by
      intro m i hi
      simp only [If.eq_2,DP hi,cT,AU hi,Ai,gQ,wT i]) (by
      intro m
      simp only [If.eq_2,Dc,cF]) n (by omega)
     simp only [e,Ai]
     refine BN ?_
     rw [h,Bool.not_eq_true',List.any_eq_false]
     refine⟨fun a=>⟨vl,⟨c.1.1,c.1.2,c.2⟩,v1,v2,hni,hnp,hnn,fun i hi=>?_⟩,fun v x hx=>?_⟩
     ·have:=a s'[i] (List.getElem_mem (by omega))
      rw [←hs',KI (List.getElem?_eq_getElem (show i<s'.length by omega))]
      simpa using this
     ·obtain⟨j,hj,rfl⟩:=List.getElem_of_mem hx
      have:=v.one j (by omega)
      rw [←hs',KI (List.getElem?_eq_getElem hj)]at this
      simp [this]
 ·simp only [Bool.not_false,cT,Ai]
  exact BB fun v=>vl v.lib
def EF{α β:Type}(g:Nat->α->List β):Nat->List α->List β
 |_,[]=>[]
 |i,x::xs=>g i x++EF g (i+1) xs
theorem Lp{α β:Type}{g:Nat->α->List β}:∀(xs ys:List α) (i:Nat),EF g i (xs++ys)=EF g i xs++EF g (i+xs.length) ys
 |[],ys,i=>by simp [EF]
 |x::xs,ys,i=>by simp only [List.cons_append,EF,Lp xs ys (i+1),List.append_assoc,List.length_cons];rw [show i+1+xs.length=i+(xs.length+1) by omega]
theorem Hu{α β:Type}{g:Nat->α->List β}{xs:List α}{i:Nat}(h:i<xs.length):EF g 0 (xs.take (i+1))=EF g 0 (xs.take i)++g i xs[i]:=by
 rw [List.take_succ_eq_append_getElem h,Lp]
 simp [EF,Nat.min_eq_left (Nat.le_of_lt h)]
theorem Do{α β:Type}{g:Nat->α->List β}{c:Nat}:∀(xs:List α) (i:Nat),(∀j,∀x∈xs,(g j x).length<=c)->(EF g i xs).length<=xs.length*c
 |[],i,_=>by simp [EF]
 |x::xs,i,h=>by
  have h1:=h i x (by simp)
  have h2:=Do xs (i+1) fun j y hy=>h j y (by simp [hy])
  simp only [EF,List.length_append,List.length_cons,Nat.add_mul];omega
theorem Pp{α β γ:Type}{g:Nat->α->List β}(f:β->γ):∀(xs:List α) (i:Nat),(EF g i xs).map f=EF (fun i x=>(g i x).map f) i xs
 |[],i=>rfl
 |x::xs,i=>by simp only [EF,List.map_append,Pp f xs (i+1)]
theorem Cr{α β R:Type}{xs:List α}{L:Nat->List β->Int->Option R}{k:List β->Option R}(g:Nat->α->List β)(c B:Nat)(hg:∀j,∀x∈xs,(g j x).length<=c)(hB:B+xs.length*c<=1048576)
 (hs:∀(m i:Nat) (h:i<xs.length) (s:List β),s.length+c<=1048576->L (m+1) s (i:Int)=L m (s++g i xs[i]) ((i+1:Nat):Int))
 (he:∀(m:Nat) (s:List β),L (m+1) s (xs.length:Int)=k s) (m:Nat) (hm:xs.length<m) (s0:List β) (h0:s0.length<=B):L m s0 0=k (s0++EF g 0 xs):=by
 refine loop (L:=fun m i s=>L m s i) xs.length (fun i s=>s=s0++EF g 0 (xs.take i)) (fun o=>o=k (s0++EF g 0 xs)) ?_ ?_ m 0 s0 (by omega) (by omega) (by simp [EF])
 ·intro m i s hi e
  refine .inl ⟨s++g i xs[i],?_,hs m i hi s ?_⟩
  ·rw [e,Hu hi,List.append_assoc]
  ·have h1:=Do (g:=g) (c:=c) (xs.take i) 0 fun j y hy=>hg j y (List.mem_of_mem_take hy)
   have h2:(xs.take i).length=i:=by simp;omega
   rw [h2]at h1
   have h3:(i+1)*c<=xs.length*c:=Nat.mul_le_mul_right c hi
   rw [Nat.add_mul]at h3
   rw [e,List.length_append];omega
 ·intro m s e
  rw [List.take_length]at e
  show L (m+1) s (xs.length:Int)=_
  rw [he,e]
def Mi(i:Nat)(x:AV):List An:=EF (fun j q=>[An.mk i j q ((j:Int)==(x.Nets.length:Int)-1)]) 0 x.Nets
def Wl(i:Nat)(p:BS):List An:=[An.mk (-1) i p.Net (p.Dir==1)]
def Ce(d:AQ):List An:=EF Mi 0 d.Instances++EF Wl 0 d.Ports
def GD(p:An):Au:=⟨p.instance_,p.pin_,p.net_,p.drives_⟩
theorem NT{i:Nat}{x:AV}(h:x.Nets.length<=5):(Mi i x).length<=5:=by
 have:=Do (c:=1) (g:=fun j q=>[An.mk i j q ((j:Int)==(x.Nets.length:Int)-1)]) x.Nets 0 fun j q _=>by simp
 unfold Mi;omega
theorem Cp{d:AQ}(h:∀x∈d.Instances,x.Nets.length<=5)(h1:d.Instances.length<=14)(h2:d.Ports.length<=8):(Ce d).length<=78:=by
 have a:=Do (c:=5) (g:=Mi) d.Instances 0 fun j q hq=>NT (h q hq)
 have b:=Do (c:=1) (g:=Wl) d.Ports 0 fun j q _=>by simp [Wl]
 unfold Ce;rw [List.length_append];omega
theorem iZ{n:Nat}{d:AQ}(h:∀x∈d.Instances,x.Nets.length<=5)(h1:d.Instances.length<=14)(h2:d.Ports.length<=8)(hn:1048577<=n):kE n d=some (Ce d):=by
 rw [kE]
 have a:=Do (c:=5) (g:=Mi) d.Instances 0 fun j q hq=>NT (h q hq)
 rw [Cr (xs:=d.Instances) (L:=fun m s i=>Js n d _ m s i) (k:=fun s=>Jy d _ n s 0) Mi 5 0 (fun j q hq=>NT (h q hq)) (by omega) (by
  intro m i hi s hs
  have hx:=h _ (List.getElem_mem hi)
  have wx:wrap .i64 ((d.Instances[i].Nets.length:Int)-1)=(d.Instances[i].Nets.length:Int)-1:=Ac (by omega) (by omega)
  simp only [Js.eq_2,DP hi,cT,AU hi,Ai,wT i]
  refine Cr (xs:=d.Instances[i].Nets) (L:=fun m s j=>Lw (i:Int) d.Instances[i] _ m s j) (k:=fun s=>Js n d _ m s ((i+1:Nat):Int)) (fun j q=>[An.mk i j q ((j:Int)==(d.Instances[i].Nets.length:Int)-1)]) 1 s.length (fun j q _=>by simp) (by omega) ?_ ?_ n (by omega) s (by omega)
  ·intro m j hj s hs
   simp only [Lw.eq_2,DP hj,cT,AU hj,Ai,wx,wT j]
   rw [CC (by simp;omega) (by omega),Ai]
  ·intro m s
   simp only [Lw.eq_2,Dc,cF]) (by
  intro m s
  simp only [Js.eq_2,Dc,cF];rfl) n (by omega) [] (by simp)]
 rw [Cr (xs:=d.Ports) (L:=fun m s i=>Jy d _ m s i) (k:=fun s=>some s) Wl 1 70 (fun j q _=>by simp [Wl]) (by omega) (by
  intro m i hi s hs
  simp only [Jy.eq_2,DP hi,cT,AU hi,Ai,wT i]
  rw [CC (by simp;omega) (by omega),Ai];rfl) (by
  intro m s
  simp only [Jy.eq_2,Dc,cF]) n (by omega) _ (by simp;omega)]
 simp [Ce]
theorem Qn{n:Nat}{d:AQ}(h:∀x∈d.Instances,x.Nets.length<=5)(h1:d.Instances.length<=14)(h2:d.Ports.length<=8)(hn:1048577<=n):aM n d=some ((Ce d).map GD):=by
 rw [aM]
 have hlI:∀j,∀x∈d.Instances,((Mi j x).map GD).length<=5:=fun j x hx=>by rw [List.length_map];exact NT (h x hx)
 have a:=Do (c:=5) (g:=fun i x=>(Mi i x).map GD) d.Instances 0 hlI
 rw [Cr (xs:=d.Instances) (L:=fun m s i=>Jz n d _ m s i) (k:=fun s=>Jl d _ n s 0) (fun i x=>(Mi i x).map GD) 5 0 hlI (by omega) (by
  intro m i hi s hs
  have hx:=h _ (List.getElem_mem hi)
  have wx:wrap .i64 ((d.Instances[i].Nets.length:Int)-1)=(d.Instances[i].Nets.length:Int)-1:=Ac (by omega) (by omega)
  simp only [Jz.eq_2,DP hi,cT,AU hi,Ai,wT i]
  rw [Mi,Pp]
  refine Cr (xs:=d.Instances[i].Nets) (L:=fun m s j=>Lb (i:Int) d.Instances[i] _ m s j) (k:=fun s=>Jz n d _ m s ((i+1:Nat):Int)) (fun j q=>[An.mk i j q ((j:Int)==(d.Instances[i].Nets.length:Int)-1)].map GD) 1 s.length (fun j q _=>by simp) (by omega) ?_ ?_ n (by omega) s (by omega)
  ·intro m j hj s hs
   simp only [Lb.eq_2,DP hj,cT,AU hj,Ai,wx,wT j]
   rw [CC (by simp;omega) (by omega),Ai];rfl
  ·intro m s
   simp only [Lb.eq_2,Dc,cF]) (by
  intro m s
  simp only [Jz.eq_2,Dc,cF];rfl) n (by omega) [] (by simp)]
 rw [Cr (xs:=d.Ports) (L:=fun m s i=>Jl d _ m s i) (k:=fun s=>some s) (fun i x=>(Wl i x).map GD) 1 70 (fun j q _=>by simp [Wl]) (by omega) (by
  intro m i hi s hs
  simp only [Jl.eq_2,DP hi,cT,AU hi,Ai,wT i]
  rw [CC (by simp;omega) (by omega),Ai];rfl) (by
  intro m s
  simp only [Jl.eq_2,Dc,cF]) n (by omega) _ (by simp;omega)]
 simp [Ce,Pp]
def EP(q:Int)(p:An):Bool:=p.net_==q&& !p.drives_
def snk(d:AQ)(q:Int):Nat:=(Ce d).countP (EP q)
structure Bs(b:AO):Prop where
 design:Cj b.Library b.Design
 many:b.Wires.length=b.Design.Nets.length
 wire:∀i (h:i<b.Wires.length),Rb b.Wires[i] (snk b.Design i)
def SMW(w:Av):Prop:=((w.Parent.length<=1048576∧w.Res.length<=1048576)∧w.Cap.length<=1048576)∧w.Sink.length<=1048576
structure cM(b:AO):Prop where
 lib:cQ b.Library
 design:dH b.Design
 wires:b.Wires.length<=1048576∧∀w∈b.Wires,SMW w
theorem Cj.short{l:Ad}{d:AQ}(v:Cj l d):∀x∈d.Instances,x.Nets.length<=5:=fun x hx=>((v.inst x hx).long v.lib).2
theorem DH{α β:Type}{g:Nat->α->List β}{Q:β->Prop}:∀(xs:List α) (i:Nat),(∀j (h:j<xs.length),∀y∈g (i+j) xs[j],Q y)->∀y∈EF g i xs,Q y
 |[],i,_,y,hy=>by simp [EF]at hy
 |x::xs,i,h,y,hy=>by
  simp only [EF,List.mem_append]at hy
  rcases hy with hy|hy
  ·exact h 0 (by simp) y (by simpa using hy)
  ·refine DH xs (i+1) (fun j hj y hy=>h (j+1) (by simpa using hj) y ?_) y hy
   simpa [show i+1+j=i+(j+1) by omega] using hy
theorem Cj.net{l:Ad}{d:AQ}(v:Cj l d):∀p∈Ce d,0<=p.net_∧p.net_<d.Nets.length:=by
 intro p hp
 simp only [Ce,List.mem_append]at hp
 rcases hp with hp|hp
 ·refine DH (Q:=fun p:An=>0<=p.net_∧p.net_<d.Nets.length) d.Instances 0 (fun j hj y hy=>?_) p hp
  refine DH (Q:=fun p:An=>0<=p.net_∧p.net_<d.Nets.length) _ 0 (fun k hk z hz=>?_) y hy
  have:=(v.inst _ (List.getElem_mem hj)).nets k hk
  rw [KI (List.getElem?_eq_getElem hk)]at this
  simp only [List.mem_singleton]at hz
  subst hz;show 0<=d.Instances[j].Nets[k]∧d.Instances[j].Nets[k]<_;omega
 ·refine DH (Q:=fun p:An=>0<=p.net_∧p.net_<d.Nets.length) d.Ports 0 (fun j hj y hy=>?_) p hp
  have:=(v.port _ (List.getElem_mem hj)).net
  simp only [Wl,List.mem_singleton]at hy
  subst hy;show 0<=d.Ports[j].Net∧d.Ports[j].Net<_;omega
def Ez(d:AQ)(q:Int):List Int:=EF (fun i p=>if EP q p=true then [(i:Int)]else []) 0 (Ce d)
theorem FQ{d:AQ}{q:Int}:(Ez d q).length=snk d q:=by
 have:∀(xs:List An) (i:Nat),(EF (fun i p=>if EP q p=true then [(i:Int)]else []) i xs).length=xs.countP (EP q):=by
  intro xs
  induction xs with
  |nil=>intro i;rfl
  |cons x xs ih=>
   intro i
   simp only [EF,List.length_append,ih,List.countP_cons]
   split<;>simp<;>omega
 exact this _ 0
theorem fM{n:Nat}{l:Ad}{d:AQ}(v:Cj l d)(q:Int)(hn:1048577<=n):TP n d q=some (Ez d q):=by
 rw [TP,Qn v.short v.few.1 v.few.2.2 hn,Ai]
 have hl:=Cp v.short v.few.1 v.few.2.2
 have e:((Ce d).map GD).length=(Ce d).length:=by simp
 have:=Cr (xs:=(Ce d).map GD) (L:=fun m s i=>HO q ((Ce d).map GD) (fun l38 i42=>some l38) m s i) (k:=fun s=>some s) (fun i p=>if (p.net_==q&& !p.drives_)=true then [(i:Int)]else []) 1 0 (fun j p _=>by split<;>simp) (by omega) (by
  intro m i hi s hs
  simp only [HO.eq_2,DP hi,cT,AU hi,Ai,CG,wT i]
  cases c:(((Ce d).map GD)[i].net_==q&& !((Ce d).map GD)[i].drives_)with
  |true=>rw [cT,if_pos rfl,CC (by simp;omega) (by omega),Ai]
  |false=>rw [cF,if_neg (by simp),List.append_nil]) (by
  intro m s
  simp only [HO.eq_2,Dc,cF]) n (by omega) [] (by simp)
 rw [this,List.nil_append]
 congr 1
 have:∀(xs:List An) (i:Nat),EF (fun i (p:Au)=>if (p.net_==q&& !p.drives_)=true then [(i:Int)]else []) i (xs.map GD)=EF (fun i p=>if EP q p=true then [(i:Int)]else []) i xs:=by
  intro xs
  induction xs with
  |nil=>intro i;rfl
  |cons x xs ih=>intro i;simp only [List.map_cons,EF,ih];rfl
 exact this _ 0
theorem Bk1{n:Nat}{b:AO}(h:cM b)(hn:1048577<=n):BF (Bs b) (PI n b):=by
 have hw0:=h.wires.1
 rw [PI]
 refine(Dg1 h.lib h.design hn).bind (fun v=>?_) (fun v=>?_)
 ·simp only [Bool.not_true,Bool.false_or]
  refine Eb (fun c=>BB fun g=>?_) (fun c=>?_)
  ·have:=g.many;rw [bne_iff_ne]at c;omega
  ·rw [bne_eq_false_iff_eq]at c
   refine(EH (L:=fun m i=>Ie n b _ m i) (Q:=True) b.Wires.length 0 (fun i=>∀(hi:i<b.Wires.length),Rb b.Wires[i] (snk b.Design i)) ?_ ?_ n 0 (by omega) (by omega) (by omega) (fun j _ h=>by omega)).iff ⟨fun a=>⟨v,by omega,fun i hi=>a.1 i (by omega) hi hi⟩,fun a=>⟨fun i _ _ hi=>a.wire i hi,trivial⟩⟩
   ·intro m i _ hi
    obtain⟨r,e,hr⟩:=Wr1 (n:=n) (w:=b.Wires[i]) (s:=(snk b.Design i:Int)) (h.wires.2 _ (List.getElem_mem hi)).2 hn
    simp only [Ie.eq_2,DP hi,cT,AU hi,Ai,fM v _ hn,FQ,e,wT i]
    cases r with
    |true=>exact .inl ⟨fun _=>hr.1 rfl,by trivial⟩
    |false=>exact .inr ⟨fun g=>(by have:=hr.2 (g hi);cases this),by trivial⟩
   ·intro m i h1 h2 _
    obtain rfl:i=b.Wires.length:=by omega
    simp only [Ie.eq_2,Dc,cF]
    exact CS trivial
 ·simp only [Bool.not_false,Bool.true_or,cT]
  exact BB fun g=>v g.design
theorem Bk2{n:Nat}{b:AO}(h:cM b)(hn:1048577<=n):BF (Bs b) (tO n b):=by
 have hw0:=h.wires.1
 rw [tO]
 refine(Dg2 h.lib h.design hn).bind (fun v=>?_) (fun v=>?_)
 ·simp only [Bool.not_true,Bool.false_or]
  refine Eb (fun c=>BB fun g=>?_) (fun c=>?_)
  ·have:=g.many;rw [bne_iff_ne]at c;omega
  ·rw [bne_eq_false_iff_eq]at c
   have hl:=Cp v.short v.few.1 v.few.2.2
   rw [DX (by omega) (by omega),Ai,iZ v.short v.few.1 v.few.2.2 hn,Ai]
   refine loop (L:=fun m i s=>JQ (Ce b.Design) _ m i s) (Ce b.Design).length (fun i s=>WP b.Wires.length i s∧∀q:Nat,q<b.Wires.length->gd s q=((Ce b.Design).take i).countP (EP q)) (fun o=>BF (Bs b) o) ?_ ?_ n 0 _ (by omega) (by omega) ⟨⟨by simp,fun j=>by rw [Lo];omega⟩,fun q _=>by rw [Lo];simp⟩
   ·intro m i s hi ⟨hc,hs⟩
    have hp:=v.net _ (List.getElem_mem hi)
    obtain⟨g1,g2⟩:=hc.step hp.1 (by omega) (by omega)
    simp only [JQ.eq_2,DP hi,cT,AU hi,Ai,g1,g2,wT i]
    cases hd:(Ce b.Design)[i].drives_ with
    |true=>
     simp only [Bool.not_true,cF]
     refine .inl ⟨s,⟨hc.up,fun q hq=>?_⟩,rfl⟩
     rw [hs q hq,List.take_succ_eq_append_getElem hi,List.countP_append]
     simp [EP,hd]
    |false=>
     simp only [Bool.not_false,cT]
     refine .inl ⟨_,⟨hc.bump hp.1 (by omega),fun q hq=>?_⟩,rfl⟩
     rw [List.take_succ_eq_append_getElem hi,List.countP_append]
     unfold Hm
     rw [Gi (by have:=hc.1;omega)]
     by_cases e:(Ce b.Design)[i].net_.toNat=q
     ·have e2:(Ce b.Design)[i].net_=(q:Int):=by omega
      rw [if_pos e,e,hs q hq]
      simp [EP,hd,e2]
     ·have e2:¬(Ce b.Design)[i].net_=(q:Int):=by omega
      rw [if_neg e,hs q hq]
      simp [EP,hd,e2]
   ·intro m s ⟨hc,hs⟩
    simp only [JQ.eq_2,Dc,cF]
    refine(EH (L:=fun m i=>Lx n b s _ m i) (Q:=True) b.Wires.length 0 (fun i=>∀(hi:i<b.Wires.length),Rb b.Wires[i] (snk b.Design i)) ?_ ?_ n 0 (by omega) (by omega) (by omega) (fun j _ h=>by omega)).iff ⟨fun a=>⟨v,by omega,fun i hi=>a.1 i (by omega) hi hi⟩,fun a=>⟨fun i _ _ hi=>a.wire i hi,trivial⟩⟩
    ·intro m i _ hi
     have hw:=h.wires.2 _ (List.getElem_mem hi)
     obtain⟨r,e,hr⟩:=Wr2 (n:=n) (w:=b.Wires[i]) (s:=(snk b.Design i:Int)) hw.2 hw.1.1.2 hw.1.2 hw.1.1.1 hn
     have hg:gd s i=(snk b.Design i:Int):=by rw [hs i hi,List.take_length];rfl
     simp only [Lx.eq_2,DP hi,cT,AU hi,gI (show i<s.length by rw [hc.1];exact hi),hg,Ai,e,wT i]
     cases r with
     |true=>exact .inl ⟨fun _=>hr.1 rfl,by trivial⟩
     |false=>exact .inr ⟨fun g=>(by have:=hr.2 (g hi);cases this),by trivial⟩
    ·intro m i h1 h2 _
     obtain rfl:i=b.Wires.length:=by omega
     simp only [Lx.eq_2,Dc,cF]
     exact CS trivial
 ·simp only [Bool.not_false,Bool.true_or,cT]
  exact BB fun g=>v g.design
theorem ML{σ R:Type}{Q:R->Prop}{L:Nat->Int->σ->Option R}(N:Nat)(I:Nat->σ->Prop)
 (hs:∀(m i:Nat) (st:σ),i<N->I i st->∃st',I (i+1) st'∧L (m+1) (i:Int) st=L m ((i+1:Nat):Int) st')
 (he:∀(m:Nat) (st:σ),I N st->Gc Q (L (m+1) (N:Int) st)) (m:Nat) (st:σ) (hm:N<m) (h:I 0 st):Gc Q (L m 0 st):=
 loop N I (Gc Q) (fun m i st a b=>.inl (hs m i st a b)) he m 0 st (by omega) (by omega) h
theorem Vy{σ R:Type}{Q:R->Prop}{L:Nat->Int->σ->Option R}(s N:Nat)(I:Nat->σ->Prop)
 (hs:∀(m i:Nat) (st:σ),s<=i->i<N->I i st->∃st',I (i+1) st'∧L (m+1) (i:Int) st=L m ((i+1:Nat):Int) st')
 (he:∀(m:Nat) (st:σ),I N st->Gc Q (L (m+1) (N:Int) st)) (m:Nat) (st:σ) (hsN:s<=N) (hm:N<m) (h:I s st):Gc Q (L m (s:Int) st):=
 loop N (fun i st=>s<=i∧I i st) (Gc Q) (fun m i st a b=>by
  obtain⟨st',h1,h2⟩:=hs m i st b.1 a b.2
  exact .inl ⟨st',⟨by have:=b.1;omega,h1⟩,h2⟩) (fun m st h=>he m st h.2) m s st hsN (by omega) ⟨Nat.le_refl _,h⟩
theorem AdE{n:Nat}{l:Ad}{d:AQ}(v:Cj l d)(q:Int)(hn:1048577<=n):Yp n d q=some (Ez d q):=by
 rw [Yp,iZ v.short v.few.1 v.few.2.2 hn,Ai]
 have hl:=Cp v.short v.few.1 v.few.2.2
 have:=Cr (xs:=Ce d) (L:=fun m s i=>HR q (Ce d) (fun l29 i33=>some l29) m s i) (k:=fun s=>some s) (fun i p=>if EP q p=true then [(i:Int)]else []) 1 0 (fun j p _=>by split<;>simp) (by omega) (by
  intro m i hi s hs
  simp only [HR.eq_2,DP hi,cT,AU hi,Ai,wT i]
  rw [show((Ce d)[i].net_==q&& !(Ce d)[i].drives_)=EP q (Ce d)[i]from rfl]
  cases c:EP q (Ce d)[i]with
  |true=>rw [cT,if_pos rfl,CC (by simp;omega) (by omega),Ai]
  |false=>rw [cF,if_neg (by simp),List.append_nil]) (by
  intro m s
  simp only [HR.eq_2,Dc,cF]) n (by omega) [] (by simp)
 rw [this,List.nil_append];rfl
theorem KQ{d:AQ}{q:Int}:∀x∈Ez d q,0<=x∧x<(Ce d).length:=by
 refine DH (Q:=fun x:Int=>0<=x∧x<(Ce d).length) _ 0 fun j hj y hy=>?_
 split at hy
 ·simp only [Nat.zero_add,List.mem_singleton]at hy;omega
 ·cases hy
theorem Cj.place{l:Ad}{d:AQ}(v:Cj l d):∀p∈Ce d,0<=p.instance_->∃x c pin,AG d.Instances p.instance_=some x∧AG l.Cells x.Cell=some c∧AG c.Pins p.pin_=some pin:=by
 intro p hp
 simp only [Ce,List.mem_append]at hp
 rcases hp with hp|hp
 ·refine DH (Q:=fun p:An=>0<=p.instance_->∃x c pin,AG d.Instances p.instance_=some x∧AG l.Cells x.Cell=some c∧AG c.Pins p.pin_=some pin) d.Instances 0 (fun j hj y hy=>?_) p hp
  refine DH (Q:=fun p:An=>0<=p.instance_->∃x c pin,AG d.Instances p.instance_=some x∧AG l.Cells x.Cell=some c∧AG c.Pins p.pin_=some pin) _ 0 (fun k hk z hz=>?_) y hy
  have vi:=v.inst _ (List.getElem_mem hj)
  simp only [Nat.zero_add,List.mem_singleton]at hz
  subst hz
  intro _
  obtain⟨c,ec,_⟩:=GX (xs:=l.Cells) vi.cell.1 (by have:=vi.cell.2;omega)
  have hc:=vi.pins c ec
  exact⟨_,c,_,AU hj,ec,AU (show k<c.Pins.length by omega)⟩
 ·refine DH (Q:=fun p:An=>0<=p.instance_->∃x c pin,AG d.Instances p.instance_=some x∧AG l.Cells x.Cell=some c∧AG c.Pins p.pin_=some pin) d.Ports 0 (fun j hj y hy=>?_) p hp
  simp only [Wl,List.mem_singleton]at hy
  subst hy;intro h;exact absurd h (by show¬(0:Int)<= -1;decide)
theorem Fu{t:List Int}{i:Int}(h0:0<=i)(h1:i<t.length):∃x,AG t i=some x:=⟨_,NU h0 h1⟩
theorem Hj.b{b:AO}(h:Hj b):cM b:=
 ⟨⟨h.1.1,fun c hc=>FK.c (c:=c) (h.1.2 c hc)⟩,⟨⟨h.2.1.1.1,fun x hx=>⟨(h.2.1.1.2 x hx).1,(h.2.1.1.2 x hx).2.2.1⟩⟩,⟨h.2.1.2.1.1,h.2.1.2.1.2⟩,⟨h.2.1.2.2.1,fun p hp=>(h.2.1.2.2.2 p hp).1⟩⟩,⟨h.2.2.1,fun w hw=>⟨⟨⟨(h.2.2.2 w hw).1.1,(h.2.2.2 w hw).2.1.1⟩,(h.2.2.2 w hw).2.2.1.1⟩,(h.2.2.2 w hw).2.2.2.1⟩⟩⟩
def Bq(b:AO):Int:=2*((Ce b.Design).length:Int)
theorem TZ{n:Nat}{b:AO}(v:Bs b)(hn:1048577<=n):QE n b=some (Bq b):=by
 have hl:=Cp v.design.short v.design.few.1 v.design.few.2.2
 rw [QE,Qn v.design.short v.design.few.1 v.design.few.2.2 hn,Ai,List.length_map,Ac (by omega) (by omega)];rfl
theorem YG{n:Nat}{b:AO}{r:BD}(v:Bs b)(e:r.places_=Ce b.Design):PB n r=some (Bq b):=by
 have hl:=Cp v.design.short v.design.few.1 v.design.few.2.2
 rw [PB,iR,e,Ai,Ac (by omega) (by omega)];rfl
def RA(xs:List AJ)(i:Nat):Int:=gd (xs.map fun t:AJ=>t.Node) i
theorem Kk{xs:List AJ}{i:Nat}(h:i<xs.length):RA xs i=xs[i].Node:=by
 unfold RA;rw [KI (v:=xs[i].Node) (by simp [h])]
theorem kL{xs:List AJ}{i:Nat}(hi:i<xs.length)(c:Int)(hl:xs.length<=1048576):(cond (decide ((i:Int)>0)) (Option.bind (AG xs (wrap .i64 ((i:Int)-1))) fun x=>some (decide (x.Node>=c))) (some false))=some (decide (0<i∧c<=RA xs (i-1))):=by
 by_cases h:0<i
 ·have hd:decide ((i:Int)>0)=true:=decide_eq_true (by omega)
  have wk:wrap .i64 ((i:Int)-1)=((i-1:Nat):Int):=by rw [Ac (by omega) (by omega)];omega
  rw [hd,cT,wk,AU (show i-1<xs.length by omega),Ai,Kk (show i-1<xs.length by omega)]
  simp [h]
 ·have hd:decide ((i:Int)>0)=false:=decide_eq_false (by omega)
  rw [hd,cF];simp [h]
structure Sh(b:AO)(xs:List AJ)(i:Nat)(t:AJ):Prop where
 node:0<=t.Node∧t.Node<=Bq b-1
 up:¬(0<i∧t.Node<=RA xs (i-1))
 early:-1000000000<=t.Required.Early∧t.Required.Early<=1000000000
 late:-1000000000<=t.Required.Late∧t.Required.Late<=1000000000
theorem Tg1{n:Nat}{b:AO}{xs:List AJ}(v:Bs b)(hl:xs.length<=1048576)(hn:1048577<=n):BF (∀i (h:i<xs.length),Sh b xs i xs[i]) (WJ n b xs):=by
 have hp:=Cp v.design.short v.design.few.1 v.design.few.2.2
 have wN:wrap .i64 (Bq b-1)=Bq b-1:=Ac (by unfold Bq;omega) (by unfold Bq;omega)
 rw [WJ,TZ v hn,Ai]
 refine(EH (L:=fun m i=>IT n xs (Bq b) _ m i) (Q:=True) xs.length 0 (fun i=>∀(hi:i<xs.length),Sh b xs i xs[i]) ?_ ?_ n 0 (by omega) (by omega) (by omega) (fun j _ h=>by omega)).iff ⟨fun a i hi=>a.1 i (by omega) hi hi,fun a=>⟨fun i _ _ hi=>a i hi,trivial⟩⟩
 ·intro m i _ hi
  simp only [IT.eq_2,DP hi,cT,AU hi,Ai,Gx,Qc,wN,kL hi _ hl,Dz,CG,wT i]
  cases e:((!(decide (xs[i].Node>=0)&&decide (xs[i].Node<=Bq b-1))||decide (0<i∧xs[i].Node<=RA xs (i-1)))|| !((decide (xs[i].Required.Early>= -1000000000)&&decide (xs[i].Required.Early<=1000000000))&&(decide (xs[i].Required.Late>= -1000000000)&&decide (xs[i].Required.Late<=1000000000))))with
  |true=>
   rw [cT]
   refine .inr ⟨fun g=>?_,rfl⟩
   obtain⟨g1,g2,g3,g4⟩:=g hi
   simp only [Bool.or_eq_true,Bool.not_eq_true',Bool.and_eq_false_iff,decide_eq_false_iff_not,decide_eq_true_eq]at e
   rcases e with (e|e)|e
   ·omega
   ·exact g2 e
   ·omega
  |false=>
   rw [cF]
   simp only [Bool.or_eq_false_iff,Bool.not_eq_false',Bool.and_eq_true,decide_eq_false_iff_not,decide_eq_true_eq]at e
   exact .inl ⟨fun _=>⟨by omega,e.1.2,by omega,by omega⟩,rfl⟩
 ·intro m i h1 h2 _
  obtain rfl:i=xs.length:=by omega
  simp only [IT.eq_2,Dc,cF]
  exact CS trivial
theorem Tg2{n:Nat}{b:AO}{r:BD}{xs:List AJ}(v:Bs b)(hr:r.places_=Ce b.Design)(hl:xs.length<=1048576)(hn:1048577<=n):BF (∀i (h:i<xs.length),Sh b xs i xs[i]) (YJ n r xs):=by
 have hp:=Cp v.design.short v.design.few.1 v.design.few.2.2
 have wN:wrap .i64 (Bq b-1)=Bq b-1:=Ac (by unfold Bq;omega) (by unfold Bq;omega)
 rw [YJ]
 refine(EH (L:=fun m i=>IR n r xs _ m i) (Q:=True) xs.length 0 (fun i=>∀(hi:i<xs.length),Sh b xs i xs[i]) ?_ ?_ n 0 (by omega) (by omega) (by omega) (fun j _ h=>by omega)).iff ⟨fun a i hi=>a.1 i (by omega) hi hi,fun a=>⟨fun i _ _ hi=>a i hi,trivial⟩⟩
 ·intro m i _ hi
  simp only [IR.eq_2,DP hi,cT,AU hi,Ai,VX,YG v hr,JL,QM,PC,wN,kL hi _ hl,Dz,CG,wT i]
  cases e:((!(decide (xs[i].Node>=0)&&decide (xs[i].Node<=Bq b-1))|| !((decide (xs[i].Required.Early>= -1000000000)&&decide (xs[i].Required.Early<=1000000000))&&(decide (xs[i].Required.Late>= -1000000000)&&decide (xs[i].Required.Late<=1000000000))))||decide (0<i∧xs[i].Node<=RA xs (i-1)))with
  |true=>
   rw [cT]
   refine .inr ⟨fun g=>?_,rfl⟩
   obtain⟨g1,g2,g3,g4⟩:=g hi
   simp only [Bool.or_eq_true,Bool.not_eq_true',Bool.and_eq_false_iff,decide_eq_false_iff_not,decide_eq_true_eq]at e
   rcases e with (e|e)|e
   ·omega
   ·omega
   ·exact g2 e
  |false=>
   rw [cF]
   simp only [Bool.or_eq_false_iff,Bool.not_eq_false',Bool.and_eq_true,decide_eq_false_iff_not,decide_eq_true_eq]at e
   exact .inl ⟨fun _=>⟨by omega,e.2,by omega,by omega⟩,rfl⟩
 ·intro m i h1 h2 _
  obtain rfl:i=xs.length:=by omega
  simp only [IR.eq_2,Dc,cF]
  exact CS trivial
def FU(s:AX):Bool:=(decide (s.Early>= -1000000000)&&decide (s.Early<=1000000000))&&(decide (s.Late>= -1000000000)&&decide (s.Late<=1000000000))
def OA(b:Bool)(s:AX):Bool:=!(!FU s||(!b&& !(s.Early==0&&s.Late==0)))
structure aC(b:AO)(x:BA):Prop where
 bound:(x.Bound.length:Int)=Bq b
 req:(x.Required.length:Int)=Bq b
 each:∀i (h:i<x.Bound.length) (h2:i<x.Required.length),OA x.Bound[i] x.Required[i]=true
theorem Ns1{n:Nat}{b:AO}{x:BA}(hl:x.Bound.length<=1048576)(hn:1048577<=n):BF (aC b x) (Se n (Bq b) x):=by
 rw [Se]
 refine Eb (fun c=>BB fun v=>?_) (fun c=>?_)
 ·have:=v.bound;have:=v.req
  simp only [Bool.or_eq_true,bne_iff_ne,ne_eq]at c;omega
 ·simp only [Bool.or_eq_false_iff,bne_eq_false_iff_eq]at c
  refine(EH (L:=fun m i=>Ir n x _ m i) (Q:=True) x.Bound.length 0 (fun i=>∀(h:i<x.Bound.length) (h2:i<x.Required.length),OA x.Bound[i] x.Required[i]=true) ?_ ?_ n 0 (by omega) (by omega) (by omega) (fun j _ h=>by omega)).iff ⟨fun a=>⟨c.1,c.2,fun i h h2=>a.1 i (by omega) h h h2⟩,fun a=>⟨fun i _ _ h h2=>a.each i h h2,trivial⟩⟩
  ·intro m i _ hi
   have hi2:i<x.Required.length:=by omega
   simp only [Ir.eq_2,DP hi,cT,AU hi,AU hi2,Ai,Qc,Gx,Dz,CG,wT i]
   rw [show((decide (x.Required[i].Early>= -1000000000)&&decide (x.Required[i].Early<=1000000000))&&(decide (x.Required[i].Late>= -1000000000)&&decide (x.Required[i].Late<=1000000000)))=FU x.Required[i]from rfl]
   cases e:(!FU x.Required[i]||(!x.Bound[i]&& !(x.Required[i].Early==0&&x.Required[i].Late==0)))with
   |true=>rw [cT];exact .inr ⟨fun g=>(by have:=g hi hi2;unfold OA at this;rw [e]at this;cases this),rfl⟩
   |false=>rw [cF];exact .inl ⟨fun _ _=>(by unfold OA;rw [e];rfl),rfl⟩
  ·intro m i h1 h2 _
   obtain rfl:i=x.Bound.length:=by omega
   simp only [Ir.eq_2,Dc,cF]
   exact CS trivial
theorem Ns2{n:Nat}{b:AO}{r:BD}{x:BA}(v:Bs b)(hr:r.places_=Ce b.Design)(hl:x.Bound.length<=1048576)(hn:1048577<=n):BF (aC b x) (Yr n r x):=by
 rw [Yr]
 simp only [VU,US,YG v hr,Ai,Dz]
 refine Eb (fun c=>BB fun v=>?_) (fun c=>?_)
 ·have:=v.bound;have:=v.req
  simp only [Bool.or_eq_true,bne_iff_ne,ne_eq]at c;omega
 ·simp only [Bool.or_eq_false_iff,bne_eq_false_iff_eq]at c
  refine(EH (L:=fun m i=>IB n x _ m i) (Q:=True) x.Bound.length 0 (fun i=>∀(h:i<x.Bound.length) (h2:i<x.Required.length),OA x.Bound[i] x.Required[i]=true) ?_ ?_ n 0 (by omega) (by omega) (by omega) (fun j _ h=>by omega)).iff ⟨fun a=>⟨c.1,c.2,fun i h h2=>a.1 i (by omega) h h h2⟩,fun a=>⟨fun i _ _ h h2=>a.each i h h2,trivial⟩⟩
  ·intro m i _ hi
   have hi2:i<x.Required.length:=by omega
   simp only [IB.eq_2,DP hi,cT,AU hi,AU hi2,Ai,QM,PC,JL,Dz,CG,wT i]
   rw [show((decide (x.Required[i].Early>= -1000000000)&&decide (x.Required[i].Early<=1000000000))&&(decide (x.Required[i].Late>= -1000000000)&&decide (x.Required[i].Late<=1000000000)))=FU x.Required[i]from rfl]
   cases e:(!FU x.Required[i]||(!x.Bound[i]&& !(x.Required[i].Early==0&&x.Required[i].Late==0)))with
   |true=>rw [cT];exact .inr ⟨fun g=>(by have:=g hi hi2;unfold OA at this;rw [e]at this;cases this),rfl⟩
   |false=>rw [cF];exact .inl ⟨fun _ _=>(by unfold OA;rw [e];rfl),rfl⟩
  ·intro m i h1 h2 _
   obtain rfl:i=x.Bound.length:=by omega
   simp only [IB.eq_2,Dc,cF]
   exact CS trivial
def Nx(s:AX):Bool:=FU s&&decide (s.Early<=s.Late)
def PX(s:AX):Bool:=(decide (s.Early>=0)&&decide (s.Early<=s.Late))&&decide (s.Late<=1000000)
theorem sp1{n:Nat}{s:AX}:aZ n s=some (Nx s):=by
 simp only [aZ,Gx,Ai,CG];rfl
theorem sp2{n:Nat}{s:AX}:Wh n s=some (Nx s):=by
 simp only [Wh,PC,JL,Ai,CG];rfl
theorem sl1{n:Nat}{s:AX}:iE n s=some (PX s):=rfl
theorem sl2{n:Nat}{s:AX}:Yu n s=some (PX s):=by
 simp only [Yu,sp2,cG,JL,Ai,CG]
 congr 1
 rw [Bool.eq_iff_iff]
 simp only [Nx,FU,PX,Bool.and_eq_true,decide_eq_true_eq]
 omega
def Ra(r:Bool)(a s:AX):Bool:=!((!Nx a|| !PX s)||(!r&&(!(a.Early==0&&a.Late==0)|| !(s.Early==0&&s.Late==0))))
structure cR(b:AO)(x:Am):Prop where
 reached:(x.Reached.length:Int)=Bq b
 arr:(x.Arrival.length:Int)=Bq b
 slew:(x.Slew.length:Int)=Bq b
 each:∀i (h:i<x.Reached.length) (h2:i<x.Arrival.length) (h3:i<x.Slew.length),Ra x.Reached[i] x.Arrival[i] x.Slew[i]=true
theorem Tm1{n:Nat}{b:AO}{x:Am}(hl:x.Reached.length<=1048576)(hn:1048577<=n):BF (cR b x) (XC n (Bq b) x):=by
 rw [XC]
 refine Eb (fun c=>BB fun v=>?_) (fun c=>?_)
 ·have:=v.reached;have:=v.arr;have:=v.slew
  simp only [Bool.or_eq_true,bne_iff_ne,ne_eq]at c;omega
 ·simp only [Bool.or_eq_false_iff,bne_eq_false_iff_eq]at c
  refine(EH (L:=fun m i=>IU n x _ m i) (Q:=True) x.Reached.length 0 (fun i=>∀(h:i<x.Reached.length) (h2:i<x.Arrival.length) (h3:i<x.Slew.length),Ra x.Reached[i] x.Arrival[i] x.Slew[i]=true) ?_ ?_ n 0 (by omega) (by omega) (by omega) (fun j _ h=>by omega)).iff ⟨fun a=>⟨c.1.1,c.1.2,c.2,fun i h h2 h3=>a.1 i (by omega) h h h2 h3⟩,fun a=>⟨fun i _ _ h h2 h3=>a.each i h h2 h3,trivial⟩⟩
  ·intro m i _ hi
   have hi2:i<x.Arrival.length:=by omega
   have hi3:i<x.Slew.length:=by omega
   simp only [IU.eq_2,DP hi,cT,AU hi,AU hi2,AU hi3,Ai,sp1,sl1,Dz,CG,wT i]
   cases e:((!Nx x.Arrival[i]|| !PX x.Slew[i])||(!x.Reached[i]&&(!(x.Arrival[i].Early==0&&x.Arrival[i].Late==0)|| !(x.Slew[i].Early==0&&x.Slew[i].Late==0))))with
   |true=>rw [cT];exact .inr ⟨fun g=>(by have:=g hi hi2 hi3;unfold Ra at this;rw [e]at this;cases this),rfl⟩
   |false=>rw [cF];exact .inl ⟨fun _ _ _=>(by unfold Ra;rw [e];rfl),rfl⟩
  ·intro m i h1 h2 _
   obtain rfl:i=x.Reached.length:=by omega
   simp only [IU.eq_2,Dc,cF]
   exact CS trivial
theorem Tm2{n:Nat}{b:AO}{r:BD}{x:Am}(v:Bs b)(hr:r.places_=Ce b.Design)(hl:x.Reached.length<=1048576)(hn:1048577<=n):BF (cR b x) (YN n r x):=by
 rw [YN]
 simp only [VU,US,YG v hr,Ai,Dz]
 refine Eb (fun c=>BB fun v=>?_) (fun c=>?_)
 ·have:=v.reached;have:=v.arr;have:=v.slew
  simp only [Bool.or_eq_true,bne_iff_ne,ne_eq]at c;omega
 ·simp only [Bool.or_eq_false_iff,bne_eq_false_iff_eq]at c
  refine(EH (L:=fun m i=>Iu n x _ m i) (Q:=True) x.Reached.length 0 (fun i=>∀(h:i<x.Reached.length) (h2:i<x.Arrival.length) (h3:i<x.Slew.length),Ra x.Reached[i] x.Arrival[i] x.Slew[i]=true) ?_ ?_ n 0 (by omega) (by omega) (by omega) (fun j _ h=>by omega)).iff ⟨fun a=>⟨c.1.1,c.1.2,c.2,fun i h h2 h3=>a.1 i (by omega) h h h2 h3⟩,fun a=>⟨fun i _ _ h h2 h3=>a.each i h h2 h3,trivial⟩⟩
  ·intro m i _ hi
   have hi2:i<x.Arrival.length:=by omega
   have hi3:i<x.Slew.length:=by omega
   simp only [Iu.eq_2,DP hi,cT,AU hi,AU hi2,AU hi3,Ai,sp2,sl2,Dz,CG,wT i]
   cases e:((!Nx x.Arrival[i]|| !PX x.Slew[i])||(!x.Reached[i]&&(!(x.Arrival[i].Early==0&&x.Arrival[i].Late==0)|| !(x.Slew[i].Early==0&&x.Slew[i].Late==0))))with
   |true=>rw [cT];exact .inr ⟨fun g=>(by have:=g hi hi2 hi3;unfold Ra at this;rw [e]at this;cases this),rfl⟩
   |false=>rw [cF];exact .inl ⟨fun _ _ _=>(by unfold Ra;rw [e];rfl),rfl⟩
  ·intro m i h1 h2 _
   obtain rfl:i=x.Reached.length:=by omega
   simp only [Iu.eq_2,Dc,cF]
   exact CS trivial
theorem YT{σ τ R R':Type}{L:Nat->Int->σ->Option R}{M:Nat->Int->τ->Option R'}(N:Nat)(I:Nat->σ->τ->Prop)(Post:Option R->Option R'->Prop)
 (hs:∀(m i:Nat) (s:σ) (t:τ),i<N->I i s t->∃s' t',I (i+1) s' t'∧L (m+1) (i:Int) s=L m ((i+1:Nat):Int) s'∧M (m+1) (i:Int) t=M m ((i+1:Nat):Int) t')
 (he:∀(m:Nat) (s:σ) (t:τ),I N s t->Post (L (m+1) (N:Int) s) (M (m+1) (N:Int) t)):∀(m i:Nat) (s:σ) (t:τ),i<=N->N-i<m->I i s t->Post (L m (i:Int) s) (M m (i:Int) t)
 |0,i,_,_,_,hm,_=>by omega
 |m+1,i,s,t,hi,hm,h=>by
  by_cases hlt:i<N
  ·obtain⟨s',t',h1,h2,h3⟩:=hs m i s t hlt h
   rw [h2,h3];exact YT N I Post hs he m (i+1) s' t' (by omega) (by omega) h1
  ·obtain rfl:i=N:=by omega
   exact he m s t h
def Ny(t:Am)(x:Int):AX:=t.Arrival.getD x.toNat ⟨0,0⟩
theorem uC{xs:List Int}{i:Nat}(h:i<xs.length):gd xs i=xs[i]:=KI (by simp [h])
theorem Sb{α β:Type}(h:Nat->α->β):∀(xs:List α) (s j:Nat),(EF (fun j q=>[h j q]) s xs)[j]? =(xs[j]?).map (h (s+j))
 |[],s,j=>by simp [EF]
 |x::xs,s,0=>by simp [EF]
 |x::xs,s,j+1=>by
  have:=Sb h xs (s+1) j
  simp only [EF,List.singleton_append,List.getElem?_cons_succ,this]
  rw [show s+1+j=s+(j+1) by omega]
structure QK{α:Type}(f:α->Bool)(ys:List α)(k:Nat):Prop where
 hit:∃y,ys[k]? =some y∧f y=true
 miss:∀j y,j<k->ys[j]? =some y->f y=false
theorem QK.lt{α:Type}{f:α->Bool}{ys:List α}{k:Nat}(h:QK f ys k):k<ys.length:=by
 obtain⟨y,e,_⟩:=h.hit
 exact(List.getElem?_eq_some_iff.1 e).1
def ET(d:AQ)(i:Nat):Nat:=(EF Mi 0 (d.Instances.take i)).length
def Ym(i q:Int)(p:An):Bool:=(p.instance_==i)&&(p.pin_==q)
theorem iB{d:AQ}{i:Nat}(hi:i<d.Instances.length):∃C,Ce d=EF Mi 0 (d.Instances.take i)++(Mi i d.Instances[i]++C):=by
 refine⟨EF Mi (i+1) (d.Instances.drop (i+1))++EF Wl 0 d.Ports,?_⟩
 have e:d.Instances=d.Instances.take i++(d.Instances[i]::d.Instances.drop (i+1)):=by
  rw [←List.drop_eq_getElem_cons hi,List.take_append_drop]
 have e2:EF Mi 0 d.Instances=EF Mi 0 (d.Instances.take i)++(Mi i d.Instances[i]++EF Mi (i+1) (d.Instances.drop (i+1))):=by
  conv=>lhs;rw [e]
  rw [Lp]
  simp [EF,Nat.min_eq_left (Nat.le_of_lt hi)]
 unfold Ce
 rw [e2];simp
theorem Gf{d:AQ}{i q:Nat}(hi:i<d.Instances.length)(hq:q<d.Instances[i].Nets.length):QK (Ym i q) (Ce d) (ET d i+q):=by
 obtain⟨C,e⟩:=iB hi
 have hp:∀j:Nat,(Mi i d.Instances[i])[j]? =(d.Instances[i].Nets[j]?).map fun x=>An.mk i j x ((j:Int)==(d.Instances[i].Nets.length:Int)-1):=by
  intro j
  have:=Sb (fun j q=>An.mk i j q ((j:Int)==(d.Instances[i].Nets.length:Int)-1)) d.Instances[i].Nets 0 j
  rw [Nat.zero_add]at this
  exact this
 have hl:(Mi i d.Instances[i]).length=d.Instances[i].Nets.length:=by
  apply Nat.le_antisymm
  ·apply Nat.le_of_not_lt
   intro h
   have:=hp d.Instances[i].Nets.length
   rw [List.getElem?_eq_getElem h]at this
   simp at this
  ·apply Nat.le_of_not_lt
   intro h
   have:=hp (Mi i d.Instances[i]).length
   rw [List.getElem?_eq_getElem h]at this
   simp at this
 have hA:∀y∈EF Mi 0 (d.Instances.take i),y.instance_<(i:Int):=by
  refine DH (Q:=fun p:An=>p.instance_<(i:Int)) _ 0 (fun j hj y hy=>?_)
  have hji:j<i:=by simp at hj;omega
  refine DH (Q:=fun p:An=>p.instance_<(i:Int)) _ 0 (fun k hk z hz=>?_) y hy
  simp only [List.mem_singleton]at hz
  subst hz
  show((0+j:Nat):Int)<i
  omega
 refine⟨⟨An.mk i q d.Instances[i].Nets[q] ((q:Int)==(d.Instances[i].Nets.length:Int)-1),?_,by simp [Ym]⟩,?_⟩
 ·rw [e,ET,List.getElem?_append_right (by omega),Nat.add_sub_cancel_left,List.getElem?_append_left (by omega),hp,List.getElem?_eq_getElem hq];rfl
 ·intro j y hj hy
  rw [e]at hy
  by_cases c:j<(EF Mi 0 (d.Instances.take i)).length
  ·rw [List.getElem?_append_left c]at hy
   have:=hA y (List.mem_of_getElem? hy)
   simp only [Ym,Bool.and_eq_false_iff,beq_eq_false_iff_ne];left;omega
  ·unfold ET at hj
   rw [List.getElem?_append_right (by omega),List.getElem?_append_left (by omega),hp]at hy
   obtain⟨x,_,rfl⟩:=Option.map_eq_some_iff.1 hy
   simp only [Ym,Bool.and_eq_false_iff,beq_eq_false_iff_ne];right
   show((j-(EF Mi 0 (d.Instances.take i)).length:Nat):Int)≠q
   omega
theorem tA{n:Nat}{l:Ad}{d:AQ}(v:Cj l d){i q:Nat}(hi:i<d.Instances.length)(hq:q<d.Instances[i].Nets.length)(hn:1048577<=n):We n d (i:Int) (q:Int)=some ((ET d i+q:Nat):Int):=by
 have f:=Gf hi hq
 have hl:=Cp v.short v.few.1 v.few.2.2
 have fl:=f.lt
 rw [We,Qn v.short v.few.1 v.few.2.2 hn,Ai]
 refine loop (L:=fun m j (_:Unit)=>HH (i:Int) (q:Int) ((Ce d).map GD) (fun i26=>(some (-1))) m j) (ET d i+q+1) (fun j _=>j<=ET d i+q) (fun o=>o=some ((ET d i+q:Nat):Int)) ?_ ?_ n 0 () (by omega) (by omega) (by omega)
 ·intro m j _ hj hI
  have hjl:j<(Ce d).length:=by omega
  have hjm:j<((Ce d).map GD).length:=by simpa using hjl
  have hg:AG ((Ce d).map GD) (j:Int)=some (GD (Ce d)[j]):=by rw [AU hjm];simp
  have hb:(Option.bind (cond ((GD (Ce d)[j]).instance_==(i:Int)) (some ((GD (Ce d)[j]).pin_==(q:Int))) (some false)) fun c35=>(cond c35 (some (j:Int)) (HH (i:Int) (q:Int) ((Ce d).map GD) (fun i26=>(some (-1))) m (wrap .i64 ((j:Int)+1)))))=(cond (Ym i q (Ce d)[j]) (some (j:Int)) (HH (i:Int) (q:Int) ((Ce d).map GD) (fun i26=>(some (-1))) m ((j+1:Nat):Int))):=by
   rw [wT j,CG,Ai];rfl
  simp only [HH.eq_2,DP hjm,cT,hg,Ai]
  rw [hb]
  by_cases c:j=ET d i+q
  ·obtain⟨y,e,hy⟩:=f.hit
   rw [←c,List.getElem?_eq_getElem hjl]at e
   obtain rfl:=Option.some.inj e
   rw [hy,cT,←c];exact .inr rfl
  ·have:=f.miss j _ (by omega) (List.getElem?_eq_getElem hjl)
   rw [this,cF];exact .inl ⟨(),by omega,rfl⟩
 ·intro m _ hI
  omega
theorem Cj.inst_at{l:Ad}{d:AQ}(v:Cj l d){i:Nat}(hi:i<d.Instances.length):∃k,∃h:k<l.Cells.length,d.Instances[i].Cell=(k:Int)∧AG l.Cells d.Instances[i].Cell=some l.Cells[k]∧d.Instances[i].Nets.length=l.Cells[k].Pins.length∧Oa l.Cells[k]:=by
 have x:=v.inst _ (List.getElem_mem hi)
 obtain⟨k,hk⟩:=Int.eq_ofNat_of_zero_le x.cell.1
 have hk:d.Instances[i].Cell=(k:Int):=hk
 have h:k<l.Cells.length:=by have:=x.cell.2;omega
 have g:AG l.Cells d.Instances[i].Cell=some l.Cells[k]:=by rw [hk];exact AU h
 exact⟨k,h,hk,g,x.pins _ g,v.lib.cells k h⟩
theorem AfH:∀a:Nat,a<5->∀b:Nat,b<5->wrap .i64 (Rv .u64 (IntKind.wrap IntKind.u64 (wrap .i64 ((a:Int)+(b:Int)))) 1)=(((a+b)/2:Nat):Int):=by decide
theorem VA.mono{l:List Int}(h:VA l):∀(d i:Nat),i+d+1<l.length->gd l i<gd l (i+d+1)
 |0,i,hi=>by have:=h.2.2 (i+0+1) hi (by omega);simpa using this
 |d+1,i,hi=>by
  have a:=VA.mono h d i (by omega)
  have b:=h.2.2 (i+(d+1)+1) hi (by omega)
  rw [show i+(d+1)+1-1=i+d+1 by omega]at b
  omega
theorem VA.lt{l:List Int}(h:VA l){i j:Nat}(hij:i<j)(hj:j<l.length):gd l i<gd l j:=by
 have:=h.mono (j-i-1) i (by omega)
 rwa [show i+(j-i-1)+1=j by omega]at this
theorem zI{n:Nat}{l:List Int}(h:VA l){c:Int}{K:Int->Int->Option (Int×Bool)}:∀(m i j:Nat),i<=j->j<=l.length->j-i<m->(∀k,k<i->gd l k<c)->(∀k,j<=k->k<l.length->c<=gd l k)->
 ∃p:Nat,p<=l.length∧(∀k,k<p->gd l k<c)∧(∀k,p<=k->k<l.length->c<=gd l k)∧IH n l c K m (i:Int) (j:Int)=K (p:Int) (p:Int)
 |0,i,j,_,_,hm,_,_=>by omega
 |m+1,i,j,hij,hj,hm,h1,h2=>by
  have few:=h.1.2
  rw [IH.eq_2]
  by_cases c0:i<j
  ·have d0:decide ((i:Int)<(j:Int))=true:=decide_eq_true (by omega)
   have hq:(i+j)/2<l.length:=by omega
   simp only [d0,cT,AfH i (by omega) j (by omega),gI hq,Ai,gC,YY,bne_self_eq_false,cF,Bool.false_or]
   by_cases c1:gd l ((i+j)/2)<c
   ·rw [decide_eq_true c1,cT,wS (show(i+j)/2<4611686018427387904 by omega)]
    refine zI h m ((i+j)/2+1) j (by omega) hj (by omega) (fun k hk=>?_) h2
    by_cases e:k=(i+j)/2
    ·rw [e];exact c1
    ·have:=h.lt (show k<(i+j)/2 by omega) hq;omega
   ·rw [decide_eq_false c1,cF]
    refine zI h m i ((i+j)/2) (by omega) (by omega) (by omega) h1 (fun k hk hk2=>?_)
    by_cases e:k=(i+j)/2
    ·rw [e];omega
    ·have:=h.lt (show(i+j)/2<k by omega) hk2;omega
  ·obtain rfl:i=j:=by omega
   have d0:decide ((i:Int)<(i:Int))=false:=decide_eq_false (by omega)
   rw [d0,cF]
   exact⟨i,hj,h1,h2,rfl⟩
def CH(l:List Int)(x:Int):Int:=min (max x (gd l 0)) (gd l (l.length-1))
theorem RQ{l:List Int}(h:VA l)(x:Int):gd l 0<=CH l x∧CH l x<=gd l (l.length-1):=by
 have h1:=h.1.1
 have:gd l 0<=gd l (l.length-1):=by
  by_cases c:l.length=1
  ·rw [c];exact Int.le_refl _
  ·have:=h.lt (show 0<l.length-1 by omega) (by omega);omega
 unfold CH;omega
theorem WtS{l:List Int}(h:VA l){x:Int}{q:Nat}{R:Int×Int×Int}(hq:q<l.length)(hk:∀k,q<k->k<l.length->CH l x<gd l k)
 (hR:∀m,GL l x (gd l 0) (gd l (l.length-1)) (fun i21=>(some (0,1,0))) (m+1) (q:Int)=some R):
 ∀(m i:Nat),q<=i->i<l.length->i-q<m->GL l x (gd l 0) (gd l (l.length-1)) (fun i21=>(some (0,1,0))) m (i:Int)=some R
 |0,i,_,_,hm=>by omega
 |m+1,i,hi,hil,hm=>by
  by_cases e:i=q
  ·rw [e];exact hR m
  ·have a:=hk i (by omega) hil
   have a:min (max x (gd l 0)) (gd l (l.length-1))<gd l i:=a
   have d0:decide ((i:Int)>=0)=true:=decide_eq_true (by omega)
   have d1:(min (max x (gd l 0)) (gd l (l.length-1))==gd l i)=false:=by rw [beq_eq_false_iff_ne];omega
   have d2:decide (min (max x (gd l 0)) (gd l (l.length-1))>gd l i)=false:=decide_eq_false (by omega)
   have w:wrap .i64 ((i:Int)-1)=((i-1:Nat):Int):=by rw [Ac (by omega) (by have:=h.1.2;omega)];omega
   simp only [GL.eq_2,d0,cT,gI hil,Ai,d1,d2,cF,w]
   exact WtS h hq hk hR m (i-1) (by omega) (by omega) (by omega)
theorem Wt{n:Nat}{l:List Int}(h:VA l)(x:Int)(hn:1048577<=n):∃(i:Nat) (a b:Int),jE n l x=some ((i:Int),a,b)∧
 ((i<l.length∧a=1∧b=0∧Sj n l x=some ([⟨(i:Int),1⟩],1))∨(i+1<l.length∧(1<=a∧a<=100000)∧(1<=b∧b<=100000)∧Sj n l x=some ([⟨(i:Int),a⟩,⟨((i+1:Nat):Int),b⟩],a+b))):=by
 have h1:=h.1
 have ci:=RQ h x
 have w1:wrap .i64 ((l.length:Int)-1)=((l.length-1:Nat):Int):=by rw [Ac (by omega) (by omega)];omega
 have g0:AG l 0=some (gd l 0):=gI (l:=l) (i:=0) (by omega)
 have gL:AG l ((l.length-1:Nat):Int)=some (gd l (l.length-1)):=gI (by omega)
 obtain⟨p,p1,p2,p3,p4⟩:=zI (n:=n) h (c:=CH l x) (K:=fun i5 i6=>(Option.bind (cond (decide (i5<(l.length:Int))) (Option.bind (AG l i5) fun x7=>(Option.bind (cond (x7==CH l x) (some true) (Option.bind (AG l i5) fun x15=>(Option.bind (Tl n x15) fun r23=>(Option.bind (cond r23 (Option.bind (Tl n (CH l x)) fun r29=>(some r29)) (some false)) fun c29=>(some c29))))) fun c15=>(some c15))) (some false)) fun c7=>(some (i5,c7)))) n 0 l.length (by omega) (by omega) (by omega) (fun k hk=>by omega) (fun k hk hk2=>by omega)
 have pl:p<l.length:=by
  apply Nat.lt_of_not_le
  intro c
  have:=p2 (l.length-1) (by omega);omega
 have hb:Wa n l (CH l x)=some ((p:Int),gd l p==CH l x):=by
  rw [Wa]
  refine p4.trans ?_
  simp only [DP pl,cT,gI pl,Ai,Tl,bne_self_eq_false,cF]
  cases(gd l p==CH l x)<;>rfl
 have hi:Sj n l x=(Option.bind (Wa n l (CH l x)) fun r23=>(cond r23.2 (some ([(Bt.mk r23.1 1)],1)) (Option.bind (AG l r23.1) fun x41=>(Option.bind (AG l (wrap .i64 (r23.1-1))) fun x49=>(Option.bind (AG l r23.1) fun x69=>(Option.bind (AG l (wrap .i64 (r23.1-1))) fun x77=>(some ([(Bt.mk (wrap .i64 (r23.1-1)) (wrap .i64 (x41-(CH l x)))),(Bt.mk r23.1 (wrap .i64 ((CH l x)-x49)))],wrap .i64 (x69-x77))))))))):=by
  rw [Sj,g0,w1,Ai,gL,Ai];rfl
 have hsp:jE n l x=GL l x (gd l 0) (gd l (l.length-1)) (fun i21=>(some (0,1,0))) n ((l.length-1:Nat):Int):=by
  rw [jE,g0,w1,Ai,gL,Ai]
 have cp:=p3 p (Nat.le_refl _) pl
 by_cases c:gd l p=CH l x
 ·refine⟨p,1,0,?_,.inl ⟨pl,rfl,rfl,?_⟩⟩
  ·rw [hsp]
   refine WtS h pl (fun k hk hk2=>by have:=h.lt hk hk2;omega) (fun m=>?_) n _ (by omega) (by omega) (by omega)
   have d0:decide ((p:Int)>=0)=true:=decide_eq_true (by omega)
   have d1:(min (max x (gd l 0)) (gd l (l.length-1))==gd l p)=true:=by rw [beq_iff_eq];exact c.symm
   simp only [GL.eq_2,d0,cT,gI pl,Ai,d1]
  ·rw [hi,hb,Ai,show(gd l p==CH l x)=true from by rw [beq_iff_eq];exact c];rfl
 ·have p0:0<p:=by
   apply Nat.pos_of_ne_zero
   intro e;subst e;omega
  have b1:=p2 (p-1) (by omega)
  have r1:=h.2.1 p pl
  have r2:=h.2.1 (p-1) (by omega)
  have wp:wrap .i64 ((p:Int)-1)=((p-1:Nat):Int):=by rw [Ac (by omega) (by omega)];omega
  have wq:wrap .i64 (((p-1:Nat):Int)+1)=(p:Int):=by rw [Ac (by omega) (by omega)];omega
  have e1:wrap .i64 (gd l p-CH l x)=gd l p-CH l x:=Ac (by omega) (by omega)
  have e2:wrap .i64 (CH l x-gd l (p-1))=CH l x-gd l (p-1):=Ac (by omega) (by omega)
  have e3:wrap .i64 (gd l p-gd l (p-1))=gd l p-CH l x+(CH l x-gd l (p-1)):=by rw [Ac (by omega) (by omega)];omega
  refine⟨p-1,gd l p-CH l x,CH l x-gd l (p-1),?_,.inr ⟨by omega,by omega,by omega,?_⟩⟩
  ·rw [hsp]
   refine WtS h (show p-1<l.length by omega) (fun k hk hk2=>?_) (fun m=>?_) n _ (by omega) (by omega) (by omega)
   ·by_cases e:k=p
    ·rw [e];omega
    ·have:=h.lt (show p<k by omega) hk2;omega
   ·have d0:decide (((p-1:Nat):Int)>=0)=true:=decide_eq_true (by omega)
    have d1:(min (max x (gd l 0)) (gd l (l.length-1))==gd l (p-1))=false:=by rw [beq_eq_false_iff_ne];show CH l x≠_;omega
    have d2:decide (min (max x (gd l 0)) (gd l (l.length-1))>gd l (p-1))=true:=decide_eq_true (show CH l x>_ by omega)
    simp only [GL.eq_2,d0,cT,gI (show p-1<l.length by omega),Ai,d1,d2,cF,wq,gI pl]
    show some (((p-1:Nat):Int),wrap .i64 (gd l p-CH l x),wrap .i64 (CH l x-gd l (p-1)))=_
    rw [e1,e2]
  ·rw [hi,hb,Ai,show(gd l p==CH l x)=false from by rw [beq_eq_false_iff_ne];exact c]
   simp only [cF,wp,gI pl,gI (show p-1<l.length by omega),Ai,e1,e2,e3]
   rw [show p-1+1=p by omega]
theorem Dv{n:Nat}{s D mode:Int}(h:D≠0):∃r,LF n s D mode=some r∧Po n s D mode=some r:=by
 have hz:(D==0)=false:=by rw [beq_eq_false_iff_ne];exact h
 rw [LF,Po,hz]
 simp only [cF]
 rw [Bool.and_comm,Bool.and_comm (decide (Int.tmod s D>0))]
 cases(mode==0)&&decide (Int.tmod s D<0)<;>cases(mode==1)&&decide (Int.tmod s D>0)<;>exact⟨_,rfl,rfl⟩
theorem fU{V a c:Int}(hV:-1000000<=V∧V<=1000000)(ha:1<=a∧a<=100000)(hc:1<=c∧c<=100000):wrap .i64 (wrap .i64 (a*c)*V)=wrap .i64 (wrap .i64 (V*a)*c)∧decide (wrap .i64 (a*c)>0)=true:=by
 have h1:0<a*c:=Int.mul_pos (by omega) (by omega)
 have h2:a*c<=100000*c:=Int.mul_le_mul_of_nonneg_right ha.2 (by omega)
 have h3:V*a<=1000000*a:=Int.mul_le_mul_of_nonneg_right hV.2 (by omega)
 have h4:-1000000*a<=V*a:=Int.mul_le_mul_of_nonneg_right hV.1 (by omega)
 rw [Ac (x:=a*c) (by omega) (by omega),Ac (x:=V*a) (by omega) (by omega)]
 refine⟨by rw [Int.mul_comm (V*a) c,Int.mul_comm a c,Int.mul_assoc,Int.mul_comm a V],decide_eq_true h1⟩
theorem mw{a c:Int}(ha:0<=a∧a<=200000)(hc:0<=c∧c<=200000):wrap .i64 (a*c)=a*c:=by
 have h1:0<=a*c:=Int.mul_nonneg ha.1 hc.1
 have h2:a*c<=200000*c:=Int.mul_le_mul_of_nonneg_right ha.2 hc.1
 exact Ac (by omega) (by omega)
theorem iO{i L k:Nat}(hi:i<=4)(hL:L<=4)(hk:k<=4):wrap .i64 (wrap .i64 ((i:Int)*(L:Int))+(k:Int))=((i*L+k:Nat):Int):=by
 have:i*L<=4*4:=Nat.mul_le_mul hi hL
 rw [eK hi hL,Ac (by omega) (by omega)];omega
theorem tC{i L k u v:Nat}(hi:i+u<=4)(hL:L<=4)(hk:k<=4)(hv:v<=1):wrap .i64 (wrap .i64 (wrap .i64 (wrap .i64 ((i:Int)+(u:Int))*(L:Int))+(k:Int))+(v:Int))=(((i+u)*L+(k+v):Nat):Int):=by
 have:(i+u)*L<=4*4:=Nat.mul_le_mul hi hL
 rw [Ac (x:=(i:Int)+(u:Int)) (by omega) (by omega),show(i:Int)+(u:Int)=((i+u:Nat):Int) by omega,eK hi hL,Ac (x:=(((i+u)*L:Nat):Int)+(k:Int)) (by omega) (by omega),Ac (by omega) (by omega)];omega
theorem eI{S L i k:Nat}(hi:i<S)(hk:k<L):i*L+k<S*L:=by
 have:(i+1)*L<=S*L:=Nat.mul_le_mul_right L hi
 rw [Nat.add_mul]at this;omega
theorem zA{n:Nat}{s D mode:Int}(h:D≠0):∃r,(Option.bind (LF n s D mode) fun r=>some r)=some r∧(Option.bind (Po n s D mode) fun r=>some r)=some r:=by
 obtain⟨r,a,b⟩:=Dv (n:=n) (s:=s) (mode:=mode) h
 exact⟨r,by rw [a];rfl,by rw [b];rfl⟩
set_option maxHeartbeats 4000000 in
theorem Lk{n:Nat}{t:Aa}(v:VT t)(x y mode:Int)(hn:1048577<=n):∃r,kI n t x y mode=some r∧sJ n t x y mode=some r:=by
 obtain⟨i,a,b,s1,e1⟩:=Wt (n:=n) v.1.1 x hn
 obtain⟨k,c,d,s2,e2⟩:=Wt (n:=n) v.1.2 y hn
 have S4:=v.1.1.1.2
 have L4:=v.1.2.1.2
 have hV:=v.2.2
 have hlen:=v.2.1
 obtain⟨m,rfl⟩:∃m,n=m+3:=⟨n-3,by omega⟩
 rw [kI,sJ,s1,s2]
 have w01:wrap .i64 (0+1)=1:=rfl
 have w12:wrap .i64 (1+1)=2:=rfl
 have l02:decide ((0:Int)<2)=true:=rfl
 have l12:decide ((1:Int)<2)=true:=rfl
 have l22:decide ((2:Int)<2)=false:=rfl
 have l01:decide ((0:Int)<1)=true:=rfl
 have l11:decide ((1:Int)<1)=false:=rfl
 have b01:((0:Int)==1)=false:=rfl
 have b11:((1:Int)==1)=true:=rfl
 have b00:((0:Int)==0)=true:=rfl
 have b10:((1:Int)==0)=false:=rfl
 have z00:wrap .i64 0=0:=rfl
 have z01:decide ((0:Int)>0)=false:=rfl
 have o10:wrap .i64 (1+0)=1:=rfl
 have g10:∀w:Bt,AG [w] 0=some w:=fun _=>rfl
 have g20:∀w z:Bt,AG [w,z] 0=some w:=fun _ _=>rfl
 have g21:∀w z:Bt,AG [w,z] 1=some z:=fun _ _=>rfl
 have n1:∀w:Bt,(([w]:List Bt).length:Int)=1:=fun _=>rfl
 have n2:∀w z:Bt,(([w,z]:List Bt).length:Int)=2:=fun _ _=>rfl
 have i00:=tC (i:=i) (u:=0) (k:=k) (v:=0) (L:=t.Loads.length)
 have i01:=tC (i:=i) (u:=0) (k:=k) (v:=1) (L:=t.Loads.length)
 have i10:=tC (i:=i) (u:=1) (k:=k) (v:=0) (L:=t.Loads.length)
 have i11:=tC (i:=i) (u:=1) (k:=k) (v:=1) (L:=t.Loads.length)
 simp only [Int.natCast_zero,Int.natCast_one,Nat.add_zero]at i00 i01 i10 i11
 rcases e1 with ⟨hi,ha,hb,e1⟩|⟨hi,ha,hb,e1⟩<;>rcases e2 with ⟨hk,hc,hd,e2⟩|⟨hk,hc,hd,e2⟩<;>rw [e1,e2]
 ·subst ha hb
  subst hc hd
  have q00:=eI (S:=t.Slews.length) (L:=t.Loads.length) (i:=i) (k:=k) (by omega) (by omega)
  have t00:=fU (V:=gd t.Values (i*t.Loads.length+k)) (a:=1) (c:=1) (hV _ (by omega)) (by omega) (by omega)
  have j00:=i00 (by omega) (by omega) (by omega) (by omega)
  have p00:=iO (i:=i) (k:=k) (L:=t.Loads.length) (by omega) (by omega) (by omega)
  have v00:=gI (l:=t.Values) (i:=i*t.Loads.length+k) (by omega)
  simp only [Ai,Gl.eq_2,Dh.eq_2,KJ.eq_2,JT.eq_2,n1,n2,g10,g20,g21,w01,w12,l02,l12,l22,l01,l11,cT,cF,b01,b11,b00,b10,Int.zero_mul,Int.mul_zero,z00,z01,o10,j00,p00,v00,t00.1,t00.2]
  refine zA ?_
  exact(by decide:wrap .i64 (1*1)≠0)
 ·subst ha hb
  have q00:=eI (S:=t.Slews.length) (L:=t.Loads.length) (i:=i) (k:=k) (by omega) (by omega)
  have t00:=fU (V:=gd t.Values (i*t.Loads.length+k)) (a:=1) (c:=c) (hV _ (by omega)) (by omega) (by omega)
  have j00:=i00 (by omega) (by omega) (by omega) (by omega)
  have p00:=iO (i:=i) (k:=k) (L:=t.Loads.length) (by omega) (by omega) (by omega)
  have v00:=gI (l:=t.Values) (i:=i*t.Loads.length+k) (by omega)
  have q01:=eI (S:=t.Slews.length) (L:=t.Loads.length) (i:=i) (k:=(k+1)) (by omega) (by omega)
  have t01:=fU (V:=gd t.Values (i*t.Loads.length+(k+1))) (a:=1) (c:=d) (hV _ (by omega)) (by omega) (by omega)
  have j01:=i01 (by omega) (by omega) (by omega) (by omega)
  have p01:=iO (i:=i) (k:=(k+1)) (L:=t.Loads.length) (by omega) (by omega) (by omega)
  have v01:=gI (l:=t.Values) (i:=i*t.Loads.length+(k+1)) (by omega)
  have sB:wrap .i64 (c+d)=c+d:=Ac (by omega) (by omega)
  simp only [Ai,Gl.eq_2,Dh.eq_2,KJ.eq_2,JT.eq_2,n1,n2,g10,g20,g21,w01,w12,l02,l12,l22,l01,l11,cT,cF,b01,b11,b00,b10,Int.zero_mul,Int.mul_zero,z00,z01,o10,j00,p00,v00,t00.1,t00.2,j01,p01,v01,t01.1,t01.2,sB]
  refine zA ?_
  rw [mw (by omega) (by omega)]
  have:=Int.mul_pos (show 0<(1:Int) by omega) (show 0<(c+d) by omega)
  omega
 ·subst hc hd
  have q00:=eI (S:=t.Slews.length) (L:=t.Loads.length) (i:=i) (k:=k) (by omega) (by omega)
  have t00:=fU (V:=gd t.Values (i*t.Loads.length+k)) (a:=a) (c:=1) (hV _ (by omega)) (by omega) (by omega)
  have j00:=i00 (by omega) (by omega) (by omega) (by omega)
  have p00:=iO (i:=i) (k:=k) (L:=t.Loads.length) (by omega) (by omega) (by omega)
  have v00:=gI (l:=t.Values) (i:=i*t.Loads.length+k) (by omega)
  have q10:=eI (S:=t.Slews.length) (L:=t.Loads.length) (i:=(i+1)) (k:=k) (by omega) (by omega)
  have t10:=fU (V:=gd t.Values ((i+1)*t.Loads.length+k)) (a:=b) (c:=1) (hV _ (by omega)) (by omega) (by omega)
  have j10:=i10 (by omega) (by omega) (by omega) (by omega)
  have p10:=iO (i:=(i+1)) (k:=k) (L:=t.Loads.length) (by omega) (by omega) (by omega)
  have v10:=gI (l:=t.Values) (i:=(i+1)*t.Loads.length+k) (by omega)
  have sA:wrap .i64 (a+b)=a+b:=Ac (by omega) (by omega)
  simp only [Ai,Gl.eq_2,Dh.eq_2,KJ.eq_2,JT.eq_2,n1,n2,g10,g20,g21,w01,w12,l02,l12,l22,l01,l11,cT,cF,b01,b11,b00,b10,Int.zero_mul,Int.mul_zero,z00,z01,o10,j00,p00,v00,t00.1,t00.2,j10,p10,v10,t10.1,t10.2,sA]
  refine zA ?_
  rw [mw (by omega) (by omega)]
  have:=Int.mul_pos (show 0<(a+b) by omega) (show 0<(1:Int) by omega)
  omega
 ·have q00:=eI (S:=t.Slews.length) (L:=t.Loads.length) (i:=i) (k:=k) (by omega) (by omega)
  have t00:=fU (V:=gd t.Values (i*t.Loads.length+k)) (a:=a) (c:=c) (hV _ (by omega)) (by omega) (by omega)
  have j00:=i00 (by omega) (by omega) (by omega) (by omega)
  have p00:=iO (i:=i) (k:=k) (L:=t.Loads.length) (by omega) (by omega) (by omega)
  have v00:=gI (l:=t.Values) (i:=i*t.Loads.length+k) (by omega)
  have q01:=eI (S:=t.Slews.length) (L:=t.Loads.length) (i:=i) (k:=(k+1)) (by omega) (by omega)
  have t01:=fU (V:=gd t.Values (i*t.Loads.length+(k+1))) (a:=a) (c:=d) (hV _ (by omega)) (by omega) (by omega)
  have j01:=i01 (by omega) (by omega) (by omega) (by omega)
  have p01:=iO (i:=i) (k:=(k+1)) (L:=t.Loads.length) (by omega) (by omega) (by omega)
  have v01:=gI (l:=t.Values) (i:=i*t.Loads.length+(k+1)) (by omega)
  have q10:=eI (S:=t.Slews.length) (L:=t.Loads.length) (i:=(i+1)) (k:=k) (by omega) (by omega)
  have t10:=fU (V:=gd t.Values ((i+1)*t.Loads.length+k)) (a:=b) (c:=c) (hV _ (by omega)) (by omega) (by omega)
  have j10:=i10 (by omega) (by omega) (by omega) (by omega)
  have p10:=iO (i:=(i+1)) (k:=k) (L:=t.Loads.length) (by omega) (by omega) (by omega)
  have v10:=gI (l:=t.Values) (i:=(i+1)*t.Loads.length+k) (by omega)
  have q11:=eI (S:=t.Slews.length) (L:=t.Loads.length) (i:=(i+1)) (k:=(k+1)) (by omega) (by omega)
  have t11:=fU (V:=gd t.Values ((i+1)*t.Loads.length+(k+1))) (a:=b) (c:=d) (hV _ (by omega)) (by omega) (by omega)
  have j11:=i11 (by omega) (by omega) (by omega) (by omega)
  have p11:=iO (i:=(i+1)) (k:=(k+1)) (L:=t.Loads.length) (by omega) (by omega) (by omega)
  have v11:=gI (l:=t.Values) (i:=(i+1)*t.Loads.length+(k+1)) (by omega)
  have sA:wrap .i64 (a+b)=a+b:=Ac (by omega) (by omega)
  have sB:wrap .i64 (c+d)=c+d:=Ac (by omega) (by omega)
  simp only [Ai,Gl.eq_2,Dh.eq_2,KJ.eq_2,JT.eq_2,n1,n2,g10,g20,g21,w01,w12,l02,l12,l22,l01,l11,cT,cF,b01,b11,b00,b10,Int.zero_mul,Int.mul_zero,z00,z01,o10,j00,p00,v00,t00.1,t00.2,j01,p01,v01,t01.1,t01.2,j10,p10,v10,t10.1,t10.2,j11,p11,v11,t11.1,t11.2,sA,sB]
  refine zA ?_
  rw [mw (by omega) (by omega)]
  have:=Int.mul_pos (show 0<(a+b) by omega) (show 0<(c+d) by omega)
  omega
theorem wk{k:Int}(h0:0<=k)(h1:k<=2305843009213693952):wrap .i64 (k+1)=k+1:=Ac (by omega) (by omega)
def IX(b:AO)(x:AV):List Ap:=match AG b.Library.Cells x.Cell with
 |some c=>c.Arcs
 |none=>[]
def EX(q:Int)(p:An):Bool:=p.net_==q&&p.drives_
theorem Uf(i:Nat)(q L:Int):∀(xs:List Int) (s:Nat),xs≠[]->L=((s+xs.length:Nat):Int)-1->((EF (fun j n=>[An.mk i j n ((j:Int)==L)]) s xs).countP (EX q):Int)=if gd xs (xs.length-1)=q then 1 else 0
 |[],_,h,_=>absurd rfl h
 |[x],s,_,hL=>by
  have e:((s:Int)==L)=true:=by rw [beq_iff_eq,hL];simp
  simp only [EF,List.append_nil,e]
  by_cases c:x=q
  ·subst c;simp [EX,gd]
  ·have:(x==q)=false:=by rw [beq_eq_false_iff_ne];exact c
   simp [EX,gd,this,c]
 |x::y::zs,s,_,hL=>by
  have ih:=Uf i q L (y::zs) (s+1) (by simp) (by rw [hL];simp only [List.length_cons];omega)
  have e:((s:Int)==L)=false:=by rw [beq_eq_false_iff_ne,hL];simp only [List.length_cons];omega
  rw [EF,List.countP_append]
  have h0:List.countP (EX q) [An.mk i s x ((s:Int)==L)]=0:=by simp [EX,e]
  rw [h0,Nat.zero_add,ih]
  simp [gd]
theorem ZT{q:Nat}{N:Nat}(hq:q<N):∀(xs:List AV) (t:List Int) (s:Nat),t.length=N->(∀x∈xs,x.Nets≠[]∧0<=Jn x∧Jn x<N)->gd (xs.foldl cI t) q=gd t q+((EF Mi s xs).countP (EX q):Int)∧(xs.foldl cI t).length=N
 |[],t,s,ht,_=>by simp [EF,ht]
 |x::xs,t,s,ht,hx=>by
  obtain⟨x1,x2,x3⟩:=hx x (by simp)
  obtain⟨h1,h2⟩:=ZT hq xs (cI t x) (s+1) (by unfold cI Hm;simpa using ht) fun y hy=>hx y (by simp [hy])
  refine⟨?_,h2⟩
  rw [List.foldl_cons,h1,EF,List.countP_append]
  have hc:=Uf s q ((x.Nets.length:Int)-1) x.Nets 0 x1 (by simp)
  have hc:((Mi s x).countP (EX q):Int)=if gd x.Nets (x.Nets.length-1)=q then 1 else 0:=hc
  have hb:gd (cI t x) q=gd t q+if gd x.Nets (x.Nets.length-1)=q then 1 else 0:=by
   have hl:Jn x=gd x.Nets (x.Nets.length-1):=rfl
   unfold cI Hm
   rw [Gi (by omega),←hl]
   by_cases c:Jn x=q
   ·rw [if_pos (by omega),if_pos c];have:(Jn x).toNat=q:=by omega
    rw [this]
   ·rw [if_neg (by omega),if_neg c];omega
  rw [hb];push_cast;omega
theorem XO{q:Nat}{N:Nat}(hq:q<N):∀(xs:List BS) (t:List Int) (s:Nat),t.length=N->(∀x∈xs,0<=x.Net∧x.Net<N)->gd (xs.foldl cP t) q=gd t q+((EF Wl s xs).countP (EX q):Int)
 |[],t,s,ht,_=>by simp [EF]
 |x::xs,t,s,ht,hx=>by
  obtain⟨x2,x3⟩:=hx x (by simp)
  have h1:=XO hq xs (cP t x) (s+1) (by unfold cP Hm;split<;>simpa using ht) fun y hy=>hx y (by simp [hy])
  rw [List.foldl_cons,h1,EF,List.countP_append]
  have hb:gd (cP t x) q=gd t q+((Wl s x).countP (EX q):Int):=by
   unfold cP Wl
   by_cases d:x.Dir=1
   ·have:(x.Dir==1)=true:=by rw [beq_iff_eq];exact d
    rw [if_pos d];unfold Hm
    rw [Gi (by omega)]
    by_cases c:x.Net=q
    ·have e:(x.Net==(q:Int))=true:=by rw [beq_iff_eq];exact c
     have e2:x.Net.toNat=q:=by omega
     rw [if_pos e2,e2];simp [EX,this,e]
    ·have e:(x.Net==(q:Int))=false:=by rw [beq_eq_false_iff_ne];exact c
     rw [if_neg (by omega)];simp [EX,this,e]
   ·have:(x.Dir==1)=false:=by rw [beq_eq_false_iff_ne];exact d
    rw [if_neg d];simp [EX,this]
  rw [hb];push_cast;omega
theorem jC{l:Ad}{d:AQ}(v:Cj l d){q:Nat}(hq:q<d.Nets.length):(Ce d).countP (EX q)=1:=by
 obtain⟨h1,h2⟩:=ZT (N:=d.Nets.length) hq d.Instances (List.replicate d.Nets.length 0) 0 (by simp) fun x hx=>by
  have a:=(v.inst x hx).long v.lib
  have b:=(v.inst x hx).last v.lib
  exact⟨fun e=>by rw [e]at a;simp at a,b⟩
 have h3:=XO (N:=d.Nets.length) hq d.Ports _ 0 h2 fun x hx=>by have:=(v.port x hx).net;omega
 have h4:=v.one q hq
 unfold Wu at h4
 rw [h3,h1,Lo]at h4
 unfold Ce
 rw [List.countP_append];omega
theorem PY{α:Type}(f:α->Bool):∀(xs:List α),xs.countP f=1->∃k,∃h:k<xs.length,f xs[k]=true∧∀j (h:j<xs.length),f xs[j]=true->j=k
 |[],h=>by simp at h
 |x::xs,h=>by
  rw [List.countP_cons]at h
  by_cases c:f x=true
  ·have h0:xs.countP f=0:=by simpa [c] using h
   refine⟨0,by simp,c,fun j hj hf=>?_⟩
   cases j with
   |zero=>rfl
   |succ j=>
    have hf:f (xs[j]'(by simpa using hj))=true:=hf
    rw [List.countP_eq_zero]at h0
    exact absurd hf (h0 _ (List.getElem_mem _))
  ·have h0:xs.countP f=1:=by simpa [c] using h
   obtain⟨k,hk,a,b⟩:=PY f xs h0
   refine⟨k+1,by simpa using hk,by simpa using a,fun j hj hf=>?_⟩
   cases j with
   |zero=>exact absurd hf c
   |succ j=>rw [b j (by simpa using hj) (by simpa using hf)]
def Fh(d:AQ)(q:Nat):Nat:=(Ce d).findIdx (EX q)
structure yI(d:AQ)(q k:Nat):Prop where
 lt:k<(Ce d).length
 hit:EX q (Ce d)[k]=true
 only:∀j (h:j<(Ce d).length),EX q (Ce d)[j]=true->j=k
theorem Lz{l:Ad}{d:AQ}(v:Cj l d){q:Nat}(hq:q<d.Nets.length):yI d q (Fh d q):=by
 obtain⟨k,hk,a,b⟩:=PY _ _ (jC v hq)
 have:Fh d q=k:=by
  unfold Fh
  rw [List.findIdx_eq hk]
  refine⟨a,fun j hj=>?_⟩
  cases c:EX q ((Ce d)[j]'(by omega))with
  |false=>rfl
  |true=>have:=b j (by omega) c;omega
 rw [this];exact⟨hk,a,b⟩
theorem zX{n:Nat}{l:Ad}{d:AQ}(v:Cj l d){q:Nat}(hq:q<d.Nets.length)(hn:1048577<=n):ZZ n d (q:Int)=some (Fh d q:Int):=by
 have hd:=Lz v hq
 have hl:=Cp v.short v.few.1 v.few.2.2
 rw [ZZ,Qn v.short v.few.1 v.few.2.2 hn,Ai]
 have hk:=hd.lt
 refine loop (L:=fun m i (_:Unit)=>Kl (q:Int) ((Ce d).map GD) (fun i26=>some (-1)) m i) ((Ce d).map GD).length (fun i _=>i<=Fh d q) (fun o=>o=some (Fh d q:Int)) ?_ ?_ n 0 () (by omega) (by simp;omega) (by omega)
 ·intro m i _ hi hI
  have hi2:i<(Ce d).length:=by simpa using hi
  have e:((Ce d).map GD)[i]=GD (Ce d)[i]:=by simp
  simp only [Kl.eq_2,DP hi,cT,AU hi,Ai,CG,e,wT i]
  have e2:((GD (Ce d)[i]).net_==(q:Int)&&(GD (Ce d)[i]).drives_)=EX q (Ce d)[i]:=rfl
  rw [e2]
  cases c:EX q (Ce d)[i]with
  |true=>rw [hd.only i hi2 c];exact .inr rfl
  |false=>
   refine .inl ⟨(),?_,rfl⟩
   rcases Nat.lt_or_ge i (Fh d q)with h|h
   ·omega
   ·obtain rfl:i=Fh d q:=by omega
    rw [hd.hit]at c;cases c
 ·intro m _ hI
  have:((Ce d).map GD).length=(Ce d).length:=by simp
  omega
def Pv(a:Ap)(p:Int×Int):Bool:=cond (a.Kind==1) ((a.Sense==3)||((a.Sense==1)==(p.1==p.2))) (cond (a.Kind==2) (p.1==0) (cond (a.Kind==3) (p.1==1) false))
def Sw(a:Ap):List (Int×Int):=[(0,0),(0,1),(1,0),(1,1)].filter (Pv a)
end Go.Proofs.YtaijnchdfgojiaaGreatDoor
