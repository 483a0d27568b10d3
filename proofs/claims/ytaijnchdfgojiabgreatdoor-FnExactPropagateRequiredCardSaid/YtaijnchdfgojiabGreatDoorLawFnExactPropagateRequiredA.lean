/- The plain law behind FnExactPropagateRequired: the plain function answers true; no condition. -/
import Derived.Test.YtaijnchdfgojiabGreatDoorWalkFnExactPropagateRequired
set_option linter.all false
set_option maxHeartbeats 4000000
namespace Go.Proofs.YtaijnchdfgojiabGreatDoor
open Go Go.RowKit Go.Eng
open Go.IntKind (wrap)

theorem Em{b c:Bool}:(cond b (some true) (some c))=some (b||c):=by cases b<;>rfl
theorem CT{b c:Bool}:(cond b (some c) (some false))=some (b&&c):=by cases b<;>rfl
theorem Cm{i N:Nat}(h:i<N):decide ((i:Int)<(N:Int))=true:=decide_eq_true (by omega)
theorem DB(N:Nat):decide ((N:Int)<(N:Int))=false:=decide_eq_false (by omega)
theorem wS{i:Nat}(h:i<4611686018427387904):wrap .i64 ((i:Int)+1)=((i+1:Nat):Int):=by rw [AY (by omega) (by omega)];simp
theorem AR{α:Type}{xs:List α}{i:Nat}(h:i<xs.length):AE xs (i:Int)=some xs[i]:=by rw [DJ];exact List.getElem?_eq_getElem h
theorem HG{α:Type}{xs:List α}{i:Int}(h0:0<=i)(h1:i<xs.length):∃x,AE xs i=some x∧xs[i.toNat]? =some x:=by
 obtain⟨x,hx,_⟩:=Fo h0 h1
 exact⟨x,hx,(EA hx).2.2⟩
theorem loop{σ R:Type}{L:Nat->Int->σ->Option R}(N:Nat)(I:Nat->σ->Prop)(Post:Option R->Prop)
 (hs:∀(m i:Nat) (st:σ),i<N->I i st->(∃st',I (i+1) st'∧L (m+1) (i:Int) st=L m ((i+1:Nat):Int) st')∨Post (L (m+1) (i:Int) st))
 (he:∀(m:Nat) (st:σ),I N st->Post (L (m+1) (N:Int) st)):∀(m i:Nat) (st:σ),i<=N->N-i<m->I i st->Post (L m (i:Int) st)
 |0,i,st,_,hm,_=>by omega
 |m+1,i,st,hi,hm,h=>by
  by_cases hlt:i<N
  ·rcases hs m i st hlt h with ⟨st',h1,h2⟩|h1
   ·rw [h2];exact loop N I Post hs he m (i+1) st' (by omega) (by omega) h1
   ·exact h1
  ·obtain rfl:i=N:=by omega
   exact he m st h
theorem Qc{α σ R:Type}{xs:List α}{L:Nat->Int->σ->Option R}{k:σ->Option R}(f:σ->α->σ)(I:Nat->σ->Prop)
 (hs:∀(m i:Nat) (h:i<xs.length) (st:σ),I i st->L (m+1) (i:Int) st=L m ((i+1:Nat):Int) (f st xs[i])∧I (i+1) (f st xs[i]))
 (he:∀(m:Nat) (st:σ),I xs.length st->L (m+1) (xs.length:Int) st=k st) (m:Nat) (st:σ) (h:I 0 st) (hm:xs.length<m):L m 0 st=k (xs.foldl f st)∧I xs.length (xs.foldl f st):=by
 refine loop xs.length (fun i s=>I i s∧(xs.drop i).foldl f s=xs.foldl f st) (fun o=>o=k (xs.foldl f st)∧I xs.length (xs.foldl f st)) ?_ ?_ m 0 st (by omega) (by omega) ⟨h,by simp⟩
 ·intro m i s hi ⟨h1,h2⟩
  obtain⟨e,h3⟩:=hs m i hi s h1
  exact .inl ⟨_,⟨h3,by rw [List.drop_eq_getElem_cons hi]at h2;exact h2⟩,e⟩
 ·intro m s ⟨h1,h2⟩
  rw [List.drop_length]at h2
  have h2:s=xs.foldl f st:=h2
  rw [←h2]
  exact⟨he m s h1,h1⟩
theorem Bq{α:Type}{xs ys:List α}{b:Nat}(h:xs.length+ys.length<=16777216)(hb:b<=1048576):Du xs ys b=some (xs++ys):=by
 unfold Du
 have:(xs.length+ys.length)*b<=16777216*1048576:=Nat.mul_le_mul h hb
 rw [if_pos ⟨by omega,by omega⟩]
theorem PU{α R:Type}{xs:List α}{L:Nat->Int->Option R}{k no:Option R}(p:α->Bool)(hs:∀(m i:Nat) (h:i<xs.length),L (m+1) (i:Int)=cond (p xs[i]) (L m ((i+1:Nat):Int)) no)
 (he:∀m:Nat,L (m+1) (xs.length:Int)=k) (m:Nat) (hm:xs.length<m):L m 0=cond (xs.all p) k no:=by
 refine loop (L:=fun m i (_:Unit)=>L m i) xs.length (fun i _=>xs.all p=(xs.drop i).all p) (fun o=>o=cond (xs.all p) k no) ?_ ?_ m 0 () (by omega) (by omega) (by simp)
 ·intro m i _ hi h
  rw [List.drop_eq_getElem_cons hi,List.all_cons]at h
  cases hp:p xs[i]with
  |false=>refine .inr ?_;rw [h,hp];simp only [hs m i hi,hp,cF,Bool.false_and]
  |true=>refine .inl ⟨(),by rw [h,hp];simp,?_⟩;simp only [hs m i hi,hp,cT]
 ·intro m _ h
  rw [List.drop_length]at h
  rw [h];simp [he m]
theorem fI{σ R:Type}{L:Nat->σ->Option R}(μ:σ->Nat)(I:σ->Prop)(Post:Option R->Prop)
 (hs:∀(m:Nat) (st:σ),I st->(∀st',I st'->μ st'<μ st->Post (L m st'))->Post (L (m+1) st)):∀(m:Nat) (st:σ),μ st<m->I st->Post (L m st)
 |0,st,h,_=>by omega
 |m+1,st,h,hI=>hs m st hI fun st' h1 h2=>fI μ I Post hs m st' (by omega) h1
theorem Sb{σ R:Type}{L:Nat->Int->σ->Option R}(N:Nat)(I:Nat->σ->Prop)(Post:Option R->Prop)
 (hs:∀(m i:Nat) (st:σ),i<N->I i st->(∀st',I (i+1) st'->Post (L m ((i+1:Nat):Int) st'))->Post (L (m+1) (i:Int) st))
 (he:∀(m:Nat) (st:σ),I N st->Post (L (m+1) (N:Int) st)):∀(m i:Nat) (st:σ),i<=N->N-i<m->I i st->Post (L m (i:Int) st)
 |0,i,st,_,hm,_=>by omega
 |m+1,i,st,hi,hm,h=>by
  by_cases hlt:i<N
  ·exact hs m i st hlt h fun st' h'=>Sb N I Post hs he m (i+1) st' (by omega) (by omega) h'
  ·obtain rfl:i=N:=by omega
   exact he m st h
def ET{α:Type}(Q:α->Prop)(o:Option α):Prop:=∃v,o=some v∧Q v
theorem Bc{α:Type}{Q:α->Prop}{v:α}(h:Q v):ET Q (some v):=⟨v,rfl,h⟩
theorem ET.bind{α β:Type}{A:α->Prop}{Q:β->Prop}{o:Option α}{f:α->Option β}(h:ET A o)(k:∀v,o=Option.some v->A v->ET Q (f v)):ET Q (Option.bind o f):=by
 obtain⟨v,e,hv⟩:=h
 rw [e];exact k v e hv
theorem Dg{α:Type}{Q:α->Prop}{c:Bool}{x y:Option α}(h1:c=true->ET Q x)(h2:c=false->ET Q y):ET Q (cond c x y):=by
 cases c
 ·exact h2 rfl
 ·exact h1 rfl
theorem ET.get{α:Type}{Q:α->Prop}{xs:List α}{i:Int}(h0:0<=i)(h1:i<xs.length)(h:∀x∈xs,Q x):ET Q (AE xs i):=by
 obtain⟨x,hx,hm⟩:=Fo h0 h1
 exact⟨x,hx,h x hm⟩
theorem NH{α:Type}{xs:List α}{i:Int}(h0:0<=i)(h1:i<xs.length):ET (fun x=>x∈xs) (AE xs i):=ET.get h0 h1 fun _ h=>h
theorem LK{α:Type}{xs:List α}{L:Nat->Int->Option Int}(p:α->Bool)(hs:∀(m i:Nat) (h:i<xs.length),L (m+1) (i:Int)=cond (p xs[i]) (some (i:Int)) (L m ((i+1:Nat):Int)))
 (he:∀m:Nat,L (m+1) (xs.length:Int)=some (-1)) (m:Nat) (hm:xs.length<m):∃r,L m 0=some r∧decide (r>=0)=xs.any p:=by
 refine loop (L:=fun m i (_:Unit)=>L m i) xs.length (fun i _=>xs.any p=(xs.drop i).any p) (fun o=>∃r,o=some r∧decide (r>=0)=xs.any p) ?_ ?_ m 0 () (by omega) (by omega) (by simp)
 ·intro m i _ hi h
  rw [List.drop_eq_getElem_cons hi,List.any_cons]at h
  cases hp:p xs[i]with
  |false=>refine .inl ⟨(),by rw [h,hp];simp,?_⟩;simp only [hs m i hi,hp,cF]
  |true=>refine .inr ⟨(i:Int),?_,?_⟩
         ·simp only [hs m i hi,hp,cT]
         ·rw [h,hp];simp
 ·intro m _ h
  rw [List.drop_length]at h
  exact⟨-1,he m,by rw [h];rfl⟩
theorem lH{a b:Int}(ha:0<=a)(hb:0<b):0<=Int.tmod a b∧Int.tmod a b<b:=⟨Int.tmod_nonneg _ ha,Int.tmod_lt_of_pos _ hb⟩
def gd(t:List Int)(j:Nat):Int:=t.getD j 0
theorem LJ{t:List Int}{j:Nat}{v:Int}(h:t[j]? =some v):gd t j=v:=by simp [gd,h]
theorem qZ{t:List Int}{j:Nat}(h:j<t.length):t[j]? =some (gd t j):=by simp [gd,h]
theorem HS{t:List Int}{i j:Nat}{v:Int}(h:i<t.length):gd (t.set i v) j=if i=j then v else gd t j:=by
 unfold gd
 rw [List.getD_eq_getElem?_getD,List.getD_eq_getElem?_getD,List.getElem?_set]
 by_cases e:i=j
 ·subst e;simp [h]
 ·simp [e]
theorem Oe{t:List Int}{i:Int}(h0:0<=i)(h1:i<t.length):AE t i=some (gd t i.toNat):=by
 obtain⟨x,hx,h⟩:=HG h0 h1
 rw [hx,LJ h]
def gb(t:List Bool)(j:Nat):Bool:=t.getD j false
theorem OE{t:List Bool}{i j:Nat}{v:Bool}(h:i<t.length):gb (t.set i v) j=if i=j then v else gb t j:=by
 unfold gb
 rw [List.getD_eq_getElem?_getD,List.getD_eq_getElem?_getD,List.getElem?_set]
 by_cases e:i=j
 ·subst e;simp [h]
 ·simp [e]
theorem sY{t u:List Bool}(h:t.length=u.length)(e:∀j,j<t.length->gb t j=gb u j):t=u:=by
 apply List.ext_getElem?
 intro j
 by_cases hj:j<t.length
 ·have:=e j hj
  simp only [gb,List.getD_eq_getElem?_getD,List.getElem?_eq_getElem hj,List.getElem?_eq_getElem (h▸hj),Option.getD_some]at this
  rw [List.getElem?_eq_getElem hj,List.getElem?_eq_getElem (h▸hj),this]
 ·rw [List.getElem?_eq_none (by omega),List.getElem?_eq_none (by omega)]
theorem Mw{n j:Nat}:gd (List.replicate n 0) j=0:=by
 simp only [gd,List.getD_eq_getElem?_getD,List.getElem?_replicate];split<;>rfl
def MD(b:UInt8):Bool:=decide ((b.toNat:Int)>=97)&&decide ((b.toNat:Int)<=122)
def SD(b:UInt8):Bool:=decide ((b.toNat:Int)>=48)&&decide ((b.toNat:Int)<=57)
def EK(s:ByteArray):Bool:=(decide ((s.size:Int)>=1)&&decide ((s.size:Int)<=8))&&(s.data.toList.all fun b=>MD b||SD b)&&(s.data.toList.take 1).all MD
theorem OK(s:ByteArray):s.size=s.data.toList.length:=by rw [Array.length_toList];rfl
theorem We{s:ByteArray}{i:Nat}(h:i<s.data.toList.length):Qu s (i:Int)=some ((s.data.toList[i].toNat:Nat):Int):=by
 unfold Qu
 rw [if_pos (by omega),Int.toNat_natCast]
 have:s[i]? =some s.data.toList[i]:=by
  have hs:i<s.size:=by rw [OK];exact h
  rw [show s[i]? =some s[i]from getElem?_pos s i hs]
  rfl
 rw [this];rfl
theorem gC(p q:UInt8->Bool)(h:(List.range 256).all (fun i=>p (UInt8.ofNat i)==q (UInt8.ofNat i))=true)(b:UInt8):p b=q b:=by
 have:=List.all_eq_true.1 h b.toNat (List.mem_range.2 b.toNat_lt)
 rw [UInt8.ofNat_toNat]at this
 exact eq_of_beq this
def lettersL:List UInt8:=[97,98,99,100,101,102,103,104,105,106,107,108,109,110,111,112,113,114,115,116,117,118,119,120,121,122]
def nameL:List UInt8:=[97,98,99,100,101,102,103,104,105,106,107,108,109,110,111,112,113,114,115,116,117,118,119,120,121,122,48,49,50,51,52,53,54,55,56,57]
theorem ZW(b:UInt8):nameL.contains b=(MD b||SD b):=gC (fun b=>nameL.contains b) (fun b=>MD b||SD b) (by decide+kernel) b
theorem TI(b:UInt8):lettersL.contains b=MD b:=gC (fun b=>lettersL.contains b) (fun b=>MD b) (by decide+kernel) b
theorem Nr{p:UInt8->Bool}:∀{l:List UInt8} (h:0<l.length),(l.take 1).all p=p l[0]
 |[],h=>by simp at h
 |a::r,_=>by simp
theorem GO{p:UInt8->Bool}:∀(l:List UInt8),(l.dropWhile p=[])↔l.all p=true
 |[]=>by simp
 |a::l=>by
  rw [List.dropWhile_cons,List.all_cons]
  cases h:p a with
  |true=>simpa using GO l
  |false=>simp
theorem LC{p:UInt8->Bool}:∀{l:List UInt8} {a:UInt8} {r:List UInt8},l.dropWhile p=a::r->p a=false
 |b::l,a,r,h=>by
  rw [List.dropWhile_cons]at h
  split at h
  ·exact LC h
  ·next q=>simp only [List.cons.injEq]at h;rw [←h.1];simpa using q
theorem bU(l cs:List UInt8):(Lib.trimS l cs==[])=l.all (cs.contains ·):=by
 rw [Bool.eq_iff_iff,beq_iff_eq]
 unfold Lib.trimS Lib.trimLeftS Lib.trimRightS
 rw [GO,List.all_reverse]
 rw [show l.all (cs.contains ·)=l.reverse.all (cs.contains ·) by rw [List.all_reverse]]
 constructor
 ·intro h
  cases hd:l.reverse.dropWhile (cs.contains ·)with
  |nil=>exact(GO _).1 hd
  |cons a r=>
   have h1:=LC hd
   rw [hd,List.all_cons,h1]at h
   cases h
 ·intro h
  rw [(GO _).2 h];rfl
theorem NO:∀(l:List UInt8) (c:UInt8),decide (Lib.indexByte l c>=0)=l.contains c∧Lib.indexByte l c>= -1
 |[],c=>by simp [Lib.indexByte]
 |b::l,c=>by
  obtain⟨h1,h2⟩:=NO l c
  rw [Lib.indexByte,List.contains_cons]
  by_cases e:b=c
  ·subst e;simp
  ·have e1:(b==c)=false:=beq_eq_false_iff_ne.2 e
   have e2:(c==b)=false:=beq_eq_false_iff_ne.2 fun q=>e q.symm
   rw [e1,e2,Bool.false_or,←h1]
   by_cases h:Lib.indexByte l c= -1
   ·rw [h];simp
   ·have:(Lib.indexByte l c== -1)=false:=beq_eq_false_iff_ne.2 h
    rw [this]
    have hge:Lib.indexByte l c>=0:=by omega
    rw [decide_eq_true hge]
    simp only [Bool.false_eq_true,if_false]
    exact⟨decide_eq_true (by omega),by omega⟩
theorem Nm1{n:Nat}{s:ByteArray}(hs:s.size<=1048576)(hn:1048577<=n):VH n s=some (EK s):=by
 rw [VH,Li,Ag]
 unfold EK
 cases hw:(decide ((s.size:Int)>=1)&&decide ((s.size:Int)<=8))with
 |false=>simp
 |true=>
  have hsz:1<=s.size:=by simp only [Bool.and_eq_true,decide_eq_true_eq]at hw;omega
  have ht:dA n s ((ByteArray.mk #[97,98,99,100,101,102,103,104,105,106,107,108,109,110,111,112,113,114,115,116,117,118,119,120,121,122,48,49,50,51,52,53,54,55,56,57]))=some ⟨(Lib.trimS s.data.toList nameL).toArray⟩:=by
   unfold dA
   rw [if_pos ⟨by omega,by decide,by decide⟩];rfl
  simp only [cT,ht,Ag,Bool.true_and]
  have hb:((⟨(Lib.trimS s.data.toList nameL).toArray⟩:ByteArray).toList==((ByteArray.mk #[])).toList)=(s.data.toList.all fun b=>MD b||SD b):=by
   rw [Lib.toList_data,Lib.toList_data]
   show((Lib.trimS s.data.toList nameL)==[])=_
   rw [bU]
   congr 1
   funext b;exact ZW b
  rw [hb]
  cases(s.data.toList.all fun b=>MD b||SD b)with
  |false=>simp
  |true=>
   rw [OK]at hsz
   have hg:=We (s:=s) (i:=0) (by omega)
   simp only [cT,show((0:Int))=((0:Nat):Int)from rfl,hg,Ag,pN,Bool.true_and]
   have h1:=(NO lettersL (s.data.toList[0])).1
   rw [TI]at h1
   have e1:(((s.data.toList[0].toNat:Nat):Int).toNat.toUInt8)=s.data.toList[0]:=by rw [Int.toNat_natCast];exact UInt8.ofNat_toNat
   rw [e1]
   have e2:(s.data.toList.take 1).all MD=MD s.data.toList[0]:=Nr (by omega)
   rw [e2,←h1];rfl
theorem Nm2{n:Nat}{s:ByteArray}(hs:s.size<=1048576)(hn:1048577<=n):oM n s=some (EK s):=by
 rw [oM]
 have hl:=OK s
 refine loop (L:=fun m i (_:Unit)=>Gt s _ m i) s.data.toList.length (fun i _=>EK s=((decide ((s.size:Int)>=1)&&decide ((s.size:Int)<=8))&&((s.data.toList.drop i).all fun b=>MD b||SD b)&&((s.data.toList.take 1).drop i).all MD)) (fun r=>r=some (EK s)) ?_ ?_ n 0 () (by omega) (by omega) (by simp [EK])
 ·intro m i _ hi hI
  have g:=We hi
  have hd:decide ((i:Int)<(s.size:Int))=true:=decide_eq_true (by omega)
  have key:Gt s (fun i3=>(some (((decide ((s.size:Int)>=1))&&(decide ((s.size:Int)<=8)))))) (m+1) (i:Int)=cond (!MD s.data.toList[i]&& !(SD s.data.toList[i]&&decide (0<i))) (some false) (Gt s (fun i3=>(some (((decide ((s.size:Int)>=1))&&(decide ((s.size:Int)<=8)))))) m ((i+1:Nat):Int)):=by
   have e0:decide ((i:Int)>0)=decide (0<i):=by by_cases h:0<i<;>simp [h]<;>omega
   simp only [Gt.eq_2,hd,cT,g,Ag,CT,wT i,e0]
   rfl
  by_cases hc:(!MD s.data.toList[i]&& !(SD s.data.toList[i]&&decide (0<i)))=true
  ·refine .inr ?_
   show Gt s _ (m+1) (i:Int)=_
   rw [key,hc,cT]
   have:EK s=false:=by
    rw [hI,List.drop_eq_getElem_cons hi,List.all_cons]
    simp only [Bool.and_eq_true,Bool.not_eq_true',Bool.and_eq_false_iff,decide_eq_false_iff_not]at hc
    obtain⟨h1,h2⟩:=hc
    rw [h1]
    rcases h2 with h2|h2
    ·rw [h2];simp
    ·obtain rfl:i=0:=by omega
     rw [List.drop_zero,Nr hi,h1];simp
   rw [this]
  ·refine .inl ⟨(),?_,?_⟩
   ·rw [hI,List.drop_eq_getElem_cons hi,List.all_cons]
    have hc:=Bool.eq_false_iff.2 hc
    simp only [Bool.and_eq_false_iff,Bool.not_eq_false',Bool.and_eq_true,decide_eq_true_eq]at hc
    by_cases h0:i=0
    ·subst h0
     have h1:MD s.data.toList[0]=true:=by
      rcases hc with h|h
      ·exact h
      ·omega
     have e2:(s.data.toList.take 1).drop (0+1)=[]:=List.drop_eq_nil_of_le (by simp;omega)
     rw [List.drop_zero,Nr hi,e2,h1];simp
    ·have e1:(s.data.toList.take 1).drop i=[]:=List.drop_eq_nil_of_le (by simp;omega)
     have e2:(s.data.toList.take 1).drop (i+1)=[]:=List.drop_eq_nil_of_le (by simp;omega)
     rw [e1,e2]
     have:(MD s.data.toList[i]||SD s.data.toList[i])=true:=by
      rcases hc with h|h
      ·rw [h];rfl
      ·rw [h.1];simp
     rw [this];simp
   ·show Gt s _ (m+1) (i:Int)=Gt s _ m ((i+1:Nat):Int)
    rw [key,Bool.eq_false_iff.2 hc,cF]
 ·intro m _ hI
  have hd:decide (((s.data.toList.length:Nat):Int)<(s.size:Int))=false:=decide_eq_false (by omega)
  simp only [Gt.eq_2,hd,cF]
  rw [hI,List.drop_length,List.drop_eq_nil_of_le (by simp;omega)]
  simp
def BG(P:Prop)(r:Option Bool):Prop:=∃b:Bool,r=some b∧(b=true↔P)
theorem BF{P:Prop}(h:¬P):BG P (some false):=⟨false,rfl,by simp [h]⟩
theorem Cj{P:Prop}(h:P):BG P (some true):=⟨true,rfl,by simp [h]⟩
theorem Ct1{n:Nat}{xs:List ByteArray}{x:ByteArray}(h:xs.length<=1048576)(hn:1048577<=n):Zm n xs x=some (xs.any fun y=>x.toList==y.toList):=by
 rw [Zm,kO]
 obtain⟨r,e1,e2⟩:=LK (xs:=xs) (L:=fun m i=>Hy xs x (fun i5=>(some (-1))) m i) (fun y=>x.toList==y.toList) (fun m i hi=>by
  simp only [Hy.eq_2,Cm hi,cT,AR hi,Ag,wT i]) (fun m=>by
  simp only [Hy.eq_2,DB,cF]) n (by omega)
 have e1:Hy xs x (fun i5=>(some (-1))) n 0=some r:=e1
 rw [e1,Ag,e2]
theorem AN{n:Nat}{xs:List ByteArray}(h:xs.length<=1048576)(hs:∀x∈xs,x.size<=1048576)(hn:1048577<=n):BG (∀k (h:k<xs.length),EK xs[k]=true∧∀i (hi:i<k),(xs[i].toList==xs[k].toList)=false) (RR n xs):=by
 rw [RR]
 refine loop (L:=fun m i (_:Unit)=>JZ n xs _ m i) xs.length (fun i _=>∀k (h:k<xs.length),k<i->EK xs[k]=true∧∀i (hi:i<k),(xs[i].toList==xs[k].toList)=false) _ ?_ ?_ n 0 () (by omega) (by omega) (fun k h hk=>by omega)
 ·intro m i _ hi hI
  have hsub:TT xs 0 (i:Int)=some (xs.take i):=by
   unfold TT
   rw [if_pos ⟨by omega,by omega,by omega⟩];simp
  have hct:=Ct1 (n:=n) (xs:=xs.take i) (x:=xs[i]) (by simp;omega) hn
  simp only [JZ.eq_2,Cm hi,cT,AR hi,Ag,Nm1 (hs _ (List.getElem_mem hi)) hn,hsub,hct,Em,wT i]
  cases hb:(!EK xs[i]||(xs.take i).any fun y=>xs[i].toList==y.toList)with
  |true=>
   refine .inr (BF fun hv=>?_)
   obtain⟨h1,h2⟩:=hv i hi
   rw [h1,Bool.not_true,Bool.false_or,List.any_eq_true]at hb
   obtain⟨y,hy,he⟩:=hb
   obtain⟨j,hj,rfl⟩:=List.mem_iff_getElem.1 hy
   rw [List.length_take]at hj
   rw [List.getElem_take]at he
   have:=h2 j (by omega)
   rw [beq_eq_false_iff_ne]at this
   exact this (eq_of_beq he).symm
  |false=>
   simp only [Bool.or_eq_false_iff,Bool.not_eq_false']at hb
   refine .inl ⟨(),fun k h hk=>?_,rfl⟩
   by_cases e:k=i
   ·subst e
    refine⟨hb.1,fun j hj=>?_⟩
    rw [beq_eq_false_iff_ne]
    intro he
    have:=List.any_eq_false.1 hb.2 xs[j] (List.mem_iff_getElem.2 ⟨j,by rw [List.length_take];omega,by rw [List.getElem_take]⟩)
    exact this (by rw [he];simp)
   ·exact hI k h (by omega)
 ·intro m _ hI
  simp only [JZ.eq_2,DB,cF]
  exact Cj fun k h=>hI k h h
theorem AW{n:Nat}{ks:List Int}{lo hi:Int}(h:ks.length<=1048576)(hn:1048577<=n):NF n ks lo hi=some (ks.all fun k=>decide (k>=lo)&&decide (k<=hi)):=by
 rw [NF,ZL,cS]
 obtain⟨r,e1,e2⟩:=LK (xs:=ks) (L:=fun m i=>Ff n ks lo hi (fun i7=>(some (-1))) m i) (fun k=>!(decide (k>=lo)&&decide (k<=hi))) (fun m i hi=>by
  simp only [Ff.eq_2,Cm hi,cT,AR hi,Ag,dG,Li,wT i]) (fun m=>by
  simp only [Ff.eq_2,DB,cF]) n (by omega)
 have e1:Ff n ks lo hi (fun i7=>(some (-1))) n 0=some r:=e1
 rw [e1,Ag,Ag,e2]
 congr 1
 rw [List.not_any_eq_all_not]
 congr 1
 funext k;rw [Bool.not_not]
theorem BG.iff{P Q:Prop}{o:Option Bool}(h:BG P o)(e:P↔Q):BG Q o:=by
 obtain⟨b,rfl,h⟩:=h;exact⟨b,rfl,h.trans e⟩
theorem BR{P:Prop}{b:Bool}(h:b=true↔P):BG P (some b):=⟨b,rfl,h⟩
theorem BG.bind{P R:Prop}{o:Option Bool}{f:Bool->Option Bool}(h:BG P o)(h1:P->BG R (f true))(h0:¬P->BG R (f false)):BG R (Option.bind o f):=by
 obtain⟨b,rfl,h⟩:=h
 cases b with
 |true=>exact h1 (h.1 rfl)
 |false=>exact h0 fun p=>by have:=h.2 p;cases this
theorem GD{R:Prop}{c:Bool}{x y:Option Bool}(h1:c=true->BG R x)(h0:c=false->BG R y):BG R (cond c x y):=by
 cases c
 ·exact h0 rfl
 ·exact h1 rfl
theorem Ei{L:Nat->Int->Option Bool}{Q:Prop}(N s:Nat)(p:Nat->Prop)
 (hs:∀(m i:Nat),s<=i->i<N->(p i∧L (m+1) (i:Int)=L m ((i+1:Nat):Int))∨(¬p i∧L (m+1) (i:Int)=some false))
 (he:∀(m i:Nat),N<=i->i<=N+s->(∀j,s<=j->j<N->p j)->BG Q (L (m+1) (i:Int))):∀(m i:Nat),s<=i->i<=N+s->N-i<m->(∀j,s<=j->j<i->j<N->p j)->BG ((∀i,s<=i->i<N->p i)∧Q) (L m (i:Int))
 |0,i,_,_,hm,_=>by omega
 |m+1,i,hi,hi2,hm,hI=>by
  by_cases hlt:i<N
  ·rcases hs m i hi hlt with ⟨h1,h2⟩|⟨h1,h2⟩
   ·rw [h2]
    refine Ei N s p hs he m (i+1) (by omega) (by omega) (by omega) fun j h3 h4 h5=>?_
    by_cases e:j=i
    ·subst e;exact h1
    ·exact hI j h3 (by omega) h5
   ·rw [h2];exact BF fun h=>h1 (h.1 i hi hlt)
  ·have ha:∀j,s<=j->j<N->p j:=fun j h3 h4=>hI j h3 (by omega) h4
   exact(he m i (by omega) hi2 ha).iff ⟨fun q=>⟨ha,q⟩,fun q=>q.2⟩
theorem Nc{α:Type}{xs:List α}{L:Nat->Int->Option Int}{f:α->Option Bool}{P:α->Prop}(hf:∀x∈xs,BG (P x) (f x))(hs:∀(m i:Nat) (h:i<xs.length),L (m+1) (i:Int)=Option.bind (f xs[i]) fun r=>cond r (some (i:Int)) (L m ((i+1:Nat):Int)))
 (he:∀m:Nat,L (m+1) (xs.length:Int)=some (-1)) (m:Nat) (hm:xs.length<m):∃r,L m 0=some r∧(r>=0↔∃x∈xs,P x)∧(r= -1∨∃j:Nat,r=(j:Int)∧∃h:j<xs.length,P xs[j]∧∀i (hi:i<xs.length),i<j->¬P xs[i]):=by
 refine loop (L:=fun m i (_:Unit)=>L m i) xs.length (fun i _=>∀j (h:j<xs.length),j<i->¬P xs[j]) (fun o=>∃r,o=some r∧(r>=0↔∃x∈xs,P x)∧(r= -1∨∃j:Nat,r=(j:Int)∧∃h:j<xs.length,P xs[j]∧∀i (hi:i<xs.length),i<j->¬P xs[i])) ?_ ?_ m 0 () (by omega) (by omega) (fun j _ h=>by omega)
 ·intro m i _ hi hI
  obtain⟨b,e,hb⟩:=hf _ (List.getElem_mem hi)
  rw [hs m i hi,e,Ag]
  cases b with
  |true=>exact .inr ⟨(i:Int),rfl,⟨fun _=>⟨_,List.getElem_mem hi,hb.1 rfl⟩,fun _=>by omega⟩,.inr ⟨i,rfl,hi,hb.1 rfl,hI⟩⟩
  |false=>
   refine .inl ⟨(),fun j h hj=>?_,by trivial⟩
   by_cases ej:j=i
   ·subst ej;intro hp;have:=hb.2 hp;cases this
   ·exact hI j h (by omega)
 ·intro m _ hI
  refine⟨-1,he m,⟨fun h=>by omega,fun⟨x,hx,hp⟩=>?_⟩,.inl rfl⟩
  obtain⟨j,hj,rfl⟩:=List.getElem_of_mem hx
  exact absurd hp (hI j hj hj)
theorem gI{l:List Int}{i:Nat}(h:i<l.length):AE l (i:Int)=some (gd l i):=by rw [DJ];exact qZ h
def Wi(l:List Int):Prop:=(1<=l.length∧l.length<=4)∧(∀i,i<l.length->0<=gd l i∧gd l i<=100000)∧∀i,i<l.length->0<i->gd l (i-1)<gd l i
def VT(t:Ab):Prop:=(Wi t.Slews∧Wi t.Loads)∧t.Values.length=t.Slews.length*t.Loads.length∧∀i,i<t.Values.length-> -1000000<=gd t.Values i∧gd t.Values i<=1000000
theorem PA{l:List Int}{lo hi:Int}:(l.all fun k=>decide (k>=lo)&&decide (k<=hi))=true↔∀i,i<l.length->lo<=gd l i∧gd l i<=hi:=by
 rw [List.all_eq_true]
 constructor
 ·intro h i hi
  have:=h _ (List.getElem_mem hi)
  simp only [Bool.and_eq_true,decide_eq_true_eq]at this
  rw [LJ (List.getElem?_eq_getElem hi)];omega
 ·intro h x hx
  obtain⟨j,hj,rfl⟩:=List.getElem_of_mem hx
  have:=h j hj
  rw [LJ (List.getElem?_eq_getElem hj)]at this
  simp only [Bool.and_eq_true,decide_eq_true_eq];omega
theorem Ax1{n:Nat}{l:List Int}(h:l.length<=1048576)(hn:1048577<=n):BG (Wi l) (YQ n l):=by
 rw [YQ]
 refine(Ei (L:=fun m i=>Jv n l _ m i) (Q:=1<=l.length∧l.length<=4) l.length 0 (fun i=>(0<=gd l i∧gd l i<=100000)∧(0<i->gd l (i-1)<gd l i)) ?_ ?_ n 0 (by omega) (by omega) (by omega) (fun j _ h=>by omega)).iff ?_
 ·intro m i _ hi
  have w1:0<i->wrap .i64 ((i:Int)-1)=((i-1:Nat):Int):=fun h0=>by rw [AY (by omega) (by omega)];omega
  simp only [Jv.eq_2,Cm hi,cT,gI hi,Ag,IR,wT i]
  by_cases c1:0<=gd l i∧gd l i<=100000
  ·have d1:(decide (gd l i>=0)&&decide (gd l i<=100000))=true:=by simp only [Bool.and_eq_true,decide_eq_true_eq];omega
   simp only [d1,Bool.not_true,cF]
   by_cases h0:0<i
   ·have d2:decide ((i:Int)>0)=true:=decide_eq_true (by omega)
    simp only [d2,cT,w1 h0,gI (show i-1<l.length by omega),Ag]
    by_cases c2:gd l (i-1)<gd l i
    ·have d3:decide (gd l (i-1)>=gd l i)=false:=decide_eq_false (by omega)
     simp only [d3,cF]
     exact .inl ⟨⟨c1,fun _=>c2⟩,by trivial⟩
    ·have d3:decide (gd l (i-1)>=gd l i)=true:=decide_eq_true (by omega)
     simp only [d3,cT]
     exact .inr ⟨fun h=>c2 (h.2 h0),by trivial⟩
   ·have d2:decide ((i:Int)>0)=false:=decide_eq_false (by omega)
    simp only [d2,cF,Ag]
    exact .inl ⟨⟨c1,fun h=>absurd h h0⟩,by trivial⟩
  ·have d1:(decide (gd l i>=0)&&decide (gd l i<=100000))=false:=by
    rw [Bool.and_eq_false_iff,decide_eq_false_iff_not,decide_eq_false_iff_not];omega
   simp only [d1,Bool.not_false,cT,Ag]
   exact .inr ⟨fun h=>c1 h.1,by trivial⟩
 ·intro m i h1 h2 _
  obtain rfl:i=l.length:=by omega
  simp only [Jv.eq_2,DB,cF]
  exact BR (by simp only [Bool.and_eq_true,decide_eq_true_eq];omega)
 ·exact⟨fun⟨a,b⟩=>⟨b,fun i hi=>(a i (by omega) hi).1,fun i hi h0=>(a i (by omega) hi).2 h0⟩,fun⟨a,b,c⟩=>⟨fun i _ hi=>⟨b i hi,c i hi⟩,a⟩⟩
theorem Inc{n:Nat}{l:List Int}(h:l.length<=1048576)(hn:1048577<=n):BG (∀i,i<l.length->0<i->gd l (i-1)<gd l i) (YH n l):=by
 rw [YH]
 refine(Ei (L:=fun m i=>JM l _ m i) (Q:=True) l.length 1 (fun i=>gd l (i-1)<gd l i) ?_ ?_ n 1 (by omega) (by omega) (by omega) (fun j _ h=>by omega)).iff ?_
 ·intro m i h0 hi
  have w1:wrap .i64 ((i:Int)-1)=((i-1:Nat):Int):=by rw [AY (by omega) (by omega)];omega
  simp only [JM.eq_2,Cm hi,cT,w1,gI hi,gI (show i-1<l.length by omega),Ag,wT i]
  by_cases c2:gd l (i-1)<gd l i
  ·have d3:decide (gd l (i-1)>=gd l i)=false:=decide_eq_false (by omega)
   simp only [d3,cF]
   exact .inl ⟨c2,by trivial⟩
  ·have d3:decide (gd l (i-1)>=gd l i)=true:=decide_eq_true (by omega)
   simp only [d3,cT]
   exact .inr ⟨c2,by trivial⟩
 ·intro m i h1 h2 _
  have:decide ((i:Int)<(l.length:Int))=false:=decide_eq_false (by omega)
  simp only [JM.eq_2,this,cF]
  exact Cj trivial
 ·exact⟨fun a i hi h0=>a.1 i h0 hi,fun a=>⟨fun i h0 hi=>a i hi h0,trivial⟩⟩
theorem Ax2{n:Nat}{l:List Int}(h:l.length<=1048576)(hn:1048577<=n):BG (Wi l) (Xh n l):=by
 obtain⟨b,e,hb⟩:=Inc (n:=n) h hn
 rw [Xh]
 simp only [Pm,Li,AW (n:=n) h hn,e,Ag,CT]
 refine BR ?_
 rw [Bool.and_eq_true,Bool.and_eq_true,PA,hb]
 simp only [Bool.and_eq_true,decide_eq_true_eq]
 exact⟨fun⟨⟨a,b⟩,c⟩=>⟨by omega,b,c⟩,fun⟨a,b,c⟩=>⟨⟨by omega,b⟩,c⟩⟩
theorem iT{a b:Nat}(ha:a<=4)(hb:b<=4):wrap .i64 ((a:Int)*(b:Int))=((a*b:Nat):Int):=by
 have:a*b<=4*4:=Nat.mul_le_mul ha hb
 have e:((a*b:Nat):Int)=(a:Int)*b:=by simp
 rw [←e,AY (by omega) (by omega)]
def oB(t:Ab):Prop:=t.Slews.length<=1048576∧t.Loads.length<=1048576∧t.Values.length<=1048576
theorem EF.t{t:Ab}(h:EF t):oB t:=⟨h.1.1,h.2.1.1,h.2.2.1⟩
theorem Tb1{n:Nat}{t:Ab}(h:oB t)(hn:1048577<=n):BG (VT t) (bK n t):=by
 rw [bK]
 refine BG.bind (Ax1 h.1 hn) (fun v1=>?_) fun v1=>?_
 ·simp only [Bool.not_true,cF]
  obtain⟨b,e,hb⟩:=Ax1 (n:=n) h.2.1 hn
  rw [e,Ag,Ag]
  cases b with
  |false=>
   simp only [Bool.not_false,Bool.true_or,cT]
   exact BF fun v=>by have:=hb.2 v.1.2;cases this
  |true=>
   have v2:=hb.1 rfl
   rw [iT v1.1.2 v2.1.2]
   simp only [Bool.not_true,Bool.false_or]
   refine GD (fun c=>?_) fun c=>?_
   ·refine BF fun v=>?_
    rw [v.2.1]at c;simp at c
   ·have c:t.Values.length=t.Slews.length*t.Loads.length:=by
     rw [bne_eq_false_iff_eq]at c;omega
    have hv:=h.2.2
    refine(Ei (L:=fun m i=>JE n t _ m i) (Q:=True) t.Values.length 0 (fun i=>-1000000<=gd t.Values i∧gd t.Values i<=1000000) ?_ ?_ n 0 (by omega) (by omega) (by omega) (fun j _ h=>by omega)).iff ?_
    ·intro m i _ hi
     simp only [JE.eq_2,Cm hi,cT,gI hi,Ag,IR,wT i]
     by_cases c1:-1000000<=gd t.Values i∧gd t.Values i<=1000000
     ·have d1:(decide (gd t.Values i>= -1000000)&&decide (gd t.Values i<=1000000))=true:=by simp only [Bool.and_eq_true,decide_eq_true_eq];omega
      simp only [d1,Bool.not_true,cF]
      exact .inl ⟨c1,by trivial⟩
     ·have d1:(decide (gd t.Values i>= -1000000)&&decide (gd t.Values i<=1000000))=false:=by
       rw [Bool.and_eq_false_iff,decide_eq_false_iff_not,decide_eq_false_iff_not];omega
      simp only [d1,Bool.not_false,cT]
      exact .inr ⟨c1,by trivial⟩
    ·intro m i h1 h2 _
     obtain rfl:i=t.Values.length:=by omega
     simp only [JE.eq_2,DB,cF]
     exact Cj trivial
    ·exact⟨fun a=>⟨⟨v1,v2⟩,c,fun i hi=>a.1 i (by omega) hi⟩,fun a=>⟨fun i _ hi=>a.2.2 i hi,trivial⟩⟩
 ·simp only [Bool.not_false,cT,Ag,Bool.true_or]
  exact BF fun v=>v1 v.1.1
theorem Tb2{n:Nat}{t:Ab}(h:oB t)(hn:1048577<=n):BG (VT t) (ZV n t):=by
 rw [ZV]
 refine BG.bind (Ax2 h.1 hn) (fun v1=>?_) fun v1=>?_
 ·simp only [cT]
  obtain⟨b,e,hb⟩:=Ax2 (n:=n) h.2.1 hn
  rw [e,Ag,Ag]
  cases b with
  |false=>
   simp only [Bool.false_and,cF,Ag]
   exact BF fun v=>by have:=hb.2 v.1.2;cases this
  |true=>
   have v2:=hb.1 rfl
   rw [iT v1.1.2 v2.1.2,AW (n:=n) h.2.2 hn]
   simp only [Bool.true_and,Ag,CT]
   refine BR ?_
   rw [Bool.and_eq_true,PA,beq_iff_eq]
   exact⟨fun⟨a,b⟩=>⟨⟨v1,v2⟩,by omega,b⟩,fun a=>⟨by have:=a.2.1;omega,a.2.2⟩⟩
 ·simp only [cF,Ag,Bool.false_and]
  exact BF fun v=>v1 v.1.1
theorem VT.pos{t:Ab}(h:VT t):0<t.Values.length∧t.Values.length<=16:=by
 have a:=h.1.1.1
 have b:=h.1.2.1
 rw [h.2.1]
 exact⟨Nat.mul_pos (by omega) (by omega),(Nat.mul_le_mul a.2 b.2:_<=4*4)⟩
def VP(t:Ab):Prop:=∀j,j<t.Values.length->0<=gd t.Values j
theorem Bnd{n:Nat}{t:Ab}(h:oB t)(hn:1048577<=n):(¬VT t∧∃s:AO,Xn n t=some (s,1))∨(VT t∧∃s:AO,Xn n t=some (s,0)∧(s.Early<0↔¬VP t)):=by
 obtain⟨b,e,hb⟩:=Tb1 (n:=n) h hn
 rw [Xn,e,Ag]
 cases b with
 |false=>exact .inl ⟨fun v=>(by have:=hb.2 v;cases this),_,rfl⟩
 |true=>
  have v:=hb.1 rfl
  have hp:=v.pos
  have g0:AE t.Values 0=some (gd t.Values 0):=gI (i:=0) (by omega)
  refine .inr ⟨v,?_⟩
  simp only [Bool.not_true,cF,g0,Ag]
  refine loop (L:=fun m i (p:Int×Int)=>JB t (fun i93 i97 i98=>(some ((AO.mk i97 i98),0))) m i p.1 p.2) t.Values.length (fun i p=>(p.1<0↔¬∀j,j<i->0<=gd t.Values j)) (fun o=>∃s:AO,o=some (s,0)∧(s.Early<0↔¬VP t)) ?_ ?_ n 1 (gd t.Values 0,gd t.Values 0) (by omega) (by omega) ?_
  ·intro m i ⟨a,c⟩ hi hI
   dsimp only at hI ⊢
   refine .inl ⟨(min a (gd t.Values i),max c (gd t.Values i)),?_,?_⟩
   ·dsimp only
    constructor
    ·intro hm hall
     by_cases ha:a<0
     ·exact hI.1 ha fun j hj=>hall j (by omega)
     ·have:=hall i (by omega);omega
    ·intro hna
     by_cases ha:a<0
     ·omega
     ·have hall:∀j,j<i->0<=gd t.Values j:=fun j hj=>by
       by_cases q:0<=gd t.Values j
       ·exact q
       ·exact absurd (hI.2 fun hh=>q (hh j hj)) ha
      by_cases q:0<=gd t.Values i
      ·exfalso;apply hna;intro j hj
       by_cases ej:j=i
       ·subst ej;exact q
       ·exact hall j (by omega)
      ·omega
   ·simp only [JB.eq_2,Cm hi,cT,gI hi,Ag,wT i]
  ·intro m ⟨a,c⟩ hI
   dsimp only at hI ⊢
   simp only [JB.eq_2,DB,cF]
   exact⟨_,rfl,hI⟩
  ·dsimp only
   constructor
   ·intro h0 hall;have:=hall 0 (by omega);omega
   ·intro h0
    by_cases q:gd t.Values 0<0
    ·exact q
    ·exfalso;apply h0;intro j hj;obtain rfl:j=0:=by omega
     omega
theorem Mn{n:Nat}{l:List Int}(h0:0<l.length)(h:l.length<=1048576)(hn:1048577<=n):∃r,YZ n l=some r∧(r<0↔¬∀j,j<l.length->0<=gd l j):=by
 have g0:AE l 0=some (gd l 0):=gI (i:=0) (by omega)
 have d0:decide ((l.length:Int)<1)=false:=decide_eq_false (by omega)
 rw [YZ,d0,cF,g0,Ag]
 refine loop (L:=fun m i (a:Int)=>Jw l (fun i15 i16=>(some i15)) m a i) l.length (fun i a=>(a<0↔¬∀j,j<i->0<=gd l j)) (fun o=>∃r,o=some r∧(r<0↔¬∀j,j<l.length->0<=gd l j)) ?_ ?_ n 1 (gd l 0) (by omega) (by omega) ?_
 ·intro m i a hi hI
  refine .inl ⟨min a (gd l i),?_,?_⟩
  ·constructor
   ·intro hm hall
    by_cases ha:a<0
    ·exact hI.1 ha fun j hj=>hall j (by omega)
    ·have:=hall i (by omega);omega
   ·intro hna
    by_cases ha:a<0
    ·omega
    ·have hall:∀j,j<i->0<=gd l j:=fun j hj=>by
      by_cases q:0<=gd l j
      ·exact q
      ·exact absurd (hI.2 fun hh=>q (hh j hj)) ha
     by_cases q:0<=gd l i
     ·exfalso;apply hna;intro j hj
      by_cases ej:j=i
      ·subst ej;exact q
      ·exact hall j (by omega)
     ·omega
  ·simp only [Jw.eq_2,Cm hi,cT,gI hi,Ag,wT i]
 ·intro m a hI
  simp only [Jw.eq_2,DB,cF]
  exact⟨_,rfl,hI⟩
 ·constructor
  ·intro h0 hall;have:=hall 0 (by omega);omega
  ·intro h0
   by_cases q:gd l 0<0
   ·exact q
   ·exfalso;apply h0;intro j hj;obtain rfl:j=0:=by omega
    omega
def SH(l:List Ab)(pos:Bool):Prop:=l.length=2∧∀t∈l,VT t∧(pos=true->VP t)
theorem Ts1{n:Nat}{l:List Ab}{pos:Bool}(h:∀t∈l,oB t)(hn:1048577<=n):BG (SH l pos) (WW n l pos):=by
 rw [WW]
 refine GD (fun c=>?_) fun c=>?_
 ·refine BF fun v=>?_
  rw [v.1]at c;simp at c
 ·have c:l.length=2:=by rw [bne_eq_false_iff_eq]at c;omega
  refine(Ei (L:=fun m i=>Mr n l pos _ m i) (Q:=True) 2 0 (fun i=>∀t,l[i]? =some t->VT t∧(pos=true->VP t)) ?_ ?_ n 0 (by omega) (by omega) (by omega) (fun j _ h=>by omega)).iff ?_
  ·intro m i _ hi
   have hil:i<l.length:=by omega
   have g:=List.getElem?_eq_getElem hil
   have d1:decide ((i:Int)<2)=true:=decide_eq_true (by omega)
   simp only [Mr.eq_2,d1,cT,AR hil,Ag,wT i,g]
   rcases Bnd (n:=n) (h _ (List.getElem_mem hil)) hn with ⟨v,s,e⟩|⟨v,s,e,hs⟩
   ·rw [e]
    exact .inr ⟨fun q=>v (q _ rfl).1,by trivial⟩
   ·rw [e]
    simp only [Ag,bne_self_eq_false,Bool.false_or]
    by_cases hp:pos=true
    ·subst hp
     by_cases q:s.Early<0
     ·rw [decide_eq_true q]
      exact .inr ⟨fun r=>(hs.1 q) ((r _ rfl).2 rfl),by trivial⟩
     ·rw [decide_eq_false q]
      refine .inl ⟨fun t ht=>?_,by trivial⟩
      obtain rfl:=Option.some.inj ht
      exact⟨v,fun _=>Classical.byContradiction fun r=>q (hs.2 r)⟩
    ·have hp:pos=false:=by simpa using hp
     subst hp
     refine .inl ⟨fun t ht=>?_,by trivial⟩
     obtain rfl:=Option.some.inj ht
     exact⟨v,fun h=>by cases h⟩
  ·intro m i h1 h2 _
   obtain rfl:i=2:=by omega
   simp only [Mr.eq_2,show decide (((2:Nat):Int)<2)=false from rfl,cF]
   exact Cj trivial
  ·constructor
   ·rintro ⟨a,_⟩
    refine⟨c,fun t ht=>?_⟩
    obtain⟨j,hj⟩:=List.getElem?_of_mem ht
    have hjl:j<l.length:=(List.getElem?_eq_some_iff.1 hj).1
    exact a j (by omega) (by omega) t hj
   ·rintro ⟨_,a⟩
    exact⟨fun i _ _ t ht=>a t (List.mem_of_getElem? ht),trivial⟩
theorem Ts2{n:Nat}{l:List Ab}{pos:Bool}(h:∀t∈l,oB t)(hl:l.length<=1048576)(hn:1048577<=n):BG (SH l pos) (VV n l pos):=by
 rw [VV]
 have hf:∀t∈l,BG (¬(VT t∧(pos=true->VP t))) (XA n t pos):=by
  intro t ht
  have hm:=h t ht
  rw [XA]
  refine BG.bind (Tb2 hm hn) (fun v=>?_) fun v=>?_
  ·simp only [Bool.not_true,cF]
   by_cases hp:pos=true
   ·subst hp
    obtain⟨r,e,hr⟩:=Mn (n:=n) v.pos.1 hm.2.2 hn
    simp only [cT,e,Ag]
    refine BR ?_
    rw [decide_eq_true_eq,hr]
    exact⟨fun a b=>a (b.2 trivial),fun a b=>a ⟨v,fun _=>b⟩⟩
   ·have hp:pos=false:=by simpa using hp
    subst hp
    exact BF fun a=>a ⟨v,fun h=>by cases h⟩
  ·simp only [Bool.not_false,cT,Ag]
   exact Cj fun a=>v a.1
 obtain⟨r,e,hr,_⟩:=Nc (xs:=l) (L:=fun m i=>Hp n l pos (fun i6=>(some (-1))) m i) (f:=fun t=>XA n t pos) hf (fun m i hi=>by
  simp only [Hp.eq_2,Cm hi,cT,AR hi,Ag,wT i]) (fun m=>by
  simp only [Hp.eq_2,DB,cF]) n (by omega)
 have e:Hp n l pos (fun i6=>(some (-1))) n 0=some r:=e
 rw [mF,kW,e]
 simp only [Ag]
 by_cases c:l.length=2
 ·have:((l.length:Int)==2)=true:=by simp;omega
  rw [this]
  simp only [cT,Ag]
  refine BR ?_
  rw [Bool.not_eq_true',decide_eq_false_iff_not,hr]
  exact⟨fun a=>⟨c,fun t ht=>Classical.byContradiction fun q=>a ⟨t,ht,q⟩⟩,fun a ⟨t,ht,q⟩=>q (a.2 t ht)⟩
 ·have:((l.length:Int)==2)=false:=by rw [beq_eq_false_iff_ne];omega
  rw [this]
  exact BF fun v=>c v.1
def TF(N i:Nat)(p:BQ):Prop:=(0<=p.Cap∧p.Cap<=500)∧(i+1=N->p.Dir=2∧p.Cap=0∧p.Clock=false)∧(i+1<N->p.Dir=1)
structure MH(l:List BQ):Prop where
 few:2<=l.length∧l.length<=5
 pin:∀i (h:i<l.length),TF l.length i l[i]
 nm:∀k (h:k<l.length),EK l[k].Name=true∧∀i (hi:i<k),(l[i].Name.toList==l[k].Name.toList)=false
def cnt(l:List BQ):Nat:=l.countP (·.Clock)
def SMP(l:List BQ):Prop:=l.length<=1048576∧∀p∈l,p.Name.size<=1048576
theorem Sn{l:List BQ}{i:Nat}(h:i<l.length):cnt (l.take (i+1))=cnt (l.take i)+if l[i].Clock=true then 1 else 0:=by
 unfold cnt
 rw [List.take_succ_eq_append_getElem h,List.countP_append]
 congr 1
 by_cases e:l[i].Clock=true
 ·rw [if_pos e];simp [e]
 ·rw [if_neg e];simp [e]
theorem Pn1{n:Nat}{c:Af}(h:SMP c.Pins)(hn:1048577<=n):∃r:Int×Bool,xY n c=some r∧(r.2=true↔MH c.Pins)∧(r.2=true->r.1=cnt c.Pins):=by
 rw [xY]
 by_cases hl:2<=c.Pins.length∧c.Pins.length<=5
 ·have d:(decide ((c.Pins.length:Int)<2)||decide ((c.Pins.length:Int)>5))=false:=by
   simp only [Bool.or_eq_false_iff,decide_eq_false_iff_not];omega
  rw [d,cF]
  have wl:wrap .i64 ((c.Pins.length:Int)-1)=(c.Pins.length:Int)-1:=AY (by omega) (by omega)
  refine loop (L:=fun m i (q:Int)=>KU n c (fun i23 i24=>(some (i23,true))) m q i) c.Pins.length (fun i q=>q=cnt (c.Pins.take i)∧∀k (h:k<c.Pins.length),k<i->TF c.Pins.length k c.Pins[k]∧EK c.Pins[k].Name=true∧∀j (hj:j<k),(c.Pins[j].Name.toList==c.Pins[k].Name.toList)=false)
   (fun o=>∃r:Int×Bool,o=some r∧(r.2=true↔MH c.Pins)∧(r.2=true->r.1=cnt c.Pins)) ?_ ?_ n 0 0 (by omega) (by omega) ⟨by simp [cnt],fun k _ hk=>by omega⟩
  ·intro m i q hi ⟨hq,hI⟩
   have no:∀o:Option (Int×Bool),o=some (0,false)->¬MH c.Pins->∃r:Int×Bool,o=some r∧(r.2=true↔MH c.Pins)∧(r.2=true->r.1=cnt c.Pins):=fun o e hv=>⟨_,e,by simp [hv],fun h=>by cases h⟩
   have wi:decide ((i:Int)<(c.Pins.length:Int))=true:=Cm hi
   rw [KU.eq_2]
   simp only [wi,cT,AR hi,Ag]
   have inner:∀k2:Int->Option (Int×Bool),(∀j (hj:j<i),(c.Pins[j].Name.toList==c.Pins[i].Name.toList)=false)∧Ja c i c.Pins[i] k2 n 0=k2 i∨(¬∀j (hj:j<i),(c.Pins[j].Name.toList==c.Pins[i].Name.toList)=false)∧Ja c i c.Pins[i] k2 n 0=some (0,false):=by
    intro k2
    refine loop (L:=fun m j (_:Unit)=>Ja c i c.Pins[i] k2 m j) i (fun b _=>∀j (hj:j<i),j<b->(c.Pins[j].Name.toList==c.Pins[i].Name.toList)=false) (fun o=>(∀j (hj:j<i),(c.Pins[j].Name.toList==c.Pins[i].Name.toList)=false)∧o=k2 i∨(¬∀j (hj:j<i),(c.Pins[j].Name.toList==c.Pins[i].Name.toList)=false)∧o=some (0,false)) ?_ ?_ n 0 () (by omega) (by omega) (fun j _ hj=>by omega)
    ·intro m j _ hj hJ
     simp only [Ja.eq_2,Cm hj,cT,AR (show j<c.Pins.length by omega),Ag,wT j]
     cases e:(c.Pins[j].Name.toList==c.Pins[i].Name.toList)with
     |true=>exact .inr (.inr ⟨fun h=>(by rw [h j hj]at e;cases e),by trivial⟩)
     |false=>
      refine .inl ⟨(),fun a ha hb=>?_,by trivial⟩
      by_cases ea:a=j
      ·subst ea;exact e
      ·exact hJ a ha (by omega)
    ·intro m _ hJ
     simp only [Ja.eq_2,DB,cF]
     exact .inl ⟨fun j hj=>hJ j hj hj,by trivial⟩
   rcases inner _ with ⟨g1,g2⟩|⟨g1,g2⟩
   ·rw [g2]
    have hsz:=h.2 _ (List.getElem_mem hi)
    simp only [Nm2 hsz hn,Ag,IR,Em,wl]
    cases hnm:EK c.Pins[i].Name with
    |false=>
     simp only [Bool.not_false,Bool.true_or,cT]
     exact .inr (no _ rfl fun v=>by have:=(v.nm i hi).1;rw [hnm]at this;cases this)
    |true=>
     simp only [Bool.not_true,Bool.false_or]
     by_cases c1:0<=c.Pins[i].Cap∧c.Pins[i].Cap<=500
     ·have d1:(decide (c.Pins[i].Cap>=0)&&decide (c.Pins[i].Cap<=500))=true:=by simp only [Bool.and_eq_true,decide_eq_true_eq];omega
      simp only [d1,Bool.not_true,cF]
      have pI:TF c.Pins.length i c.Pins[i]↔((((i:Int)==(c.Pins.length:Int)-1)&&((((c.Pins[i].Dir !=2))||((c.Pins[i].Cap !=0)))||c.Pins[i].Clock))||((decide ((i:Int)<(c.Pins.length:Int)-1))&&((c.Pins[i].Dir !=1))))=false:=by
       unfold TF
       by_cases e1:i+1=c.Pins.length
       ·have t1:((i:Int)==(c.Pins.length:Int)-1)=true:=by rw [beq_iff_eq];omega
        have t2:decide ((i:Int)<(c.Pins.length:Int)-1)=false:=decide_eq_false (by omega)
        simp only [t1,t2,Bool.true_and,Bool.false_and,Bool.or_false,Bool.or_eq_false_iff,bne_eq_false_iff_eq]
        exact⟨fun⟨_,a,_⟩=>⟨⟨(a e1).1,(a e1).2.1⟩,(a e1).2.2⟩,fun⟨⟨a,b⟩,d⟩=>⟨c1,fun _=>⟨a,b,d⟩,fun h=>by omega⟩⟩
       ·have t1:((i:Int)==(c.Pins.length:Int)-1)=false:=by rw [beq_eq_false_iff_ne];omega
        have t2:decide ((i:Int)<(c.Pins.length:Int)-1)=true:=decide_eq_true (by omega)
        simp only [t1,t2,Bool.true_and,Bool.false_and,Bool.false_or,bne_eq_false_iff_eq]
        exact⟨fun⟨_,_,a⟩=>a (by omega),fun a=>⟨c1,fun h=>absurd h e1,fun _=>a⟩⟩
      cases hc:((((i:Int)==(c.Pins.length:Int)-1)&&((((c.Pins[i].Dir !=2))||((c.Pins[i].Cap !=0)))||c.Pins[i].Clock))||((decide ((i:Int)<(c.Pins.length:Int)-1))&&((c.Pins[i].Dir !=1))))with
      |true=>
       rw [hc]at pI
       simp only [cT]
       exact .inr (no _ rfl fun v=>by have:=pI.1 (v.pin i hi);cases this)
      |false=>
       have hp:=pI.2 hc
       simp only [cF]
       have hI':∀k (h:k<c.Pins.length),k<i+1->TF c.Pins.length k c.Pins[k]∧EK c.Pins[k].Name=true∧∀j (hj:j<k),(c.Pins[j].Name.toList==c.Pins[k].Name.toList)=false:=fun k hk hki=>by
        by_cases ek:k=i
        ·subst ek;exact⟨hp,hnm,g1⟩
        ·exact hI k hk (by omega)
       have ct:=Sn hi
       have cl:cnt (c.Pins.take i)<=5:=Nat.le_trans List.countP_le_length (by simp;omega)
       cases hk:c.Pins[i].Clock with
       |true=>
        rw [hk,if_pos rfl]at ct
        refine .inl ⟨q+1,⟨by rw [ct,hq];simp,hI'⟩,?_⟩
        simp only [cT,wT i,AY (x:=q+1) (by omega) (by omega)]
       |false=>
        rw [hk]at ct
        refine .inl ⟨q,⟨by rw [ct,hq];simp,hI'⟩,?_⟩
        simp only [cF,wT i]
     ·have d1:(decide (c.Pins[i].Cap>=0)&&decide (c.Pins[i].Cap<=500))=false:=by
       rw [Bool.and_eq_false_iff,decide_eq_false_iff_not,decide_eq_false_iff_not];omega
      simp only [d1,Bool.not_false,cT]
      exact .inr (no _ rfl fun v=>c1 (v.pin i hi).1)
   ·rw [g2]
    exact .inr (no _ rfl fun v=>g1 (v.nm i hi).2)
  ·intro m q ⟨hq,hI⟩
   simp only [KU.eq_2,DB,cF]
   rw [List.take_length]at hq
   exact⟨_,rfl,⟨fun _=>⟨hl,fun i h=>(hI i h h).1,fun k h=>(hI k h h).2⟩,fun _=>rfl⟩,fun _=>hq⟩
 ·have d:(decide ((c.Pins.length:Int)<2)||decide ((c.Pins.length:Int)>5))=true:=by
   rw [Bool.or_eq_true,decide_eq_true_eq,decide_eq_true_eq];omega
  rw [d,cT]
  exact⟨_,rfl,⟨fun h=>(by cases h),fun v=>absurd v.few hl⟩,fun h=>(by cases h)⟩
theorem Pn2{n:Nat}{l:List BQ}(h:SMP l)(hn:1048577<=n):BG (MH l) (hZ n l):=by
 have hl:=h.1
 rw [hZ]
 have wl:0<l.length->wrap .i64 ((l.length:Int)-1)=(l.length:Int)-1:=fun h0=>AY (by omega) (by omega)
 refine loop (L:=fun m i (q:List ByteArray)=>Hu n l _ m q i) l.length (fun i q=>q=(l.take i).map (·.Name)∧∀k (h:k<l.length),k<i->TF l.length k l[k]) _ ?_ ?_ n 0 [] (by omega) (by omega) ⟨by simp,fun k _ hk=>by omega⟩
 ·intro m i q hi ⟨hq,hI⟩
  have hql:q.length<=1048576:=by rw [hq];simp;omega
  have ha:=Bq (xs:=q) (ys:=[l[i].Name]) (b:=16) (by simp;omega) (by omega)
  have hq':q++[l[i].Name]=(l.take (i+1)).map (·.Name):=by rw [hq,List.take_succ_eq_append_getElem hi,List.map_append];rfl
  simp only [Hu.eq_2,Cm hi,cT,AR hi,Ag,ha,wl (by omega),Li,wT i]
  have stepI:TF l.length i l[i]->∀k (h:k<l.length),k<i+1->TF l.length k l[k]:=fun hp k hk hki=>by
   by_cases ek:k=i
   ·subst ek;exact hp
   ·exact hI k hk (by omega)
  by_cases e1:i+1=l.length
  ·have t1:((i:Int)==(l.length:Int)-1)=true:=by rw [beq_iff_eq];omega
   simp only [t1,cT]
   cases hc:((((l[i].Dir !=2))||((l[i].Cap !=0)))||l[i].Clock)with
   |true=>
    refine .inr (BF fun v=>?_)
    have:=(v.pin i hi).2.1 e1
    rw [this.1,this.2.1,this.2.2]at hc;cases hc
   |false=>
    simp only [Bool.or_eq_false_iff,bne_eq_false_iff_eq]at hc
    exact .inl ⟨_,⟨hq',stepI ⟨by omega,fun _=>⟨hc.1.1,hc.1.2,hc.2⟩,fun h=>by omega⟩⟩,by trivial⟩
  ·have t1:((i:Int)==(l.length:Int)-1)=false:=by rw [beq_eq_false_iff_ne];omega
   simp only [t1,cF,Em,Ag]
   by_cases c1:l[i].Dir=1∧0<=l[i].Cap∧l[i].Cap<=500
   ·have d1:((l[i].Dir !=1)|| !(decide (l[i].Cap>=0)&&decide (l[i].Cap<=500)))=false:=by
     simp only [Bool.or_eq_false_iff,bne_eq_false_iff_eq,Bool.not_eq_false',Bool.and_eq_true,decide_eq_true_eq];omega
    simp only [d1,cF]
    exact .inl ⟨_,⟨hq',stepI ⟨by omega,fun h=>absurd h e1,fun _=>c1.1⟩⟩,by trivial⟩
   ·have d1:((l[i].Dir !=1)|| !(decide (l[i].Cap>=0)&&decide (l[i].Cap<=500)))=true:=by
     simp only [Bool.or_eq_true,bne_iff_ne,Bool.not_eq_true',Bool.and_eq_false_iff,decide_eq_false_iff_not];omega
    simp only [d1,cT]
    exact .inr (BF fun v=>c1 ⟨(v.pin i hi).2.2 (by omega),(v.pin i hi).1⟩)
 ·intro m q ⟨hq,hI⟩
  rw [List.take_length]at hq
  obtain⟨b,e,hb⟩:=AN (n:=n) (xs:=q) (by rw [hq];simpa using hl) (by rw [hq];intro x hx;obtain⟨p,hp,rfl⟩:=List.mem_map.1 hx;exact h.2 p hp) hn
  simp only [Hu.eq_2,DB,cF,VF,Li,e,Ag,CT]
  refine BR ?_
  rw [Bool.and_eq_true,hb,Bool.and_eq_true,decide_eq_true_eq,decide_eq_true_eq]
  subst hq
  simp only [List.length_map,List.getElem_map]
  exact⟨fun⟨a,b⟩=>⟨by omega,fun i hi=>hI i hi hi,b⟩,fun v=>⟨by have:=v.few;omega,v.nm⟩⟩
def Kz(l:List BQ)(i:Int):Bool:=((l[i.toNat]?).map (·.Clock)).getD false
theorem tA{l:List BQ}{i:Int}(h0:0<=i)(h1:i<l.length):∃x,AE l i=some x∧x.Clock=Kz l i:=by
 obtain⟨x,e,h⟩:=HG h0 h1
 exact⟨x,e,by simp [Kz,h]⟩
theorem Ud{l:List BQ}{j:Nat}(h:j<l.length):Kz l (j:Int)=l[j].Clock:=by simp [Kz,h]
theorem Vz{l:List BQ}(hc:cnt l<=1){i j:Nat}(hi:i<l.length)(hj:j<l.length)(h1:l[i].Clock=true)(h2:l[j].Clock=true):i=j:=by
 have key:∀i j:Nat,∀(hi:i<l.length) (hj:j<l.length),l[i].Clock=true->l[j].Clock=true->¬i<j:=by
  intro i j hi hj h1 h2 hlt
  have e:cnt l=cnt (l.take (i+1))+cnt (l.drop (i+1)):=by unfold cnt;rw [←List.countP_append,List.take_append_drop]
  have p1:0<cnt (l.take (i+1)):=List.countP_pos_iff.2 ⟨l[i],by rw [List.mem_take_iff_getElem];exact⟨i,by omega,rfl⟩,h1⟩
  have p2:0<cnt (l.drop (i+1)):=List.countP_pos_iff.2 ⟨l[j],by rw [List.mem_drop_iff_getElem];exact⟨j-(i+1),by omega,by congr 1;omega⟩,h2⟩
  omega
 have a:=key i j hi hj h1 h2
 have b:=key j i hj hi h2 h1
 omega
theorem Ck{n:Nat}{c:Af}(h:c.Pins.length<=1048576)(hn:1048577<=n):∃r,UP n c=some r∧(r>=0↔∃x∈c.Pins,x.Clock=true)∧(r= -1∨∃j:Nat,r=(j:Int)∧∃h:j<c.Pins.length,c.Pins[j].Clock=true∧∀i (hi:i<c.Pins.length),i<j->¬c.Pins[i].Clock=true):=by
 obtain⟨r,e,hr⟩:=Nc (xs:=c.Pins) (L:=fun m i=>Ht n c.Pins (fun i5=>(some (-1))) m i) (f:=fun p=>fV n p) (P:=fun p=>p.Clock=true) (fun p _=>by rw [fV];exact BR Iff.rfl) (fun m i hi=>by
  simp only [Ht.eq_2,Cm hi,cT,AR hi,Ag,wT i]) (fun m=>by
  simp only [Ht.eq_2,DB,cF]) n (by omega)
 have e:Ht n c.Pins (fun i5=>(some (-1))) n 0=some r:=e
 exact⟨r,by rw [UP,jS,e];rfl,hr⟩
def SMA(a:Aq):Prop:=(a.Delay.length<=1048576∧∀t∈a.Delay,oB t)∧(a.Slew.length<=1048576∧∀t∈a.Slew,oB t)
structure wZ(c:Af):Prop where
 name:c.Name.size<=1048576
 pins:SMP c.Pins
 arcs:c.Arcs.length<=1048576∧∀a∈c.Arcs,SMA a
 truth:c.Truth.length<=1048576
theorem FY.c{c:Af}(h:FY c):wZ c:=
 ⟨h.1,⟨h.2.2.1.1,fun p hp=>(h.2.2.1.2 p hp).1⟩,⟨h.2.2.2.1.1,fun a ha=>⟨⟨(h.2.2.2.1.2 a ha).2.2.2.2.1.1,fun t ht=>EF.t (t:=t) ((h.2.2.2.1.2 a ha).2.2.2.2.1.2 t ht)⟩,⟨(h.2.2.2.1.2 a ha).2.2.2.2.2.1,fun t ht=>EF.t (t:=t) ((h.2.2.2.1.2 a ha).2.2.2.2.2.2 t ht)⟩⟩⟩,h.2.2.2.2.1.1⟩
def Nz(c:Af)(a:Aq):Prop:=((0<=a.From∧a.From+2<=c.Pins.length)∧(0<=a.To∧a.To+1<=c.Pins.length))∧
 if a.Kind=1 then Kz c.Pins a.From=false∧a.To+1=c.Pins.length∧(1<=a.Sense∧a.Sense<=3)∧SH a.Delay true∧SH a.Slew true
 else if a.Kind=2∨a.Kind=3 then Kz c.Pins a.From=true∧a.To+1=c.Pins.length∧a.Sense=0∧SH a.Delay true∧SH a.Slew true
 else if a.Kind=4∨a.Kind=5 then Kz c.Pins a.From=true∧a.To+1<c.Pins.length∧Kz c.Pins a.To=false∧a.Sense=0∧SH a.Delay false∧a.Slew.length=0
 else False
def Xm(c:Af)(a:Aq)(r:Int):Prop:=
 if a.Kind=4∨a.Kind=5 then a.Sense=0∧a.Slew.length=0∧SH a.Delay false∧a.From=r∧0<=a.From∧(0<=a.To∧a.To+2<=c.Pins.length)∧a.To≠a.From
 else SH a.Delay true∧SH a.Slew true∧a.To+1=c.Pins.length∧(0<=a.From∧a.From+2<=c.Pins.length)∧
  if a.Kind=1 then Kz c.Pins a.From=false∧1<=a.Sense∧a.Sense<=3 else if a.Kind=2∨a.Kind=3 then Kz c.Pins a.From=true∧a.Sense=0 else False
theorem oT(k:Int):k=1∨k=2∨k=3∨k=4∨k=5∨(k≠1∧k≠2∧k≠3∧k≠4∧k≠5):=by omega
theorem NR{x lo hi:Int}:(decide (x>=lo)&&decide (x<=hi))=true↔lo<=x∧x<=hi:=by simp only [Bool.and_eq_true,decide_eq_true_eq,ge_iff_le]
theorem AgI{n:Nat}{c:Af}{a:Aq}(hp:c.Pins.length<=5)(h2:2<=c.Pins.length)(h:SMA a)(hn:1048577<=n):BG (Nz c a) (Zz n c a):=by
 have w1:wrap .i64 ((c.Pins.length:Int)-1)=(c.Pins.length:Int)-1:=AY (by omega) (by omega)
 have w2:wrap .i64 ((c.Pins.length:Int)-1-1)=(c.Pins.length:Int)-1-1:=AY (by omega) (by omega)
 obtain⟨t1,e1,h1⟩:=Ts1 (n:=n) (pos:=true) h.1.2 hn
 obtain⟨t2,e2,h2'⟩:=Ts1 (n:=n) (pos:=true) h.2.2 hn
 obtain⟨t3,e3,h3⟩:=Ts1 (n:=n) (pos:=false) h.1.2 hn
 rw [Zz]
 simp only [IR,Ag,w1,w2,Em]
 by_cases c1:(0<=a.From∧a.From+2<=c.Pins.length)∧(0<=a.To∧a.To+1<=c.Pins.length)
 ·have d1:(decide (a.From>=0)&&decide (a.From<=(c.Pins.length:Int)-1-1))=true:=NR.2 (by omega)
  have d2:(decide (a.To>=0)&&decide (a.To<=(c.Pins.length:Int)-1))=true:=NR.2 (by omega)
  obtain⟨x,ex,hx⟩:=tA (l:=c.Pins) c1.1.1 (by omega)
  obtain⟨y,ey,hy⟩:=tA (l:=c.Pins) c1.2.1 (by omega)
  simp only [d1,d2,Bool.not_true,Bool.or_self,cF,ex,ey,Ag,hx,hy,e1,e2,e3,CT]
  have to1:(a.To==(c.Pins.length:Int)-1)=true↔a.To+1=c.Pins.length:=by rw [beq_iff_eq];omega
  have to2:decide (a.To<(c.Pins.length:Int)-1)=true↔a.To+1<c.Pins.length:=by rw [decide_eq_true_eq];omega
  have sl:((a.Slew.length:Int)==0)=true↔a.Slew.length=0:=by rw [beq_iff_eq];omega
  have nb:∀b:Bool,(!b)=true↔b=false:=by simp
  rcases oT a.Kind with k|k|k|k|k|k
  ·have:Nz c a↔_:=Iff.rfl
   simp only [k,show((1:Int)==1)=true from rfl,cT]
   refine BR ?_
   unfold Nz
   simp only [k,if_true,Bool.and_eq_true,nb,to1,NR,h1,h2']
   exact⟨fun⟨⟨⟨⟨p,q⟩,s⟩,u⟩,v⟩=>⟨c1,p,q,by simpa using s,u,v⟩,fun⟨_,p,q,s,u,v⟩=>⟨⟨⟨⟨p,q⟩,by simpa using s⟩,u⟩,v⟩⟩
  ·simp only [k,show((2:Int)==1)=false from rfl,show((2:Int)==2)=true from rfl,cT,cF]
   refine BR ?_
   unfold Nz
   simp only [k,show¬((2:Int)=1) by omega,if_false,true_or,if_true,Bool.and_eq_true,beq_iff_eq,to1,h1,h2']
   exact⟨fun⟨⟨⟨⟨p,q⟩,s⟩,u⟩,v⟩=>⟨c1,p,by omega,s,u,v⟩,fun⟨_,p,q,s,u,v⟩=>⟨⟨⟨⟨p,by omega⟩,s⟩,u⟩,v⟩⟩
  ·simp only [k,show((3:Int)==1)=false from rfl,show((3:Int)==2)=false from rfl,show((3:Int)==3)=true from rfl,cT,cF]
   refine BR ?_
   unfold Nz
   simp only [k,show¬((3:Int)=1) by omega,if_false,or_true,if_true,Bool.and_eq_true,beq_iff_eq,to1,h1,h2']
   exact⟨fun⟨⟨⟨⟨p,q⟩,s⟩,u⟩,v⟩=>⟨c1,p,by omega,s,u,v⟩,fun⟨_,p,q,s,u,v⟩=>⟨⟨⟨⟨p,by omega⟩,s⟩,u⟩,v⟩⟩
  ·simp only [k,show((4:Int)==1)=false from rfl,show((4:Int)==2)=false from rfl,show((4:Int)==3)=false from rfl,show((4:Int)==4)=true from rfl,cT,cF]
   refine BR ?_
   unfold Nz
   simp only [k,show¬((4:Int)=1) by omega,show¬((4:Int)=2∨(4:Int)=3) by omega,if_false,true_or,if_true,Bool.and_eq_true,beq_iff_eq,nb,to2,sl,h3,true_and]
   exact⟨fun⟨⟨⟨⟨⟨p,q⟩,z⟩,s⟩,u⟩,v⟩=>⟨c1,p,q,z,s,u,by omega⟩,fun⟨_,p,q,z,s,u,v⟩=>⟨⟨⟨⟨⟨p,q⟩,z⟩,s⟩,u⟩,by omega⟩⟩
  ·simp only [k,show((5:Int)==1)=false from rfl,show((5:Int)==2)=false from rfl,show((5:Int)==3)=false from rfl,show((5:Int)==4)=false from rfl,show((5:Int)==5)=true from rfl,cT,cF]
   refine BR ?_
   unfold Nz
   simp only [k,show¬((5:Int)=1) by omega,show¬((5:Int)=2∨(5:Int)=3) by omega,if_false,or_true,if_true,Bool.and_eq_true,beq_iff_eq,nb,to2,sl,h3,true_and]
   exact⟨fun⟨⟨⟨⟨⟨p,q⟩,z⟩,s⟩,u⟩,v⟩=>⟨c1,p,q,z,s,u,by omega⟩,fun⟨_,p,q,z,s,u,v⟩=>⟨⟨⟨⟨⟨p,q⟩,z⟩,s⟩,u⟩,by omega⟩⟩
  ·obtain⟨k1,k2,k3,k4,k5⟩:=k
   simp only [beq_eq_false_iff_ne.2 k1,beq_eq_false_iff_ne.2 k2,beq_eq_false_iff_ne.2 k3,beq_eq_false_iff_ne.2 k4,beq_eq_false_iff_ne.2 k5,cF]
   refine BF fun v=>?_
   have:=v.2
   rw [if_neg k1,if_neg (by omega),if_neg (by omega)]at this
   exact this
 ·have d1:(!(decide (a.From>=0)&&decide (a.From<=(c.Pins.length:Int)-1-1))|| !(decide (a.To>=0)&&decide (a.To<=(c.Pins.length:Int)-1)))=true:=by
   rw [Bool.or_eq_true,Bool.not_eq_true',Bool.not_eq_true',Bool.and_eq_false_iff,Bool.and_eq_false_iff,decide_eq_false_iff_not,decide_eq_false_iff_not,decide_eq_false_iff_not,decide_eq_false_iff_not]
   omega
  simp only [d1,cT]
  exact BF fun v=>c1 v.1
theorem AeI{n:Nat}{c:Af}{a:Aq}{r:Int}(hp:c.Pins.length<=5)(h2:2<=c.Pins.length)(h:SMA a)(hr:UP n c=some r)(hn:1048577<=n):BG (Xm c a r) (iI n c a):=by
 have w1:wrap .i64 ((c.Pins.length:Int)-1)=(c.Pins.length:Int)-1:=AY (by omega) (by omega)
 have w2:wrap .i64 ((c.Pins.length:Int)-1-1)=(c.Pins.length:Int)-1-1:=AY (by omega) (by omega)
 obtain⟨t1,e1,h1⟩:=Ts2 (n:=n) (pos:=true) h.1.2 h.1.1 hn
 obtain⟨t2,e2,h2'⟩:=Ts2 (n:=n) (pos:=true) h.2.2 h.2.1 hn
 obtain⟨t3,e3,h3⟩:=Ts2 (n:=n) (pos:=false) h.1.2 h.1.1 hn
 rw [iI]
 simp only [lM,cN,So,VF,Li,Ag,w1,w2,e1,e2,e3,hr,CT,Em]
 unfold Xm
 by_cases k:a.Kind=4∨a.Kind=5
 ·have kb:((a.Kind==4)||(a.Kind==5))=true:=by rw [Bool.or_eq_true,beq_iff_eq,beq_iff_eq];exact k
  simp only [kb,cT,if_pos k]
  refine BR ?_
  simp only [Bool.and_eq_true,beq_iff_eq,bne_iff_ne,decide_eq_true_eq,h3]
  exact⟨fun⟨⟨⟨⟨⟨⟨p,q⟩,s⟩,t⟩,u⟩,v⟩,x⟩=>⟨p,by omega,s,t,by omega,by omega,x⟩,fun⟨p,q,s,t,u,v,x⟩=>⟨⟨⟨⟨⟨⟨p,by omega⟩,s⟩,t⟩,by omega⟩,by omega⟩,x⟩⟩
 ·have kb:((a.Kind==4)||(a.Kind==5))=false:=by rw [Bool.or_eq_false_iff,beq_eq_false_iff_ne,beq_eq_false_iff_ne];omega
  simp only [kb,cF,if_neg k]
  by_cases g:(SH a.Delay true∧SH a.Slew true)∧a.To+1=c.Pins.length∧(0<=a.From∧a.From+2<=c.Pins.length)
  ·have gb:(((!t1|| !t2)||(a.To !=(c.Pins.length:Int)-1))|| !(decide (a.From>=0)&&decide (a.From<=(c.Pins.length:Int)-1-1)))=false:=by
    rw [h1.2 g.1.1,h2'.2 g.1.2]
    simp only [Bool.not_true,Bool.or_self,Bool.false_or,Bool.or_eq_false_iff,bne_eq_false_iff_eq,Bool.not_eq_false',NR];omega
   obtain⟨x,ex,hx⟩:=tA (l:=c.Pins) g.2.2.1 (by omega)
   simp only [gb,cF,ex,Ag,hx]
   have nb:∀b:Bool,(!b)=true↔b=false:=by simp
   have red:∀R:Prop,(SH a.Delay true∧SH a.Slew true∧a.To+1=c.Pins.length∧(0<=a.From∧a.From+2<=c.Pins.length)∧R)↔R:=fun R=>⟨fun q=>q.2.2.2.2,fun q=>⟨g.1.1,g.1.2,g.2.1,g.2.2,q⟩⟩
   rw [red]
   by_cases k1:a.Kind=1
   ·simp only [k1,show((1:Int)==1)=true from rfl,cT,if_true]
    refine BR ?_
    simp only [Bool.and_eq_true,nb,decide_eq_true_eq]
   ·simp only [beq_eq_false_iff_ne.2 k1,cF,if_neg k1]
    by_cases k2:a.Kind=2
    ·simp only [k2,show((2:Int)==2)=true from rfl,cT,true_or,if_true]
     refine BR ?_
     simp only [Bool.and_eq_true,beq_iff_eq]
    ·simp only [beq_eq_false_iff_ne.2 k2,cF]
     by_cases k3:a.Kind=3
     ·simp only [k3,show((3:Int)==3)=true from rfl,cT,or_true,if_true]
      refine BR ?_
      simp only [Bool.and_eq_true,beq_iff_eq]
     ·simp only [beq_eq_false_iff_ne.2 k3,cF]
      rw [if_neg (by omega)]
      exact BF fun v=>v
  ·have gb:(((!t1|| !t2)||(a.To !=(c.Pins.length:Int)-1))|| !(decide (a.From>=0)&&decide (a.From<=(c.Pins.length:Int)-1-1)))=true:=by
    cases hq:(((!t1|| !t2)||(a.To !=(c.Pins.length:Int)-1))|| !(decide (a.From>=0)&&decide (a.From<=(c.Pins.length:Int)-1-1)))with
    |true=>rfl
    |false=>
     exfalso;apply g
     simp only [Bool.or_eq_false_iff,Bool.not_eq_false',bne_eq_false_iff_eq,NR]at hq
     exact⟨⟨h1.1 hq.1.1.1,h2'.1 hq.1.1.2⟩,by omega,by omega⟩
   simp only [gb,cT]
   exact BF fun v=>g ⟨⟨v.1,v.2.1⟩,v.2.2.1,v.2.2.2.1⟩
theorem Wu{c:Af}{a:Aq}{r:Int}(hv:MH c.Pins)(hc:cnt c.Pins<=1)(hr:r= -1∨∃j:Nat,r=(j:Int)∧∃h:j<c.Pins.length,c.Pins[j].Clock=true∧∀i (hi:i<c.Pins.length),i<j->¬c.Pins[i].Clock=true)(hr0:r>=0↔∃x∈c.Pins,x.Clock=true):Nz c a↔Xm c a r:=by
 have few:=hv.few
 unfold Nz Xm
 by_cases k:a.Kind=4∨a.Kind=5
 ·rw [if_neg (by omega),if_neg (by omega),if_pos k,if_pos k]
  constructor
  ·rintro ⟨⟨⟨a1,a2⟩,a3,a4⟩,b1,b2,b3,b4,b5,b6⟩
   obtain⟨f,hf⟩:=Int.eq_ofNat_of_zero_le a1
   have hf:a.From=(f:Int):=hf
   have hfl:f<c.Pins.length:=by omega
   have cf:c.Pins[f].Clock=true:=by rw [hf,Ud hfl]at b1;exact b1
   have hge:r>=0:=hr0.2 ⟨_,List.getElem_mem hfl,cf⟩
   rcases hr with hr|⟨j,rfl,hj,hj1,_⟩
   ·omega
   ·have:=Vz hc hfl hj cf hj1
    subst this
    refine⟨b4,b6,b5,hf,a1,by omega,fun e=>?_⟩
    rw [e,b1]at b3;cases b3
  ·rintro ⟨b1,b2,b3,b4,b5,⟨b6,b7⟩,b8⟩
   rcases hr with hr|⟨j,hj0,hj,hj1,_⟩
   ·omega
   ·have cf:Kz c.Pins a.From=true:=by rw [b4,hj0,Ud hj];exact hj1
    have hjl:j+1<c.Pins.length:=by
     by_cases q:j+1<c.Pins.length
     ·exact q
     ·have:=(hv.pin j hj).2.1 (by omega)
      rw [this.2.2]at hj1;cases hj1
    obtain⟨t,ht⟩:=Int.eq_ofNat_of_zero_le b6
    have ht:a.To=(t:Int):=ht
    have htl:t<c.Pins.length:=by omega
    refine⟨⟨⟨by omega,by omega⟩,by omega,by omega⟩,cf,by omega,?_,b1,b3,b2⟩
    rw [ht,Ud htl]
    cases hq:c.Pins[t].Clock with
    |false=>rfl
    |true=>have:=Vz hc htl hj hq hj1;omega
 ·rw [if_neg k,if_neg k]
  by_cases k1:a.Kind=1
  ·rw [if_pos k1,if_pos k1]
   exact⟨fun⟨p,q,s,t,u,v⟩=>⟨u,v,s,p.1,q,t⟩,fun⟨u,v,s,p,q,t⟩=>⟨⟨p,by omega,by omega⟩,q,s,t,u,v⟩⟩
  ·rw [if_neg k1,if_neg k1]
   by_cases k2:a.Kind=2∨a.Kind=3
   ·rw [if_pos k2,if_pos k2]
    exact⟨fun⟨p,q,s,t,u,v⟩=>⟨u,v,s,p.1,q,t⟩,fun⟨u,v,s,p,q,t⟩=>⟨⟨p,by omega,by omega⟩,q,s,t,u,v⟩⟩
   ·rw [if_neg k2,if_neg k2]
    exact⟨fun h=>h.2.elim,fun h=>h.2.2.2.2.elim⟩
def IT(a b:Aq):Prop:=(a.Kind=b.Kind∧a.From=b.From)∧a.To=b.To
def GC(l:List Aq)(k:Int):Prop:=∃a∈l,a.Kind=k
def HY(c:Af):Prop:=
 (c.Kind=1∧cnt c.Pins=0∧c.Truth.length=2^(c.Pins.length-1)∧∀i,i<c.Truth.length->0<=gd c.Truth i∧gd c.Truth i<=1)∨
 (c.Kind=2∧cnt c.Pins=1∧c.Truth.length=0∧¬GC c.Arcs 1∧¬(GC c.Arcs 2↔GC c.Arcs 3))∨
 (c.Kind=3∧cnt c.Pins=1∧c.Truth.length=0∧GC c.Arcs 1∧GC c.Arcs 2∧¬GC c.Arcs 3)
def aM(A:Aq->Prop)(l:List Aq):Prop:=∀i (h:i<l.length),A l[i]∧∀j (hj:j<i),¬IT l[j] l[i]
structure PM(c:Af):Prop where
 name:EK c.Name=true
 pins:MH c.Pins
 few:c.Arcs.length<=8
 leak:0<=c.Leak∧c.Leak<=100000
 energy:0<=c.Energy∧c.Energy<=100000
 arcs:aM (Nz c) c.Arcs
 kind:HY c
theorem HY.cnt{c:Af}(h:HY c):cnt c.Pins<=1:=by
 rcases h with h|h|h<;>omega
theorem Kd{n:Nat}{c:Af}(hl:c.Arcs.length<=1048576)(hk:∀a∈c.Arcs,0<=a.Kind∧a.Kind<6)(hn:1048577<=n):∃l,cA n c=some l∧l.length=6∧∀k:Nat,k<6->0<=gd l k∧(gd l k>0↔GC c.Arcs k):=by
 have m6:KG 6 8=some 6:=Cf (n:=6) (by omega) (by omega)
 rw [cA,m6,Ag]
 refine loop (L:=fun m i (l:List Int)=>JI c (fun i31 l33=>(some l33)) m i l) c.Arcs.length (fun i l=>l.length=6∧∀k:Nat,k<6->(0<=gd l k∧gd l k<=i)∧(gd l k>0↔GC (c.Arcs.take i) k)) (fun o=>∃l,o=some l∧l.length=6∧∀k:Nat,k<6->0<=gd l k∧(gd l k>0↔GC c.Arcs k)) ?_ ?_ n 0 (List.replicate 6 0) (by omega) (by omega) ⟨by simp,fun k hk=>?_⟩
 ·intro m i l hi ⟨hll,hI⟩
  have hx:=hk _ (List.getElem_mem hi)
  obtain⟨q,hq⟩:=Int.eq_ofNat_of_zero_le hx.1
  have hq:c.Arcs[i].Kind=(q:Int):=hq
  have hq6:q<6:=by omega
  have hg:AE l c.Arcs[i].Kind=some (gd l q):=by rw [hq];exact gI (by omega)
  have hb:=(hI q hq6).1
  refine .inl ⟨l.set q (gd l q+1),⟨by simpa using hll,fun k hk6=>?_⟩,?_⟩
  ·have h1:=hI k hk6
   rw [HS (by omega)]
   have hs:GC (c.Arcs.take (i+1)) k↔GC (c.Arcs.take i) k∨c.Arcs[i].Kind=(k:Int):=by
    rw [List.take_succ_eq_append_getElem hi]
    unfold GC
    constructor
    ·rintro ⟨a,ha,e⟩
     rcases List.mem_append.1 ha with ha|ha
     ·exact .inl ⟨a,ha,e⟩
     ·obtain rfl:=List.mem_singleton.1 ha;exact .inr e
    ·rintro (⟨a,ha,e⟩|e)
     ·exact⟨a,List.mem_append.2 (.inl ha),e⟩
     ·exact⟨_,List.mem_append.2 (.inr (List.mem_singleton.2 rfl)),e⟩
   rw [hs]
   by_cases e:q=k
   ·subst e
    rw [if_pos rfl]
    exact⟨⟨by omega,by omega⟩,⟨fun _=>.inr hq,fun _=>by omega⟩⟩
   ·rw [if_neg e]
    refine⟨⟨by omega,by omega⟩,h1.2.trans ⟨.inl,fun h=>h.resolve_right fun h=>e (by omega)⟩⟩
  ·simp only [JI.eq_2,Cm hi,cT,AR hi,Ag,hg,wT i,AY (x:=gd l q+1) (by omega) (by omega)]
   rw [hq,Int.toNat_natCast]
 ·intro m l ⟨hll,hI⟩
  simp only [JI.eq_2,DB,cF]
  refine⟨l,rfl,hll,fun k hk6=>?_⟩
  have:=hI k hk6
  rw [List.take_length]at this
  exact⟨this.1.1,this.2⟩
 ·have:gd (List.replicate 6 0) k=0:=by simp only [gd,List.getD_eq_getElem?_getD,List.getElem?_replicate];split<;>rfl
  rw [this]
  refine⟨by omega,⟨fun h=>by omega,fun⟨a,ha,_⟩=>by simp at ha⟩⟩
theorem Hs{n:Nat}{c:Af}(hl:c.Arcs.length<=1048576)(k:Int)(hn:1048577<=n):BG (GC c.Arcs k) (ME n c k):=by
 obtain⟨r,e,hr,_⟩:=Nc (xs:=c.Arcs) (L:=fun m i=>Hn n c.Arcs k (fun i6=>(some (-1))) m i) (f:=fun a=>YY n a k) (P:=fun a=>a.Kind=k) (fun p _=>by rw [YY];exact BR beq_iff_eq) (fun m i hi=>by
  simp only [Hn.eq_2,Cm hi,cT,AR hi,Ag,wT i]) (fun m=>by
  simp only [Hn.eq_2,DB,cF]) n (by omega)
 have e:Hn n c.Arcs k (fun i6=>(some (-1))) n 0=some r:=e
 rw [ME,nA,mA,e]
 exact BR (by rw [decide_eq_true_eq];exact hr)
theorem gN{L:Nat}(h1:2<=L)(h2:L<=5):VX .i64 1 ((L:Int)-1)=((2^(L-1):Nat):Int)∧VX .i64 1 (IntKind.wrap IntKind.u64 ((L:Int)-1))=((2^(L-1):Nat):Int)∧decide (IntKind.wrap IntKind.u64 ((L:Int)-1)<0)=false:=by
 have:L=2∨L=3∨L=4∨L=5:=by omega
 rcases this with rfl|rfl|rfl|rfl<;>decide
theorem Tr1{n:Nat}{c:Af}{o:Option Bool}{Q:Prop}(h:c.Truth.length<=1048576)(hn:1048577<=n)(hQ:BG Q o):BG ((∀i,i<c.Truth.length->0<=gd c.Truth i∧gd c.Truth i<=1)∧Q) (Ks n c (fun _=>o) n 0):=by
 refine(Ei (L:=fun m i=>Ks n c (fun _=>o) m i) (Q:=Q) c.Truth.length 0 (fun i=>0<=gd c.Truth i∧gd c.Truth i<=1) ?_ ?_ n 0 (by omega) (by omega) (by omega) (fun j _ h=>by omega)).iff ⟨fun a=>⟨fun i hi=>a.1 i (by omega) hi,a.2⟩,fun a=>⟨fun i _ hi=>a.1 i hi,a.2⟩⟩
 ·intro m i _ hi
  simp only [Ks.eq_2,Cm hi,cT,gI hi,Ag,IR,wT i]
  by_cases c1:0<=gd c.Truth i∧gd c.Truth i<=1
  ·have d1:(decide (gd c.Truth i>=0)&&decide (gd c.Truth i<=1))=true:=NR.2 c1
   simp only [d1,Bool.not_true,cF]
   exact .inl ⟨c1,by trivial⟩
  ·have d1:(decide (gd c.Truth i>=0)&&decide (gd c.Truth i<=1))=false:=by
    rw [Bool.and_eq_false_iff,decide_eq_false_iff_not,decide_eq_false_iff_not];omega
   simp only [d1,Bool.not_false,cT]
   exact .inr ⟨c1,by trivial⟩
 ·intro m i h1 h2 _
  obtain rfl:i=c.Truth.length:=by omega
  simp only [Ks.eq_2,DB,cF]
  exact hQ
theorem In2{n:Nat}{c:Af}{i:Nat}(hi:i<c.Arcs.length)(hl:c.Arcs.length<=1048576)(hn:1048577<=n)(k2:Int->Option Bool):(∀j (hj:j<i),¬IT c.Arcs[j] c.Arcs[i])∧JL c i c.Arcs[i] k2 n 0=k2 i∨(¬∀j (hj:j<i),¬IT c.Arcs[j] c.Arcs[i])∧JL c i c.Arcs[i] k2 n 0=some false:=by
 refine loop (L:=fun m j (_:Unit)=>JL c i c.Arcs[i] k2 m j) i (fun b _=>∀j (hj:j<i),j<b->¬IT c.Arcs[j] c.Arcs[i]) (fun o=>(∀j (hj:j<i),¬IT c.Arcs[j] c.Arcs[i])∧o=k2 i∨(¬∀j (hj:j<i),¬IT c.Arcs[j] c.Arcs[i])∧o=some false) ?_ ?_ n 0 () (by omega) (by omega) (fun j _ hj=>by omega)
 ·intro m j _ hj hJ
  have e1:IT c.Arcs[j] c.Arcs[i]↔(((c.Arcs[j].Kind==c.Arcs[i].Kind)&&(c.Arcs[j].From==c.Arcs[i].From))&&(c.Arcs[j].To==c.Arcs[i].To))=true:=by
   unfold IT;simp only [Bool.and_eq_true,beq_iff_eq]
  simp only [JL.eq_2,Cm hj,cT,AR (show j<c.Arcs.length by omega),Ag,CT,wT j]
  cases e:(((c.Arcs[j].Kind==c.Arcs[i].Kind)&&(c.Arcs[j].From==c.Arcs[i].From))&&(c.Arcs[j].To==c.Arcs[i].To))with
  |true=>exact .inr (.inr ⟨fun h=>h j hj (e1.2 e),by trivial⟩)
  |false=>
   refine .inl ⟨(),fun a ha hb=>?_,by trivial⟩
   by_cases ea:a=j
   ·subst ea;intro hs;rw [e1.1 hs]at e;cases e
   ·exact hJ a ha (by omega)
 ·intro m _ hJ
  simp only [JL.eq_2,DB,cF]
  exact .inl ⟨fun j hj=>hJ j hj hj,by trivial⟩
theorem AlO{n:Nat}{c:Af}(h:wZ c)(hn:1048577<=n):BG (PM c) (F_b n c):=by
 obtain⟨r,e,hr,hc⟩:=Pn1 (n:=n) h.pins hn
 rw [F_b,e]
 simp only [Ag,Nm2 h.name hn,IR,Em]
 by_cases g:(MH c.Pins∧EK c.Name=true)∧c.Arcs.length<=8∧(0<=c.Leak∧c.Leak<=100000)∧(0<=c.Energy∧c.Energy<=100000)
 ·have rt:r.2=true:=hr.2 g.1.1
  have gb:((((!r.2|| !EK c.Name)||decide ((c.Arcs.length:Int)>8))|| !(decide (c.Leak>=0)&&decide (c.Leak<=100000)))|| !(decide (c.Energy>=0)&&decide (c.Energy<=100000)))=false:=by
   rw [rt,g.1.2]
   simp only [Bool.not_true,Bool.or_self,Bool.false_or,Bool.or_eq_false_iff,decide_eq_false_iff_not,Bool.not_eq_false',NR];omega
  simp only [gb,cF]
  have few:=g.1.1.few
  have hal:=h.arcs.1
  have hcnt:=hc rt
  refine(Ei (L:=fun m i=>Kv n c _ m i) (Q:=HY c) c.Arcs.length 0 (fun i=>∀(hi:i<c.Arcs.length),Nz c c.Arcs[i]∧∀j (hj:j<i),¬IT c.Arcs[j] c.Arcs[i]) ?_ ?_ n 0 (by omega) (by omega) (by omega) (fun j _ h=>by omega)).iff ?_
  ·intro m i _ hi
   obtain⟨b,e,hb⟩:=AgI (n:=n) (c:=c) few.2 few.1 (h.arcs.2 _ (List.getElem_mem hi)) hn
   simp only [Kv.eq_2,Cm hi,cT,AR hi,Ag,e]
   cases b with
   |false=>exact .inr ⟨fun q=>(by have:=hb.2 (q hi).1;cases this),by trivial⟩
   |true=>
    simp only [Bool.not_true,cF,wT i]
    rcases In2 (n:=n) hi hal hn (fun _=>Kv n c _ m ((i+1:Nat):Int))with ⟨q1,q2⟩|⟨q1,q2⟩
    ·exact .inl ⟨fun _=>⟨hb.1 rfl,q1⟩,q2⟩
    ·exact .inr ⟨fun q=>q1 (q hi).2,q2⟩
  ·intro m i h1 h2 hA
   obtain rfl:i=c.Arcs.length:=by omega
   simp only [Kv.eq_2,DB,cF]
   obtain⟨l,e,hl6,hl⟩:=Kd (n:=n) hal (fun a ha=>by
    obtain⟨j,hj,rfl⟩:=List.getElem_of_mem ha
    have:=(hA j (by omega) hj hj).1.2
    rcases oT c.Arcs[j].Kind with k|k|k|k|k|k<;>first|omega|skip
    obtain⟨k1,k2,k3,k4,k5⟩:=k
    rw [if_neg k1,if_neg (by omega),if_neg (by omega)]at this
    exact this.elim) hn
   have g1:AE l 1=some (gd l 1):=gI (i:=1) (by omega)
   have g2:AE l 2=some (gd l 2):=gI (i:=2) (by omega)
   have g3:AE l 3=some (gd l 3):=gI (i:=3) (by omega)
   have k1:0<=gd l 1∧(gd l 1>0↔GC c.Arcs 1):=hl 1 (by omega)
   have k2:0<=gd l 2∧(gd l 2>0↔GC c.Arcs 2):=hl 2 (by omega)
   have k3:0<=gd l 3∧(gd l 3>0↔GC c.Arcs 3):=hl 3 (by omega)
   have wl:wrap .i64 ((c.Pins.length:Int)-1)=(c.Pins.length:Int)-1:=AY (by omega) (by omega)
   obtain⟨s1,s2,s3⟩:=gN few.1 few.2
   rw [e,Ag]
   simp only [g1,g2,g3,Ag,wl,s2,s3,cF,CT]
   have tl:((c.Truth.length:Int)==0)=true↔c.Truth.length=0:=by rw [beq_iff_eq];omega
   have tw:((c.Truth.length:Int)==((2^(c.Pins.length-1):Nat):Int))=true↔c.Truth.length=2^(c.Pins.length-1):=by rw [beq_iff_eq];omega
   have c0:(r.1==0)=true↔cnt c.Pins=0:=by rw [beq_iff_eq,hcnt];omega
   have c1:(r.1==1)=true↔cnt c.Pins=1:=by rw [beq_iff_eq,hcnt];omega
   have kk1:(gd l 1==0)=true↔¬GC c.Arcs 1:=by rw [beq_iff_eq,←k1.2];omega
   have kk3:(gd l 3==0)=true↔¬GC c.Arcs 3:=by rw [beq_iff_eq,←k3.2];omega
   have p1:decide (gd l 1>0)=true↔GC c.Arcs 1:=by rw [decide_eq_true_eq];exact k1.2
   have p2:decide (gd l 2>0)=true↔GC c.Arcs 2:=by rw [decide_eq_true_eq];exact k2.2
   have p3:decide (gd l 3>0)=true↔GC c.Arcs 3:=by rw [decide_eq_true_eq];exact k3.2
   have x23:(decide (gd l 2>0) !=decide (gd l 3>0))=true↔¬(GC c.Arcs 2↔GC c.Arcs 3):=by
    rw [←p2,←p3];cases decide (gd l 2>0)<;>cases decide (gd l 3>0)<;>simp
   by_cases q1:c.Kind=1
   ·simp only [q1,show((1:Int)==1)=true from rfl,cT]
    refine(Tr1 (c:=c) (o:=some ((r.1==0)&&((c.Truth.length:Int)==((2^(c.Pins.length-1):Nat):Int)))) (Q:=cnt c.Pins=0∧c.Truth.length=2^(c.Pins.length-1)) h.truth hn (BR (by rw [Bool.and_eq_true,c0,tw]))).iff ?_
    unfold HY
    constructor
    ·rintro ⟨a,b,d⟩;exact .inl ⟨q1,b,d,a⟩
    ·rintro (⟨_,b,d,a⟩|⟨a,_⟩|⟨a,_⟩)
     ·exact⟨a,b,d⟩
     ·omega
     ·omega
   ·simp only [beq_eq_false_iff_ne.2 q1,cF]
    by_cases q2:c.Kind=2
    ·simp only [q2,show((2:Int)==2)=true from rfl,cT]
     refine BR ?_
     rw [Bool.and_eq_true,Bool.and_eq_true,Bool.and_eq_true,c1,kk1,x23,tl]
     unfold HY
     constructor
     ·rintro ⟨⟨⟨a,b⟩,d⟩,f⟩;exact .inr (.inl ⟨q2,a,f,b,d⟩)
     ·rintro (⟨a,_⟩|⟨_,a,f,b,d⟩|⟨a,_⟩)
      ·omega
      ·exact⟨⟨⟨a,b⟩,d⟩,f⟩
      ·omega
    ·simp only [beq_eq_false_iff_ne.2 q2,cF]
     by_cases q3:c.Kind=3
     ·simp only [q3,show((3:Int)==3)=true from rfl,cT]
      refine BR ?_
      simp only [Bool.and_eq_true,true_and,c1,p1,p2,kk3,tl]
      unfold HY
      constructor
      ·rintro ⟨⟨⟨⟨a,b⟩,d⟩,x⟩,f⟩;exact .inr (.inr ⟨q3,a,f,b,d,x⟩)
      ·rintro (⟨a,_⟩|⟨a,_⟩|⟨_,a,f,b,d,x⟩)
       ·omega
       ·omega
       ·exact⟨⟨⟨⟨a,b⟩,d⟩,x⟩,f⟩
     ·simp only [beq_eq_false_iff_ne.2 q3,cF]
      refine BF ?_
      rintro (⟨a,_⟩|⟨a,_⟩|⟨a,_⟩)
      ·exact q1 a
      ·exact q2 a
      ·exact q3 a
  ·constructor
   ·rintro ⟨a,b⟩
    exact⟨g.1.2,g.1.1,g.2.1,g.2.2.1,g.2.2.2,fun i hi=>a i (by omega) hi hi,b⟩
   ·rintro v
    exact⟨fun i _ _ hi=>v.arcs i hi,v.kind⟩
 ·have gb:((((!r.2|| !EK c.Name)||decide ((c.Arcs.length:Int)>8))|| !(decide (c.Leak>=0)&&decide (c.Leak<=100000)))|| !(decide (c.Energy>=0)&&decide (c.Energy<=100000)))=true:=by
   cases hq:((((!r.2|| !EK c.Name)||decide ((c.Arcs.length:Int)>8))|| !(decide (c.Leak>=0)&&decide (c.Leak<=100000)))|| !(decide (c.Energy>=0)&&decide (c.Energy<=100000)))with
   |true=>rfl
   |false=>
    exfalso;apply g
    simp only [Bool.or_eq_false_iff,Bool.not_eq_false',decide_eq_false_iff_not,NR]at hq
    exact⟨⟨hr.1 hq.1.1.1.1,hq.1.1.1.2⟩,by omega,by simpa using hq.1.2,by simpa using hq.2⟩
  simp only [gb,cT]
  exact BF fun v=>g ⟨⟨v.pins,v.name⟩,v.few,v.leak,v.energy⟩
theorem Cn{n:Nat}{l:List BQ}{K:Int->Option Bool}{c:Af}(hc:c.Pins=l)(hl:l.length<=1048576)(hn:1048577<=n):GT c (fun i _=>K i) n 0 0=K (cnt l):=by
 subst hc
 refine loop (L:=fun m i (q:Int)=>GT c (fun i _=>K i) m q i) c.Pins.length (fun i q=>q=cnt (c.Pins.take i)) (fun o=>o=K (cnt c.Pins)) ?_ ?_ n 0 0 (by omega) (by omega) (by simp [cnt])
 ·intro m i q hi hq
  have ct:=Sn hi
  have cl:cnt (c.Pins.take i)<=1048576:=Nat.le_trans List.countP_le_length (by simp;omega)
  cases hk:c.Pins[i].Clock with
  |true=>
   rw [hk,if_pos rfl]at ct
   refine .inl ⟨q+1,by rw [ct,hq];simp,?_⟩
   simp only [GT.eq_2,Cm hi,cT,AR hi,Ag,hk,wT i,AY (x:=q+1) (by omega) (by omega)]
  |false=>
   rw [hk]at ct
   refine .inl ⟨q,by rw [ct,hq];simp,?_⟩
   simp only [GT.eq_2,Cm hi,cT,AR hi,Ag,hk,cF,wT i]
 ·intro m q hq
  rw [List.take_length]at hq
  simp only [GT.eq_2,DB,cF,hq]
theorem Kn2{n:Nat}{c:Af}(h:wZ c)(hv:MH c.Pins)(hn:1048577<=n):BG (HY c) (gW n c):=by
 have few:=hv.few
 obtain⟨b1,e1,h1⟩:=Hs (n:=n) h.arcs.1 1 hn
 obtain⟨b2,e2,h2⟩:=Hs (n:=n) h.arcs.1 2 hn
 obtain⟨b3,e3,h3⟩:=Hs (n:=n) h.arcs.1 3 hn
 have wl:wrap .i64 ((c.Pins.length:Int)-1)=(c.Pins.length:Int)-1:=AY (by omega) (by omega)
 have o:=(Cn (n:=n) (c:=c) (l:=c.Pins) (K:=fun i16=>(cond (c.Kind==1) (Option.bind (cond (i16==0) (Option.bind (So n c) fun r20=>(cond (decide (r20<0)) none (some ((((c.Truth.length:Int))==(VX .i64 1 r20)))))) (some false)) fun c20=>(Option.bind (cond c20 (Option.bind (NF n c.Truth 0 1) fun r26=>(some r26)) (some false)) fun c26=>(some c26))) (cond (c.Kind==2) (Option.bind (cond (((i16==1))&&((((c.Truth.length:Int))==0))) (Option.bind (ME n c 1) fun r38=>(some (!r38))) (some false)) fun c38=>(Option.bind (cond c38 (Option.bind (ME n c 2) fun r43=>(Option.bind (ME n c 3) fun r45=>(some ((r43 !=r45))))) (some false)) fun c43=>(some c43))) (cond (c.Kind==3) (Option.bind (cond (((i16==1))&&((((c.Truth.length:Int))==0))) (Option.bind (ME n c 1) fun r61=>(some r61)) (some false)) fun c61=>(Option.bind (cond c61 (Option.bind (ME n c 2) fun r74=>(some r74)) (some false)) fun c74=>(Option.bind (cond c74 (Option.bind (ME n c 3) fun r87=>(some (!r87))) (some false)) fun c87=>(some c87)))) (some false))))) rfl h.pins.1 hn)
 have o2:gW n c=_:=o
 rw [o2]
 obtain⟨s1,s2,s3⟩:=gN few.1 few.2
 have d0:decide ((c.Pins.length:Int)-1<0)=false:=decide_eq_false (by omega)
 simp only [So,VF,Ag,wl,d0,cF,s1,AW (n:=n) h.truth hn,e1,e2,e3,CT]
 have tl:((c.Truth.length:Int)==0)=true↔c.Truth.length=0:=by rw [beq_iff_eq];omega
 have tw:((c.Truth.length:Int)==((2^(c.Pins.length-1):Nat):Int))=true↔c.Truth.length=2^(c.Pins.length-1):=by rw [beq_iff_eq];omega
 have c0:((cnt c.Pins:Int)==0)=true↔cnt c.Pins=0:=by rw [beq_iff_eq];omega
 have c1:((cnt c.Pins:Int)==1)=true↔cnt c.Pins=1:=by rw [beq_iff_eq];omega
 have n1:(!b1)=true↔¬GC c.Arcs 1:=by rw [←h1];cases b1<;>simp
 have n3:(!b3)=true↔¬GC c.Arcs 3:=by rw [←h3];cases b3<;>simp
 have x23:(b2 !=b3)=true↔¬(GC c.Arcs 2↔GC c.Arcs 3):=by rw [←h2,←h3];cases b2<;>cases b3<;>simp
 by_cases q1:c.Kind=1
 ·simp only [q1,show((1:Int)==1)=true from rfl,cT]
  refine BR ?_
  rw [Bool.and_eq_true,Bool.and_eq_true,c0,tw,PA]
  unfold HY
  constructor
  ·rintro ⟨⟨a,b⟩,d⟩;exact .inl ⟨q1,a,b,d⟩
  ·rintro (⟨_,a,b,d⟩|⟨a,_⟩|⟨a,_⟩)
   ·exact⟨⟨a,b⟩,d⟩
   ·omega
   ·omega
 ·simp only [beq_eq_false_iff_ne.2 q1,cF]
  by_cases q2:c.Kind=2
  ·simp only [q2,show((2:Int)==2)=true from rfl,cT]
   refine BR ?_
   simp only [Bool.and_eq_true,c1,tl,n1,x23]
   unfold HY
   constructor
   ·rintro ⟨⟨⟨a,b⟩,d⟩,f⟩;exact .inr (.inl ⟨q2,a,b,d,f⟩)
   ·rintro (⟨a,_⟩|⟨_,a,b,d,f⟩|⟨a,_⟩)
    ·omega
    ·exact⟨⟨⟨a,b⟩,d⟩,f⟩
    ·omega
  ·simp only [beq_eq_false_iff_ne.2 q2,cF]
   by_cases q3:c.Kind=3
   ·simp only [q3,show((3:Int)==3)=true from rfl,cT]
    refine BR ?_
    simp only [Bool.and_eq_true,true_and,c1,tl,h1,h2,n3]
    unfold HY
    constructor
    ·rintro ⟨⟨⟨⟨a,b⟩,d⟩,x⟩,f⟩;exact .inr (.inr ⟨q3,a,b,d,x,f⟩)
    ·rintro (⟨a,_⟩|⟨a,_⟩|⟨_,a,b,d,x,f⟩)
     ·omega
     ·omega
     ·exact⟨⟨⟨⟨a,b⟩,d⟩,x⟩,f⟩
   ·simp only [beq_eq_false_iff_ne.2 q3,cF]
    refine BF ?_
    rintro (⟨a,_⟩|⟨a,_⟩|⟨a,_⟩)
    ·exact q1 a
    ·exact q2 a
    ·exact q3 a
theorem As2{n:Nat}{c:Af}{r:Int}(h:wZ c)(hv:MH c.Pins)(hr:UP n c=some r)(hn:1048577<=n):BG (aM (fun a=>Xm c a r) c.Arcs∧c.Arcs.length<=8) (eG n c):=by
 have few:=hv.few
 have hal:=h.arcs.1
 rw [eG]
 refine(Ei (L:=fun m i=>Iu n c _ m i) (Q:=c.Arcs.length<=8) c.Arcs.length 0 (fun i=>∀(hi:i<c.Arcs.length),Xm c c.Arcs[i] r∧∀j (hj:j<i),¬IT c.Arcs[j] c.Arcs[i]) ?_ ?_ n 0 (by omega) (by omega) (by omega) (fun j _ h=>by omega)).iff ⟨fun a=>⟨fun i hi=>a.1 i (by omega) hi hi,a.2⟩,fun a=>⟨fun i _ _ hi=>a.1 i hi,a.2⟩⟩
 ·intro m i _ hi
  obtain⟨b,e,hb⟩:=AeI (n:=n) (c:=c) few.2 few.1 (h.arcs.2 _ (List.getElem_mem hi)) hr hn
  have hsub:TT c.Arcs 0 (i:Int)=some (c.Arcs.take i):=by
   unfold TT
   rw [if_pos ⟨by omega,by omega,by omega⟩];simp
  obtain⟨q,e2,hq,_⟩:=Nc (xs:=c.Arcs.take i) (L:=fun m j=>Hw n (c.Arcs.take i) c.Arcs[i] (fun i6=>(some (-1))) m j) (f:=fun a=>gR n a c.Arcs[i]) (P:=fun a=>IT a c.Arcs[i]) (fun p _=>by rw [gR];exact BR (by unfold IT;simp only [Bool.and_eq_true,beq_iff_eq])) (fun m j hj=>by
   simp only [Hw.eq_2,Cm hj,cT,AR hj,Ag,wS (show j<4611686018427387904 by have:=hj;simp at this;omega)]) (fun m=>by
   simp only [Hw.eq_2,DB,cF]) n (by simp;omega)
  have e2:Hw n (c.Arcs.take i) c.Arcs[i] (fun i6=>(some (-1))) n 0=some q:=e2
  simp only [Iu.eq_2,Cm hi,cT,AR hi,Ag,e,hsub,mI,mC,e2,Em,wT i]
  have hd:(decide (q>=0))=true↔¬∀j (hj:j<i),¬IT c.Arcs[j] c.Arcs[i]:=by
   rw [decide_eq_true_eq,hq]
   constructor
   ·rintro ⟨x,hx,hs⟩ hall
    obtain⟨j,hj,rfl⟩:=List.mem_take_iff_getElem.1 hx
    exact hall j (by omega) hs
   ·intro hna
    refine Classical.byContradiction fun hne=>hna fun j hj hs=>hne ⟨c.Arcs[j],List.mem_take_iff_getElem.2 ⟨j,by omega,rfl⟩,hs⟩
  cases hc:(!b||decide (q>=0))with
  |true=>
   refine .inr ⟨fun g=>?_,by trivial⟩
   have:=g hi
   rw [Bool.or_eq_true]at hc
   rcases hc with hc|hc
   ·rw [hb.2 this.1]at hc;cases hc
   ·exact hd.1 hc this.2
  |false=>
   rw [Bool.or_eq_false_iff]at hc
   refine .inl ⟨fun _=>⟨hb.1 (by simpa using hc.1),Classical.byContradiction fun g=>?_⟩,by trivial⟩
   have:=hd.2 g
   rw [hc.2]at this;cases this
 ·intro m i h1 h2 _
  obtain rfl:i=c.Arcs.length:=by omega
  simp only [Iu.eq_2,DB,cF]
  exact BR (by rw [decide_eq_true_eq];omega)
theorem AjL{n:Nat}{c:Af}(h:wZ c)(hn:1048577<=n):BG (PM c) (aF n c):=by
 obtain⟨r,hr,hr0,hr1⟩:=Ck (n:=n) h.pins.1 hn
 rw [aF,Nm1 h.name hn,Ag]
 cases hnm:EK c.Name with
 |false=>
  simp only [cF,Ag]
  exact BF fun v=>(by have:=v.name;rw [hnm]at this;cases this)
 |true=>
  obtain⟨b,e,hb⟩:=Pn2 (n:=n) h.pins hn
  simp only [cT,e,Ag]
  cases b with
  |false=>
   simp only [cF,Ag]
   exact BF fun v=>(by have:=hb.2 v.pins;cases this)
  |true=>
   have hv:=hb.1 rfl
   obtain⟨b1,e1,h1⟩:=As2 (n:=n) h hv hr hn
   obtain⟨b2,e2,h2⟩:=Kn2 (n:=n) h hv hn
   simp only [cT,e1,e2,Li,Ag,CT]
   refine BR ?_
   rw [Bool.and_eq_true,Bool.and_eq_true,Bool.and_eq_true,h1,h2,NR,NR]
   constructor
   ·rintro ⟨⟨⟨⟨a,a8⟩,b⟩,d⟩,f⟩
    exact⟨hnm,hv,a8,b,d,fun i hi=>⟨(Wu hv f.cnt hr1 hr0).2 (a i hi).1,(a i hi).2⟩,f⟩
   ·rintro v
    exact⟨⟨⟨⟨fun i hi=>⟨(Wu hv v.kind.cnt hr1 hr0).1 (v.arcs i hi).1,(v.arcs i hi).2⟩,v.few⟩,v.leak⟩,v.energy⟩,v.kind⟩
def GM(xs:List ByteArray):Prop:=∀k (h:k<xs.length),EK xs[k]=true∧∀i (hi:i<k),(xs[i].toList==xs[k].toList)=false
theorem qV{n:Nat}{xs:List ByteArray}(h:xs.length<=1048576)(hs:∀x∈xs,x.size<=1048576)(hn:1048577<=n):BG (GM xs) (tP n xs):=by
 rw [tP]
 refine(Ei (L:=fun m i=>IG n xs _ m i) (Q:=True) xs.length 0 (fun i=>∀(hi:i<xs.length),EK xs[i]=true∧∀j (hj:j<i),(xs[j].toList==xs[i].toList)=false) ?_ ?_ n 0 (by omega) (by omega) (by omega) (fun j _ h=>by omega)).iff ⟨fun a k hk=>a.1 k (by omega) hk hk,fun a=>⟨fun i _ _ hi=>a i hi,trivial⟩⟩
 ·intro m i _ hi
  simp only [IG.eq_2,Cm hi,cT,AR hi,Ag,Nm2 (hs _ (List.getElem_mem hi)) hn]
  cases hb:EK xs[i]with
  |false=>simp only [Bool.not_false,cT];exact .inr ⟨fun g=>(by have:=(g hi).1;rw [hb]at this;cases this),trivial⟩
  |true=>
   simp only [Bool.not_true,cF]
   have key:Ka xs (i:Int) (fun i22=>IG n xs (fun i5=>some true) m (wrap .i64 ((i:Int)+1))) n 0=cond ((xs.take i).all (fun x=>!(x.toList==xs[i].toList))) (IG n xs (fun i5=>some true) m (wrap .i64 ((i:Int)+1))) (some false):=by
    refine PU (xs:=xs.take i) (L:=fun q j=>Ka xs (i:Int) (fun i22=>IG n xs (fun i5=>some true) m (wrap .i64 ((i:Int)+1))) q j) (fun x=>!(x.toList==xs[i].toList)) ?_ ?_ n (by simp;omega)
    ·intro q j hj
     have hj':j<i:=by simp at hj;omega
     have hd:decide ((j:Int)<(i:Int))=true:=decide_eq_true (by omega)
     simp only [Ka.eq_2,hd,cT,AR (show j<xs.length by omega),AR hi,Ag,List.getElem_take,wT j]
     cases(xs[j].toList==xs[i].toList)<;>rfl
    ·intro q
     have hl:(xs.take i).length=i:=by simp;omega
     have hd:decide (((xs.take i).length:Int)<(i:Int))=false:=decide_eq_false (by rw [hl];omega)
     simp only [Ka.eq_2,hd,cF]
   rw [key]
   cases ha:(xs.take i).all (fun x=>!(x.toList==xs[i].toList))with
   |true=>
    rw [cT,wT i]
    refine .inl ⟨fun _=>⟨hb,fun j hj=>?_⟩,rfl⟩
    have:=List.all_eq_true.1 ha xs[j] (List.mem_take_iff_getElem.2 ⟨j,by omega,rfl⟩)
    simpa using this
   |false=>
    rw [cF]
    refine .inr ⟨fun g=>?_,rfl⟩
    have:(xs.take i).all (fun x=>!(x.toList==xs[i].toList))=true:=by
     rw [List.all_eq_true]
     intro x hx
     obtain⟨j,hj,rfl⟩:=List.mem_take_iff_getElem.1 hx
     have:=(g hi).2 j (by omega)
     simp [this]
    rw [ha]at this;cases this
 ·intro m i h1 h2 _
  obtain rfl:i=xs.length:=by omega
  simp only [IG.eq_2,DB,cF]
  exact Cj trivial
structure Tk(l:Ad):Prop where
 few:l.Cells.length<=8
 cells:∀i (h:i<l.Cells.length),PM l.Cells[i]
 names:∀k (h:k<l.Cells.length),∀i (hi:i<k),(l.Cells[i].Name.toList==l.Cells[k].Name.toList)=false
def bD(l:Ad):Prop:=l.Cells.length<=1048576∧∀c∈l.Cells,wZ c
theorem Lb1{n:Nat}{l:Ad}(h:bD l)(hn:1048577<=n):BG (Tk l) (zD n l):=by
 have h1:=h.1
 rw [zD]
 refine(Ei (L:=fun m i=>IP n l _ m i) (Q:=l.Cells.length<=8) l.Cells.length 0 (fun i=>∀(hi:i<l.Cells.length),PM l.Cells[i]∧∀j (hj:j<i),(l.Cells[j].Name.toList==l.Cells[i].Name.toList)=false) ?_ ?_ n 0 (by omega) (by omega) (by omega) (fun j _ h=>by omega)).iff ⟨fun a=>⟨a.2,fun i hi=>(a.1 i (by omega) hi hi).1,fun k hk=>(a.1 k (by omega) hk hk).2⟩,fun a=>⟨fun i _ _ hi=>⟨a.cells i hi,a.names i hi⟩,a.few⟩⟩
 ·intro m i _ hi
  obtain⟨b,e,hb⟩:=AlO (n:=n) (h.2 _ (List.getElem_mem hi)) hn
  simp only [IP.eq_2,Cm hi,cT,AR hi,Ag,e]
  cases b with
  |false=>simp only [Bool.not_false,cT];exact .inr ⟨fun g=>(by have:=hb.2 (g hi).1;cases this),trivial⟩
  |true=>
   simp only [Bool.not_true,cF]
   have key:Kl l (i:Int) (fun i36=>IP n l (fun i12=>some (decide ((l.Cells.length:Int)<=8))) m (wrap .i64 ((i:Int)+1))) n 0=cond ((l.Cells.take i).all (fun x=>!(x.Name.toList==l.Cells[i].Name.toList))) (IP n l (fun i12=>some (decide ((l.Cells.length:Int)<=8))) m (wrap .i64 ((i:Int)+1))) (some false):=by
    refine PU (xs:=l.Cells.take i) (L:=fun q j=>Kl l (i:Int) (fun i36=>IP n l (fun i12=>some (decide ((l.Cells.length:Int)<=8))) m (wrap .i64 ((i:Int)+1))) q j) (fun x=>!(x.Name.toList==l.Cells[i].Name.toList)) ?_ ?_ n (by simp;omega)
    ·intro q j hj
     have hj':j<i:=by simp at hj;omega
     have hd:decide ((j:Int)<(i:Int))=true:=decide_eq_true (by omega)
     simp only [Kl.eq_2,hd,cT,AR (show j<l.Cells.length by omega),AR hi,Ag,List.getElem_take,wT j]
     cases(l.Cells[j].Name.toList==l.Cells[i].Name.toList)<;>rfl
    ·intro q
     have hl:(l.Cells.take i).length=i:=by simp;omega
     have hd:decide (((l.Cells.take i).length:Int)<(i:Int))=false:=decide_eq_false (by rw [hl];omega)
     simp only [Kl.eq_2,hd,cF]
   rw [key]
   cases ha:(l.Cells.take i).all (fun x=>!(x.Name.toList==l.Cells[i].Name.toList))with
   |true=>
    rw [cT,wT i]
    refine .inl ⟨fun _=>⟨hb.1 rfl,fun j hj=>?_⟩,rfl⟩
    have:=List.all_eq_true.1 ha l.Cells[j] (List.mem_take_iff_getElem.2 ⟨j,by omega,rfl⟩)
    simpa using this
   |false=>
    rw [cF]
    refine .inr ⟨fun g=>?_,rfl⟩
    have:(l.Cells.take i).all (fun x=>!(x.Name.toList==l.Cells[i].Name.toList))=true:=by
     rw [List.all_eq_true]
     intro x hx
     obtain⟨j,hj,rfl⟩:=List.mem_take_iff_getElem.1 hx
     have:=(g hi).2 j (by omega)
     simp [this]
    rw [ha]at this;cases this
 ·intro m i h1 h2 _
  obtain rfl:i=l.Cells.length:=by omega
  simp only [IP.eq_2,DB,cF]
  exact BR (by rw [decide_eq_true_eq];omega)
theorem Lb2{n:Nat}{l:Ad}(h:bD l)(hn:1048577<=n):BG (Tk l) (dE n l):=by
 have h1:=h.1
 rw [dE]
 refine loop (L:=fun m i (s:List ByteArray)=>Js n l _ m s i) l.Cells.length (fun i s=>s=(l.Cells.take i).map (·.Name)∧∀j (hj:j<l.Cells.length),j<i->PM l.Cells[j]) (fun o=>BG (Tk l) o) ?_ ?_ n 0 [] (by omega) (by omega) ⟨by simp,fun j _ h=>by omega⟩
 ·intro m i s hi ⟨hs,hI⟩
  obtain⟨b,e,hb⟩:=AjL (n:=n) (h.2 _ (List.getElem_mem hi)) hn
  have hsl:s.length=i:=by rw [hs];simp;omega
  simp only [Js.eq_2,Cm hi,cT,AR hi,Ag,e]
  cases b with
  |false=>simp only [Bool.not_false,cT];exact .inr (BF fun v=>by have:=hb.2 (v.cells i hi);cases this)
  |true=>
   simp only [Bool.not_true,cF,Bq (show s.length+[l.Cells[i].Name].length<=16777216 by simp;omega) (show 16<=1048576 by omega),Ag,wT i]
   refine .inl ⟨_,⟨?_,fun j hj hji=>?_⟩,rfl⟩
   ·rw [hs,List.take_succ_eq_append_getElem hi,List.map_append];rfl
   ·by_cases ej:j=i
    ·subst ej;exact hb.1 rfl
    ·exact hI j hj (by omega)
 ·intro m s ⟨hs,hI⟩
  rw [List.take_length]at hs
  have hsl:s.length=l.Cells.length:=by rw [hs];simp
  simp only [Js.eq_2,DB,cF]
  by_cases c:l.Cells.length<=8
  ·have d:decide ((l.Cells.length:Int)<=8)=true:=decide_eq_true (by omega)
   obtain⟨b,e,hb⟩:=AN (n:=n) (xs:=s) (by omega) (fun x hx=>by
    rw [hs]at hx
    obtain⟨c,hc,rfl⟩:=List.mem_map.1 hx
    exact(h.2 c hc).name) hn
   simp only [d,cT,e,Ag]
   refine BR (hb.trans ⟨fun g=>⟨c,fun i hi=>hI i hi hi,fun k hk i hi=>?_⟩,fun v k hk=>⟨?_,fun i hi=>?_⟩⟩)
   ·have:=(g k (by omega)).2 i hi
    simpa [hs] using this
   ·have:=(v.cells k (by omega)).name
    simpa [hs] using this
   ·have:=v.names k (by omega) i hi
    simpa [hs] using this
  ·have d:decide ((l.Cells.length:Int)<=8)=false:=decide_eq_false (by omega)
   simp only [d,cF,Ag]
   exact BF fun v=>c v.few
def nG(l:List Int)(lo hi:Int):Prop:=∀i,i<l.length->lo<=gd l i∧gd l i<=hi
theorem Zb{n:Nat}{l:List Int}{lo hi:Int}(h:l.length<=1048576)(hn:1048577<=n):BG (nG l lo hi) (NF n l lo hi):=by
 rw [NF,ZL,cS]
 obtain⟨r,e,h⟩:=LK (xs:=l) (L:=fun m i=>Ff n l lo hi (fun i7=>(some (-1))) m i) (fun x=>!((decide (x>=lo))&&(decide (x<=hi)))) (by
  intro m i hi
  simp only [Ff.eq_2,Cm hi,cT,AR hi,Ag,dG,Li,wT i]) (by
  intro m
  simp only [Ff.eq_2,DB,cF]) n (by omega)
 simp only [e,Ag]
 refine BR ?_
 rw [h,List.any_eq_not_all_not,Bool.not_not]
 simp only [Bool.not_not]
 exact PA
structure Sj(w:Aw)(s:Int):Prop where
 many:1<=w.Parent.length∧w.Parent.length<=8
 res:w.Res.length=w.Parent.length
 cap:w.Cap.length=w.Parent.length
 sink:(w.Sink.length:Int)=s
 root:gd w.Parent 0= -1∧gd w.Res 0=0
 tree:∀i,0<i->i<w.Parent.length->0<=gd w.Parent i∧gd w.Parent i<=(i:Int)-1
 ress:nG w.Res 0 1000
 caps:nG w.Cap 0 500
 sinks:nG w.Sink 0 ((w.Parent.length:Int)-1)
def Node(w:Aw)(i:Nat):Prop:=(i=0->gd w.Parent 0= -1∧gd w.Res 0=0)∧(0<i->0<=gd w.Parent i∧gd w.Parent i<=(i:Int)-1)
theorem Wr1{n:Nat}{w:Aw}{s:Int}(h:w.Sink.length<=1048576)(hn:1048577<=n):BG (Sj w s) (F_y n w s):=by
 rw [F_y]
 refine GD (fun c=>BF fun v=>?_) (fun c=>?_)
 ·have:=v.many;have:=v.res;have:=v.cap;have:=v.sink
  simp only [Bool.or_eq_true,decide_eq_true_eq,bne_iff_ne,ne_eq]at c;omega
 ·simp only [Bool.or_eq_false_iff,decide_eq_false_iff_not,bne_eq_false_iff_eq]at c
  obtain⟨⟨⟨⟨c1,c2⟩,c3⟩,c4⟩,c5⟩:=c
  refine(Ei (L:=fun m i=>Mf n w _ m i) (Q:=nG w.Sink 0 ((w.Parent.length:Int)-1)) w.Parent.length 0 (fun i=>(0<=gd w.Cap i∧gd w.Cap i<=500)∧(0<=gd w.Res i∧gd w.Res i<=1000)∧Node w i) ?_ ?_ n 0 (by omega) (by omega) (by omega) (fun j _ h=>by omega)).iff ⟨fun a=>⟨by omega,by omega,by omega,c5,(a.1 0 (by omega) (by omega)).2.2.1 rfl,fun i h1 h2=>(a.1 i (by omega) h2).2.2.2 h1,fun i hi=>(a.1 i (by omega) (by omega)).2.1,fun i hi=>(a.1 i (by omega) (by omega)).1,a.2⟩,fun v=>⟨fun i _ hi=>⟨v.caps i (by omega),v.ress i (by omega),fun _=>v.root,fun h=>v.tree i h hi⟩,v.sinks⟩⟩
  ·intro m i _ hi
   have w1:wrap .i64 ((i:Int)-1)=(i:Int)-1:=AY (by omega) (by omega)
   simp only [Mf.eq_2,Cm hi,cT,gI (show i<w.Parent.length by omega),gI (show i<w.Res.length by omega),gI (show i<w.Cap.length by omega),Ag,IR,Em,CT,w1,wT i]
   cases e1:(!(decide (gd w.Cap i>=0)&&decide (gd w.Cap i<=500))|| !(decide (gd w.Res i>=0)&&decide (gd w.Res i<=1000)))with
   |true=>
    rw [cT]
    refine .inr ⟨fun g=>?_,rfl⟩
    simp only [Bool.or_eq_true,Bool.not_eq_true',Bool.and_eq_false_iff,decide_eq_false_iff_not]at e1;omega
   |false=>
    rw [cF]
    simp only [Bool.or_eq_false_iff,Bool.not_eq_false',Bool.and_eq_true,decide_eq_true_eq]at e1
    cases e2:((((i:Int)==0)&&((gd w.Parent i != -1)||(gd w.Res i !=0)))||(decide ((i:Int)>0)&& !(decide (gd w.Parent i>=0)&&decide (gd w.Parent i<=(i:Int)-1))))with
    |true=>
     rw [cT]
     refine .inr ⟨fun g=>?_,rfl⟩
     obtain⟨_,_,g1,g2⟩:=g
     simp only [Bool.or_eq_true,Bool.not_eq_true',Bool.and_eq_false_iff,Bool.and_eq_true,decide_eq_false_iff_not,decide_eq_true_eq,beq_iff_eq,bne_iff_ne,ne_eq]at e2
     by_cases z:i=0
     ·subst z;have:=g1 rfl;omega
     ·have:=g2 (by omega);omega
    |false=>
     rw [cF]
     refine .inl ⟨⟨by omega,by omega,?_⟩,rfl⟩
     simp only [Bool.or_eq_false_iff,Bool.not_eq_false',Bool.and_eq_false_iff,Bool.and_eq_true,decide_eq_false_iff_not,decide_eq_true_eq,beq_eq_false_iff_ne,bne_eq_false_iff_eq,ne_eq]at e2
     refine⟨fun z=>?_,fun z=>by omega⟩
     subst z;omega
  ·intro m i h1 h2 _
   obtain rfl:i=w.Parent.length:=by omega
   have w1:wrap .i64 ((w.Parent.length:Int)-1)=(w.Parent.length:Int)-1:=AY (by omega) (by omega)
   simp only [Mf.eq_2,DB,cF]
   refine(Ei (L:=fun m i=>Mp n w _ m i) (Q:=True) w.Sink.length 0 (fun i=>0<=gd w.Sink i∧gd w.Sink i<=(w.Parent.length:Int)-1) ?_ ?_ n 0 (by omega) (by omega) (by omega) (fun j _ h=>by omega)).iff ⟨fun a i hi=>a.1 i (by omega) hi,fun v=>⟨fun i _ hi=>v i hi,trivial⟩⟩
   ·intro m i _ hi
    simp only [Mp.eq_2,Cm hi,cT,gI hi,Ag,IR,w1,wT i]
    cases e:(!(decide (gd w.Sink i>=0)&&decide (gd w.Sink i<=(w.Parent.length:Int)-1)))with
    |true=>refine .inr ⟨fun g=>?_,by trivial⟩;simp only [Bool.not_eq_true',Bool.and_eq_false_iff,decide_eq_false_iff_not]at e;omega
    |false=>refine .inl ⟨?_,by trivial⟩;simp only [Bool.not_eq_false',Bool.and_eq_true,decide_eq_true_eq]at e;omega
   ·intro m i h1 h2 _
    obtain rfl:i=w.Sink.length:=by omega
    simp only [Mp.eq_2,DB,cF]
    exact Cj trivial
theorem AjG{n:Nat}{w:Aw}(h1:1<=w.Parent.length)(h:w.Parent.length<=8)(h2:w.Res.length=w.Parent.length)(hn:1048577<=n):BG (∀i,0<=i->i<w.Parent.length->Node w i) (Ys n w):=by
 rw [Ys]
 refine(Ei (L:=fun m i=>JQ n w _ m i) (Q:=True) w.Parent.length 0 (fun i=>Node w i) ?_ ?_ n 0 (by omega) (by omega) (by omega) (fun j _ h=>by omega)).iff ⟨fun a=>a.1,fun a=>⟨a,trivial⟩⟩
 ·intro m i _ hi
  have w1:wrap .i64 ((i:Int)-1)=(i:Int)-1:=AY (by omega) (by omega)
  have w0:AE w.Res 0=some (gd w.Res 0):=gI (i:=0) (by omega)
  simp only [JQ.eq_2,Cm hi,cT,gI hi,w0,Ag,Li,Em,CT,w1,wT i]
  cases e2:((((i:Int)==0)&&((gd w.Parent i != -1)||(gd w.Res 0 !=0)))||(decide ((i:Int)>0)&& !(decide (gd w.Parent i>=0)&&decide (gd w.Parent i<=(i:Int)-1))))with
  |true=>
   rw [cT]
   refine .inr ⟨fun g=>?_,rfl⟩
   obtain⟨g1,g2⟩:=g
   simp only [Bool.or_eq_true,Bool.not_eq_true',Bool.and_eq_false_iff,Bool.and_eq_true,decide_eq_false_iff_not,decide_eq_true_eq,beq_iff_eq,bne_iff_ne,ne_eq]at e2
   by_cases z:i=0
   ·subst z;have:=g1 rfl;omega
   ·have:=g2 (by omega);omega
  |false=>
   rw [cF]
   refine .inl ⟨?_,rfl⟩
   simp only [Bool.or_eq_false_iff,Bool.not_eq_false',Bool.and_eq_false_iff,Bool.and_eq_true,decide_eq_false_iff_not,decide_eq_true_eq,beq_eq_false_iff_ne,bne_eq_false_iff_eq,ne_eq]at e2
   refine⟨fun z=>?_,fun z=>by omega⟩
   subst z;omega
 ·intro m i h1 h2 _
  obtain rfl:i=w.Parent.length:=by omega
  simp only [JQ.eq_2,DB,cF]
  exact Cj trivial
theorem BG.and{P Q:Prop}{o:Option Bool}{c:Bool}(hc:c=true↔P)(h:P->BG Q o):BG (P∧Q) (cond c o (some false)):=by
 cases c with
 |true=>exact(h (hc.1 rfl)).iff ⟨fun q=>⟨hc.1 rfl,q⟩,fun q=>q.2⟩
 |false=>exact BF fun q=>by have:=hc.2 q.1;cases this
theorem BG.ab{P R:Prop}{o:Option Bool}{f:Bool->Option Bool}(h:BG P o)(k:∀c:Bool,(c=true↔P)->BG R (f c)):BG R (Option.bind o f):=by
 obtain⟨b,rfl,h⟩:=h
 exact k b h
theorem Pj{o:Option Bool}:(Option.bind o fun r=>some r)=o:=by cases o<;>rfl
theorem Wr2{n:Nat}{w:Aw}{s:Int}(h:w.Sink.length<=1048576)(hr:w.Res.length<=1048576)(hc:w.Cap.length<=1048576)(hp:w.Parent.length<=1048576)(hn:1048577<=n):BG (Sj w s) (aZ n w s):=by
 have w1:wrap .i64 ((w.Parent.length:Int)-1)=(w.Parent.length:Int)-1:=AY (by omega) (by omega)
 rw [aZ]
 simp only [Pm,Li,Ag,w1,CT,Pj]
 refine BG.ab (BG.and (P:=(1<=w.Parent.length∧w.Parent.length<=8)∧w.Res.length=w.Parent.length∧w.Cap.length=w.Parent.length) (Q:=∀i,0<=i->i<w.Parent.length->Node w i) ?_ fun p=>AjG p.1.1 p.1.2 p.2.1 hn) fun c1 e1=>?_
 ·simp only [Bool.and_eq_true,decide_eq_true_eq,beq_iff_eq];omega
 refine BG.ab (BG.and e1 fun _=>Zb hr hn) fun c2 e2=>?_
 refine BG.ab (BG.and e2 fun _=>Zb hc hn) fun c3 e3=>?_
 refine(BG.and (P:=(((((1<=w.Parent.length∧w.Parent.length<=8)∧w.Res.length=w.Parent.length∧w.Cap.length=w.Parent.length)∧∀i,0<=i->i<w.Parent.length->Node w i)∧nG w.Res 0 1000)∧nG w.Cap 0 500)∧(w.Sink.length:Int)=s) ?_ fun _=>Zb h hn).iff ⟨fun⟨⟨⟨⟨⟨⟨a,b,c⟩,t⟩,r⟩,k⟩,s1⟩,s2⟩=>⟨a,b,c,s1,(t 0 (by omega) (by omega)).1 rfl,fun i h1 h2=>(t i (by omega) h2).2 h1,r,k,s2⟩,fun v=>⟨⟨⟨⟨⟨⟨v.many,v.res,v.cap⟩,fun i _ hi=>⟨fun _=>v.root,fun h=>v.tree i h hi⟩⟩,v.ress⟩,v.caps⟩,v.sink⟩,v.sinks⟩⟩
 rw [Bool.and_eq_true,e3,beq_iff_eq]
def Ih(t:List Int)(q:Int):List Int:=t.set q.toNat (gd t q.toNat+1)
def KS(x:AX):Int:=gd x.Nets (x.Nets.length-1)
def cI(t:List Int)(x:AX):List Int:=Ih t (KS x)
def cP(t:List Int)(p:BN):List Int:=if p.Dir=1 then Ih t p.Net else t
def YW(d:AQ):List Int:=d.Ports.foldl cP (d.Instances.foldl cI (List.replicate d.Nets.length 0))
structure MK(l:Ad)(d:AQ)(x:AX):Prop where
 cell:0<=x.Cell∧x.Cell<=(l.Cells.length:Int)-1
 pins:∀c,AE l.Cells x.Cell=some c->x.Nets.length=c.Pins.length
 nets:nG x.Nets 0 ((d.Nets.length:Int)-1)
structure OT(d:AQ)(p:BN):Prop where
 dir:p.Dir=1∨p.Dir=2
 net:0<=p.Net∧p.Net<=(d.Nets.length:Int)-1
structure Cx(l:Ad)(d:AQ):Prop where
 lib:Tk l
 few:d.Instances.length<=14∧d.Nets.length<=30∧d.Ports.length<=8
 inst:∀x∈d.Instances,MK l d x
 port:∀p∈d.Ports,OT d p
 ni:GM (d.Instances.map (·.Name))
 np:GM (d.Ports.map (·.Name))
 nn:GM d.Nets
 one:∀i,i<d.Nets.length->gd (YW d) i=1
structure bJ(d:AQ):Prop where
 inst:d.Instances.length<=1048576∧∀x∈d.Instances,x.Name.size<=1048576∧x.Nets.length<=1048576
 nets:d.Nets.length<=1048576∧∀x∈d.Nets,x.size<=1048576
 ports:d.Ports.length<=1048576∧∀p∈d.Ports,p.Name.size<=1048576
theorem MK.long{l:Ad}{d:AQ}{x:AX}(v:MK l d x)(hl:Tk l):2<=x.Nets.length∧x.Nets.length<=5:=by
 obtain⟨c,e,hc⟩:=HG (xs:=l.Cells) v.cell.1 (by have:=v.cell.2;omega)
 have h:=v.pins c e
 obtain⟨h1,h2⟩:=List.getElem?_eq_some_iff.1 hc
 have:=(hl.cells _ h1).pins.few
 rw [h2]at this;omega
theorem MK.last{l:Ad}{d:AQ}{x:AX}(v:MK l d x)(hl:Tk l):0<=KS x∧KS x<d.Nets.length:=by
 have:=v.long hl
 have:=v.nets (x.Nets.length-1) (by omega)
 unfold KS;omega
theorem JF{α:Type}{xs:List α}(nm:α->ByteArray){L:Nat->List ByteArray->Int->Option Bool}{k:List ByteArray->Option Bool}(hl:xs.length<=1048576)
 (hs:∀(m i:Nat) (h:i<xs.length) (s:List ByteArray),L (m+1) s (i:Int)=Option.bind (Du s [nm xs[i]] 16) fun z=>L m z ((i+1:Nat):Int))
 (he:∀(m:Nat) (s:List ByteArray),L (m+1) s (xs.length:Int)=k s) (m:Nat) (hm:xs.length<m):L m [] 0=k (xs.map nm):=by
 refine loop (L:=fun m i s=>L m s i) xs.length (fun i s=>s=(xs.take i).map nm) (fun o=>o=k (xs.map nm)) ?_ ?_ m 0 [] (by omega) (by omega) (by simp)
 ·intro m i s hi e
  refine .inl ⟨s++[nm xs[i]],?_,?_⟩
  ·rw [e,List.take_succ_eq_append_getElem hi,List.map_append];rfl
  ·have:s.length=i:=by rw [e];simp;omega
   show L (m+1) s (i:Int)=_
   rw [hs m i hi,Bq (by simp;omega) (by omega),Ag]
 ·intro m s e
  rw [List.take_length]at e
  show L (m+1) s (xs.length:Int)=_
  rw [he,e]
def YI(N B:Nat)(t:List Int):Prop:=t.length=N∧∀j,0<=gd t j∧gd t j<=B
theorem YI.bump{N B:Nat}{t:List Int}{q:Int}(h:YI N B t)(h0:0<=q)(h1:q<N):YI N (B+1) (Ih t q):=by
 refine⟨by unfold Ih;simpa using h.1,fun j=>?_⟩
 unfold Ih
 rw [HS (by have:=h.1;omega)]
 have:=h.2 j;have:=h.2 q.toNat
 split<;>omega
theorem YI.up{N B:Nat}{t:List Int}(h:YI N B t):YI N (B+1) t:=⟨h.1,fun j=>by have:=h.2 j;omega⟩
theorem YI.step{N B:Nat}{t:List Int}{q:Int}(h:YI N B t)(h0:0<=q)(h1:q<N)(hB:B<=1048576):AE t q=some (gd t q.toNat)∧t.set q.toNat (wrap .i64 (gd t q.toNat+1))=Ih t q:=by
 refine⟨Oe h0 (by rw [h.1];exact h1),?_⟩
 have:=h.2 q.toNat
 rw [AY (by omega) (by omega)];rfl
theorem My{α σ:Type}{f:σ->α->σ}{xs:List α}{i:Nat}{s:σ}(h:i<xs.length):(xs.take (i+1)).foldl f s=f ((xs.take i).foldl f s) xs[i]:=by
 rw [List.take_succ_eq_append_getElem h,List.foldl_append];rfl
theorem Pa1{n:Nat}{l:Ad}{d:AQ}(hl:Tk l)(h:bJ d)(hn:1048577<=n):BG ((∀x∈d.Instances,MK l d x)∧∀p∈d.Ports,OT d p) (F_a n l d):=by
 have hi0:=h.inst.1;have hp0:=h.ports.1;have hn0:=h.nets.1;have hl0:=hl.few
 have wN:wrap .i64 ((d.Nets.length:Int)-1)=(d.Nets.length:Int)-1:=AY (by omega) (by omega)
 have wL:wrap .i64 ((l.Cells.length:Int)-1)=(l.Cells.length:Int)-1:=AY (by omega) (by omega)
 rw [F_a]
 refine(Ei (L:=fun m i=>IB n l d _ m i) (Q:=∀p∈d.Ports,OT d p) d.Instances.length 0 (fun i=>∀(hi:i<d.Instances.length),MK l d d.Instances[i]) ?_ ?_ n 0 (by omega) (by omega) (by omega) (fun j _ h=>by omega)).iff ⟨fun a=>⟨fun x hx=>?_,a.2⟩,fun a=>⟨fun i _ _ hi=>a.1 _ (List.getElem_mem hi),a.2⟩⟩
 ·intro m i _ hi
  simp only [IB.eq_2,Cm hi,cT,AR hi,Ag,IR,wL,wT i]
  by_cases c1:0<=d.Instances[i].Cell∧d.Instances[i].Cell<=(l.Cells.length:Int)-1
  ·obtain⟨c,ec,hc⟩:=HG (xs:=l.Cells) c1.1 (by omega)
   have d1:(decide (d.Instances[i].Cell>=0)&&decide (d.Instances[i].Cell<=(l.Cells.length:Int)-1))=true:=by simp only [Bool.and_eq_true,decide_eq_true_eq];omega
   simp only [d1,Bool.not_true,cF,ec,Ag]
   by_cases c2:d.Instances[i].Nets.length=c.Pins.length
   ·have d2:((d.Instances[i].Nets.length:Int) !=(c.Pins.length:Int))=false:=by rw [bne_eq_false_iff_eq];omega
    simp only [d2,cF]
    have hnl:=(h.inst.2 _ (List.getElem_mem hi)).2
    have key:LG n d d.Instances[i] (fun i75=>IB n l d (fun i25=>IL n d (fun i30=>some true) n 0) m ((i+1:Nat):Int)) n 0=cond (d.Instances[i].Nets.all (fun k=>decide (k>=0)&&decide (k<=(d.Nets.length:Int)-1))) (IB n l d (fun i25=>IL n d (fun i30=>some true) n 0) m ((i+1:Nat):Int)) (some false):=by
     refine PU (xs:=d.Instances[i].Nets) (L:=fun q j=>LG n d d.Instances[i] (fun i75=>IB n l d (fun i25=>IL n d (fun i30=>some true) n 0) m ((i+1:Nat):Int)) q j) _ ?_ ?_ n (by omega)
     ·intro q j hj
      simp only [LG.eq_2,Cm hj,cT,AR hj,Ag,IR,wN,wT j]
      cases(decide (d.Instances[i].Nets[j]>=0)&&decide (d.Instances[i].Nets[j]<=(d.Nets.length:Int)-1))<;>rfl
     ·intro q
      simp only [LG.eq_2,DB,cF]
    rw [key]
    cases ha:d.Instances[i].Nets.all (fun k=>decide (k>=0)&&decide (k<=(d.Nets.length:Int)-1))with
    |true=>
     rw [cT]
     exact .inl ⟨fun _=>⟨c1,fun c' e'=>(by rw [ec]at e';cases e';exact c2),PA.1 ha⟩,rfl⟩
    |false=>
     rw [cF]
     exact .inr ⟨fun g=>(by have:=PA.2 (g hi).nets;rw [ha]at this;cases this),rfl⟩
   ·have d2:((d.Instances[i].Nets.length:Int) !=(c.Pins.length:Int))=true:=by rw [bne_iff_ne];omega
    simp only [d2,cT]
    exact .inr ⟨fun g=>c2 ((g hi).pins c ec),by trivial⟩
  ·have d1:(decide (d.Instances[i].Cell>=0)&&decide (d.Instances[i].Cell<=(l.Cells.length:Int)-1))=false:=by rw [Bool.and_eq_false_iff,decide_eq_false_iff_not,decide_eq_false_iff_not];omega
   simp only [d1,Bool.not_false,cT,Ag]
   exact .inr ⟨fun g=>c1 (g hi).cell,by trivial⟩
 ·intro m i h1 h2 _
  obtain rfl:i=d.Instances.length:=by omega
  simp only [IB.eq_2,DB,cF]
  refine(Ei (L:=fun m i=>IL n d _ m i) (Q:=True) d.Ports.length 0 (fun i=>∀(hi:i<d.Ports.length),OT d d.Ports[i]) ?_ ?_ n 0 (by omega) (by omega) (by omega) (fun j _ h=>by omega)).iff ⟨fun a p hp=>?_,fun a=>⟨fun i _ _ hi=>a _ (List.getElem_mem hi),trivial⟩⟩
  ·intro m i _ hi
   simp only [IL.eq_2,Cm hi,cT,AR hi,Ag,IR,wN,Em,wT i]
   cases e1:(!(decide (d.Ports[i].Dir>=1)&&decide (d.Ports[i].Dir<=2))|| !(decide (d.Ports[i].Net>=0)&&decide (d.Ports[i].Net<=(d.Nets.length:Int)-1)))with
   |true=>
    rw [cT]
    refine .inr ⟨fun g=>?_,rfl⟩
    have:=(g hi).dir;have:=(g hi).net
    simp only [Bool.or_eq_true,Bool.not_eq_true',Bool.and_eq_false_iff,decide_eq_false_iff_not]at e1;omega
   |false=>
    rw [cF]
    simp only [Bool.or_eq_false_iff,Bool.not_eq_false',Bool.and_eq_true,decide_eq_true_eq]at e1
    exact .inl ⟨fun _=>⟨by omega,by omega⟩,rfl⟩
  ·intro m i h1 h2 _
   obtain rfl:i=d.Ports.length:=by omega
   simp only [IL.eq_2,DB,cF]
   exact Cj trivial
  ·obtain⟨j,hj,rfl⟩:=List.getElem_of_mem hp
   exact a.1 j (by omega) hj hj
 ·obtain⟨j,hj,rfl⟩:=List.getElem_of_mem hx
  exact a.1 j (by omega) hj hj
theorem Dg1{n:Nat}{l:Ad}{d:AQ}(h:bD l)(hd:bJ d)(hn:1048577<=n):BG (Cx l d) (F_2 n l d):=by
 have hi0:=hd.inst.1;have hp0:=hd.ports.1;have hn0:=hd.nets.1
 rw [F_2]
 refine(Lb1 h hn).bind (fun vl=>?_) (fun vl=>?_)
 ·simp only [Bool.not_true,Bool.false_or]
  by_cases c:(d.Instances.length<=14∧d.Nets.length<=30)∧d.Ports.length<=8
  ·have e:(decide ((d.Instances.length:Int)>14)||decide ((d.Nets.length:Int)>30)||decide ((d.Ports.length:Int)>8))=false:=by simp only [Bool.or_eq_false_iff,decide_eq_false_iff_not];omega
   simp only [e,cF]
   obtain⟨b,eb,hb⟩:=Pa1 (n:=n) vl hd hn
   rw [eb,Ag,Ag]
   cases b with
   |false=>
    simp only [Bool.not_false,cT]
    exact BF fun v=>by have:=hb.2 ⟨v.inst,v.port⟩;cases this
   |true=>
    obtain⟨v1,v2⟩:=hb.1 rfl
    simp only [Bool.not_true,cF]
    rw [JF (xs:=d.Instances) (·.Name) (L:=fun m s i=>MY d _ m s i) (k:=fun s=>KR d _ n [] 0) hi0 (by
     intro m i hi s
     simp only [MY.eq_2,Cm hi,cT,AR hi,Ag,wT i]) (by
     intro m s
     simp only [MY.eq_2,DB,cF];rfl) n (by omega)]
    rw [JF (xs:=d.Ports) (·.Name) (L:=fun m s i=>KR d _ m s i) hp0 (by
     intro m i hi s
     simp only [KR.eq_2,Cm hi,cT,AR hi,Ag,wT i]) (by
     intro m s
     simp only [KR.eq_2,DB,cF];rfl) n (by omega)]
    obtain⟨b1,e1,h1⟩:=qV (n:=n) (xs:=d.Instances.map (·.Name)) (by simpa using hi0) (fun x hx=>by obtain⟨y,hy,rfl⟩:=List.mem_map.1 hx;exact(hd.inst.2 y hy).1) hn
    obtain⟨b2,e2,h2⟩:=qV (n:=n) (xs:=d.Ports.map (·.Name)) (by simpa using hp0) (fun x hx=>by obtain⟨y,hy,rfl⟩:=List.mem_map.1 hx;exact hd.ports.2 y hy) hn
    obtain⟨b3,e3,h3⟩:=qV (n:=n) (xs:=d.Nets) hn0 hd.nets.2 hn
    simp only [e1,e2,e3,Ag,Em]
    cases eb:((!b1|| !b2)|| !b3)with
    |true=>
     rw [cT]
     refine BF fun v=>?_
     have:=h1.2 v.ni;have:=h2.2 v.np;have:=h3.2 v.nn
     subst b1 b2 b3;cases eb
    |false=>
     rw [cF]
     simp only [Bool.or_eq_false_iff,Bool.not_eq_false']at eb
     obtain⟨⟨rfl,rfl⟩,rfl⟩:=eb
     rw [Cf (by omega) (by omega),Ag]
     have k1:=Qc (xs:=d.Instances) (L:=fun m i s=>Mx d (fun i149 l151=>IJ d (fun i155 l157=>Gl l157 (fun i161=>some true) n 0) n 0 l151) m i s) (k:=fun s=>IJ d (fun i155 l157=>Gl l157 (fun i161=>some true) n 0) n 0 s) cI (fun i s=>YI d.Nets.length i s) (by
      intro m i hi s hs
      have hv:=v1 _ (List.getElem_mem hi)
      have hv2:=hv.long vl
      obtain⟨q0,q1⟩:=hv.last vl
      obtain⟨g1,g2⟩:=hs.step q0 q1 (by omega)
      have wx:wrap .i64 ((d.Instances[i].Nets.length:Int)-1)=((d.Instances[i].Nets.length-1:Nat):Int):=by rw [AY (by omega) (by omega)];omega
      refine⟨?_,hs.bump q0 q1⟩
      simp only [Mx.eq_2,Cm hi,cT,AR hi,Ag,wx,gI (show d.Instances[i].Nets.length-1<d.Instances[i].Nets.length by omega),wT i]
      rw [show gd d.Instances[i].Nets (d.Instances[i].Nets.length-1)=KS d.Instances[i]from rfl,g1,Ag,Ag,g2];rfl) (by
      intro m s _
      simp only [Mx.eq_2,DB,cF]) n (List.replicate d.Nets.length 0) ⟨by simp,fun j=>by rw [Mw];omega⟩ (by omega)
     rw [k1.1]
     have k2:=Qc (xs:=d.Ports) (L:=fun m i s=>IJ d (fun i155 l157=>Gl l157 (fun i161=>some true) n 0) m i s) (k:=fun s=>Gl s (fun i161=>some true) n 0) cP (fun i s=>YI d.Nets.length (d.Instances.length+i) s) (by
      intro m i hi s hs
      have hv:=v2 _ (List.getElem_mem hi)
      obtain⟨g1,g2⟩:=hs.step hv.net.1 (by have:=hv.net.2;omega) (by omega)
      simp only [IJ.eq_2,Cm hi,cT,AR hi,Ag,wT i,g1,g2]
      by_cases c:d.Ports[i].Dir=1
      ·have e:(d.Ports[i].Dir==1)=true:=beq_iff_eq.2 c
       have e':cP s d.Ports[i]=Ih s d.Ports[i].Net:=if_pos c
       rw [e,cT,e']
       exact⟨rfl,hs.bump hv.net.1 (by have:=hv.net.2;omega)⟩
      ·have e:(d.Ports[i].Dir==1)=false:=beq_eq_false_iff_ne.2 c
       have e':cP s d.Ports[i]=s:=if_neg c
       rw [e,cF,e']
       exact⟨rfl,hs.up⟩) (by
      intro m s _
      simp only [IJ.eq_2,DB,cF]) n _ k1.2 (by omega)
     rw [k2.1]
     show BG _ (Gl (YW d) (fun i161=>some true) n 0)
     have hlen:(YW d).length=d.Nets.length:=k2.2.1
     refine(Ei (L:=fun m i=>Gl (YW d) (fun i161=>some true) m i) (Q:=True) d.Nets.length 0 (fun i=>gd (YW d) i=1) ?_ ?_ n 0 (by omega) (by omega) (by omega) (fun j _ h=>by omega)).iff ⟨fun a=>⟨vl,⟨c.1.1,c.1.2,c.2⟩,v1,v2,h1.1 rfl,h2.1 rfl,h3.1 rfl,fun i hi=>a.1 i (by omega) hi⟩,fun v=>⟨fun i _ hi=>v.one i hi,trivial⟩⟩
     ·intro m i _ hi
      have hi':i<(YW d).length:=by omega
      simp only [Gl.eq_2,Cm hi',cT,gI hi',Ag,wT i]
      by_cases c:gd (YW d) i=1
      ·have e:(gd (YW d) i !=1)=false:=bne_eq_false_iff_eq.2 c
       rw [e,cF];exact .inl ⟨c,rfl⟩
      ·have e:(gd (YW d) i !=1)=true:=bne_iff_ne.2 c
       rw [e,cT];exact .inr ⟨c,rfl⟩
     ·intro m i q1 q2 _
      obtain rfl:i=d.Nets.length:=by omega
      rw [←hlen]
      simp only [Gl.eq_2,DB,cF]
      exact Cj trivial
  ·have e:(decide ((d.Instances.length:Int)>14)||decide ((d.Nets.length:Int)>30)||decide ((d.Ports.length:Int)>8))=true:=by simp only [Bool.or_eq_true,decide_eq_true_eq];omega
   simp only [e,cT,Ag]
   exact BF fun v=>c ⟨⟨v.few.1,v.few.2.1⟩,v.few.2.2⟩
 ·simp only [Bool.not_false,Bool.true_or,cT,Ag]
  exact BF fun v=>vl v.lib
theorem Hn2{n:Nat}{d:AQ}(hd:bJ d)(hn:1048577<=n):BG (((((d.Instances.length<=14∧d.Nets.length<=30)∧d.Ports.length<=8)∧GM (d.Instances.map (·.Name)))∧GM d.Nets)∧GM (d.Ports.map (·.Name))) (xV n d):=by
 have hi0:=hd.inst.1;have hp0:=hd.ports.1;have hn0:=hd.nets.1
 rw [xV]
 rw [JF (xs:=d.Instances) (·.Name) (L:=fun m s i=>Mo d _ m s i) (k:=fun s=>LB d _ n [] 0) hi0 (by
  intro m i hi s
  simp only [Mo.eq_2,Cm hi,cT,AR hi,Ag,wT i]) (by
  intro m s
  simp only [Mo.eq_2,DB,cF];rfl) n (by omega)]
 rw [JF (xs:=d.Ports) (·.Name) (L:=fun m s i=>LB d _ m s i) hp0 (by
  intro m i hi s
  simp only [LB.eq_2,Cm hi,cT,AR hi,Ag,wT i]) (by
  intro m s
  simp only [LB.eq_2,DB,cF];rfl) n (by omega)]
 simp only [Pj,List.length_map]
 refine BG.ab (BG.and (P:=(d.Instances.length<=14∧d.Nets.length<=30)∧d.Ports.length<=8) (Q:=GM (d.Instances.map fun x:AX=>x.Name)) ?_ fun _=>AN (xs:=d.Instances.map fun x:AX=>x.Name) (by simpa using hi0) (fun x hx=>by obtain⟨y,hy,rfl⟩:=List.mem_map.1 hx;exact(hd.inst.2 y hy).1) hn) fun c1 e1=>?_
 ·simp only [Bool.and_eq_true,decide_eq_true_eq];omega
 refine BG.ab (BG.and (Q:=GM d.Nets) e1 fun _=>AN hn0 hd.nets.2 hn) fun c2 e2=>?_
 exact BG.and (Q:=GM (d.Ports.map fun x:BN=>x.Name)) e2 fun _=>AN (xs:=d.Ports.map fun x:BN=>x.Name) (by simpa using hp0) (fun x hx=>by obtain⟨y,hy,rfl⟩:=List.mem_map.1 hx;exact hd.ports.2 y hy) hn
theorem nN{n:Nat}{d:AQ}{q:Int}(hn0:d.Nets.length<=1048576):YM n d q=some (decide (q>=0)&&decide (q<=(d.Nets.length:Int)-1)):=by
 have wN:wrap .i64 ((d.Nets.length:Int)-1)=(d.Nets.length:Int)-1:=AY (by omega) (by omega)
 simp only [YM,lF,Li,Ag,wN]
theorem AlQ{n:Nat}{l:Ad}{d:AQ}{x:AX}(hl:Tk l)(hn0:d.Nets.length<=1048576)(hx:x.Nets.length<=1048576)(hn:1048577<=n):BG (MK l d x) (aV n d l x):=by
 have hl0:=hl.few
 have wL:wrap .i64 ((l.Cells.length:Int)-1)=(l.Cells.length:Int)-1:=AY (by omega) (by omega)
 rw [aV]
 simp only [jG,Li,Ag,wL,Pj]
 by_cases c1:0<=x.Cell∧x.Cell<=(l.Cells.length:Int)-1
 ·obtain⟨c,ec,hc⟩:=HG (xs:=l.Cells) c1.1 (by omega)
  have d1:(decide (x.Cell>=0)&&decide (x.Cell<=(l.Cells.length:Int)-1))=true:=by simp only [Bool.and_eq_true,decide_eq_true_eq];omega
  simp only [d1,cT,ec,Ag]
  by_cases c2:x.Nets.length=c.Pins.length
  ·have d2:((x.Nets.length:Int)==(c.Pins.length:Int))=true:=by rw [beq_iff_eq];omega
   simp only [d2,cT,mS,mG]
   obtain⟨r,e,h⟩:=LK (xs:=x.Nets) (L:=fun m i=>Jy n x.Nets d (fun i7=>(some (-1))) m i) (fun q=>!((decide (q>=0))&&(decide (q<=(d.Nets.length:Int)-1)))) (by
    intro m i hi
    simp only [Jy.eq_2,Cm hi,cT,AR hi,Ag,kL,nN hn0,wT i]) (by
    intro m
    simp only [Jy.eq_2,DB,cF]) n (by omega)
   simp only [e,Ag]
   refine(BR (P:=nG x.Nets 0 ((d.Nets.length:Int)-1)) ?_).iff ⟨fun w=>⟨c1,fun c' e'=>(by rw [ec]at e';cases e';exact c2),w⟩,fun v=>v.nets⟩
   rw [h,List.any_eq_not_all_not,Bool.not_not]
   simp only [Bool.not_not]
   exact PA
  ·have d2:((x.Nets.length:Int)==(c.Pins.length:Int))=false:=by rw [beq_eq_false_iff_ne];omega
   simp only [d2,cF]
   exact BF fun v=>c2 (v.pins c ec)
 ·have d1:(decide (x.Cell>=0)&&decide (x.Cell<=(l.Cells.length:Int)-1))=false:=by rw [Bool.and_eq_false_iff,decide_eq_false_iff_not,decide_eq_false_iff_not];omega
  simp only [d1,cF,Ag]
  exact BF fun v=>c1 v.cell
theorem Dg2{n:Nat}{l:Ad}{d:AQ}(h:bD l)(hd:bJ d)(hn:1048577<=n):BG (Cx l d) (F_t n l d):=by
 have hi0:=hd.inst.1;have hp0:=hd.ports.1;have hn0:=hd.nets.1
 rw [F_t]
 refine(Lb2 h hn).bind (fun vl=>?_) (fun vl=>?_)
 ·simp only [Bool.not_true,cF]
  obtain⟨b,eb,hb⟩:=Hn2 (n:=n) hd hn
  rw [eb,Ag,Ag]
  cases b with
  |false=>
   simp only [Bool.not_false,cT]
   exact BF fun v=>by have:=hb.2 ⟨⟨⟨⟨⟨v.few.1,v.few.2.1⟩,v.few.2.2⟩,v.ni⟩,v.nn⟩,v.np⟩;cases this
  |true=>
   obtain⟨⟨⟨c,hni⟩,hnn⟩,hnp⟩:=hb.1 rfl
   simp only [Bool.not_true,cF]
   rw [Cf (by omega) (by omega),Ag]
   refine loop (L:=fun m i s=>MU n l d _ m i s) d.Instances.length (fun i s=>(s=(d.Instances.take i).foldl cI (List.replicate d.Nets.length 0)∧YI d.Nets.length i s)∧∀j (hj:j<d.Instances.length),j<i->MK l d d.Instances[j]) (fun o=>BG (Cx l d) o) ?_ ?_ n 0 _ (by omega) (by omega) ⟨⟨by simp,⟨by simp,fun j=>by rw [Mw];omega⟩⟩,fun j _ h=>by omega⟩
   ·intro m i s hi ⟨⟨hs,hc⟩,hI⟩
    obtain⟨b,eb,hb⟩:=AlQ (n:=n) vl hn0 (hd.inst.2 _ (List.getElem_mem hi)).2 hn
    simp only [MU.eq_2,Cm hi,cT,AR hi,Ag,eb,wT i]
    cases b with
    |false=>
     simp only [Bool.not_false,cT]
     exact .inr (BF fun v=>by have:=hb.2 (v.inst _ (List.getElem_mem hi));cases this)
    |true=>
     simp only [Bool.not_true,cF]
     have hv:=hb.1 rfl
     have hv2:=hv.long vl
     obtain⟨q0,q1⟩:=hv.last vl
     obtain⟨g1,g2⟩:=hc.step q0 q1 (by omega)
     have wx:wrap .i64 ((d.Instances[i].Nets.length:Int)-1)=((d.Instances[i].Nets.length-1:Nat):Int):=by rw [AY (by omega) (by omega)];omega
     refine .inl ⟨cI s d.Instances[i],⟨⟨by rw [My hi,hs],hc.bump q0 q1⟩,fun j hj hji=>?_⟩,?_⟩
     ·by_cases ej:j=i
      ·subst ej;exact hv
      ·exact hI j hj (by omega)
     ·rw [wx,gI (show d.Instances[i].Nets.length-1<d.Instances[i].Nets.length by omega),show gd d.Instances[i].Nets (d.Instances[i].Nets.length-1)=KS d.Instances[i]from rfl,Ag,g1,Ag,Ag,g2];rfl
   ·intro m s ⟨⟨hs,hc⟩,hI⟩
    rw [List.take_length]at hs
    have v1:∀x∈d.Instances,MK l d x:=fun x hx=>by obtain⟨j,hj,rfl⟩:=List.getElem_of_mem hx;exact hI j hj hj
    simp only [MU.eq_2,DB,cF]
    refine loop (L:=fun m i s=>Kj n d _ m i s) d.Ports.length (fun i s'=>(s'=(d.Ports.take i).foldl cP s∧YI d.Nets.length (d.Instances.length+i) s')∧∀j (hj:j<d.Ports.length),j<i->OT d d.Ports[j]) (fun o=>BG (Cx l d) o) ?_ ?_ n 0 _ (by omega) (by omega) ⟨⟨by simp,hc⟩,fun j _ h=>by omega⟩
    ·intro m i s' hi ⟨⟨hs',hc'⟩,hI'⟩
     simp only [Kj.eq_2,Cm hi,cT,AR hi,Ag,nN hn0,Em,wT i]
     cases e1:(((d.Ports[i].Dir !=1)&&(d.Ports[i].Dir !=2))|| !(decide (d.Ports[i].Net>=0)&&decide (d.Ports[i].Net<=(d.Nets.length:Int)-1)))with
     |true=>
      rw [cT]
      refine .inr (BF fun v=>?_)
      have g:=v.port _ (List.getElem_mem hi)
      have:=g.dir;have:=g.net
      simp only [Bool.or_eq_true,Bool.not_eq_true',Bool.and_eq_false_iff,Bool.and_eq_true,decide_eq_false_iff_not,bne_iff_ne,ne_eq]at e1;omega
     |false=>
      rw [cF]
      simp only [Bool.or_eq_false_iff,Bool.not_eq_false',Bool.and_eq_true,Bool.and_eq_false_iff,decide_eq_true_eq,bne_eq_false_iff_eq]at e1
      have hv:OT d d.Ports[i]:=⟨e1.1,e1.2⟩
      obtain⟨g1,g2⟩:=hc'.step hv.net.1 (by have:=hv.net.2;omega) (by omega)
      have hV:∀j (hj:j<d.Ports.length),j<i+1->OT d d.Ports[j]:=fun j hj hji=>by
       by_cases ej:j=i
       ·subst ej;exact hv
       ·exact hI' j hj (by omega)
      simp only [g1,g2,Ag]
      by_cases c:d.Ports[i].Dir=1
      ·have e:(d.Ports[i].Dir==1)=true:=beq_iff_eq.2 c
       have e':cP s' d.Ports[i]=Ih s' d.Ports[i].Net:=if_pos c
       rw [e,cT]
       exact .inl ⟨_,⟨⟨by rw [My hi,←hs',e'],hc'.bump hv.net.1 (by have:=hv.net.2;omega)⟩,hV⟩,rfl⟩
      ·have e:(d.Ports[i].Dir==1)=false:=beq_eq_false_iff_ne.2 c
       have e':cP s' d.Ports[i]=s':=if_neg c
       rw [e,cF]
       exact .inl ⟨_,⟨⟨by rw [My hi,←hs',e'],hc'.up⟩,hV⟩,rfl⟩
    ·intro m s' ⟨⟨hs',hc'⟩,hI'⟩
     rw [List.take_length,hs]at hs'
     have hs':s'=YW d:=hs'
     have v2:∀p∈d.Ports,OT d p:=fun x hx=>by obtain⟨j,hj,rfl⟩:=List.getElem_of_mem hx;exact hI' j hj hj
     simp only [Kj.eq_2,DB,cF,nD,mE]
     have hl':=hc'.1
     obtain⟨r,e,h⟩:=LK (xs:=s') (L:=fun m i=>KA n s' (fun i7=>(some (-1))) m i) (fun q=>q !=1) (by
      intro m i hi
      simp only [KA.eq_2,Cm hi,cT,AR hi,Ag,kI,wT i]) (by
      intro m
      simp only [KA.eq_2,DB,cF]) n (by omega)
     simp only [e,Ag]
     refine BR ?_
     rw [h,Bool.not_eq_true',List.any_eq_false]
     refine⟨fun a=>⟨vl,⟨c.1.1,c.1.2,c.2⟩,v1,v2,hni,hnp,hnn,fun i hi=>?_⟩,fun v x hx=>?_⟩
     ·have:=a s'[i] (List.getElem_mem (by omega))
      rw [←hs',LJ (List.getElem?_eq_getElem (show i<s'.length by omega))]
      simpa using this
     ·obtain⟨j,hj,rfl⟩:=List.getElem_of_mem hx
      have:=v.one j (by omega)
      rw [←hs',LJ (List.getElem?_eq_getElem hj)]at this
      simp [this]
 ·simp only [Bool.not_false,cT,Ag]
  exact BF fun v=>vl v.lib
def ER{α β:Type}(g:Nat->α->List β):Nat->List α->List β
 |_,[]=>[]
 |i,x::xs=>g i x++ER g (i+1) xs
theorem Ma{α β:Type}{g:Nat->α->List β}:∀(xs ys:List α) (i:Nat),ER g i (xs++ys)=ER g i xs++ER g (i+xs.length) ys
 |[],ys,i=>by simp [ER]
 |x::xs,ys,i=>by simp only [List.cons_append,ER,Ma xs ys (i+1),List.append_assoc,List.length_cons];rw [show i+1+xs.length=i+(xs.length+1) by omega]
theorem Ik{α β:Type}{g:Nat->α->List β}{xs:List α}{i:Nat}(h:i<xs.length):ER g 0 (xs.take (i+1))=ER g 0 (xs.take i)++g i xs[i]:=by
 rw [List.take_succ_eq_append_getElem h,Ma]
 simp [ER,Nat.min_eq_left (Nat.le_of_lt h)]
theorem Dz{α β:Type}{g:Nat->α->List β}{c:Nat}:∀(xs:List α) (i:Nat),(∀j,∀x∈xs,(g j x).length<=c)->(ER g i xs).length<=xs.length*c
 |[],i,_=>by simp [ER]
 |x::xs,i,h=>by
  have h1:=h i x (by simp)
  have h2:=Dz xs (i+1) fun j y hy=>h j y (by simp [hy])
  simp only [ER,List.length_append,List.length_cons,Nat.add_mul];omega
theorem Rj{α β γ:Type}{g:Nat->α->List β}(f:β->γ):∀(xs:List α) (i:Nat),(ER g i xs).map f=ER (fun i x=>(g i x).map f) i xs
 |[],i=>rfl
 |x::xs,i=>by simp only [ER,List.map_append,Rj f xs (i+1)]
theorem DL{α β R:Type}{xs:List α}{L:Nat->List β->Int->Option R}{k:List β->Option R}(g:Nat->α->List β)(c B:Nat)(hg:∀j,∀x∈xs,(g j x).length<=c)(hB:B+xs.length*c<=1048576)
 (hs:∀(m i:Nat) (h:i<xs.length) (s:List β),s.length+c<=1048576->L (m+1) s (i:Int)=L m (s++g i xs[i]) ((i+1:Nat):Int))
 (he:∀(m:Nat) (s:List β),L (m+1) s (xs.length:Int)=k s) (m:Nat) (hm:xs.length<m) (s0:List β) (h0:s0.length<=B):L m s0 0=k (s0++ER g 0 xs):=by
 refine loop (L:=fun m i s=>L m s i) xs.length (fun i s=>s=s0++ER g 0 (xs.take i)) (fun o=>o=k (s0++ER g 0 xs)) ?_ ?_ m 0 s0 (by omega) (by omega) (by simp [ER])
 ·intro m i s hi e
  refine .inl ⟨s++g i xs[i],?_,hs m i hi s ?_⟩
  ·rw [e,Ik hi,List.append_assoc]
  ·have h1:=Dz (g:=g) (c:=c) (xs.take i) 0 fun j y hy=>hg j y (List.mem_of_mem_take hy)
   have h2:(xs.take i).length=i:=by simp;omega
   rw [h2]at h1
   have h3:(i+1)*c<=xs.length*c:=Nat.mul_le_mul_right c hi
   rw [Nat.add_mul]at h3
   rw [e,List.length_append];omega
 ·intro m s e
  rw [List.take_length]at e
  show L (m+1) s (xs.length:Int)=_
  rw [he,e]
def OA(i:Nat)(x:AX):List At:=ER (fun j q=>[At.mk i j q ((j:Int)==(x.Nets.length:Int)-1)]) 0 x.Nets
def YR(i:Nat)(p:BN):List At:=[At.mk (-1) i p.Net (p.Dir==1)]
def CY(d:AQ):List At:=ER OA 0 d.Instances++ER YR 0 d.Ports
def Gv(p:At):Ay:=⟨p.instance_,p.pin_,p.net_,p.drives_⟩
theorem Oi{i:Nat}{x:AX}(h:x.Nets.length<=5):(OA i x).length<=5:=by
 have:=Dz (c:=1) (g:=fun j q=>[At.mk i j q ((j:Int)==(x.Nets.length:Int)-1)]) x.Nets 0 fun j q _=>by simp
 unfold OA;omega
theorem DF{d:AQ}(h:∀x∈d.Instances,x.Nets.length<=5)(h1:d.Instances.length<=14)(h2:d.Ports.length<=8):(CY d).length<=78:=by
 have a:=Dz (c:=5) (g:=OA) d.Instances 0 fun j q hq=>Oi (h q hq)
 have b:=Dz (c:=1) (g:=YR) d.Ports 0 fun j q _=>by simp [YR]
 unfold CY;rw [List.length_append];omega
theorem kR{n:Nat}{d:AQ}(h:∀x∈d.Instances,x.Nets.length<=5)(h1:d.Instances.length<=14)(h2:d.Ports.length<=8)(hn:1048577<=n):oZ n d=some (CY d):=by
 rw [oZ]
 have a:=Dz (c:=5) (g:=OA) d.Instances 0 fun j q hq=>Oi (h q hq)
 rw [DL (xs:=d.Instances) (L:=fun m s i=>KW n d _ m s i) (k:=fun s=>LD d _ n s 0) OA 5 0 (fun j q hq=>Oi (h q hq)) (by omega) (by
  intro m i hi s hs
  have hx:=h _ (List.getElem_mem hi)
  have wx:wrap .i64 ((d.Instances[i].Nets.length:Int)-1)=(d.Instances[i].Nets.length:Int)-1:=AY (by omega) (by omega)
  simp only [KW.eq_2,Cm hi,cT,AR hi,Ag,wT i]
  refine DL (xs:=d.Instances[i].Nets) (L:=fun m s j=>NB (i:Int) d.Instances[i] _ m s j) (k:=fun s=>KW n d _ m s ((i+1:Nat):Int)) (fun j q=>[At.mk i j q ((j:Int)==(d.Instances[i].Nets.length:Int)-1)]) 1 s.length (fun j q _=>by simp) (by omega) ?_ ?_ n (by omega) s (by omega)
  ·intro m j hj s hs
   simp only [NB.eq_2,Cm hj,cT,AR hj,Ag,wx,wT j]
   rw [Bq (by simp;omega) (by omega),Ag]
  ·intro m s
   simp only [NB.eq_2,DB,cF]) (by
  intro m s
  simp only [KW.eq_2,DB,cF];rfl) n (by omega) [] (by simp)]
 rw [DL (xs:=d.Ports) (L:=fun m s i=>LD d _ m s i) (k:=fun s=>some s) YR 1 70 (fun j q _=>by simp [YR]) (by omega) (by
  intro m i hi s hs
  simp only [LD.eq_2,Cm hi,cT,AR hi,Ag,wT i]
  rw [Bq (by simp;omega) (by omega),Ag];rfl) (by
  intro m s
  simp only [LD.eq_2,DB,cF]) n (by omega) _ (by simp;omega)]
 simp [CY]
theorem SE{n:Nat}{d:AQ}(h:∀x∈d.Instances,x.Nets.length<=5)(h1:d.Instances.length<=14)(h2:d.Ports.length<=8)(hn:1048577<=n):Zl n d=some ((CY d).map Gv):=by
 rw [Zl]
 have hlI:∀j,∀x∈d.Instances,((OA j x).map Gv).length<=5:=fun j x hx=>by rw [List.length_map];exact Oi (h x hx)
 have a:=Dz (c:=5) (g:=fun i x=>(OA i x).map Gv) d.Instances 0 hlI
 rw [DL (xs:=d.Instances) (L:=fun m s i=>KV n d _ m s i) (k:=fun s=>LF d _ n s 0) (fun i x=>(OA i x).map Gv) 5 0 hlI (by omega) (by
  intro m i hi s hs
  have hx:=h _ (List.getElem_mem hi)
  have wx:wrap .i64 ((d.Instances[i].Nets.length:Int)-1)=(d.Instances[i].Nets.length:Int)-1:=AY (by omega) (by omega)
  simp only [KV.eq_2,Cm hi,cT,AR hi,Ag,wT i]
  rw [OA,Rj]
  refine DL (xs:=d.Instances[i].Nets) (L:=fun m s j=>NA (i:Int) d.Instances[i] _ m s j) (k:=fun s=>KV n d _ m s ((i+1:Nat):Int)) (fun j q=>[At.mk i j q ((j:Int)==(d.Instances[i].Nets.length:Int)-1)].map Gv) 1 s.length (fun j q _=>by simp) (by omega) ?_ ?_ n (by omega) s (by omega)
  ·intro m j hj s hs
   simp only [NA.eq_2,Cm hj,cT,AR hj,Ag,wx,wT j]
   rw [Bq (by simp;omega) (by omega),Ag];rfl
  ·intro m s
   simp only [NA.eq_2,DB,cF]) (by
  intro m s
  simp only [KV.eq_2,DB,cF];rfl) n (by omega) [] (by simp)]
 rw [DL (xs:=d.Ports) (L:=fun m s i=>LF d _ m s i) (k:=fun s=>some s) (fun i x=>(YR i x).map Gv) 1 70 (fun j q _=>by simp [YR]) (by omega) (by
  intro m i hi s hs
  simp only [LF.eq_2,Cm hi,cT,AR hi,Ag,wT i]
  rw [Bq (by simp;omega) (by omega),Ag];rfl) (by
  intro m s
  simp only [LF.eq_2,DB,cF]) n (by omega) _ (by simp;omega)]
 simp [CY,Rj]
def Ee(q:Int)(p:At):Bool:=p.net_==q&& !p.drives_
def snk(d:AQ)(q:Int):Nat:=(CY d).countP (Ee q)
structure Bv(b:AM):Prop where
 design:Cx b.Library b.Design
 many:b.Wires.length=b.Design.Nets.length
 wire:∀i (h:i<b.Wires.length),Sj b.Wires[i] (snk b.Design i)
def SMW(w:Aw):Prop:=((w.Parent.length<=1048576∧w.Res.length<=1048576)∧w.Cap.length<=1048576)∧w.Sink.length<=1048576
structure bA(b:AM):Prop where
 lib:bD b.Library
 design:bJ b.Design
 wires:b.Wires.length<=1048576∧∀w∈b.Wires,SMW w
theorem Cx.short{l:Ad}{d:AQ}(v:Cx l d):∀x∈d.Instances,x.Nets.length<=5:=fun x hx=>((v.inst x hx).long v.lib).2
theorem DY{α β:Type}{g:Nat->α->List β}{Q:β->Prop}:∀(xs:List α) (i:Nat),(∀j (h:j<xs.length),∀y∈g (i+j) xs[j],Q y)->∀y∈ER g i xs,Q y
 |[],i,_,y,hy=>by simp [ER]at hy
 |x::xs,i,h,y,hy=>by
  simp only [ER,List.mem_append]at hy
  rcases hy with hy|hy
  ·exact h 0 (by simp) y (by simpa using hy)
  ·refine DY xs (i+1) (fun j hj y hy=>h (j+1) (by simpa using hj) y ?_) y hy
   simpa [show i+1+j=i+(j+1) by omega] using hy
theorem Cx.net{l:Ad}{d:AQ}(v:Cx l d):∀p∈CY d,0<=p.net_∧p.net_<d.Nets.length:=by
 intro p hp
 simp only [CY,List.mem_append]at hp
 rcases hp with hp|hp
 ·refine DY (Q:=fun p:At=>0<=p.net_∧p.net_<d.Nets.length) d.Instances 0 (fun j hj y hy=>?_) p hp
  refine DY (Q:=fun p:At=>0<=p.net_∧p.net_<d.Nets.length) _ 0 (fun k hk z hz=>?_) y hy
  have:=(v.inst _ (List.getElem_mem hj)).nets k hk
  rw [LJ (List.getElem?_eq_getElem hk)]at this
  simp only [List.mem_singleton]at hz
  subst hz;show 0<=d.Instances[j].Nets[k]∧d.Instances[j].Nets[k]<_;omega
 ·refine DY (Q:=fun p:At=>0<=p.net_∧p.net_<d.Nets.length) d.Ports 0 (fun j hj y hy=>?_) p hp
  have:=(v.port _ (List.getElem_mem hj)).net
  simp only [YR,List.mem_singleton]at hy
  subst hy;show 0<=d.Ports[j].Net∧d.Ports[j].Net<_;omega
def FW(d:AQ)(q:Int):List Int:=ER (fun i p=>if Ee q p=true then [(i:Int)]else []) 0 (CY d)
theorem Fk{d:AQ}{q:Int}:(FW d q).length=snk d q:=by
 have:∀(xs:List At) (i:Nat),(ER (fun i p=>if Ee q p=true then [(i:Int)]else []) i xs).length=xs.countP (Ee q):=by
  intro xs
  induction xs with
  |nil=>intro i;rfl
  |cons x xs ih=>
   intro i
   simp only [ER,List.length_append,ih,List.countP_cons]
   split<;>simp<;>omega
 exact this _ 0
theorem lV{n:Nat}{l:Ad}{d:AQ}(v:Cx l d)(q:Int)(hn:1048577<=n):VQ n d q=some (FW d q):=by
 rw [VQ,SE v.short v.few.1 v.few.2.2 hn,Ag]
 have hl:=DF v.short v.few.1 v.few.2.2
 have e:((CY d).map Gv).length=(CY d).length:=by simp
 have:=DL (xs:=(CY d).map Gv) (L:=fun m s i=>Hi q ((CY d).map Gv) (fun l38 i42=>some l38) m s i) (k:=fun s=>some s) (fun i p=>if (p.net_==q&& !p.drives_)=true then [(i:Int)]else []) 1 0 (fun j p _=>by split<;>simp) (by omega) (by
  intro m i hi s hs
  simp only [Hi.eq_2,Cm hi,cT,AR hi,Ag,CT,wT i]
  cases c:(((CY d).map Gv)[i].net_==q&& !((CY d).map Gv)[i].drives_)with
  |true=>rw [cT,if_pos rfl,Bq (by simp;omega) (by omega),Ag]
  |false=>rw [cF,if_neg (by simp),List.append_nil]) (by
  intro m s
  simp only [Hi.eq_2,DB,cF]) n (by omega) [] (by simp)
 rw [this,List.nil_append]
 congr 1
 have:∀(xs:List At) (i:Nat),ER (fun i (p:Ay)=>if (p.net_==q&& !p.drives_)=true then [(i:Int)]else []) i (xs.map Gv)=ER (fun i p=>if Ee q p=true then [(i:Int)]else []) i xs:=by
  intro xs
  induction xs with
  |nil=>intro i;rfl
  |cons x xs ih=>intro i;simp only [List.map_cons,ER,ih];rfl
 exact this _ 0
theorem Bk1{n:Nat}{b:AM}(h:bA b)(hn:1048577<=n):BG (Bv b) (YG n b):=by
 have hw0:=h.wires.1
 rw [YG]
 refine(Dg1 h.lib h.design hn).bind (fun v=>?_) (fun v=>?_)
 ·simp only [Bool.not_true,Bool.false_or]
  refine GD (fun c=>BF fun g=>?_) (fun c=>?_)
  ·have:=g.many;rw [bne_iff_ne]at c;omega
  ·rw [bne_eq_false_iff_eq]at c
   refine(Ei (L:=fun m i=>Jj n b _ m i) (Q:=True) b.Wires.length 0 (fun i=>∀(hi:i<b.Wires.length),Sj b.Wires[i] (snk b.Design i)) ?_ ?_ n 0 (by omega) (by omega) (by omega) (fun j _ h=>by omega)).iff ⟨fun a=>⟨v,by omega,fun i hi=>a.1 i (by omega) hi hi⟩,fun a=>⟨fun i _ _ hi=>a.wire i hi,trivial⟩⟩
   ·intro m i _ hi
    obtain⟨r,e,hr⟩:=Wr1 (n:=n) (w:=b.Wires[i]) (s:=(snk b.Design i:Int)) (h.wires.2 _ (List.getElem_mem hi)).2 hn
    simp only [Jj.eq_2,Cm hi,cT,AR hi,Ag,lV v _ hn,Fk,e,wT i]
    cases r with
    |true=>exact .inl ⟨fun _=>hr.1 rfl,by trivial⟩
    |false=>exact .inr ⟨fun g=>(by have:=hr.2 (g hi);cases this),by trivial⟩
   ·intro m i h1 h2 _
    obtain rfl:i=b.Wires.length:=by omega
    simp only [Jj.eq_2,DB,cF]
    exact Cj trivial
 ·simp only [Bool.not_false,Bool.true_or,cT]
  exact BF fun g=>v g.design
theorem Bk2{n:Nat}{b:AM}(h:bA b)(hn:1048577<=n):BG (Bv b) (F_u n b):=by
 have hw0:=h.wires.1
 rw [F_u]
 refine(Dg2 h.lib h.design hn).bind (fun v=>?_) (fun v=>?_)
 ·simp only [Bool.not_true,Bool.false_or]
  refine GD (fun c=>BF fun g=>?_) (fun c=>?_)
  ·have:=g.many;rw [bne_iff_ne]at c;omega
  ·rw [bne_eq_false_iff_eq]at c
   have hl:=DF v.short v.few.1 v.few.2.2
   rw [Cf (by omega) (by omega),Ag,kR v.short v.few.1 v.few.2.2 hn,Ag]
   refine loop (L:=fun m i s=>Kw (CY b.Design) _ m i s) (CY b.Design).length (fun i s=>YI b.Wires.length i s∧∀q:Nat,q<b.Wires.length->gd s q=((CY b.Design).take i).countP (Ee q)) (fun o=>BG (Bv b) o) ?_ ?_ n 0 _ (by omega) (by omega) ⟨⟨by simp,fun j=>by rw [Mw];omega⟩,fun q _=>by rw [Mw];simp⟩
   ·intro m i s hi ⟨hc,hs⟩
    have hp:=v.net _ (List.getElem_mem hi)
    obtain⟨g1,g2⟩:=hc.step hp.1 (by omega) (by omega)
    simp only [Kw.eq_2,Cm hi,cT,AR hi,Ag,g1,g2,wT i]
    cases hd:(CY b.Design)[i].drives_ with
    |true=>
     simp only [Bool.not_true,cF]
     refine .inl ⟨s,⟨hc.up,fun q hq=>?_⟩,rfl⟩
     rw [hs q hq,List.take_succ_eq_append_getElem hi,List.countP_append]
     simp [Ee,hd]
    |false=>
     simp only [Bool.not_false,cT]
     refine .inl ⟨_,⟨hc.bump hp.1 (by omega),fun q hq=>?_⟩,rfl⟩
     rw [List.take_succ_eq_append_getElem hi,List.countP_append]
     unfold Ih
     rw [HS (by have:=hc.1;omega)]
     by_cases e:(CY b.Design)[i].net_.toNat=q
     ·have e2:(CY b.Design)[i].net_=(q:Int):=by omega
      rw [if_pos e,e,hs q hq]
      simp [Ee,hd,e2]
     ·have e2:¬(CY b.Design)[i].net_=(q:Int):=by omega
      rw [if_neg e,hs q hq]
      simp [Ee,hd,e2]
   ·intro m s ⟨hc,hs⟩
    simp only [Kw.eq_2,DB,cF]
    refine(Ei (L:=fun m i=>Mg n b s _ m i) (Q:=True) b.Wires.length 0 (fun i=>∀(hi:i<b.Wires.length),Sj b.Wires[i] (snk b.Design i)) ?_ ?_ n 0 (by omega) (by omega) (by omega) (fun j _ h=>by omega)).iff ⟨fun a=>⟨v,by omega,fun i hi=>a.1 i (by omega) hi hi⟩,fun a=>⟨fun i _ _ hi=>a.wire i hi,trivial⟩⟩
    ·intro m i _ hi
     have hw:=h.wires.2 _ (List.getElem_mem hi)
     obtain⟨r,e,hr⟩:=Wr2 (n:=n) (w:=b.Wires[i]) (s:=(snk b.Design i:Int)) hw.2 hw.1.1.2 hw.1.2 hw.1.1.1 hn
     have hg:gd s i=(snk b.Design i:Int):=by rw [hs i hi,List.take_length];rfl
     simp only [Mg.eq_2,Cm hi,cT,AR hi,gI (show i<s.length by rw [hc.1];exact hi),hg,Ag,e,wT i]
     cases r with
     |true=>exact .inl ⟨fun _=>hr.1 rfl,by trivial⟩
     |false=>exact .inr ⟨fun g=>(by have:=hr.2 (g hi);cases this),by trivial⟩
    ·intro m i h1 h2 _
     obtain rfl:i=b.Wires.length:=by omega
     simp only [Mg.eq_2,DB,cF]
     exact Cj trivial
 ·simp only [Bool.not_false,Bool.true_or,cT]
  exact BF fun g=>v g.design
theorem Ko{σ R:Type}{Q:R->Prop}{L:Nat->Int->σ->Option R}(N:Nat)(I:Nat->σ->Prop)
 (hs:∀(m i:Nat) (st:σ),i<N->I i st->∃st',I (i+1) st'∧L (m+1) (i:Int) st=L m ((i+1:Nat):Int) st')
 (he:∀(m:Nat) (st:σ),I N st->ET Q (L (m+1) (N:Int) st)) (m:Nat) (st:σ) (hm:N<m) (h:I 0 st):ET Q (L m 0 st):=
 loop N I (ET Q) (fun m i st a b=>.inl (hs m i st a b)) he m 0 st (by omega) (by omega) h
theorem Xz{σ R:Type}{Q:R->Prop}{L:Nat->Int->σ->Option R}(s N:Nat)(I:Nat->σ->Prop)
 (hs:∀(m i:Nat) (st:σ),s<=i->i<N->I i st->∃st',I (i+1) st'∧L (m+1) (i:Int) st=L m ((i+1:Nat):Int) st')
 (he:∀(m:Nat) (st:σ),I N st->ET Q (L (m+1) (N:Int) st)) (m:Nat) (st:σ) (hsN:s<=N) (hm:N<m) (h:I s st):ET Q (L m (s:Int) st):=
 loop N (fun i st=>s<=i∧I i st) (ET Q) (fun m i st a b=>by
  obtain⟨st',h1,h2⟩:=hs m i st b.1 a b.2
  exact .inl ⟨st',⟨by have:=b.1;omega,h1⟩,h2⟩) (fun m st h=>he m st h.2) m s st hsN (by omega) ⟨Nat.le_refl _,h⟩
theorem AjW{n:Nat}{l:Ad}{d:AQ}(v:Cx l d)(q:Int)(hn:1048577<=n):aC n d q=some (FW d q):=by
 rw [aC,kR v.short v.few.1 v.few.2.2 hn,Ag]
 have hl:=DF v.short v.few.1 v.few.2.2
 have:=DL (xs:=CY d) (L:=fun m s i=>Hq q (CY d) (fun l29 i33=>some l29) m s i) (k:=fun s=>some s) (fun i p=>if Ee q p=true then [(i:Int)]else []) 1 0 (fun j p _=>by split<;>simp) (by omega) (by
  intro m i hi s hs
  simp only [Hq.eq_2,Cm hi,cT,AR hi,Ag,wT i]
  rw [show((CY d)[i].net_==q&& !(CY d)[i].drives_)=Ee q (CY d)[i]from rfl]
  cases c:Ee q (CY d)[i]with
  |true=>rw [cT,if_pos rfl,Bq (by simp;omega) (by omega),Ag]
  |false=>rw [cF,if_neg (by simp),List.append_nil]) (by
  intro m s
  simp only [Hq.eq_2,DB,cF]) n (by omega) [] (by simp)
 rw [this,List.nil_append];rfl
theorem Ki{d:AQ}{q:Int}:∀x∈FW d q,0<=x∧x<(CY d).length:=by
 refine DY (Q:=fun x:Int=>0<=x∧x<(CY d).length) _ 0 fun j hj y hy=>?_
 split at hy
 ·simp only [Nat.zero_add,List.mem_singleton]at hy;omega
 ·cases hy
theorem Cx.place{l:Ad}{d:AQ}(v:Cx l d):∀p∈CY d,0<=p.instance_->∃x c pin,AE d.Instances p.instance_=some x∧AE l.Cells x.Cell=some c∧AE c.Pins p.pin_=some pin:=by
 intro p hp
 simp only [CY,List.mem_append]at hp
 rcases hp with hp|hp
 ·refine DY (Q:=fun p:At=>0<=p.instance_->∃x c pin,AE d.Instances p.instance_=some x∧AE l.Cells x.Cell=some c∧AE c.Pins p.pin_=some pin) d.Instances 0 (fun j hj y hy=>?_) p hp
  refine DY (Q:=fun p:At=>0<=p.instance_->∃x c pin,AE d.Instances p.instance_=some x∧AE l.Cells x.Cell=some c∧AE c.Pins p.pin_=some pin) _ 0 (fun k hk z hz=>?_) y hy
  have vi:=v.inst _ (List.getElem_mem hj)
  simp only [Nat.zero_add,List.mem_singleton]at hz
  subst hz
  intro _
  obtain⟨c,ec,_⟩:=HG (xs:=l.Cells) vi.cell.1 (by have:=vi.cell.2;omega)
  have hc:=vi.pins c ec
  exact⟨_,c,_,AR hj,ec,AR (show k<c.Pins.length by omega)⟩
 ·refine DY (Q:=fun p:At=>0<=p.instance_->∃x c pin,AE d.Instances p.instance_=some x∧AE l.Cells x.Cell=some c∧AE c.Pins p.pin_=some pin) d.Ports 0 (fun j hj y hy=>?_) p hp
  simp only [YR,List.mem_singleton]at hy
  subst hy;intro h;exact absurd h (by show¬(0:Int)<= -1;decide)
theorem Fo{t:List Int}{i:Int}(h0:0<=i)(h1:i<t.length):∃x,AE t i=some x:=⟨_,Oe h0 h1⟩
theorem IU.b{b:AM}(h:IU b):bA b:=
 ⟨⟨h.1.1,fun c hc=>FY.c (c:=c) (h.1.2 c hc)⟩,⟨⟨h.2.1.1.1,fun x hx=>⟨(h.2.1.1.2 x hx).1,(h.2.1.1.2 x hx).2.2.1⟩⟩,⟨h.2.1.2.1.1,h.2.1.2.1.2⟩,⟨h.2.1.2.2.1,fun p hp=>(h.2.1.2.2.2 p hp).1⟩⟩,⟨h.2.2.1,fun w hw=>⟨⟨⟨(h.2.2.2 w hw).1.1,(h.2.2.2 w hw).2.1.1⟩,(h.2.2.2 w hw).2.2.1.1⟩,(h.2.2.2 w hw).2.2.2.1⟩⟩⟩
def CE(b:AM):Int:=2*((CY b.Design).length:Int)
theorem dV{n:Nat}{b:AM}(v:Bv b)(hn:1048577<=n):RL n b=some (CE b):=by
 have hl:=DF v.design.short v.design.few.1 v.design.few.2.2
 rw [RL,SE v.design.short v.design.few.1 v.design.few.2.2 hn,Ag,List.length_map,AY (by omega) (by omega)];rfl
theorem jJ{n:Nat}{b:AM}{r:BO}(v:Bv b)(e:r.places_=CY b.Design):QG n r=some (CE b):=by
 have hl:=DF v.design.short v.design.few.1 v.design.few.2.2
 rw [QG,jD,e,Ag,AY (by omega) (by omega)];rfl
def SN(xs:List AJ)(i:Nat):Int:=gd (xs.map fun t:AJ=>t.Node) i
theorem Ls{xs:List AJ}{i:Nat}(h:i<xs.length):SN xs i=xs[i].Node:=by
 unfold SN;rw [LJ (v:=xs[i].Node) (by simp [h])]
theorem pA{xs:List AJ}{i:Nat}(hi:i<xs.length)(c:Int)(hl:xs.length<=1048576):(cond (decide ((i:Int)>0)) (Option.bind (AE xs (wrap .i64 ((i:Int)-1))) fun x=>some (decide (x.Node>=c))) (some false))=some (decide (0<i∧c<=SN xs (i-1))):=by
 by_cases h:0<i
 ·have hd:decide ((i:Int)>0)=true:=decide_eq_true (by omega)
  have wk:wrap .i64 ((i:Int)-1)=((i-1:Nat):Int):=by rw [AY (by omega) (by omega)];omega
  rw [hd,cT,wk,AR (show i-1<xs.length by omega),Ag,Ls (show i-1<xs.length by omega)]
  simp [h]
 ·have hd:decide ((i:Int)>0)=false:=decide_eq_false (by omega)
  rw [hd,cF];simp [h]
structure Rb(b:AM)(xs:List AJ)(i:Nat)(t:AJ):Prop where
 node:0<=t.Node∧t.Node<=CE b-1
 up:¬(0<i∧t.Node<=SN xs (i-1))
 early:-1000000000<=t.Required.Early∧t.Required.Early<=1000000000
 late:-1000000000<=t.Required.Late∧t.Required.Late<=1000000000
theorem Tg1{n:Nat}{b:AM}{xs:List AJ}(v:Bv b)(hl:xs.length<=1048576)(hn:1048577<=n):BG (∀i (h:i<xs.length),Rb b xs i xs[i]) (YO n b xs):=by
 have hp:=DF v.design.short v.design.few.1 v.design.few.2.2
 have wN:wrap .i64 (CE b-1)=CE b-1:=AY (by unfold CE;omega) (by unfold CE;omega)
 rw [YO,dV v hn,Ag]
 refine(Ei (L:=fun m i=>Jx n xs (CE b) _ m i) (Q:=True) xs.length 0 (fun i=>∀(hi:i<xs.length),Rb b xs i xs[i]) ?_ ?_ n 0 (by omega) (by omega) (by omega) (fun j _ h=>by omega)).iff ⟨fun a i hi=>a.1 i (by omega) hi hi,fun a=>⟨fun i _ _ hi=>a i hi,trivial⟩⟩
 ·intro m i _ hi
  simp only [Jx.eq_2,Cm hi,cT,AR hi,Ag,IR,Vo,wN,pA hi _ hl,Em,CT,wT i]
  cases e:((!(decide (xs[i].Node>=0)&&decide (xs[i].Node<=CE b-1))||decide (0<i∧xs[i].Node<=SN xs (i-1)))|| !((decide (xs[i].Required.Early>= -1000000000)&&decide (xs[i].Required.Early<=1000000000))&&(decide (xs[i].Required.Late>= -1000000000)&&decide (xs[i].Required.Late<=1000000000))))with
  |true=>
   rw [cT]
   refine .inr ⟨fun g=>?_,rfl⟩
   obtain⟨g1,g2,g3,g4⟩:=g hi
   simp only [Bool.or_eq_true,Bool.not_eq_true',Bool.and_eq_false_iff,decide_eq_false_iff_not,decide_eq_true_eq]at e
   rcases e with (e|e)|e
   ·omega
   ·exact g2 e
   ·omega
  |false=>
   rw [cF]
   simp only [Bool.or_eq_false_iff,Bool.not_eq_false',Bool.and_eq_true,decide_eq_false_iff_not,decide_eq_true_eq]at e
   exact .inl ⟨fun _=>⟨by omega,e.1.2,by omega,by omega⟩,rfl⟩
 ·intro m i h1 h2 _
  obtain rfl:i=xs.length:=by omega
  simp only [Jx.eq_2,DB,cF]
  exact Cj trivial
theorem Tg2{n:Nat}{b:AM}{r:BO}{xs:List AJ}(v:Bv b)(hr:r.places_=CY b.Design)(hl:xs.length<=1048576)(hn:1048577<=n):BG (∀i (h:i<xs.length),Rb b xs i xs[i]) (cX n r xs):=by
 have hp:=DF v.design.short v.design.few.1 v.design.few.2.2
 have wN:wrap .i64 (CE b-1)=CE b-1:=AY (by unfold CE;omega) (by unfold CE;omega)
 rw [cX]
 refine(Ei (L:=fun m i=>It n r xs _ m i) (Q:=True) xs.length 0 (fun i=>∀(hi:i<xs.length),Rb b xs i xs[i]) ?_ ?_ n 0 (by omega) (by omega) (by omega) (fun j _ h=>by omega)).iff ⟨fun a i hi=>a.1 i (by omega) hi hi,fun a=>⟨fun i _ _ hi=>a i hi,trivial⟩⟩
 ·intro m i _ hi
  simp only [It.eq_2,Cm hi,cT,AR hi,Ag,jR,jJ v hr,Li,VB,Rh,wN,pA hi _ hl,Em,CT,wT i]
  cases e:((!(decide (xs[i].Node>=0)&&decide (xs[i].Node<=CE b-1))|| !((decide (xs[i].Required.Early>= -1000000000)&&decide (xs[i].Required.Early<=1000000000))&&(decide (xs[i].Required.Late>= -1000000000)&&decide (xs[i].Required.Late<=1000000000))))||decide (0<i∧xs[i].Node<=SN xs (i-1)))with
  |true=>
   rw [cT]
   refine .inr ⟨fun g=>?_,rfl⟩
   obtain⟨g1,g2,g3,g4⟩:=g hi
   simp only [Bool.or_eq_true,Bool.not_eq_true',Bool.and_eq_false_iff,decide_eq_false_iff_not,decide_eq_true_eq]at e
   rcases e with (e|e)|e
   ·omega
   ·omega
   ·exact g2 e
  |false=>
   rw [cF]
   simp only [Bool.or_eq_false_iff,Bool.not_eq_false',Bool.and_eq_true,decide_eq_false_iff_not,decide_eq_true_eq]at e
   exact .inl ⟨fun _=>⟨by omega,e.2,by omega,by omega⟩,rfl⟩
 ·intro m i h1 h2 _
  obtain rfl:i=xs.length:=by omega
  simp only [It.eq_2,DB,cF]
  exact Cj trivial
def Lg(s:AO):Bool:=(decide (s.Early>= -1000000000)&&decide (s.Early<=1000000000))&&(decide (s.Late>= -1000000000)&&decide (s.Late<=1000000000))
def QM(s:AO):Bool:=Lg s&&decide (s.Early<=s.Late)
def QR(s:AO):Bool:=(decide (s.Early>=0)&&decide (s.Early<=s.Late))&&decide (s.Late<=1000000)
theorem sp1{n:Nat}{s:AO}:aE n s=some (QM s):=by
 simp only [aE,IR,Ag,CT];rfl
theorem sp2{n:Nat}{s:AO}:XP n s=some (QM s):=by
 simp only [XP,Rh,Li,Ag,CT];rfl
theorem sl1{n:Nat}{s:AO}:mP n s=some (QR s):=rfl
theorem sl2{n:Nat}{s:AO}:Zk n s=some (QR s):=by
 simp only [Zk,sp2,dK,Li,Ag,CT]
 congr 1
 rw [Bool.eq_iff_iff]
 simp only [QM,Lg,QR,Bool.and_eq_true,decide_eq_true_eq]
 omega
def Va(r:Bool)(a s:AO):Bool:=!((!QM a|| !QR s)||(!r&&(!(a.Early==0&&a.Late==0)|| !(s.Early==0&&s.Late==0))))
structure wH(b:AM)(x:Ap):Prop where
 reached:(x.Reached.length:Int)=CE b
 arr:(x.Arrival.length:Int)=CE b
 slew:(x.Slew.length:Int)=CE b
 each:∀i (h:i<x.Reached.length) (h2:i<x.Arrival.length) (h3:i<x.Slew.length),Va x.Reached[i] x.Arrival[i] x.Slew[i]=true
theorem Tm1{n:Nat}{b:AM}{x:Ap}(hl:x.Reached.length<=1048576)(hn:1048577<=n):BG (wH b x) (eP n (CE b) x):=by
 rw [eP]
 refine GD (fun c=>BF fun v=>?_) (fun c=>?_)
 ·have:=v.reached;have:=v.arr;have:=v.slew
  simp only [Bool.or_eq_true,bne_iff_ne,ne_eq]at c;omega
 ·simp only [Bool.or_eq_false_iff,bne_eq_false_iff_eq]at c
  refine(Ei (L:=fun m i=>JR n x _ m i) (Q:=True) x.Reached.length 0 (fun i=>∀(h:i<x.Reached.length) (h2:i<x.Arrival.length) (h3:i<x.Slew.length),Va x.Reached[i] x.Arrival[i] x.Slew[i]=true) ?_ ?_ n 0 (by omega) (by omega) (by omega) (fun j _ h=>by omega)).iff ⟨fun a=>⟨c.1.1,c.1.2,c.2,fun i h h2 h3=>a.1 i (by omega) h h h2 h3⟩,fun a=>⟨fun i _ _ h h2 h3=>a.each i h h2 h3,trivial⟩⟩
  ·intro m i _ hi
   have hi2:i<x.Arrival.length:=by omega
   have hi3:i<x.Slew.length:=by omega
   simp only [JR.eq_2,Cm hi,cT,AR hi,AR hi2,AR hi3,Ag,sp1,sl1,Em,CT,wT i]
   cases e:((!QM x.Arrival[i]|| !QR x.Slew[i])||(!x.Reached[i]&&(!(x.Arrival[i].Early==0&&x.Arrival[i].Late==0)|| !(x.Slew[i].Early==0&&x.Slew[i].Late==0))))with
   |true=>rw [cT];exact .inr ⟨fun g=>(by have:=g hi hi2 hi3;unfold Va at this;rw [e]at this;cases this),rfl⟩
   |false=>rw [cF];exact .inl ⟨fun _ _ _=>(by unfold Va;rw [e];rfl),rfl⟩
  ·intro m i h1 h2 _
   obtain rfl:i=x.Reached.length:=by omega
   simp only [JR.eq_2,DB,cF]
   exact Cj trivial
theorem Tm2{n:Nat}{b:AM}{r:BO}{x:Ap}(v:Bv b)(hr:r.places_=CY b.Design)(hl:x.Reached.length<=1048576)(hn:1048577<=n):BG (wH b x) (eD n r x):=by
 rw [eD]
 simp only [jC,iB,jJ v hr,Ag,Em]
 refine GD (fun c=>BF fun v=>?_) (fun c=>?_)
 ·have:=v.reached;have:=v.arr;have:=v.slew
  simp only [Bool.or_eq_true,bne_iff_ne,ne_eq]at c;omega
 ·simp only [Bool.or_eq_false_iff,bne_eq_false_iff_eq]at c
  refine(Ei (L:=fun m i=>JA n x _ m i) (Q:=True) x.Reached.length 0 (fun i=>∀(h:i<x.Reached.length) (h2:i<x.Arrival.length) (h3:i<x.Slew.length),Va x.Reached[i] x.Arrival[i] x.Slew[i]=true) ?_ ?_ n 0 (by omega) (by omega) (by omega) (fun j _ h=>by omega)).iff ⟨fun a=>⟨c.1.1,c.1.2,c.2,fun i h h2 h3=>a.1 i (by omega) h h h2 h3⟩,fun a=>⟨fun i _ _ h h2 h3=>a.each i h h2 h3,trivial⟩⟩
  ·intro m i _ hi
   have hi2:i<x.Arrival.length:=by omega
   have hi3:i<x.Slew.length:=by omega
   simp only [JA.eq_2,Cm hi,cT,AR hi,AR hi2,AR hi3,Ag,sp2,sl2,Em,CT,wT i]
   cases e:((!QM x.Arrival[i]|| !QR x.Slew[i])||(!x.Reached[i]&&(!(x.Arrival[i].Early==0&&x.Arrival[i].Late==0)|| !(x.Slew[i].Early==0&&x.Slew[i].Late==0))))with
   |true=>rw [cT];exact .inr ⟨fun g=>(by have:=g hi hi2 hi3;unfold Va at this;rw [e]at this;cases this),rfl⟩
   |false=>rw [cF];exact .inl ⟨fun _ _ _=>(by unfold Va;rw [e];rfl),rfl⟩
  ·intro m i h1 h2 _
   obtain rfl:i=x.Reached.length:=by omega
   simp only [JA.eq_2,DB,cF]
   exact Cj trivial
theorem dP{σ τ R R':Type}{L:Nat->Int->σ->Option R}{M:Nat->Int->τ->Option R'}(N:Nat)(I:Nat->σ->τ->Prop)(Post:Option R->Option R'->Prop)
 (hs:∀(m i:Nat) (s:σ) (t:τ),i<N->I i s t->∃s' t',I (i+1) s' t'∧L (m+1) (i:Int) s=L m ((i+1:Nat):Int) s'∧M (m+1) (i:Int) t=M m ((i+1:Nat):Int) t')
 (he:∀(m:Nat) (s:σ) (t:τ),I N s t->Post (L (m+1) (N:Int) s) (M (m+1) (N:Int) t)):∀(m i:Nat) (s:σ) (t:τ),i<=N->N-i<m->I i s t->Post (L m (i:Int) s) (M m (i:Int) t)
 |0,i,_,_,_,hm,_=>by omega
 |m+1,i,s,t,hi,hm,h=>by
  by_cases hlt:i<N
  ·obtain⟨s',t',h1,h2,h3⟩:=hs m i s t hlt h
   rw [h2,h3];exact dP N I Post hs he m (i+1) s' t' (by omega) (by omega) h1
  ·obtain rfl:i=N:=by omega
   exact he m s t h
theorem gdX{xs:List Int}{i:Nat}(h:i<xs.length):gd xs i=xs[i]:=LJ (by simp [h])
theorem UE{α β:Type}(h:Nat->α->β):∀(xs:List α) (s j:Nat),(ER (fun j q=>[h j q]) s xs)[j]? =(xs[j]?).map (h (s+j))
 |[],s,j=>by simp [ER]
 |x::xs,s,0=>by simp [ER]
 |x::xs,s,j+1=>by
  have:=UE h xs (s+1) j
  simp only [ER,List.singleton_append,List.getElem?_cons_succ,this]
  rw [show s+1+j=s+(j+1) by omega]
structure Ru{α:Type}(f:α->Bool)(ys:List α)(k:Nat):Prop where
 hit:∃y,ys[k]? =some y∧f y=true
 miss:∀j y,j<k->ys[j]? =some y->f y=false
theorem Ru.lt{α:Type}{f:α->Bool}{ys:List α}{k:Nat}(h:Ru f ys k):k<ys.length:=by
 obtain⟨y,e,_⟩:=h.hit
 exact(List.getElem?_eq_some_iff.1 e).1
def Eg(d:AQ)(i:Nat):Nat:=(ER OA 0 (d.Instances.take i)).length
def ZZ(i q:Int)(p:At):Bool:=(p.instance_==i)&&(p.pin_==q)
theorem kH{d:AQ}{i:Nat}(hi:i<d.Instances.length):∃C,CY d=ER OA 0 (d.Instances.take i)++(OA i d.Instances[i]++C):=by
 refine⟨ER OA (i+1) (d.Instances.drop (i+1))++ER YR 0 d.Ports,?_⟩
 have e:d.Instances=d.Instances.take i++(d.Instances[i]::d.Instances.drop (i+1)):=by
  rw [←List.drop_eq_getElem_cons hi,List.take_append_drop]
 have e2:ER OA 0 d.Instances=ER OA 0 (d.Instances.take i)++(OA i d.Instances[i]++ER OA (i+1) (d.Instances.drop (i+1))):=by
  conv=>lhs;rw [e]
  rw [Ma]
  simp [ER,Nat.min_eq_left (Nat.le_of_lt hi)]
 unfold CY
 rw [e2];simp
theorem HQ{d:AQ}{i q:Nat}(hi:i<d.Instances.length)(hq:q<d.Instances[i].Nets.length):Ru (ZZ i q) (CY d) (Eg d i+q):=by
 obtain⟨C,e⟩:=kH hi
 have hp:∀j:Nat,(OA i d.Instances[i])[j]? =(d.Instances[i].Nets[j]?).map fun x=>At.mk i j x ((j:Int)==(d.Instances[i].Nets.length:Int)-1):=by
  intro j
  have:=UE (fun j q=>At.mk i j q ((j:Int)==(d.Instances[i].Nets.length:Int)-1)) d.Instances[i].Nets 0 j
  rw [Nat.zero_add]at this
  exact this
 have hl:(OA i d.Instances[i]).length=d.Instances[i].Nets.length:=by
  apply Nat.le_antisymm
  ·apply Nat.le_of_not_lt
   intro h
   have:=hp d.Instances[i].Nets.length
   rw [List.getElem?_eq_getElem h]at this
   simp at this
  ·apply Nat.le_of_not_lt
   intro h
   have:=hp (OA i d.Instances[i]).length
   rw [List.getElem?_eq_getElem h]at this
   simp at this
 have hA:∀y∈ER OA 0 (d.Instances.take i),y.instance_<(i:Int):=by
  refine DY (Q:=fun p:At=>p.instance_<(i:Int)) _ 0 (fun j hj y hy=>?_)
  have hji:j<i:=by simp at hj;omega
  refine DY (Q:=fun p:At=>p.instance_<(i:Int)) _ 0 (fun k hk z hz=>?_) y hy
  simp only [List.mem_singleton]at hz
  subst hz
  show((0+j:Nat):Int)<i
  omega
 refine⟨⟨At.mk i q d.Instances[i].Nets[q] ((q:Int)==(d.Instances[i].Nets.length:Int)-1),?_,by simp [ZZ]⟩,?_⟩
 ·rw [e,Eg,List.getElem?_append_right (by omega),Nat.add_sub_cancel_left,List.getElem?_append_left (by omega),hp,List.getElem?_eq_getElem hq];rfl
 ·intro j y hj hy
  rw [e]at hy
  by_cases c:j<(ER OA 0 (d.Instances.take i)).length
  ·rw [List.getElem?_append_left c]at hy
   have:=hA y (List.mem_of_getElem? hy)
   simp only [ZZ,Bool.and_eq_false_iff,beq_eq_false_iff_ne];left;omega
  ·unfold Eg at hj
   rw [List.getElem?_append_right (by omega),List.getElem?_append_left (by omega),hp]at hy
   obtain⟨x,_,rfl⟩:=Option.map_eq_some_iff.1 hy
   simp only [ZZ,Bool.and_eq_false_iff,beq_eq_false_iff_ne];right
   show((j-(ER OA 0 (d.Instances.take i)).length:Nat):Int)≠q
   omega
theorem xO{n:Nat}{l:Ad}{d:AQ}(v:Cx l d){i q:Nat}(hi:i<d.Instances.length)(hq:q<d.Instances[i].Nets.length)(hn:1048577<=n):YL n d (i:Int) (q:Int)=some ((Eg d i+q:Nat):Int):=by
 have f:=HQ hi hq
 have hl:=DF v.short v.few.1 v.few.2.2
 have fl:=f.lt
 rw [YL,SE v.short v.few.1 v.few.2.2 hn,Ag]
 refine loop (L:=fun m j (_:Unit)=>Hk (i:Int) (q:Int) ((CY d).map Gv) (fun i26=>(some (-1))) m j) (Eg d i+q+1) (fun j _=>j<=Eg d i+q) (fun o=>o=some ((Eg d i+q:Nat):Int)) ?_ ?_ n 0 () (by omega) (by omega) (by omega)
 ·intro m j _ hj hI
  have hjl:j<(CY d).length:=by omega
  have hjm:j<((CY d).map Gv).length:=by simpa using hjl
  have hg:AE ((CY d).map Gv) (j:Int)=some (Gv (CY d)[j]):=by rw [AR hjm];simp
  have hb:(Option.bind (cond ((Gv (CY d)[j]).instance_==(i:Int)) (some ((Gv (CY d)[j]).pin_==(q:Int))) (some false)) fun c35=>(cond c35 (some (j:Int)) (Hk (i:Int) (q:Int) ((CY d).map Gv) (fun i26=>(some (-1))) m (wrap .i64 ((j:Int)+1)))))=(cond (ZZ i q (CY d)[j]) (some (j:Int)) (Hk (i:Int) (q:Int) ((CY d).map Gv) (fun i26=>(some (-1))) m ((j+1:Nat):Int))):=by
   rw [wT j,CT,Ag];rfl
  simp only [Hk.eq_2,Cm hjm,cT,hg,Ag]
  rw [hb]
  by_cases c:j=Eg d i+q
  ·obtain⟨y,e,hy⟩:=f.hit
   rw [←c,List.getElem?_eq_getElem hjl]at e
   obtain rfl:=Option.some.inj e
   rw [hy,cT,←c];exact .inr rfl
  ·have:=f.miss j _ (by omega) (List.getElem?_eq_getElem hjl)
   rw [this,cF];exact .inl ⟨(),by omega,rfl⟩
 ·intro m _ hI
  omega
theorem Cx.inst_at{l:Ad}{d:AQ}(v:Cx l d){i:Nat}(hi:i<d.Instances.length):∃k,∃h:k<l.Cells.length,d.Instances[i].Cell=(k:Int)∧AE l.Cells d.Instances[i].Cell=some l.Cells[k]∧d.Instances[i].Nets.length=l.Cells[k].Pins.length∧PM l.Cells[k]:=by
 have x:=v.inst _ (List.getElem_mem hi)
 obtain⟨k,hk⟩:=Int.eq_ofNat_of_zero_le x.cell.1
 have hk:d.Instances[i].Cell=(k:Int):=hk
 have h:k<l.Cells.length:=by have:=x.cell.2;omega
 have g:AE l.Cells d.Instances[i].Cell=some l.Cells[k]:=by rw [hk];exact AR h
 exact⟨k,h,hk,g,x.pins _ g,v.lib.cells k h⟩
theorem AgK:∀a:Nat,a<5->∀b:Nat,b<5->wrap .i64 (Sr .u64 (IntKind.wrap IntKind.u64 (wrap .i64 ((a:Int)+(b:Int)))) 1)=(((a+b)/2:Nat):Int):=by decide
theorem Wi.mono{l:List Int}(h:Wi l):∀(d i:Nat),i+d+1<l.length->gd l i<gd l (i+d+1)
 |0,i,hi=>by have:=h.2.2 (i+0+1) hi (by omega);simpa using this
 |d+1,i,hi=>by
  have a:=Wi.mono h d i (by omega)
  have b:=h.2.2 (i+(d+1)+1) hi (by omega)
  rw [show i+(d+1)+1-1=i+d+1 by omega]at b
  omega
theorem Wi.lt{l:List Int}(h:Wi l){i j:Nat}(hij:i<j)(hj:j<l.length):gd l i<gd l j:=by
 have:=h.mono (j-i-1) i (by omega)
 rwa [show i+(j-i-1)+1=j by omega]at this
theorem BSL{n:Nat}{l:List Int}(h:Wi l){c:Int}{K:Int->Int->Option (Int×Bool)}:∀(m i j:Nat),i<=j->j<=l.length->j-i<m->(∀k,k<i->gd l k<c)->(∀k,j<=k->k<l.length->c<=gd l k)->
 ∃p:Nat,p<=l.length∧(∀k,k<p->gd l k<c)∧(∀k,p<=k->k<l.length->c<=gd l k)∧Jm n l c K m (i:Int) (j:Int)=K (p:Int) (p:Int)
 |0,i,j,_,_,hm,_,_=>by omega
 |m+1,i,j,hij,hj,hm,h1,h2=>by
  have few:=h.1.2
  rw [Jm.eq_2]
  by_cases c0:i<j
  ·have d0:decide ((i:Int)<(j:Int))=true:=decide_eq_true (by omega)
   have hq:(i+j)/2<l.length:=by omega
   simp only [d0,cT,AgK i (by omega) j (by omega),gI hq,Ag,nF,aR,bne_self_eq_false,cF,Bool.false_or]
   by_cases c1:gd l ((i+j)/2)<c
   ·rw [decide_eq_true c1,cT,wS (show(i+j)/2<4611686018427387904 by omega)]
    refine BSL h m ((i+j)/2+1) j (by omega) hj (by omega) (fun k hk=>?_) h2
    by_cases e:k=(i+j)/2
    ·rw [e];exact c1
    ·have:=h.lt (show k<(i+j)/2 by omega) hq;omega
   ·rw [decide_eq_false c1,cF]
    refine BSL h m i ((i+j)/2) (by omega) (by omega) (by omega) h1 (fun k hk hk2=>?_)
    by_cases e:k=(i+j)/2
    ·rw [e];omega
    ·have:=h.lt (show(i+j)/2<k by omega) hk2;omega
  ·obtain rfl:i=j:=by omega
   have d0:decide ((i:Int)<(i:Int))=false:=decide_eq_false (by omega)
   rw [d0,cF]
   exact⟨i,hj,h1,h2,rfl⟩
def CO(l:List Int)(x:Int):Int:=min (max x (gd l 0)) (gd l (l.length-1))
theorem Sd{l:List Int}(h:Wi l)(x:Int):gd l 0<=CO l x∧CO l x<=gd l (l.length-1):=by
 have h1:=h.1.1
 have:gd l 0<=gd l (l.length-1):=by
  by_cases c:l.length=1
  ·rw [c];exact Int.le_refl _
  ·have:=h.lt (show 0<l.length-1 by omega) (by omega);omega
 unfold CO;omega
theorem WtS{l:List Int}(h:Wi l){x:Int}{q:Nat}{R:Int×Int×Int}(hq:q<l.length)(hk:∀k,q<k->k<l.length->CO l x<gd l k)
 (hR:∀m,Gw l x (gd l 0) (gd l (l.length-1)) (fun i21=>(some (0,1,0))) (m+1) (q:Int)=some R):
 ∀(m i:Nat),q<=i->i<l.length->i-q<m->Gw l x (gd l 0) (gd l (l.length-1)) (fun i21=>(some (0,1,0))) m (i:Int)=some R
 |0,i,_,_,hm=>by omega
 |m+1,i,hi,hil,hm=>by
  by_cases e:i=q
  ·rw [e];exact hR m
  ·have a:=hk i (by omega) hil
   have a:min (max x (gd l 0)) (gd l (l.length-1))<gd l i:=a
   have d0:decide ((i:Int)>=0)=true:=decide_eq_true (by omega)
   have d1:(min (max x (gd l 0)) (gd l (l.length-1))==gd l i)=false:=by rw [beq_eq_false_iff_ne];omega
   have d2:decide (min (max x (gd l 0)) (gd l (l.length-1))>gd l i)=false:=decide_eq_false (by omega)
   have w:wrap .i64 ((i:Int)-1)=((i-1:Nat):Int):=by rw [AY (by omega) (by have:=h.1.2;omega)];omega
   simp only [Gw.eq_2,d0,cT,gI hil,Ag,d1,d2,cF,w]
   exact WtS h hq hk hR m (i-1) (by omega) (by omega) (by omega)
theorem Wt{n:Nat}{l:List Int}(h:Wi l)(x:Int)(hn:1048577<=n):∃(i:Nat) (a b:Int),lO n l x=some ((i:Int),a,b)∧
 ((i<l.length∧a=1∧b=0∧Tl n l x=some ([⟨(i:Int),1⟩],1))∨(i+1<l.length∧(1<=a∧a<=100000)∧(1<=b∧b<=100000)∧Tl n l x=some ([⟨(i:Int),a⟩,⟨((i+1:Nat):Int),b⟩],a+b))):=by
 have h1:=h.1
 have ci:=Sd h x
 have w1:wrap .i64 ((l.length:Int)-1)=((l.length-1:Nat):Int):=by rw [AY (by omega) (by omega)];omega
 have g0:AE l 0=some (gd l 0):=gI (l:=l) (i:=0) (by omega)
 have gL:AE l ((l.length-1:Nat):Int)=some (gd l (l.length-1)):=gI (by omega)
 obtain⟨p,p1,p2,p3,p4⟩:=BSL (n:=n) h (c:=CO l x) (K:=fun i5 i6=>(Option.bind (cond (decide (i5<(l.length:Int))) (Option.bind (AE l i5) fun x7=>(Option.bind (cond (x7==CO l x) (some true) (Option.bind (AE l i5) fun x15=>(Option.bind (Uq n x15) fun r23=>(Option.bind (cond r23 (Option.bind (Uq n (CO l x)) fun r29=>(some r29)) (some false)) fun c29=>(some c29))))) fun c15=>(some c15))) (some false)) fun c7=>(some (i5,c7)))) n 0 l.length (by omega) (by omega) (by omega) (fun k hk=>by omega) (fun k hk hk2=>by omega)
 have pl:p<l.length:=by
  apply Nat.lt_of_not_le
  intro c
  have:=p2 (l.length-1) (by omega);omega
 have hb:XF n l (CO l x)=some ((p:Int),gd l p==CO l x):=by
  rw [XF]
  refine p4.trans ?_
  simp only [Cm pl,cT,gI pl,Ag,Uq,bne_self_eq_false,cF]
  cases(gd l p==CO l x)<;>rfl
 have hi:Tl n l x=(Option.bind (XF n l (CO l x)) fun r23=>(cond r23.2 (some ([(Bw.mk r23.1 1)],1)) (Option.bind (AE l r23.1) fun x41=>(Option.bind (AE l (wrap .i64 (r23.1-1))) fun x49=>(Option.bind (AE l r23.1) fun x69=>(Option.bind (AE l (wrap .i64 (r23.1-1))) fun x77=>(some ([(Bw.mk (wrap .i64 (r23.1-1)) (wrap .i64 (x41-(CO l x)))),(Bw.mk r23.1 (wrap .i64 ((CO l x)-x49)))],wrap .i64 (x69-x77))))))))):=by
  rw [Tl,g0,w1,Ag,gL,Ag];rfl
 have hsp:lO n l x=Gw l x (gd l 0) (gd l (l.length-1)) (fun i21=>(some (0,1,0))) n ((l.length-1:Nat):Int):=by
  rw [lO,g0,w1,Ag,gL,Ag]
 have cp:=p3 p (Nat.le_refl _) pl
 by_cases c:gd l p=CO l x
 ·refine⟨p,1,0,?_,.inl ⟨pl,rfl,rfl,?_⟩⟩
  ·rw [hsp]
   refine WtS h pl (fun k hk hk2=>by have:=h.lt hk hk2;omega) (fun m=>?_) n _ (by omega) (by omega) (by omega)
   have d0:decide ((p:Int)>=0)=true:=decide_eq_true (by omega)
   have d1:(min (max x (gd l 0)) (gd l (l.length-1))==gd l p)=true:=by rw [beq_iff_eq];exact c.symm
   simp only [Gw.eq_2,d0,cT,gI pl,Ag,d1]
  ·rw [hi,hb,Ag,show(gd l p==CO l x)=true from by rw [beq_iff_eq];exact c];rfl
 ·have p0:0<p:=by
   apply Nat.pos_of_ne_zero
   intro e;subst e;omega
  have b1:=p2 (p-1) (by omega)
  have r1:=h.2.1 p pl
  have r2:=h.2.1 (p-1) (by omega)
  have wp:wrap .i64 ((p:Int)-1)=((p-1:Nat):Int):=by rw [AY (by omega) (by omega)];omega
  have wq:wrap .i64 (((p-1:Nat):Int)+1)=(p:Int):=by rw [AY (by omega) (by omega)];omega
  have e1:wrap .i64 (gd l p-CO l x)=gd l p-CO l x:=AY (by omega) (by omega)
  have e2:wrap .i64 (CO l x-gd l (p-1))=CO l x-gd l (p-1):=AY (by omega) (by omega)
  have e3:wrap .i64 (gd l p-gd l (p-1))=gd l p-CO l x+(CO l x-gd l (p-1)):=by rw [AY (by omega) (by omega)];omega
  refine⟨p-1,gd l p-CO l x,CO l x-gd l (p-1),?_,.inr ⟨by omega,by omega,by omega,?_⟩⟩
  ·rw [hsp]
   refine WtS h (show p-1<l.length by omega) (fun k hk hk2=>?_) (fun m=>?_) n _ (by omega) (by omega) (by omega)
   ·by_cases e:k=p
    ·rw [e];omega
    ·have:=h.lt (show p<k by omega) hk2;omega
   ·have d0:decide (((p-1:Nat):Int)>=0)=true:=decide_eq_true (by omega)
    have d1:(min (max x (gd l 0)) (gd l (l.length-1))==gd l (p-1))=false:=by rw [beq_eq_false_iff_ne];show CO l x≠_;omega
    have d2:decide (min (max x (gd l 0)) (gd l (l.length-1))>gd l (p-1))=true:=decide_eq_true (show CO l x>_ by omega)
    simp only [Gw.eq_2,d0,cT,gI (show p-1<l.length by omega),Ag,d1,d2,cF,wq,gI pl]
    show some (((p-1:Nat):Int),wrap .i64 (gd l p-CO l x),wrap .i64 (CO l x-gd l (p-1)))=_
    rw [e1,e2]
  ·rw [hi,hb,Ag,show(gd l p==CO l x)=false from by rw [beq_eq_false_iff_ne];exact c]
   simp only [cF,wp,gI pl,gI (show p-1<l.length by omega),Ag,e1,e2,e3]
   rw [show p-1+1=p by omega]
theorem Dv{n:Nat}{s D mode:Int}(h:D≠0):∃r,Sg n s D mode=some r∧Qx n s D mode=some r:=by
 have hz:(D==0)=false:=by rw [beq_eq_false_iff_ne];exact h
 rw [Sg,Qx,hz]
 simp only [cF]
 rw [Bool.and_comm,Bool.and_comm (decide (Int.tmod s D>0))]
 cases(mode==0)&&decide (Int.tmod s D<0)<;>cases(mode==1)&&decide (Int.tmod s D>0)<;>exact⟨_,rfl,rfl⟩
theorem jO{V a c:Int}(hV:-1000000<=V∧V<=1000000)(ha:1<=a∧a<=100000)(hc:1<=c∧c<=100000):wrap .i64 (wrap .i64 (a*c)*V)=wrap .i64 (wrap .i64 (V*a)*c)∧decide (wrap .i64 (a*c)>0)=true:=by
 have h1:0<a*c:=Int.mul_pos (by omega) (by omega)
 have h2:a*c<=100000*c:=Int.mul_le_mul_of_nonneg_right ha.2 (by omega)
 have h3:V*a<=1000000*a:=Int.mul_le_mul_of_nonneg_right hV.2 (by omega)
 have h4:-1000000*a<=V*a:=Int.mul_le_mul_of_nonneg_right hV.1 (by omega)
 rw [AY (x:=a*c) (by omega) (by omega),AY (x:=V*a) (by omega) (by omega)]
 refine⟨by rw [Int.mul_comm (V*a) c,Int.mul_comm a c,Int.mul_assoc,Int.mul_comm a V],decide_eq_true h1⟩
theorem mw{a c:Int}(ha:0<=a∧a<=200000)(hc:0<=c∧c<=200000):wrap .i64 (a*c)=a*c:=by
 have h1:0<=a*c:=Int.mul_nonneg ha.1 hc.1
 have h2:a*c<=200000*c:=Int.mul_le_mul_of_nonneg_right ha.2 hc.1
 exact AY (by omega) (by omega)
theorem kM{i L k:Nat}(hi:i<=4)(hL:L<=4)(hk:k<=4):wrap .i64 (wrap .i64 ((i:Int)*(L:Int))+(k:Int))=((i*L+k:Nat):Int):=by
 have:i*L<=4*4:=Nat.mul_le_mul hi hL
 rw [iT hi hL,AY (by omega) (by omega)];omega
theorem ixS{i L k u v:Nat}(hi:i+u<=4)(hL:L<=4)(hk:k<=4)(hv:v<=1):wrap .i64 (wrap .i64 (wrap .i64 (wrap .i64 ((i:Int)+(u:Int))*(L:Int))+(k:Int))+(v:Int))=(((i+u)*L+(k+v):Nat):Int):=by
 have:(i+u)*L<=4*4:=Nat.mul_le_mul hi hL
 rw [AY (x:=(i:Int)+(u:Int)) (by omega) (by omega),show(i:Int)+(u:Int)=((i+u:Nat):Int) by omega,iT hi hL,AY (x:=(((i+u)*L:Nat):Int)+(k:Int)) (by omega) (by omega),AY (by omega) (by omega)];omega
theorem iS{S L i k:Nat}(hi:i<S)(hk:k<L):i*L+k<S*L:=by
 have:(i+1)*L<=S*L:=Nat.mul_le_mul_right L hi
 rw [Nat.add_mul]at this;omega
theorem DvB{n:Nat}{s D mode:Int}(h:D≠0):∃r,(Option.bind (Sg n s D mode) fun r=>some r)=some r∧(Option.bind (Qx n s D mode) fun r=>some r)=some r:=by
 obtain⟨r,a,b⟩:=Dv (n:=n) (s:=s) (mode:=mode) h
 exact⟨r,by rw [a];rfl,by rw [b];rfl⟩
set_option maxHeartbeats 4000000 in
theorem Lk{n:Nat}{t:Ab}(v:VT t)(x y mode:Int)(hn:1048577<=n):∃r,oU n t x y mode=some r∧xC n t x y mode=some r:=by
 obtain⟨i,a,b,s1,e1⟩:=Wt (n:=n) v.1.1 x hn
 obtain⟨k,c,d,s2,e2⟩:=Wt (n:=n) v.1.2 y hn
 have S4:=v.1.1.1.2
 have L4:=v.1.2.1.2
 have hV:=v.2.2
 have hlen:=v.2.1
 obtain⟨m,rfl⟩:∃m,n=m+3:=⟨n-3,by omega⟩
 rw [oU,xC,s1,s2]
 have w01:wrap .i64 (0+1)=1:=rfl
 have w12:wrap .i64 (1+1)=2:=rfl
 have l02:decide ((0:Int)<2)=true:=rfl
 have l12:decide ((1:Int)<2)=true:=rfl
 have l22:decide ((2:Int)<2)=false:=rfl
 have l01:decide ((0:Int)<1)=true:=rfl
 have l11:decide ((1:Int)<1)=false:=rfl
 have b01:((0:Int)==1)=false:=rfl
 have b11:((1:Int)==1)=true:=rfl
 have b00:((0:Int)==0)=true:=rfl
 have b10:((1:Int)==0)=false:=rfl
 have z00:wrap .i64 0=0:=rfl
 have z01:decide ((0:Int)>0)=false:=rfl
 have o10:wrap .i64 (1+0)=1:=rfl
 have g10:∀w:Bw,AE [w] 0=some w:=fun _=>rfl
 have g20:∀w z:Bw,AE [w,z] 0=some w:=fun _ _=>rfl
 have g21:∀w z:Bw,AE [w,z] 1=some z:=fun _ _=>rfl
 have n1:∀w:Bw,(([w]:List Bw).length:Int)=1:=fun _=>rfl
 have n2:∀w z:Bw,(([w,z]:List Bw).length:Int)=2:=fun _ _=>rfl
 have i00:=ixS (i:=i) (u:=0) (k:=k) (v:=0) (L:=t.Loads.length)
 have i01:=ixS (i:=i) (u:=0) (k:=k) (v:=1) (L:=t.Loads.length)
 have i10:=ixS (i:=i) (u:=1) (k:=k) (v:=0) (L:=t.Loads.length)
 have i11:=ixS (i:=i) (u:=1) (k:=k) (v:=1) (L:=t.Loads.length)
 simp only [Int.natCast_zero,Int.natCast_one,Nat.add_zero]at i00 i01 i10 i11
 rcases e1 with ⟨hi,ha,hb,e1⟩|⟨hi,ha,hb,e1⟩<;>rcases e2 with ⟨hk,hc,hd,e2⟩|⟨hk,hc,hd,e2⟩<;>rw [e1,e2]
 ·subst ha hb
  subst hc hd
  have q00:=iS (S:=t.Slews.length) (L:=t.Loads.length) (i:=i) (k:=k) (by omega) (by omega)
  have t00:=jO (V:=gd t.Values (i*t.Loads.length+k)) (a:=1) (c:=1) (hV _ (by omega)) (by omega) (by omega)
  have j00:=i00 (by omega) (by omega) (by omega) (by omega)
  have p00:=kM (i:=i) (k:=k) (L:=t.Loads.length) (by omega) (by omega) (by omega)
  have v00:=gI (l:=t.Values) (i:=i*t.Loads.length+k) (by omega)
  simp only [Ag,He.eq_2,Dt.eq_2,Ky.eq_2,Kh.eq_2,n1,n2,g10,g20,g21,w01,w12,l02,l12,l22,l01,l11,cT,cF,b01,b11,b00,b10,Int.zero_mul,Int.mul_zero,z00,z01,o10,j00,p00,v00,t00.1,t00.2]
  refine DvB ?_
  exact(by decide:wrap .i64 (1*1)≠0)
 ·subst ha hb
  have q00:=iS (S:=t.Slews.length) (L:=t.Loads.length) (i:=i) (k:=k) (by omega) (by omega)
  have t00:=jO (V:=gd t.Values (i*t.Loads.length+k)) (a:=1) (c:=c) (hV _ (by omega)) (by omega) (by omega)
  have j00:=i00 (by omega) (by omega) (by omega) (by omega)
  have p00:=kM (i:=i) (k:=k) (L:=t.Loads.length) (by omega) (by omega) (by omega)
  have v00:=gI (l:=t.Values) (i:=i*t.Loads.length+k) (by omega)
  have q01:=iS (S:=t.Slews.length) (L:=t.Loads.length) (i:=i) (k:=(k+1)) (by omega) (by omega)
  have t01:=jO (V:=gd t.Values (i*t.Loads.length+(k+1))) (a:=1) (c:=d) (hV _ (by omega)) (by omega) (by omega)
  have j01:=i01 (by omega) (by omega) (by omega) (by omega)
  have p01:=kM (i:=i) (k:=(k+1)) (L:=t.Loads.length) (by omega) (by omega) (by omega)
  have v01:=gI (l:=t.Values) (i:=i*t.Loads.length+(k+1)) (by omega)
  have sB:wrap .i64 (c+d)=c+d:=AY (by omega) (by omega)
  simp only [Ag,He.eq_2,Dt.eq_2,Ky.eq_2,Kh.eq_2,n1,n2,g10,g20,g21,w01,w12,l02,l12,l22,l01,l11,cT,cF,b01,b11,b00,b10,Int.zero_mul,Int.mul_zero,z00,z01,o10,j00,p00,v00,t00.1,t00.2,j01,p01,v01,t01.1,t01.2,sB]
  refine DvB ?_
  rw [mw (by omega) (by omega)]
  have:=Int.mul_pos (show 0<(1:Int) by omega) (show 0<(c+d) by omega)
  omega
 ·subst hc hd
  have q00:=iS (S:=t.Slews.length) (L:=t.Loads.length) (i:=i) (k:=k) (by omega) (by omega)
  have t00:=jO (V:=gd t.Values (i*t.Loads.length+k)) (a:=a) (c:=1) (hV _ (by omega)) (by omega) (by omega)
  have j00:=i00 (by omega) (by omega) (by omega) (by omega)
  have p00:=kM (i:=i) (k:=k) (L:=t.Loads.length) (by omega) (by omega) (by omega)
  have v00:=gI (l:=t.Values) (i:=i*t.Loads.length+k) (by omega)
  have q10:=iS (S:=t.Slews.length) (L:=t.Loads.length) (i:=(i+1)) (k:=k) (by omega) (by omega)
  have t10:=jO (V:=gd t.Values ((i+1)*t.Loads.length+k)) (a:=b) (c:=1) (hV _ (by omega)) (by omega) (by omega)
  have j10:=i10 (by omega) (by omega) (by omega) (by omega)
  have p10:=kM (i:=(i+1)) (k:=k) (L:=t.Loads.length) (by omega) (by omega) (by omega)
  have v10:=gI (l:=t.Values) (i:=(i+1)*t.Loads.length+k) (by omega)
  have sA:wrap .i64 (a+b)=a+b:=AY (by omega) (by omega)
  simp only [Ag,He.eq_2,Dt.eq_2,Ky.eq_2,Kh.eq_2,n1,n2,g10,g20,g21,w01,w12,l02,l12,l22,l01,l11,cT,cF,b01,b11,b00,b10,Int.zero_mul,Int.mul_zero,z00,z01,o10,j00,p00,v00,t00.1,t00.2,j10,p10,v10,t10.1,t10.2,sA]
  refine DvB ?_
  rw [mw (by omega) (by omega)]
  have:=Int.mul_pos (show 0<(a+b) by omega) (show 0<(1:Int) by omega)
  omega
 ·have q00:=iS (S:=t.Slews.length) (L:=t.Loads.length) (i:=i) (k:=k) (by omega) (by omega)
  have t00:=jO (V:=gd t.Values (i*t.Loads.length+k)) (a:=a) (c:=c) (hV _ (by omega)) (by omega) (by omega)
  have j00:=i00 (by omega) (by omega) (by omega) (by omega)
  have p00:=kM (i:=i) (k:=k) (L:=t.Loads.length) (by omega) (by omega) (by omega)
  have v00:=gI (l:=t.Values) (i:=i*t.Loads.length+k) (by omega)
  have q01:=iS (S:=t.Slews.length) (L:=t.Loads.length) (i:=i) (k:=(k+1)) (by omega) (by omega)
  have t01:=jO (V:=gd t.Values (i*t.Loads.length+(k+1))) (a:=a) (c:=d) (hV _ (by omega)) (by omega) (by omega)
  have j01:=i01 (by omega) (by omega) (by omega) (by omega)
  have p01:=kM (i:=i) (k:=(k+1)) (L:=t.Loads.length) (by omega) (by omega) (by omega)
  have v01:=gI (l:=t.Values) (i:=i*t.Loads.length+(k+1)) (by omega)
  have q10:=iS (S:=t.Slews.length) (L:=t.Loads.length) (i:=(i+1)) (k:=k) (by omega) (by omega)
  have t10:=jO (V:=gd t.Values ((i+1)*t.Loads.length+k)) (a:=b) (c:=c) (hV _ (by omega)) (by omega) (by omega)
  have j10:=i10 (by omega) (by omega) (by omega) (by omega)
  have p10:=kM (i:=(i+1)) (k:=k) (L:=t.Loads.length) (by omega) (by omega) (by omega)
  have v10:=gI (l:=t.Values) (i:=(i+1)*t.Loads.length+k) (by omega)
  have q11:=iS (S:=t.Slews.length) (L:=t.Loads.length) (i:=(i+1)) (k:=(k+1)) (by omega) (by omega)
  have t11:=jO (V:=gd t.Values ((i+1)*t.Loads.length+(k+1))) (a:=b) (c:=d) (hV _ (by omega)) (by omega) (by omega)
  have j11:=i11 (by omega) (by omega) (by omega) (by omega)
  have p11:=kM (i:=(i+1)) (k:=(k+1)) (L:=t.Loads.length) (by omega) (by omega) (by omega)
  have v11:=gI (l:=t.Values) (i:=(i+1)*t.Loads.length+(k+1)) (by omega)
  have sA:wrap .i64 (a+b)=a+b:=AY (by omega) (by omega)
  have sB:wrap .i64 (c+d)=c+d:=AY (by omega) (by omega)
  simp only [Ag,He.eq_2,Dt.eq_2,Ky.eq_2,Kh.eq_2,n1,n2,g10,g20,g21,w01,w12,l02,l12,l22,l01,l11,cT,cF,b01,b11,b00,b10,Int.zero_mul,Int.mul_zero,z00,z01,o10,j00,p00,v00,t00.1,t00.2,j01,p01,v01,t01.1,t01.2,j10,p10,v10,t10.1,t10.2,j11,p11,v11,t11.1,t11.2,sA,sB]
  refine DvB ?_
  rw [mw (by omega) (by omega)]
  have:=Int.mul_pos (show 0<(a+b) by omega) (show 0<(c+d) by omega)
  omega
theorem VM{x s:Int}{y:Option Int}(e:(cond (decide (x<0)) (some (-1)) y)=some s)(hs:0<=s):0<=x∧y=some s:=by
 by_cases h:x<0
 ·rw [decide_eq_true h,cT]at e;have:=Option.some.inj e;omega
 ·rw [decide_eq_false h,cF]at e;exact⟨by omega,e⟩
theorem QE{s:Int}{o:Option Int}{g:Int->Option Int}(e:(Option.bind o fun r=>cond (decide (r<0)) (some (-1)) (g r))=some s)(hs:0<=s):∃r,o=some r∧0<=r∧g r=some s:=by
 cases o with
 |none=>cases e
 |some r=>
  rw [Ag]at e
  obtain⟨a,b⟩:=VM e hs
  exact⟨r,rfl,a,b⟩
theorem jW{α:Type}{xs:List α}{LZ LM:Nat->Int->Int->Option Int}{f:α->Int->Option Int}
 (hz:∀(m i:Nat) (l:Int) (h:i<xs.length),LZ (m+1) l (i:Int)=Option.bind (f xs[i] l) fun r=>cond (decide (r<0)) (some (-1)) (LZ m r ((i+1:Nat):Int)))
 (hze:∀(m:Nat) (l:Int),LZ (m+1) l (xs.length:Int)=some l)
 (hm:∀(m i:Nat) (k l r:Int) (h:i<xs.length),f xs[i] l=some r->0<=r->0<=l->l<=1048576->0<=k->k+4+4*l<=1152921504606846976->r<=l∧∃k',LM (m+1) k (i:Int)=LM m k' ((i+1:Nat):Int)∧k<=k'∧k'<=k+4+4*(l-r))
 (hme:∀(m:Nat) (k:Int),LM (m+1) k (xs.length:Int)=some k):
 ∀(m i:Nat) (k l r:Int),i<=xs.length->xs.length-i<m->LZ m l (i:Int)=some r->0<=r->0<=l->l<=1048576->0<=k->k+4*((xs.length-i:Nat):Int)+4*l<=1152921504606846976->r<=l∧∃k',LM m k (i:Int)=some k'∧k<=k'∧k'<=k+4*((xs.length-i:Nat):Int)+4*(l-r)
 |0,i,_,_,_,_,hf,_,_,_,_,_,_=>by omega
 |m+1,i,k,l,r,hi,hf,e,hr,h0,h1,hk,hb=>by
  by_cases h:i<xs.length
  ·rw [hz m i l h]at e
   obtain⟨r1,e1,p1,e2⟩:=QE e hr
   obtain⟨q1,k1,a1,a2,a3⟩:=hm m i k l r1 h e1 p1 h0 h1 hk (by omega)
   obtain⟨q2,k2,b1,b2,b3⟩:=jW hz hze hm hme m (i+1) k1 r1 r (by omega) (by omega) e2 hr p1 (by omega) (by omega) (by omega)
   exact⟨by omega,k2,by rw [a1,b1],by omega,by omega⟩
  ·obtain rfl:i=xs.length:=by omega
   rw [hze]at e
   obtain rfl:=Option.some.inj e
   exact⟨Int.le_refl _,k,hme m k,Int.le_refl _,by omega⟩
theorem wk{k:Int}(h0:0<=k)(h1:k<=2305843009213693952):wrap .i64 (k+1)=k+1:=AY (by omega) (by omega)
theorem Eo{n:Nat}{a:List Int}{left k r:Int}(hR:(fun xs=>xs.length<=9223372036854775807∧∀x∈xs,Ku .i64 x) a)(h0:0<=left)(h1:left<=1048576)(hn:1048577<=n)(e:Uz n a left=some r)(hr:0<=r)(k0:0<=k)(k1:k+4*left<=1152921504606846976):
 r<=left∧∃k',XB n a k=some k'∧k<=k'∧k'<=k+4*(left-r):=by
 have hl:=hR.1
 rw [Uz,AY (by omega) (by omega)]at e
 obtain⟨p,e⟩:=VM e hr
 obtain rfl:=Option.some.inj e
 have key:∀(m i:Nat) (k:Int),i<=a.length->a.length-i<m->0<=k->k+((a.length-i:Nat):Int)<=1152921504606846976->Mm a (fun i5 i6=>some i5) m k (i:Int)=some (k+((a.length-i:Nat):Int)):=by
  intro m
  induction m with
  |zero=>intro i k _ h;omega
  |succ m ih=>
   intro i k hi hm h0 hb
   by_cases h:i<a.length
   ·simp only [Mm.eq_2,Cm h,cT,AR h,Ag,wk (k:=k) h0 (by omega),wT i]
    rw [ih (i+1) (k+1) (by omega) (by omega) (by omega) (by omega)]
    congr 1;omega
   ·obtain rfl:i=a.length:=by omega
    simp only [Mm.eq_2,DB,cF]
    congr 1;omega
 refine⟨by omega,k+(a.length:Int),?_,by omega,by omega⟩
 rw [XB]
 have:=key n 0 k (by omega) (by omega) k0 (by simp;omega)
 simpa using this
theorem mQ{n:Nat}{a:List BQ}{left k r:Int}(hR:(fun xs=>xs.length<=9223372036854775807∧∀x∈xs,QT x) a)(h0:0<=left)(h1:left<=1048576)(hn:1048577<=n)(e:VU n a left=some r)(hr:0<=r)(k0:0<=k)(k1:k+4*left<=1152921504606846976):
 r<=left∧∃k',Zt n a k=some k'∧k<=k'∧k'<=k+4*(left-r):=by
 have hl:=hR.1
 rw [VU,AY (by omega) (by omega)]at e
 obtain⟨p,e⟩:=VM e hr
 obtain⟨q,k2,b1,b2,b3⟩:=jW (xs:=a) (LZ:=fun m l i=>GX n a (fun i5 i6=>(some i5)) m l i) (LM:=fun m k i=>JO n a (fun i5 i6=>(some i5)) m k i) (f:=Tx n)
  (fun m i l hi=>by
   simp only [GX.eq_2,Cm hi,cT,AR hi,Ag,wT i])
  (fun m l=>by simp only [GX.eq_2,DB,cF])
  (fun m i k l r hi e hr h0 h1 k0 k1=>by
   have hx:=hR.2 _ (List.getElem_mem hi)
   rw [Tx]at e
   have g:(a[i].Name.size:Int)<=9223372036854775807:=by have g:=hx.1;rw [EB]at g;omega
   rw [AY (x:=l-(a[i].Name.size:Int)) (by omega) (by omega)]at e
   obtain⟨p0,e⟩:=VM e hr
   obtain rfl:=Option.some.inj e
   obtain⟨t,ht⟩:=MT (n:=n) (k:=k) (by omega) (by omega) hn
   refine⟨by omega,k+1+1+1+1,?_,by omega,by omega⟩
   simp only [JO.eq_2,Cm hi,cT,AR hi,Ag,wT i,ht,wk (k:=k) (by omega) (by omega),wk (k:=k+1) (by omega) (by omega),wk (k:=k+1+1) (by omega) (by omega),wk (k:=k+1+1+1) (by omega) (by omega)])
  (fun m k=>by simp only [JO.eq_2,DB,cF]) n 0 k (left-(a.length:Int)) r (by omega) (by omega) e hr p (by omega) k0 (by omega)
 rw [Nat.sub_zero]at b3
 refine⟨by omega,k2,?_,b2,by omega⟩
 rw [Zt];exact b1
theorem QH{n:Nat}{a:List Ab}{left k r:Int}(hR:(fun xs=>xs.length<=9223372036854775807∧∀x∈xs,Jt x) a)(h0:0<=left)(h1:left<=1048576)(hn:1048577<=n)(e:Sm n a left=some r)(hr:0<=r)(k0:0<=k)(k1:k+4*left<=1152921504606846976):
 r<=left∧∃k',XD n a k=some k'∧k<=k'∧k'<=k+4*(left-r):=by
 have hl:=hR.1
 rw [Sm,AY (by omega) (by omega)]at e
 obtain⟨p,e⟩:=VM e hr
 obtain⟨q,k2,b1,b2,b3⟩:=jW (xs:=a) (LZ:=fun m l i=>GW n a (fun i5 i6=>(some i5)) m l i) (LM:=fun m k i=>JW n a (fun i5 i6=>(some i5)) m k i) (f:=UB n)
  (fun m i l hi=>by
   simp only [GW.eq_2,Cm hi,cT,AR hi,Ag,wT i])
  (fun m l=>by simp only [GW.eq_2,DB,cF])
  (fun m i k l r hi e hr h0 h1 k0 k1=>by
   have hx:=hR.2 _ (List.getElem_mem hi)
   rw [UB]at e
   obtain⟨r0,e0,p1,e⟩:=QE e hr
   obtain⟨r1,e1,p2,e⟩:=QE e hr
   obtain⟨r2,e2,p3,e⟩:=QE e hr
   obtain rfl:=Option.some.inj e
   obtain⟨u0,k_0,m0,v0,z0⟩:=Eo (n:=n) (a:=a[i].Slews) (left:=l) (k:=k) (hx.1) (by omega) (by omega) hn e0 (by omega) (by omega) (by omega)
   obtain⟨u1,k_1,m1,v1,z1⟩:=Eo (n:=n) (a:=a[i].Loads) (left:=r0) (k:=k_0) (hx.2.1) (by omega) (by omega) hn e1 (by omega) (by omega) (by omega)
   obtain⟨u2,k_2,m2,v2,z2⟩:=Eo (n:=n) (a:=a[i].Values) (left:=r1) (k:=k_1) (hx.2.2) (by omega) (by omega) hn e2 (by omega) (by omega) (by omega)
   refine⟨by omega,k_2,?_,by omega,by omega⟩
   simp only [JW.eq_2,Cm hi,cT,AR hi,Ag,wT i,m0,m1,m2])
  (fun m k=>by simp only [JW.eq_2,DB,cF]) n 0 k (left-(a.length:Int)) r (by omega) (by omega) e hr p (by omega) k0 (by omega)
 rw [Nat.sub_zero]at b3
 refine⟨by omega,k2,?_,b2,by omega⟩
 rw [XD];exact b1
theorem kY{n:Nat}{a:List Aq}{left k r:Int}(hR:(fun xs=>xs.length<=9223372036854775807∧∀x∈xs,QU x) a)(h0:0<=left)(h1:left<=1048576)(hn:1048577<=n)(e:Ua n a left=some r)(hr:0<=r)(k0:0<=k)(k1:k+4*left<=1152921504606846976):
 r<=left∧∃k',Zi n a k=some k'∧k<=k'∧k'<=k+4*(left-r):=by
 have hl:=hR.1
 rw [Ua,AY (by omega) (by omega)]at e
 obtain⟨p,e⟩:=VM e hr
 obtain⟨q,k2,b1,b2,b3⟩:=jW (xs:=a) (LZ:=fun m l i=>GY n a (fun i5 i6=>(some i5)) m l i) (LM:=fun m k i=>Jn n a (fun i5 i6=>(some i5)) m k i) (f:=Se n)
  (fun m i l hi=>by
   simp only [GY.eq_2,Cm hi,cT,AR hi,Ag,wT i])
  (fun m l=>by simp only [GY.eq_2,DB,cF])
  (fun m i k l r hi e hr h0 h1 k0 k1=>by
   have hx:=hR.2 _ (List.getElem_mem hi)
   rw [Se]at e
   obtain⟨r0,e0,p1,e⟩:=QE e hr
   obtain⟨r1,e1,p2,e⟩:=QE e hr
   obtain rfl:=Option.some.inj e
   obtain⟨u0,k_0,m0,v0,z0⟩:=QH (n:=n) (a:=a[i].Delay) (left:=l) (k:=k+1+1+1+1) (hx.2.2.2.2.1) (by omega) (by omega) hn e0 (by omega) (by omega) (by omega)
   obtain⟨u1,k_1,m1,v1,z1⟩:=QH (n:=n) (a:=a[i].Slew) (left:=r0) (k:=k_0) (hx.2.2.2.2.2) (by omega) (by omega) hn e1 (by omega) (by omega) (by omega)
   refine⟨by omega,k_1,?_,by omega,by omega⟩
   simp only [Jn.eq_2,Cm hi,cT,AR hi,Ag,wT i,wk (k:=k) (by omega) (by omega),wk (k:=k+1) (by omega) (by omega),wk (k:=k+1+1) (by omega) (by omega),wk (k:=k+1+1+1) (by omega) (by omega),m0,m1])
  (fun m k=>by simp only [Jn.eq_2,DB,cF]) n 0 k (left-(a.length:Int)) r (by omega) (by omega) e hr p (by omega) k0 (by omega)
 rw [Nat.sub_zero]at b3
 refine⟨by omega,k2,?_,b2,by omega⟩
 rw [Zi];exact b1
theorem Yb{n:Nat}{a:List Af}{left k r:Int}(hR:(fun xs=>xs.length<=9223372036854775807∧∀x∈xs,Nx x) a)(h0:0<=left)(h1:left<=1048576)(hn:1048577<=n)(e:Uo n a left=some r)(hr:0<=r)(k0:0<=k)(k1:k+4*left<=1152921504606846976):
 r<=left∧∃k',bV n a k=some k'∧k<=k'∧k'<=k+4*(left-r):=by
 have hl:=hR.1
 rw [Uo,AY (by omega) (by omega)]at e
 obtain⟨p,e⟩:=VM e hr
 obtain⟨q,k2,b1,b2,b3⟩:=jW (xs:=a) (LZ:=fun m l i=>GP n a (fun i5 i6=>(some i5)) m l i) (LM:=fun m k i=>Jk n a (fun i5 i6=>(some i5)) m k i) (f:=Tb n)
  (fun m i l hi=>by
   simp only [GP.eq_2,Cm hi,cT,AR hi,Ag,wT i])
  (fun m l=>by simp only [GP.eq_2,DB,cF])
  (fun m i k l r hi e hr h0 h1 k0 k1=>by
   have hx:=hR.2 _ (List.getElem_mem hi)
   rw [Tb]at e
   have g:(a[i].Name.size:Int)<=9223372036854775807:=by have g:=hx.1;rw [EB]at g;omega
   rw [AY (x:=l-(a[i].Name.size:Int)) (by omega) (by omega)]at e
   obtain⟨p0,e⟩:=VM e hr
   obtain⟨r0,e0,p1,e⟩:=QE e hr
   obtain⟨r1,e1,p2,e⟩:=QE e hr
   obtain⟨r2,e2,p3,e⟩:=QE e hr
   obtain rfl:=Option.some.inj e
   obtain⟨t,ht⟩:=MT (n:=n) (k:=k) (by omega) (by omega) hn
   obtain⟨u0,k_0,m0,v0,z0⟩:=mQ (n:=n) (a:=a[i].Pins) (left:=(l-(a[i].Name.size:Int))) (k:=k+1+1) (hx.2.2.1) (by omega) (by omega) hn e0 (by omega) (by omega) (by omega)
   obtain⟨u1,k_1,m1,v1,z1⟩:=kY (n:=n) (a:=a[i].Arcs) (left:=r0) (k:=k_0) (hx.2.2.2.1) (by omega) (by omega) hn e1 (by omega) (by omega) (by omega)
   obtain⟨u2,k_2,m2,v2,z2⟩:=Eo (n:=n) (a:=a[i].Truth) (left:=r1) (k:=k_1) (hx.2.2.2.2.1) (by omega) (by omega) hn e2 (by omega) (by omega) (by omega)
   refine⟨by omega,k_2+1+1,?_,by omega,by omega⟩
   simp only [Jk.eq_2,Cm hi,cT,AR hi,Ag,wT i,ht,wk (k:=k) (by omega) (by omega),wk (k:=k+1) (by omega) (by omega),m0,m1,m2,wk (k:=k_2) (by omega) (by omega),wk (k:=k_2+1) (by omega) (by omega)])
  (fun m k=>by simp only [Jk.eq_2,DB,cF]) n 0 k (left-(a.length:Int)) r (by omega) (by omega) e hr p (by omega) k0 (by omega)
 rw [Nat.sub_zero]at b3
 refine⟨by omega,k2,?_,b2,by omega⟩
 rw [bV];exact b1
theorem Uy{n:Nat}{a:Ad}{left k r:Int}(hR:MA a)(h0:0<=left)(h1:left<=1048576)(hn:1048577<=n)(e:VE n a left=some r)(hr:0<=r)(k0:0<=k)(k1:k+4*left<=1152921504606846976):
 r<=left∧∃k',Yf n a k=some k'∧k<=k'∧k'<=k+4*(left-r):=by
 rw [VE]at e
 obtain⟨r0,e0,p0,e⟩:=QE e hr
 obtain rfl:=Option.some.inj e
 obtain⟨u0,k_0,m0,v0,z0⟩:=Yb (n:=n) (a:=a.Cells) (left:=left) (k:=k) (hR) (by omega) (by omega) hn e0 (by omega) (by omega) (by omega)
 exact⟨by omega,k_0,by simp only [Yf,Ag,m0],by omega,by omega⟩
theorem Ry{n:Nat}{a:List AX}{left k r:Int}(hR:(fun xs=>xs.length<=9223372036854775807∧∀x∈xs,GK x) a)(h0:0<=left)(h1:left<=1048576)(hn:1048577<=n)(e:VL n a left=some r)(hr:0<=r)(k0:0<=k)(k1:k+4*left<=1152921504606846976):
 r<=left∧∃k',cW n a k=some k'∧k<=k'∧k'<=k+4*(left-r):=by
 have hl:=hR.1
 rw [VL,AY (by omega) (by omega)]at e
 obtain⟨p,e⟩:=VM e hr
 obtain⟨q,k2,b1,b2,b3⟩:=jW (xs:=a) (LZ:=fun m l i=>GR n a (fun i5 i6=>(some i5)) m l i) (LM:=fun m k i=>Iz n a (fun i5 i6=>(some i5)) m k i) (f:=Si n)
  (fun m i l hi=>by
   simp only [GR.eq_2,Cm hi,cT,AR hi,Ag,wT i])
  (fun m l=>by simp only [GR.eq_2,DB,cF])
  (fun m i k l r hi e hr h0 h1 k0 k1=>by
   have hx:=hR.2 _ (List.getElem_mem hi)
   rw [Si]at e
   have g:(a[i].Name.size:Int)<=9223372036854775807:=by have g:=hx.1;rw [EB]at g;omega
   rw [AY (x:=l-(a[i].Name.size:Int)) (by omega) (by omega)]at e
   obtain⟨p0,e⟩:=VM e hr
   obtain⟨r0,e0,p1,e⟩:=QE e hr
   obtain rfl:=Option.some.inj e
   obtain⟨t,ht⟩:=MT (n:=n) (k:=k) (by omega) (by omega) hn
   obtain⟨u0,k_0,m0,v0,z0⟩:=Eo (n:=n) (a:=a[i].Nets) (left:=(l-(a[i].Name.size:Int))) (k:=k+1+1) (hx.2.2) (by omega) (by omega) hn e0 (by omega) (by omega) (by omega)
   refine⟨by omega,k_0,?_,by omega,by omega⟩
   simp only [Iz.eq_2,Cm hi,cT,AR hi,Ag,wT i,ht,wk (k:=k) (by omega) (by omega),wk (k:=k+1) (by omega) (by omega),m0])
  (fun m k=>by simp only [Iz.eq_2,DB,cF]) n 0 k (left-(a.length:Int)) r (by omega) (by omega) e hr p (by omega) k0 (by omega)
 rw [Nat.sub_zero]at b3
 refine⟨by omega,k2,?_,b2,by omega⟩
 rw [cW];exact b1
theorem VY{n:Nat}{a:List ByteArray}{left k r:Int}(hR:(fun xs=>xs.length<=9223372036854775807∧∀x∈xs,(fun s=>s.size<=maxLen) x) a)(h0:0<=left)(h1:left<=1048576)(hn:1048577<=n)(e:UX n a left=some r)(hr:0<=r)(k0:0<=k)(k1:k+4*left<=1152921504606846976):
 r<=left∧∃k',ZO n a k=some k'∧k<=k'∧k'<=k+4*(left-r):=by
 have hl:=hR.1
 rw [UX,AY (by omega) (by omega)]at e
 obtain⟨p,e⟩:=VM e hr
 obtain⟨q,k2,b1,b2,b3⟩:=jW (xs:=a) (LZ:=fun m l i=>GN a (fun i5 i6=>(some i5)) m l i) (LM:=fun m k i=>Jz n a (fun i5 i6=>(some i5)) m k i) (f:=(fun(x:ByteArray) (l:Int)=>cond (decide (wrap .i64 (l-(x.size:Int))<0)) (some (-1)) (some (wrap .i64 (l-(x.size:Int))))))
  (fun m i l hi=>by
   simp only [GN.eq_2,Cm hi,cT,AR hi,Ag,wT i]
   cases d:decide (wrap .i64 (l-(a[i].size:Int))<0)with
   |true=>rfl
   |false=>simp only [cF,Ag,d])
  (fun m l=>by simp only [GN.eq_2,DB,cF])
  (fun m i k l r hi e hr h0 h1 k0 k1=>by
   have hx:=hR.2 _ (List.getElem_mem hi)
   have g:(a[i].size:Int)<=9223372036854775807:=by have g:=hx;rw [EB]at g;omega
   rw [AY (x:=l-(a[i].size:Int)) (by omega) (by omega)]at e
   obtain⟨p0,e⟩:=VM e hr
   obtain rfl:=Option.some.inj e
   obtain⟨t,ht⟩:=MT (n:=n) (k:=k) (by omega) (by omega) hn
   refine⟨by omega,k+1,?_,by omega,by omega⟩
   simp only [Jz.eq_2,Cm hi,cT,AR hi,Ag,wT i,ht,wk (k:=k) (by omega) (by omega)])
  (fun m k=>by simp only [Jz.eq_2,DB,cF]) n 0 k (left-(a.length:Int)) r (by omega) (by omega) e hr p (by omega) k0 (by omega)
 rw [Nat.sub_zero]at b3
 refine⟨by omega,k2,?_,b2,by omega⟩
 rw [ZO];exact b1
theorem Yw{n:Nat}{a:List BN}{left k r:Int}(hR:(fun xs=>xs.length<=9223372036854775807∧∀x∈xs,OG x) a)(h0:0<=left)(h1:left<=1048576)(hn:1048577<=n)(e:VC n a left=some r)(hr:0<=r)(k0:0<=k)(k1:k+4*left<=1152921504606846976):
 r<=left∧∃k',Ya n a k=some k'∧k<=k'∧k'<=k+4*(left-r):=by
 have hl:=hR.1
 rw [VC,AY (by omega) (by omega)]at e
 obtain⟨p,e⟩:=VM e hr
 obtain⟨q,k2,b1,b2,b3⟩:=jW (xs:=a) (LZ:=fun m l i=>GQ n a (fun i5 i6=>(some i5)) m l i) (LM:=fun m k i=>Jf n a (fun i5 i6=>(some i5)) m k i) (f:=TD n)
  (fun m i l hi=>by
   simp only [GQ.eq_2,Cm hi,cT,AR hi,Ag,wT i])
  (fun m l=>by simp only [GQ.eq_2,DB,cF])
  (fun m i k l r hi e hr h0 h1 k0 k1=>by
   have hx:=hR.2 _ (List.getElem_mem hi)
   rw [TD]at e
   have g:(a[i].Name.size:Int)<=9223372036854775807:=by have g:=hx.1;rw [EB]at g;omega
   rw [AY (x:=l-(a[i].Name.size:Int)) (by omega) (by omega)]at e
   obtain⟨p0,e⟩:=VM e hr
   obtain rfl:=Option.some.inj e
   obtain⟨t,ht⟩:=MT (n:=n) (k:=k) (by omega) (by omega) hn
   refine⟨by omega,k+1+1+1,?_,by omega,by omega⟩
   simp only [Jf.eq_2,Cm hi,cT,AR hi,Ag,wT i,ht,wk (k:=k) (by omega) (by omega),wk (k:=k+1) (by omega) (by omega),wk (k:=k+1+1) (by omega) (by omega)])
  (fun m k=>by simp only [Jf.eq_2,DB,cF]) n 0 k (left-(a.length:Int)) r (by omega) (by omega) e hr p (by omega) k0 (by omega)
 rw [Nat.sub_zero]at b3
 refine⟨by omega,k2,?_,b2,by omega⟩
 rw [Ya];exact b1
theorem XG{n:Nat}{a:AQ}{left k r:Int}(hR:NU a)(h0:0<=left)(h1:left<=1048576)(hn:1048577<=n)(e:Uv n a left=some r)(hr:0<=r)(k0:0<=k)(k1:k+4*left<=1152921504606846976):
 r<=left∧∃k',Zv n a k=some k'∧k<=k'∧k'<=k+4*(left-r):=by
 rw [Uv]at e
 obtain⟨r0,e0,p0,e⟩:=QE e hr
 obtain⟨r1,e1,p1,e⟩:=QE e hr
 obtain⟨r2,e2,p2,e⟩:=QE e hr
 obtain rfl:=Option.some.inj e
 obtain⟨u0,k_0,m0,v0,z0⟩:=Ry (n:=n) (a:=a.Instances) (left:=left) (k:=k) (hR.1) (by omega) (by omega) hn e0 (by omega) (by omega) (by omega)
 obtain⟨u1,k_1,m1,v1,z1⟩:=VY (n:=n) (a:=a.Nets) (left:=r0) (k:=k_0) (hR.2.1) (by omega) (by omega) hn e1 (by omega) (by omega) (by omega)
 obtain⟨u2,k_2,m2,v2,z2⟩:=Yw (n:=n) (a:=a.Ports) (left:=r1) (k:=k_1) (hR.2.2) (by omega) (by omega) hn e2 (by omega) (by omega) (by omega)
 exact⟨by omega,k_2,by simp only [Zv,Ag,m0,m1,m2],by omega,by omega⟩
theorem bZ{n:Nat}{a:List Aw}{left k r:Int}(hR:(fun xs=>xs.length<=9223372036854775807∧∀x∈xs,OC x) a)(h0:0<=left)(h1:left<=1048576)(hn:1048577<=n)(e:VA n a left=some r)(hr:0<=r)(k0:0<=k)(k1:k+4*left<=1152921504606846976):
 r<=left∧∃k',fO n a k=some k'∧k<=k'∧k'<=k+4*(left-r):=by
 have hl:=hR.1
 rw [VA,AY (by omega) (by omega)]at e
 obtain⟨p,e⟩:=VM e hr
 obtain⟨q,k2,b1,b2,b3⟩:=jW (xs:=a) (LZ:=fun m l i=>GV n a (fun i5 i6=>(some i5)) m l i) (LM:=fun m k i=>JG n a (fun i5 i6=>(some i5)) m k i) (f:=TX n)
  (fun m i l hi=>by
   simp only [GV.eq_2,Cm hi,cT,AR hi,Ag,wT i])
  (fun m l=>by simp only [GV.eq_2,DB,cF])
  (fun m i k l r hi e hr h0 h1 k0 k1=>by
   have hx:=hR.2 _ (List.getElem_mem hi)
   rw [TX]at e
   obtain⟨r0,e0,p1,e⟩:=QE e hr
   obtain⟨r1,e1,p2,e⟩:=QE e hr
   obtain⟨r2,e2,p3,e⟩:=QE e hr
   obtain⟨r3,e3,p4,e⟩:=QE e hr
   obtain rfl:=Option.some.inj e
   obtain⟨u0,k_0,m0,v0,z0⟩:=Eo (n:=n) (a:=a[i].Parent) (left:=l) (k:=k) (hx.1) (by omega) (by omega) hn e0 (by omega) (by omega) (by omega)
   obtain⟨u1,k_1,m1,v1,z1⟩:=Eo (n:=n) (a:=a[i].Res) (left:=r0) (k:=k_0) (hx.2.1) (by omega) (by omega) hn e1 (by omega) (by omega) (by omega)
   obtain⟨u2,k_2,m2,v2,z2⟩:=Eo (n:=n) (a:=a[i].Cap) (left:=r1) (k:=k_1) (hx.2.2.1) (by omega) (by omega) hn e2 (by omega) (by omega) (by omega)
   obtain⟨u3,k_3,m3,v3,z3⟩:=Eo (n:=n) (a:=a[i].Sink) (left:=r2) (k:=k_2) (hx.2.2.2) (by omega) (by omega) hn e3 (by omega) (by omega) (by omega)
   refine⟨by omega,k_3,?_,by omega,by omega⟩
   simp only [JG.eq_2,Cm hi,cT,AR hi,Ag,wT i,m0,m1,m2,m3])
  (fun m k=>by simp only [JG.eq_2,DB,cF]) n 0 k (left-(a.length:Int)) r (by omega) (by omega) e hr p (by omega) k0 (by omega)
 rw [Nat.sub_zero]at b3
 refine⟨by omega,k2,?_,b2,by omega⟩
 rw [fO];exact b1
theorem Yg{n:Nat}{a:AM}{left k r:Int}(hR:Oj a)(h0:0<=left)(h1:left<=1048576)(hn:1048577<=n)(e:UZ n a left=some r)(hr:0<=r)(k0:0<=k)(k1:k+4*left<=1152921504606846976):
 r<=left∧∃k',bX n a k=some k'∧k<=k'∧k'<=k+4*(left-r):=by
 rw [UZ]at e
 obtain⟨r0,e0,p0,e⟩:=QE e hr
 obtain⟨r1,e1,p1,e⟩:=QE e hr
 obtain⟨r2,e2,p2,e⟩:=QE e hr
 obtain rfl:=Option.some.inj e
 obtain⟨u0,k_0,m0,v0,z0⟩:=Uy (n:=n) (a:=a.Library) (left:=left) (k:=k) (hR.1) (by omega) (by omega) hn e0 (by omega) (by omega) (by omega)
 obtain⟨u1,k_1,m1,v1,z1⟩:=XG (n:=n) (a:=a.Design) (left:=r0) (k:=k_0) (hR.2.1) (by omega) (by omega) hn e1 (by omega) (by omega) (by omega)
 obtain⟨u2,k_2,m2,v2,z2⟩:=bZ (n:=n) (a:=a.Wires) (left:=r1) (k:=k_1) (hR.2.2) (by omega) (by omega) hn e2 (by omega) (by omega) (by omega)
 exact⟨by omega,k_2,by simp only [bX,Ag,m0,m1,m2],by omega,by omega⟩
def JN(b:AM)(x:AX):List Aq:=match AE b.Library.Cells x.Cell with
 |some c=>c.Arcs
 |none=>[]
def El(q:Int)(p:At):Bool:=p.net_==q&&p.drives_
theorem WZ(i:Nat)(q L:Int):∀(xs:List Int) (s:Nat),xs≠[]->L=((s+xs.length:Nat):Int)-1->((ER (fun j n=>[At.mk i j n ((j:Int)==L)]) s xs).countP (El q):Int)=if gd xs (xs.length-1)=q then 1 else 0
 |[],_,h,_=>absurd rfl h
 |[x],s,_,hL=>by
  have e:((s:Int)==L)=true:=by rw [beq_iff_eq,hL];simp
  simp only [ER,List.append_nil,e]
  by_cases c:x=q
  ·subst c;simp [El,gd]
  ·have:(x==q)=false:=by rw [beq_eq_false_iff_ne];exact c
   simp [El,gd,this,c]
 |x::y::zs,s,_,hL=>by
  have ih:=WZ i q L (y::zs) (s+1) (by simp) (by rw [hL];simp only [List.length_cons];omega)
  have e:((s:Int)==L)=false:=by rw [beq_eq_false_iff_ne,hL];simp only [List.length_cons];omega
  rw [ER,List.countP_append]
  have h0:List.countP (El q) [At.mk i s x ((s:Int)==L)]=0:=by simp [El,e]
  rw [h0,Nat.zero_add,ih]
  simp [gd]
theorem Zq{q:Nat}{N:Nat}(hq:q<N):∀(xs:List AX) (t:List Int) (s:Nat),t.length=N->(∀x∈xs,x.Nets≠[]∧0<=KS x∧KS x<N)->gd (xs.foldl cI t) q=gd t q+((ER OA s xs).countP (El q):Int)∧(xs.foldl cI t).length=N
 |[],t,s,ht,_=>by simp [ER,ht]
 |x::xs,t,s,ht,hx=>by
  obtain⟨x1,x2,x3⟩:=hx x (by simp)
  obtain⟨h1,h2⟩:=Zq hq xs (cI t x) (s+1) (by unfold cI Ih;simpa using ht) fun y hy=>hx y (by simp [hy])
  refine⟨?_,h2⟩
  rw [List.foldl_cons,h1,ER,List.countP_append]
  have hc:=WZ s q ((x.Nets.length:Int)-1) x.Nets 0 x1 (by simp)
  have hc:((OA s x).countP (El q):Int)=if gd x.Nets (x.Nets.length-1)=q then 1 else 0:=hc
  have hb:gd (cI t x) q=gd t q+if gd x.Nets (x.Nets.length-1)=q then 1 else 0:=by
   have hl:KS x=gd x.Nets (x.Nets.length-1):=rfl
   unfold cI Ih
   rw [HS (by omega),←hl]
   by_cases c:KS x=q
   ·rw [if_pos (by omega),if_pos c];have:(KS x).toNat=q:=by omega
    rw [this]
   ·rw [if_neg (by omega),if_neg c];omega
  rw [hb];push_cast;omega
theorem cC{q:Nat}{N:Nat}(hq:q<N):∀(xs:List BN) (t:List Int) (s:Nat),t.length=N->(∀x∈xs,0<=x.Net∧x.Net<N)->gd (xs.foldl cP t) q=gd t q+((ER YR s xs).countP (El q):Int)
 |[],t,s,ht,_=>by simp [ER]
 |x::xs,t,s,ht,hx=>by
  obtain⟨x2,x3⟩:=hx x (by simp)
  have h1:=cC hq xs (cP t x) (s+1) (by unfold cP Ih;split<;>simpa using ht) fun y hy=>hx y (by simp [hy])
  rw [List.foldl_cons,h1,ER,List.countP_append]
  have hb:gd (cP t x) q=gd t q+((YR s x).countP (El q):Int):=by
   unfold cP YR
   by_cases d:x.Dir=1
   ·have:(x.Dir==1)=true:=by rw [beq_iff_eq];exact d
    rw [if_pos d];unfold Ih
    rw [HS (by omega)]
    by_cases c:x.Net=q
    ·have e:(x.Net==(q:Int))=true:=by rw [beq_iff_eq];exact c
     have e2:x.Net.toNat=q:=by omega
     rw [if_pos e2,e2];simp [El,this,e]
    ·have e:(x.Net==(q:Int))=false:=by rw [beq_eq_false_iff_ne];exact c
     rw [if_neg (by omega)];simp [El,this,e]
   ·have:(x.Dir==1)=false:=by rw [beq_eq_false_iff_ne];exact d
    rw [if_neg d];simp [El,this]
  rw [hb];push_cast;omega
theorem kT{l:Ad}{d:AQ}(v:Cx l d){q:Nat}(hq:q<d.Nets.length):(CY d).countP (El q)=1:=by
 obtain⟨h1,h2⟩:=Zq (N:=d.Nets.length) hq d.Instances (List.replicate d.Nets.length 0) 0 (by simp) fun x hx=>by
  have a:=(v.inst x hx).long v.lib
  have b:=(v.inst x hx).last v.lib
  exact⟨fun e=>by rw [e]at a;simp at a,b⟩
 have h3:=cC (N:=d.Nets.length) hq d.Ports _ 0 h2 fun x hx=>by have:=(v.port x hx).net;omega
 have h4:=v.one q hq
 unfold YW at h4
 rw [h3,h1,Mw]at h4
 unfold CY
 rw [List.countP_append];omega
theorem Qh{α:Type}(f:α->Bool):∀(xs:List α),xs.countP f=1->∃k,∃h:k<xs.length,f xs[k]=true∧∀j (h:j<xs.length),f xs[j]=true->j=k
 |[],h=>by simp at h
 |x::xs,h=>by
  rw [List.countP_cons]at h
  by_cases c:f x=true
  ·have h0:xs.countP f=0:=by simpa [c] using h
   refine⟨0,by simp,c,fun j hj hf=>?_⟩
   cases j with
   |zero=>rfl
   |succ j=>
    have hf:f (xs[j]'(by simpa using hj))=true:=hf
    rw [List.countP_eq_zero]at h0
    exact absurd hf (h0 _ (List.getElem_mem _))
  ·have h0:xs.countP f=1:=by simpa [c] using h
   obtain⟨k,hk,a,b⟩:=Qh f xs h0
   refine⟨k+1,by simpa using hk,by simpa using a,fun j hj hf=>?_⟩
   cases j with
   |zero=>exact absurd hf c
   |succ j=>rw [b j (by simpa using hj) (by simpa using hf)]
end Go.Proofs.YtaijnchdfgojiabGreatDoor
