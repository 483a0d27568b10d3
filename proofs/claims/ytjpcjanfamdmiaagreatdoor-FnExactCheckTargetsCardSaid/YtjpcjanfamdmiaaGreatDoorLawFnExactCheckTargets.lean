/- The plain law behind FnExactCheckTargets: the plain function answers true; no condition. -/
import Derived.Test.YtjpcjanfamdmiaaGreatDoorWalkFnExactCheckTargets
set_option linter.all false
set_option maxHeartbeats 4000000
namespace Go.Proofs.YtjpcjanfamdmiaaGreatDoor
open Go Go.RowKit Go.Eng
open Go.IntKind (wrap)
theorem EX{b c:Bool}:(cond b (some true) (some c))=some (b||c):=by cases b<;>rfl
theorem CQ{b c:Bool}:(cond b (some c) (some false))=some (b&&c):=by cases b<;>rfl
theorem Cx{i N:Nat}(h:i<N):decide ((i:Int)<(N:Int))=true:=decide_eq_true (by omega)
theorem DH(N:Nat):decide ((N:Int)<(N:Int))=false:=decide_eq_false (by omega)
theorem wS{i:Nat}(h:i<4611686018427387904):wrap .i64 ((i:Int)+1)=((i+1:Nat):Int):=by rw [Aa (by omega) (by omega)];simp
theorem AU{α:Type}{xs:List α}{i:Nat}(h:i<xs.length):AE xs (i:Int)=some xs[i]:=by rw [EH];exact List.getElem?_eq_getElem h
theorem DC{α:Type}{xs:List α}{i:Int}(h0:0<=i)(h1:i<xs.length):∃x,AE xs i=some x∧xs[i.toNat]? =some x:=by
 obtain⟨x,hx,_⟩:=IW h0 h1
 exact⟨x,hx,(Fe hx).2.2⟩
theorem loop{σ R:Type}{L:Nat->Int->σ->Option R}(N:Nat)(I:Nat->σ->Prop)(Post:Option R->Prop)
 (hs:∀(m i:Nat) (st:σ),i<N->I i st->(∃st',I (i+1) st'∧L (m+1) (i:Int) st=L m ((i+1:Nat):Int) st')∨Post (L (m+1) (i:Int) st))
 (he:∀(m:Nat) (st:σ),I N st->Post (L (m+1) (N:Int) st)):∀(m i:Nat) (st:σ),i<=N->N-i<m->I i st->Post (L m (i:Int) st)
 |0,i,st,_,hm,_=>by omega
 |m+1,i,st,hi,hm,h=>by
  by_cases hlt:i<N
  ·rcases hs m i st hlt h with ⟨st',h1,h2⟩|h1
   ·rw [h2];exact loop N I Post hs he m (i+1) st' (by omega) (by omega) h1
   ·exact h1
  ·obtain rfl:i=N:=by omega
   exact he m st h
theorem Oi{α σ R:Type}{xs:List α}{L:Nat->Int->σ->Option R}{k:σ->Option R}(f:σ->α->σ)(I:Nat->σ->Prop)
 (hs:∀(m i:Nat) (h:i<xs.length) (st:σ),I i st->L (m+1) (i:Int) st=L m ((i+1:Nat):Int) (f st xs[i])∧I (i+1) (f st xs[i]))
 (he:∀(m:Nat) (st:σ),I xs.length st->L (m+1) (xs.length:Int) st=k st) (m:Nat) (st:σ) (h:I 0 st) (hm:xs.length<m):L m 0 st=k (xs.foldl f st)∧I xs.length (xs.foldl f st):=by
 refine loop xs.length (fun i s=>I i s∧(xs.drop i).foldl f s=xs.foldl f st) (fun o=>o=k (xs.foldl f st)∧I xs.length (xs.foldl f st)) ?_ ?_ m 0 st (by omega) (by omega) ⟨h,by simp⟩
 ·intro m i s hi ⟨h1,h2⟩
  obtain⟨e,h3⟩:=hs m i hi s h1
  exact .inl ⟨_,⟨h3,by rw [List.drop_eq_getElem_cons hi]at h2;exact h2⟩,e⟩
 ·intro m s ⟨h1,h2⟩
  rw [List.drop_length]at h2
  have h2:s=xs.foldl f st:=h2
  rw [←h2]
  exact⟨he m s h1,h1⟩
theorem CR{α:Type}{xs ys:List α}{b:Nat}(h:xs.length+ys.length<=16777216)(hb:b<=1048576):Dj xs ys b=some (xs++ys):=by
 unfold Dj
 have:(xs.length+ys.length)*b<=16777216*1048576:=Nat.mul_le_mul h hb
 rw [if_pos ⟨by omega,by omega⟩]
theorem NE{α R:Type}{xs:List α}{L:Nat->Int->Option R}{k no:Option R}(p:α->Bool)(hs:∀(m i:Nat) (h:i<xs.length),L (m+1) (i:Int)=cond (p xs[i]) (L m ((i+1:Nat):Int)) no)
 (he:∀m:Nat,L (m+1) (xs.length:Int)=k) (m:Nat) (hm:xs.length<m):L m 0=cond (xs.all p) k no:=by
 refine loop (L:=fun m i (_:Unit)=>L m i) xs.length (fun i _=>xs.all p=(xs.drop i).all p) (fun o=>o=cond (xs.all p) k no) ?_ ?_ m 0 () (by omega) (by omega) (by simp)
 ·intro m i _ hi h
  rw [List.drop_eq_getElem_cons hi,List.all_cons]at h
  cases hp:p xs[i]with
  |false=>refine .inr ?_;rw [h,hp];simp only [hs m i hi,hp,cF,Bool.false_and]
  |true=>refine .inl ⟨(),by rw [h,hp];simp,?_⟩;simp only [hs m i hi,hp,cT]
 ·intro m _ h
  rw [List.drop_length]at h
  rw [h];simp [he m]
theorem TR{σ R:Type}{L:Nat->Int->σ->Option R}(N:Nat)(I:Nat->σ->Prop)(Post:Option R->Prop)
 (hs:∀(m i:Nat) (st:σ),i<N->I i st->(∀st',I (i+1) st'->Post (L m ((i+1:Nat):Int) st'))->Post (L (m+1) (i:Int) st))
 (he:∀(m:Nat) (st:σ),I N st->Post (L (m+1) (N:Int) st)):∀(m i:Nat) (st:σ),i<=N->N-i<m->I i st->Post (L m (i:Int) st)
 |0,i,st,_,hm,_=>by omega
 |m+1,i,st,hi,hm,h=>by
  by_cases hlt:i<N
  ·exact hs m i st hlt h fun st' h'=>TR N I Post hs he m (i+1) st' (by omega) (by omega) h'
  ·obtain rfl:i=N:=by omega
   exact he m st h
def OL{α:Type}(Q:α->Prop)(o:Option α):Prop:=∃v,o=some v∧Q v
theorem Yo{α:Type}{Q:α->Prop}{v:α}(h:Q v):OL Q (some v):=⟨v,rfl,h⟩
theorem OL.bind{α β:Type}{A:α->Prop}{Q:β->Prop}{o:Option α}{f:α->Option β}(h:OL A o)(k:∀v,o=Option.some v->A v->OL Q (f v)):OL Q (Option.bind o f):=by
 obtain⟨v,e,hv⟩:=h
 rw [e];exact k v e hv
theorem cS{α:Type}{Q:α->Prop}{c:Bool}{x y:Option α}(h1:c=true->OL Q x)(h2:c=false->OL Q y):OL Q (cond c x y):=by
 cases c
 ·exact h2 rfl
 ·exact h1 rfl
theorem Jm{α:Type}{xs:List α}{L:Nat->Int->Option Int}(p:α->Bool)(hs:∀(m i:Nat) (h:i<xs.length),L (m+1) (i:Int)=cond (p xs[i]) (some (i:Int)) (L m ((i+1:Nat):Int)))
 (he:∀m:Nat,L (m+1) (xs.length:Int)=some (-1)) (m:Nat) (hm:xs.length<m):∃r,L m 0=some r∧decide (r>=0)=xs.any p:=by
 refine loop (L:=fun m i (_:Unit)=>L m i) xs.length (fun i _=>xs.any p=(xs.drop i).any p) (fun o=>∃r,o=some r∧decide (r>=0)=xs.any p) ?_ ?_ m 0 () (by omega) (by omega) (by simp)
 ·intro m i _ hi h
  rw [List.drop_eq_getElem_cons hi,List.any_cons]at h
  cases hp:p xs[i]with
  |false=>refine .inl ⟨(),by rw [h,hp];simp,?_⟩;simp only [hs m i hi,hp,cF]
  |true=>refine .inr ⟨(i:Int),?_,?_⟩
         ·simp only [hs m i hi,hp,cT]
         ·rw [h,hp];simp
 ·intro m _ h
  rw [List.drop_length]at h
  exact⟨-1,he m,by rw [h];rfl⟩
def gd(t:List Int)(j:Nat):Int:=t.getD j 0
theorem MS{t:List Int}{j:Nat}{v:Int}(h:t[j]? =some v):gd t j=v:=by simp [gd,h]
theorem kD{t:List Int}{j:Nat}(h:j<t.length):t[j]? =some (gd t j):=by simp [gd,h]
theorem SA{t:List Int}{i j:Nat}{v:Int}(h:i<t.length):gd (t.set i v) j=if i=j then v else gd t j:=by
 unfold gd
 rw [List.getD_eq_getElem?_getD,List.getD_eq_getElem?_getD,List.getElem?_set]
 by_cases e:i=j
 ·subst e;simp [h]
 ·simp [e]
theorem TU{t:List Int}{i:Int}(h0:0<=i)(h1:i<t.length):AE t i=some (gd t i.toNat):=by
 obtain⟨x,hx,h⟩:=DC h0 h1
 rw [hx,MS h]
def gb(t:List Bool)(j:Nat):Bool:=t.getD j false
theorem PR{n j:Nat}:gd (List.replicate n 0) j=0:=by
 simp only [gd,List.getD_eq_getElem?_getD,List.getElem?_replicate];split<;>rfl
def KZ(b:UInt8):Bool:=decide ((b.toNat:Int)>=97)&&decide ((b.toNat:Int)<=122)
def Pm(b:UInt8):Bool:=decide ((b.toNat:Int)>=48)&&decide ((b.toNat:Int)<=57)
def EF(s:ByteArray):Bool:=(decide ((s.size:Int)>=1)&&decide ((s.size:Int)<=8))&&(s.data.toList.all fun b=>KZ b||Pm b)&&(s.data.toList.take 1).all KZ
theorem MV(s:ByteArray):s.size=s.data.toList.length:=by rw [Array.length_toList];rfl
theorem Tb{s:ByteArray}{i:Nat}(h:i<s.data.toList.length):PK s (i:Int)=some ((s.data.toList[i].toNat:Nat):Int):=by
 unfold PK
 rw [if_pos (by omega),Int.toNat_natCast]
 have:s[i]? =some s.data.toList[i]:=by
  have hs:i<s.size:=by rw [MV];exact h
  rw [show s[i]? =some s[i]from getElem?_pos s i hs]
  rfl
 rw [this];rfl
theorem Yd(p q:UInt8->Bool)(h:(List.range 256).all (fun i=>p (UInt8.ofNat i)==q (UInt8.ofNat i))=true)(b:UInt8):p b=q b:=by
 have:=List.all_eq_true.1 h b.toNat (List.mem_range.2 b.toNat_lt)
 rw [UInt8.ofNat_toNat]at this
 exact eq_of_beq this
def lettersL:List UInt8:=[97,98,99,100,101,102,103,104,105,106,107,108,109,110,111,112,113,114,115,116,117,118,119,120,121,122]
def nameL:List UInt8:=[97,98,99,100,101,102,103,104,105,106,107,108,109,110,111,112,113,114,115,116,117,118,119,120,121,122,48,49,50,51,52,53,54,55,56,57]
theorem XP(b:UInt8):nameL.contains b=(KZ b||Pm b):=Yd (fun b=>nameL.contains b) (fun b=>KZ b||Pm b) (by decide+kernel) b
theorem RO(b:UInt8):lettersL.contains b=KZ b:=Yd (fun b=>lettersL.contains b) (fun b=>KZ b) (by decide+kernel) b
theorem MK{p:UInt8->Bool}:∀{l:List UInt8} (h:0<l.length),(l.take 1).all p=p l[0]
 |[],h=>by simp at h
 |a::r,_=>by simp
theorem FT{p:UInt8->Bool}:∀(l:List UInt8),(l.dropWhile p=[])↔l.all p=true
 |[]=>by simp
 |a::l=>by
  rw [List.dropWhile_cons,List.all_cons]
  cases h:p a with
  |true=>simpa using FT l
  |false=>simp
theorem Jg{p:UInt8->Bool}:∀{l:List UInt8} {a:UInt8} {r:List UInt8},l.dropWhile p=a::r->p a=false
 |b::l,a,r,h=>by
  rw [List.dropWhile_cons]at h
  split at h
  ·exact Jg h
  ·next q=>simp only [List.cons.injEq]at h;rw [←h.1];simpa using q
theorem Vk(l cs:List UInt8):(Lib.trimS l cs==[])=l.all (cs.contains ·):=by
 rw [Bool.eq_iff_iff,beq_iff_eq]
 unfold Lib.trimS Lib.trimLeftS Lib.trimRightS
 rw [FT,List.all_reverse]
 rw [show l.all (cs.contains ·)=l.reverse.all (cs.contains ·) by rw [List.all_reverse]]
 constructor
 ·intro h
  cases hd:l.reverse.dropWhile (cs.contains ·)with
  |nil=>exact(FT _).1 hd
  |cons a r=>
   have h1:=Jg hd
   rw [hd,List.all_cons,h1]at h
   cases h
 ·intro h
  rw [(FT _).2 h];rfl
theorem Lq:∀(l:List UInt8) (c:UInt8),decide (Lib.indexByte l c>=0)=l.contains c∧Lib.indexByte l c>= -1
 |[],c=>by simp [Lib.indexByte]
 |b::l,c=>by
  obtain⟨h1,h2⟩:=Lq l c
  rw [Lib.indexByte,List.contains_cons]
  by_cases e:b=c
  ·subst e;simp
  ·have e1:(b==c)=false:=beq_eq_false_iff_ne.2 e
   have e2:(c==b)=false:=beq_eq_false_iff_ne.2 fun q=>e q.symm
   rw [e1,e2,Bool.false_or,←h1]
   by_cases h:Lib.indexByte l c= -1
   ·rw [h];simp
   ·have:(Lib.indexByte l c== -1)=false:=beq_eq_false_iff_ne.2 h
    rw [this]
    have hge:Lib.indexByte l c>=0:=by omega
    rw [decide_eq_true hge]
    simp only [Bool.false_eq_true,if_false]
    exact⟨decide_eq_true (by omega),by omega⟩
theorem Nm1{n:Nat}{s:ByteArray}(hs:s.size<=1048576)(hn:1048577<=n):Ug n s=some (EF s):=by
 rw [Ug,Ij,Au]
 unfold EF
 cases hw:(decide ((s.size:Int)>=1)&&decide ((s.size:Int)<=8))with
 |false=>simp
 |true=>
  have hsz:1<=s.size:=by simp only [Bool.and_eq_true,decide_eq_true_eq]at hw;omega
  have ht:YV n s ((ByteArray.mk #[97,98,99,100,101,102,103,104,105,106,107,108,109,110,111,112,113,114,115,116,117,118,119,120,121,122,48,49,50,51,52,53,54,55,56,57]))=some ⟨(Lib.trimS s.data.toList nameL).toArray⟩:=by
   unfold YV
   rw [if_pos ⟨by omega,by decide,by decide⟩];rfl
  simp only [cT,ht,Au,Bool.true_and]
  have hb:((⟨(Lib.trimS s.data.toList nameL).toArray⟩:ByteArray).toList==((ByteArray.mk #[])).toList)=(s.data.toList.all fun b=>KZ b||Pm b):=by
   rw [Lib.toList_data,Lib.toList_data]
   show((Lib.trimS s.data.toList nameL)==[])=_
   rw [Vk]
   congr 1
   funext b;exact XP b
  rw [hb]
  cases(s.data.toList.all fun b=>KZ b||Pm b)with
  |false=>simp
  |true=>
   rw [MV]at hsz
   have hg:=Tb (s:=s) (i:=0) (by omega)
   simp only [cT,show((0:Int))=((0:Nat):Int)from rfl,hg,Au,kO,Bool.true_and]
   have h1:=(Lq lettersL (s.data.toList[0])).1
   rw [RO]at h1
   have e1:(((s.data.toList[0].toNat:Nat):Int).toNat.toUInt8)=s.data.toList[0]:=by rw [Int.toNat_natCast];exact UInt8.ofNat_toNat
   rw [e1]
   have e2:(s.data.toList.take 1).all KZ=KZ s.data.toList[0]:=MK (by omega)
   rw [e2,←h1];rfl
theorem Nm2{n:Nat}{s:ByteArray}(hs:s.size<=1048576)(hn:1048577<=n):mL n s=some (EF s):=by
 rw [mL]
 have hl:=MV s
 refine loop (L:=fun m i (_:Unit)=>Fm s _ m i) s.data.toList.length (fun i _=>EF s=((decide ((s.size:Int)>=1)&&decide ((s.size:Int)<=8))&&((s.data.toList.drop i).all fun b=>KZ b||Pm b)&&((s.data.toList.take 1).drop i).all KZ)) (fun r=>r=some (EF s)) ?_ ?_ n 0 () (by omega) (by omega) (by simp [EF])
 ·intro m i _ hi hI
  have g:=Tb hi
  have hd:decide ((i:Int)<(s.size:Int))=true:=decide_eq_true (by omega)
  have key:Fm s (fun i3=>(some (((decide ((s.size:Int)>=1))&&(decide ((s.size:Int)<=8)))))) (m+1) (i:Int)=cond (!KZ s.data.toList[i]&& !(Pm s.data.toList[i]&&decide (0<i))) (some false) (Fm s (fun i3=>(some (((decide ((s.size:Int)>=1))&&(decide ((s.size:Int)<=8)))))) m ((i+1:Nat):Int)):=by
   have e0:decide ((i:Int)>0)=decide (0<i):=by by_cases h:0<i<;>simp [h]<;>omega
   simp only [Fm.eq_2,hd,cT,g,Au,CQ,wT i,e0]
   rfl
  by_cases hc:(!KZ s.data.toList[i]&& !(Pm s.data.toList[i]&&decide (0<i)))=true
  ·refine .inr ?_
   show Fm s _ (m+1) (i:Int)=_
   rw [key,hc,cT]
   have:EF s=false:=by
    rw [hI,List.drop_eq_getElem_cons hi,List.all_cons]
    simp only [Bool.and_eq_true,Bool.not_eq_true',Bool.and_eq_false_iff,decide_eq_false_iff_not]at hc
    obtain⟨h1,h2⟩:=hc
    rw [h1]
    rcases h2 with h2|h2
    ·rw [h2];simp
    ·obtain rfl:i=0:=by omega
     rw [List.drop_zero,MK hi,h1];simp
   rw [this]
  ·refine .inl ⟨(),?_,?_⟩
   ·rw [hI,List.drop_eq_getElem_cons hi,List.all_cons]
    have hc:=Bool.eq_false_iff.2 hc
    simp only [Bool.and_eq_false_iff,Bool.not_eq_false',Bool.and_eq_true,decide_eq_true_eq]at hc
    by_cases h0:i=0
    ·subst h0
     have h1:KZ s.data.toList[0]=true:=by
      rcases hc with h|h
      ·exact h
      ·omega
     have e2:(s.data.toList.take 1).drop (0+1)=[]:=List.drop_eq_nil_of_le (by simp;omega)
     rw [List.drop_zero,MK hi,e2,h1];simp
    ·have e1:(s.data.toList.take 1).drop i=[]:=List.drop_eq_nil_of_le (by simp;omega)
     have e2:(s.data.toList.take 1).drop (i+1)=[]:=List.drop_eq_nil_of_le (by simp;omega)
     rw [e1,e2]
     have:(KZ s.data.toList[i]||Pm s.data.toList[i])=true:=by
      rcases hc with h|h
      ·rw [h];rfl
      ·rw [h.1];simp
     rw [this];simp
   ·show Fm s _ (m+1) (i:Int)=Fm s _ m ((i+1:Nat):Int)
    rw [key,Bool.eq_false_iff.2 hc,cF]
 ·intro m _ hI
  have hd:decide (((s.data.toList.length:Nat):Int)<(s.size:Int))=false:=decide_eq_false (by omega)
  simp only [Fm.eq_2,hd,cF]
  rw [hI,List.drop_length,List.drop_eq_nil_of_le (by simp;omega)]
  simp
def BE(P:Prop)(r:Option Bool):Prop:=∃b:Bool,r=some b∧(b=true↔P)
theorem Az{P:Prop}(h:¬P):BE P (some false):=⟨false,rfl,by simp [h]⟩
theorem Cc{P:Prop}(h:P):BE P (some true):=⟨true,rfl,by simp [h]⟩
theorem Ct1{n:Nat}{xs:List ByteArray}{x:ByteArray}(h:xs.length<=1048576)(hn:1048577<=n):XI n xs x=some (xs.any fun y=>x.toList==y.toList):=by
 rw [XI,dI]
 obtain⟨r,e1,e2⟩:=Jm (xs:=xs) (L:=fun m i=>Gl xs x (fun i5=>(some (-1))) m i) (fun y=>x.toList==y.toList) (fun m i hi=>by
  simp only [Gl.eq_2,Cx hi,cT,AU hi,Au,wT i]) (fun m=>by
  simp only [Gl.eq_2,DH,cF]) n (by omega)
 have e1:Gl xs x (fun i5=>(some (-1))) n 0=some r:=e1
 rw [e1,Au,e2]
theorem AN{n:Nat}{xs:List ByteArray}(h:xs.length<=1048576)(hs:∀x∈xs,x.size<=1048576)(hn:1048577<=n):BE (∀k (h:k<xs.length),EF xs[k]=true∧∀i (hi:i<k),(xs[i].toList==xs[k].toList)=false) (aO n xs):=by
 rw [aO]
 refine loop (L:=fun m i (_:Unit)=>LI n xs _ m i) xs.length (fun i _=>∀k (h:k<xs.length),k<i->EF xs[k]=true∧∀i (hi:i<k),(xs[i].toList==xs[k].toList)=false) _ ?_ ?_ n 0 () (by omega) (by omega) (fun k h hk=>by omega)
 ·intro m i _ hi hI
  have hsub:NI xs 0 (i:Int)=some (xs.take i):=by
   unfold NI
   rw [if_pos ⟨by omega,by omega,by omega⟩];simp
  have hct:=Ct1 (n:=n) (xs:=xs.take i) (x:=xs[i]) (by simp;omega) hn
  simp only [LI.eq_2,Cx hi,cT,AU hi,Au,Nm1 (hs _ (List.getElem_mem hi)) hn,hsub,hct,EX,wT i]
  cases hb:(!EF xs[i]||(xs.take i).any fun y=>xs[i].toList==y.toList)with
  |true=>
   refine .inr (Az fun hv=>?_)
   obtain⟨h1,h2⟩:=hv i hi
   rw [h1,Bool.not_true,Bool.false_or,List.any_eq_true]at hb
   obtain⟨y,hy,he⟩:=hb
   obtain⟨j,hj,rfl⟩:=List.mem_iff_getElem.1 hy
   rw [List.length_take]at hj
   rw [List.getElem_take]at he
   have:=h2 j (by omega)
   rw [beq_eq_false_iff_ne]at this
   exact this (eq_of_beq he).symm
  |false=>
   simp only [Bool.or_eq_false_iff,Bool.not_eq_false']at hb
   refine .inl ⟨(),fun k h hk=>?_,rfl⟩
   by_cases e:k=i
   ·subst e
    refine⟨hb.1,fun j hj=>?_⟩
    rw [beq_eq_false_iff_ne]
    intro he
    have:=List.any_eq_false.1 hb.2 xs[j] (List.mem_iff_getElem.2 ⟨j,by rw [List.length_take];omega,by rw [List.getElem_take]⟩)
    exact this (by rw [he];simp)
   ·exact hI k h (by omega)
 ·intro m _ hI
  simp only [LI.eq_2,DH,cF]
  exact Cc fun k h=>hI k h h
theorem AW{n:Nat}{ks:List Int}{lo hi:Int}(h:ks.length<=1048576)(hn:1048577<=n):MC n ks lo hi=some (ks.all fun k=>decide (k>=lo)&&decide (k<=hi)):=by
 rw [MC,YG,XL]
 obtain⟨r,e1,e2⟩:=Jm (xs:=ks) (L:=fun m i=>Ev n ks lo hi (fun i7=>(some (-1))) m i) (fun k=>!(decide (k>=lo)&&decide (k<=hi))) (fun m i hi=>by
  simp only [Ev.eq_2,Cx hi,cT,AU hi,Au,Yc,Ij,wT i]) (fun m=>by
  simp only [Ev.eq_2,DH,cF]) n (by omega)
 have e1:Ev n ks lo hi (fun i7=>(some (-1))) n 0=some r:=e1
 rw [e1,Au,Au,e2]
 congr 1
 rw [List.not_any_eq_all_not]
 congr 1
 funext k;rw [Bool.not_not]
theorem BE.iff{P Q:Prop}{o:Option Bool}(h:BE P o)(e:P↔Q):BE Q o:=by
 obtain⟨b,rfl,h⟩:=h;exact⟨b,rfl,h.trans e⟩
theorem BI{P:Prop}{b:Bool}(h:b=true↔P):BE P (some b):=⟨b,rfl,h⟩
theorem BE.bind{P R:Prop}{o:Option Bool}{f:Bool->Option Bool}(h:BE P o)(h1:P->BE R (f true))(h0:¬P->BE R (f false)):BE R (Option.bind o f):=by
 obtain⟨b,rfl,h⟩:=h
 cases b with
 |true=>exact h1 (h.1 rfl)
 |false=>exact h0 fun p=>by have:=h.2 p;cases this
theorem FL{R:Prop}{c:Bool}{x y:Option Bool}(h1:c=true->BE R x)(h0:c=false->BE R y):BE R (cond c x y):=by
 cases c
 ·exact h0 rfl
 ·exact h1 rfl
theorem Ec{L:Nat->Int->Option Bool}{Q:Prop}(N s:Nat)(p:Nat->Prop)
 (hs:∀(m i:Nat),s<=i->i<N->(p i∧L (m+1) (i:Int)=L m ((i+1:Nat):Int))∨(¬p i∧L (m+1) (i:Int)=some false))
 (he:∀(m i:Nat),N<=i->i<=N+s->(∀j,s<=j->j<N->p j)->BE Q (L (m+1) (i:Int))):∀(m i:Nat),s<=i->i<=N+s->N-i<m->(∀j,s<=j->j<i->j<N->p j)->BE ((∀i,s<=i->i<N->p i)∧Q) (L m (i:Int))
 |0,i,_,_,hm,_=>by omega
 |m+1,i,hi,hi2,hm,hI=>by
  by_cases hlt:i<N
  ·rcases hs m i hi hlt with ⟨h1,h2⟩|⟨h1,h2⟩
   ·rw [h2]
    refine Ec N s p hs he m (i+1) (by omega) (by omega) (by omega) fun j h3 h4 h5=>?_
    by_cases e:j=i
    ·subst e;exact h1
    ·exact hI j h3 (by omega) h5
   ·rw [h2];exact Az fun h=>h1 (h.1 i hi hlt)
  ·have ha:∀j,s<=j->j<N->p j:=fun j h3 h4=>hI j h3 (by omega) h4
   exact(he m i (by omega) hi2 ha).iff ⟨fun q=>⟨ha,q⟩,fun q=>q.2⟩
theorem JV{α:Type}{xs:List α}{L:Nat->Int->Option Int}{f:α->Option Bool}{P:α->Prop}(hf:∀x∈xs,BE (P x) (f x))(hs:∀(m i:Nat) (h:i<xs.length),L (m+1) (i:Int)=Option.bind (f xs[i]) fun r=>cond r (some (i:Int)) (L m ((i+1:Nat):Int)))
 (he:∀m:Nat,L (m+1) (xs.length:Int)=some (-1)) (m:Nat) (hm:xs.length<m):∃r,L m 0=some r∧(r>=0↔∃x∈xs,P x)∧(r= -1∨∃j:Nat,r=(j:Int)∧∃h:j<xs.length,P xs[j]∧∀i (hi:i<xs.length),i<j->¬P xs[i]):=by
 refine loop (L:=fun m i (_:Unit)=>L m i) xs.length (fun i _=>∀j (h:j<xs.length),j<i->¬P xs[j]) (fun o=>∃r,o=some r∧(r>=0↔∃x∈xs,P x)∧(r= -1∨∃j:Nat,r=(j:Int)∧∃h:j<xs.length,P xs[j]∧∀i (hi:i<xs.length),i<j->¬P xs[i])) ?_ ?_ m 0 () (by omega) (by omega) (fun j _ h=>by omega)
 ·intro m i _ hi hI
  obtain⟨b,e,hb⟩:=hf _ (List.getElem_mem hi)
  rw [hs m i hi,e,Au]
  cases b with
  |true=>exact .inr ⟨(i:Int),rfl,⟨fun _=>⟨_,List.getElem_mem hi,hb.1 rfl⟩,fun _=>by omega⟩,.inr ⟨i,rfl,hi,hb.1 rfl,hI⟩⟩
  |false=>
   refine .inl ⟨(),fun j h hj=>?_,by trivial⟩
   by_cases ej:j=i
   ·subst ej;intro hp;have:=hb.2 hp;cases this
   ·exact hI j h (by omega)
 ·intro m _ hI
  refine⟨-1,he m,⟨fun h=>by omega,fun⟨x,hx,hp⟩=>?_⟩,.inl rfl⟩
  obtain⟨j,hj,rfl⟩:=List.getElem_of_mem hx
  exact absurd hp (hI j hj hj)
theorem gI{l:List Int}{i:Nat}(h:i<l.length):AE l (i:Int)=some (gd l i):=by rw [EH];exact kD h
def Ul(l:List Int):Prop:=(1<=l.length∧l.length<=4)∧(∀i,i<l.length->0<=gd l i∧gd l i<=100000)∧∀i,i<l.length->0<i->gd l (i-1)<gd l i
def VT(t:AS):Prop:=(Ul t.Slews∧Ul t.Loads)∧t.Values.length=t.Slews.length*t.Loads.length∧∀i,i<t.Values.length-> -1000000<=gd t.Values i∧gd t.Values i<=1000000
theorem NR{l:List Int}{lo hi:Int}:(l.all fun k=>decide (k>=lo)&&decide (k<=hi))=true↔∀i,i<l.length->lo<=gd l i∧gd l i<=hi:=by
 rw [List.all_eq_true]
 constructor
 ·intro h i hi
  have:=h _ (List.getElem_mem hi)
  simp only [Bool.and_eq_true,decide_eq_true_eq]at this
  rw [MS (List.getElem?_eq_getElem hi)];omega
 ·intro h x hx
  obtain⟨j,hj,rfl⟩:=List.getElem_of_mem hx
  have:=h j hj
  rw [MS (List.getElem?_eq_getElem hj)]at this
  simp only [Bool.and_eq_true,decide_eq_true_eq];omega
theorem Ax1{n:Nat}{l:List Int}(h:l.length<=1048576)(hn:1048577<=n):BE (Ul l) (Uj n l):=by
 rw [Uj]
 refine(Ec (L:=fun m i=>He n l _ m i) (Q:=1<=l.length∧l.length<=4) l.length 0 (fun i=>(0<=gd l i∧gd l i<=100000)∧(0<i->gd l (i-1)<gd l i)) ?_ ?_ n 0 (by omega) (by omega) (by omega) (fun j _ h=>by omega)).iff ?_
 ·intro m i _ hi
  have w1:0<i->wrap .i64 ((i:Int)-1)=((i-1:Nat):Int):=fun h0=>by rw [Aa (by omega) (by omega)];omega
  simp only [He.eq_2,Cx hi,cT,gI hi,Au,GV,wT i]
  by_cases c1:0<=gd l i∧gd l i<=100000
  ·have d1:(decide (gd l i>=0)&&decide (gd l i<=100000))=true:=by simp only [Bool.and_eq_true,decide_eq_true_eq];omega
   simp only [d1,Bool.not_true,cF]
   by_cases h0:0<i
   ·have d2:decide ((i:Int)>0)=true:=decide_eq_true (by omega)
    simp only [d2,cT,w1 h0,gI (show i-1<l.length by omega),Au]
    by_cases c2:gd l (i-1)<gd l i
    ·have d3:decide (gd l (i-1)>=gd l i)=false:=decide_eq_false (by omega)
     simp only [d3,cF]
     exact .inl ⟨⟨c1,fun _=>c2⟩,by trivial⟩
    ·have d3:decide (gd l (i-1)>=gd l i)=true:=decide_eq_true (by omega)
     simp only [d3,cT]
     exact .inr ⟨fun h=>c2 (h.2 h0),by trivial⟩
   ·have d2:decide ((i:Int)>0)=false:=decide_eq_false (by omega)
    simp only [d2,cF,Au]
    exact .inl ⟨⟨c1,fun h=>absurd h h0⟩,by trivial⟩
  ·have d1:(decide (gd l i>=0)&&decide (gd l i<=100000))=false:=by
    rw [Bool.and_eq_false_iff,decide_eq_false_iff_not,decide_eq_false_iff_not];omega
   simp only [d1,Bool.not_false,cT,Au]
   exact .inr ⟨fun h=>c1 h.1,by trivial⟩
 ·intro m i h1 h2 _
  obtain rfl:i=l.length:=by omega
  simp only [He.eq_2,DH,cF]
  exact BI (by simp only [Bool.and_eq_true,decide_eq_true_eq];omega)
 ·exact⟨fun⟨a,b⟩=>⟨b,fun i hi=>(a i (by omega) hi).1,fun i hi h0=>(a i (by omega) hi).2 h0⟩,fun⟨a,b,c⟩=>⟨fun i _ hi=>⟨b i hi,c i hi⟩,a⟩⟩
theorem Inc{n:Nat}{l:List Int}(h:l.length<=1048576)(hn:1048577<=n):BE (∀i,i<l.length->0<i->gd l (i-1)<gd l i) (YQ n l):=by
 rw [YQ]
 refine(Ec (L:=fun m i=>IB l _ m i) (Q:=True) l.length 1 (fun i=>gd l (i-1)<gd l i) ?_ ?_ n 1 (by omega) (by omega) (by omega) (fun j _ h=>by omega)).iff ?_
 ·intro m i h0 hi
  have w1:wrap .i64 ((i:Int)-1)=((i-1:Nat):Int):=by rw [Aa (by omega) (by omega)];omega
  simp only [IB.eq_2,Cx hi,cT,w1,gI hi,gI (show i-1<l.length by omega),Au,wT i]
  by_cases c2:gd l (i-1)<gd l i
  ·have d3:decide (gd l (i-1)>=gd l i)=false:=decide_eq_false (by omega)
   simp only [d3,cF]
   exact .inl ⟨c2,by trivial⟩
  ·have d3:decide (gd l (i-1)>=gd l i)=true:=decide_eq_true (by omega)
   simp only [d3,cT]
   exact .inr ⟨c2,by trivial⟩
 ·intro m i h1 h2 _
  have:decide ((i:Int)<(l.length:Int))=false:=decide_eq_false (by omega)
  simp only [IB.eq_2,this,cF]
  exact Cc trivial
 ·exact⟨fun a i hi h0=>a.1 i h0 hi,fun a=>⟨fun i h0 hi=>a i hi h0,trivial⟩⟩
theorem Ax2{n:Nat}{l:List Int}(h:l.length<=1048576)(hn:1048577<=n):BE (Ul l) (UJ n l):=by
 obtain⟨b,e,hb⟩:=Inc (n:=n) h hn
 rw [UJ]
 simp only [OC,Ij,AW (n:=n) h hn,e,Au,CQ]
 refine BI ?_
 rw [Bool.and_eq_true,Bool.and_eq_true,NR,hb]
 simp only [Bool.and_eq_true,decide_eq_true_eq]
 exact⟨fun⟨⟨a,b⟩,c⟩=>⟨by omega,b,c⟩,fun⟨a,b,c⟩=>⟨⟨by omega,b⟩,c⟩⟩
theorem aI{a b:Nat}(ha:a<=4)(hb:b<=4):wrap .i64 ((a:Int)*(b:Int))=((a*b:Nat):Int):=by
 have:a*b<=4*4:=Nat.mul_le_mul ha hb
 have e:((a*b:Nat):Int)=(a:Int)*b:=by simp
 rw [←e,Aa (by omega) (by omega)]
def gA(t:AS):Prop:=t.Slews.length<=1048576∧t.Loads.length<=1048576∧t.Values.length<=1048576
theorem DT.t{t:AS}(h:DT t):gA t:=⟨h.1.1,h.2.1.1,h.2.2.1⟩
theorem Tb1{n:Nat}{t:AS}(h:gA t)(hn:1048577<=n):BE (VT t) (Vw n t):=by
 rw [Vw]
 refine BE.bind (Ax1 h.1 hn) (fun v1=>?_) fun v1=>?_
 ·simp only [Bool.not_true,cF]
  obtain⟨b,e,hb⟩:=Ax1 (n:=n) h.2.1 hn
  rw [e,Au,Au]
  cases b with
  |false=>
   simp only [Bool.not_false,Bool.true_or,cT]
   exact Az fun v=>by have:=hb.2 v.1.2;cases this
  |true=>
   have v2:=hb.1 rfl
   rw [aI v1.1.2 v2.1.2]
   simp only [Bool.not_true,Bool.false_or]
   refine FL (fun c=>?_) fun c=>?_
   ·refine Az fun v=>?_
    rw [v.2.1]at c;simp at c
   ·have c:t.Values.length=t.Slews.length*t.Loads.length:=by
     rw [bne_eq_false_iff_eq]at c;omega
    have hv:=h.2.2
    refine(Ec (L:=fun m i=>Ia n t _ m i) (Q:=True) t.Values.length 0 (fun i=>-1000000<=gd t.Values i∧gd t.Values i<=1000000) ?_ ?_ n 0 (by omega) (by omega) (by omega) (fun j _ h=>by omega)).iff ?_
    ·intro m i _ hi
     simp only [Ia.eq_2,Cx hi,cT,gI hi,Au,GV,wT i]
     by_cases c1:-1000000<=gd t.Values i∧gd t.Values i<=1000000
     ·have d1:(decide (gd t.Values i>= -1000000)&&decide (gd t.Values i<=1000000))=true:=by simp only [Bool.and_eq_true,decide_eq_true_eq];omega
      simp only [d1,Bool.not_true,cF]
      exact .inl ⟨c1,by trivial⟩
     ·have d1:(decide (gd t.Values i>= -1000000)&&decide (gd t.Values i<=1000000))=false:=by
       rw [Bool.and_eq_false_iff,decide_eq_false_iff_not,decide_eq_false_iff_not];omega
      simp only [d1,Bool.not_false,cT]
      exact .inr ⟨c1,by trivial⟩
    ·intro m i h1 h2 _
     obtain rfl:i=t.Values.length:=by omega
     simp only [Ia.eq_2,DH,cF]
     exact Cc trivial
    ·exact⟨fun a=>⟨⟨v1,v2⟩,c,fun i hi=>a.1 i (by omega) hi⟩,fun a=>⟨fun i _ hi=>a.2.2 i hi,trivial⟩⟩
 ·simp only [Bool.not_false,cT,Au,Bool.true_or]
  exact Az fun v=>v1 v.1.1
theorem Tb2{n:Nat}{t:AS}(h:gA t)(hn:1048577<=n):BE (VT t) (ZK n t):=by
 rw [ZK]
 refine BE.bind (Ax2 h.1 hn) (fun v1=>?_) fun v1=>?_
 ·simp only [cT]
  obtain⟨b,e,hb⟩:=Ax2 (n:=n) h.2.1 hn
  rw [e,Au,Au]
  cases b with
  |false=>
   simp only [Bool.false_and,cF,Au]
   exact Az fun v=>by have:=hb.2 v.1.2;cases this
  |true=>
   have v2:=hb.1 rfl
   rw [aI v1.1.2 v2.1.2,AW (n:=n) h.2.2 hn]
   simp only [Bool.true_and,Au,CQ]
   refine BI ?_
   rw [Bool.and_eq_true,NR,beq_iff_eq]
   exact⟨fun⟨a,b⟩=>⟨⟨v1,v2⟩,by omega,b⟩,fun a=>⟨by have:=a.2.1;omega,a.2.2⟩⟩
 ·simp only [cF,Au,Bool.false_and]
  exact Az fun v=>v1 v.1.1
theorem VT.pos{t:AS}(h:VT t):0<t.Values.length∧t.Values.length<=16:=by
 have a:=h.1.1.1
 have b:=h.1.2.1
 rw [h.2.1]
 exact⟨Nat.mul_pos (by omega) (by omega),(Nat.mul_le_mul a.2 b.2:_<=4*4)⟩
def VP(t:AS):Prop:=∀j,j<t.Values.length->0<=gd t.Values j
theorem Bnd{n:Nat}{t:AS}(h:gA t)(hn:1048577<=n):(¬VT t∧∃s:AV,VG n t=some (s,1))∨(VT t∧∃s:AV,VG n t=some (s,0)∧(s.Early<0↔¬VP t)):=by
 obtain⟨b,e,hb⟩:=Tb1 (n:=n) h hn
 rw [VG,e,Au]
 cases b with
 |false=>exact .inl ⟨fun v=>(by have:=hb.2 v;cases this),_,rfl⟩
 |true=>
  have v:=hb.1 rfl
  have hp:=v.pos
  have g0:AE t.Values 0=some (gd t.Values 0):=gI (i:=0) (by omega)
  refine .inr ⟨v,?_⟩
  simp only [Bool.not_true,cF,g0,Au]
  refine loop (L:=fun m i (p:Int×Int)=>Hv t (fun i93 i97 i98=>(some ((AV.mk i97 i98),0))) m i p.1 p.2) t.Values.length (fun i p=>(p.1<0↔¬∀j,j<i->0<=gd t.Values j)) (fun o=>∃s:AV,o=some (s,0)∧(s.Early<0↔¬VP t)) ?_ ?_ n 1 (gd t.Values 0,gd t.Values 0) (by omega) (by omega) ?_
  ·intro m i ⟨a,c⟩ hi hI
   dsimp only at hI ⊢
   refine .inl ⟨(min a (gd t.Values i),max c (gd t.Values i)),?_,?_⟩
   ·dsimp only
    constructor
    ·intro hm hall
     by_cases ha:a<0
     ·exact hI.1 ha fun j hj=>hall j (by omega)
     ·have:=hall i (by omega);omega
    ·intro hna
     by_cases ha:a<0
     ·omega
     ·have hall:∀j,j<i->0<=gd t.Values j:=fun j hj=>by
       by_cases q:0<=gd t.Values j
       ·exact q
       ·exact absurd (hI.2 fun hh=>q (hh j hj)) ha
      by_cases q:0<=gd t.Values i
      ·exfalso;apply hna;intro j hj
       by_cases ej:j=i
       ·subst ej;exact q
       ·exact hall j (by omega)
      ·omega
   ·simp only [Hv.eq_2,Cx hi,cT,gI hi,Au,wT i]
  ·intro m ⟨a,c⟩ hI
   dsimp only at hI ⊢
   simp only [Hv.eq_2,DH,cF]
   exact⟨_,rfl,hI⟩
  ·dsimp only
   constructor
   ·intro h0 hall;have:=hall 0 (by omega);omega
   ·intro h0
    by_cases q:gd t.Values 0<0
    ·exact q
    ·exfalso;apply h0;intro j hj;obtain rfl:j=0:=by omega
     omega
theorem Mn{n:Nat}{l:List Int}(h0:0<l.length)(h:l.length<=1048576)(hn:1048577<=n):∃r,Wx n l=some r∧(r<0↔¬∀j,j<l.length->0<=gd l j):=by
 have g0:AE l 0=some (gd l 0):=gI (i:=0) (by omega)
 have d0:decide ((l.length:Int)<1)=false:=decide_eq_false (by omega)
 rw [Wx,d0,cF,g0,Au]
 refine loop (L:=fun m i (a:Int)=>IF l (fun i15 i16=>(some i15)) m a i) l.length (fun i a=>(a<0↔¬∀j,j<i->0<=gd l j)) (fun o=>∃r,o=some r∧(r<0↔¬∀j,j<l.length->0<=gd l j)) ?_ ?_ n 1 (gd l 0) (by omega) (by omega) ?_
 ·intro m i a hi hI
  refine .inl ⟨min a (gd l i),?_,?_⟩
  ·constructor
   ·intro hm hall
    by_cases ha:a<0
    ·exact hI.1 ha fun j hj=>hall j (by omega)
    ·have:=hall i (by omega);omega
   ·intro hna
    by_cases ha:a<0
    ·omega
    ·have hall:∀j,j<i->0<=gd l j:=fun j hj=>by
      by_cases q:0<=gd l j
      ·exact q
      ·exact absurd (hI.2 fun hh=>q (hh j hj)) ha
     by_cases q:0<=gd l i
     ·exfalso;apply hna;intro j hj
      by_cases ej:j=i
      ·subst ej;exact q
      ·exact hall j (by omega)
     ·omega
  ·simp only [IF.eq_2,Cx hi,cT,gI hi,Au,wT i]
 ·intro m a hI
  simp only [IF.eq_2,DH,cF]
  exact⟨_,rfl,hI⟩
 ·constructor
  ·intro h0 hall;have:=hall 0 (by omega);omega
  ·intro h0
   by_cases q:gd l 0<0
   ·exact q
   ·exfalso;apply h0;intro j hj;obtain rfl:j=0:=by omega
    omega
def TI(l:List AS)(pos:Bool):Prop:=l.length=2∧∀t∈l,VT t∧(pos=true->VP t)
theorem vZ{n:Nat}{l:List AS}{pos:Bool}(h:∀t∈l,gA t)(hn:1048577<=n):BE (TI l pos) (TX n l pos):=by
 rw [TX]
 refine FL (fun c=>?_) fun c=>?_
 ·refine Az fun v=>?_
  rw [v.1]at c;simp at c
 ·have c:l.length=2:=by rw [bne_eq_false_iff_eq]at c;omega
  refine(Ec (L:=fun m i=>LL n l pos _ m i) (Q:=True) 2 0 (fun i=>∀t,l[i]? =some t->VT t∧(pos=true->VP t)) ?_ ?_ n 0 (by omega) (by omega) (by omega) (fun j _ h=>by omega)).iff ?_
  ·intro m i _ hi
   have hil:i<l.length:=by omega
   have g:=List.getElem?_eq_getElem hil
   have d1:decide ((i:Int)<2)=true:=decide_eq_true (by omega)
   simp only [LL.eq_2,d1,cT,AU hil,Au,wT i,g]
   rcases Bnd (n:=n) (h _ (List.getElem_mem hil)) hn with ⟨v,s,e⟩|⟨v,s,e,hs⟩
   ·rw [e]
    exact .inr ⟨fun q=>v (q _ rfl).1,by trivial⟩
   ·rw [e]
    simp only [Au,bne_self_eq_false,Bool.false_or]
    by_cases hp:pos=true
    ·subst hp
     by_cases q:s.Early<0
     ·rw [decide_eq_true q]
      exact .inr ⟨fun r=>(hs.1 q) ((r _ rfl).2 rfl),by trivial⟩
     ·rw [decide_eq_false q]
      refine .inl ⟨fun t ht=>?_,by trivial⟩
      obtain rfl:=Option.some.inj ht
      exact⟨v,fun _=>Classical.byContradiction fun r=>q (hs.2 r)⟩
    ·have hp:pos=false:=by simpa using hp
     subst hp
     refine .inl ⟨fun t ht=>?_,by trivial⟩
     obtain rfl:=Option.some.inj ht
     exact⟨v,fun h=>by cases h⟩
  ·intro m i h1 h2 _
   obtain rfl:i=2:=by omega
   simp only [LL.eq_2,show decide (((2:Nat):Int)<2)=false from rfl,cF]
   exact Cc trivial
  ·constructor
   ·rintro ⟨a,_⟩
    refine⟨c,fun t ht=>?_⟩
    obtain⟨j,hj⟩:=List.getElem?_of_mem ht
    have hjl:j<l.length:=(List.getElem?_eq_some_iff.1 hj).1
    exact a j (by omega) (by omega) t hj
   ·rintro ⟨_,a⟩
    exact⟨fun i _ _ t ht=>a t (List.mem_of_getElem? ht),trivial⟩
theorem Ts2{n:Nat}{l:List AS}{pos:Bool}(h:∀t∈l,gA t)(hl:l.length<=1048576)(hn:1048577<=n):BE (TI l pos) (SO n l pos):=by
 rw [SO]
 have hf:∀t∈l,BE (¬(VT t∧(pos=true->VP t))) (Uk n t pos):=by
  intro t ht
  have hm:=h t ht
  rw [Uk]
  refine BE.bind (Tb2 hm hn) (fun v=>?_) fun v=>?_
  ·simp only [Bool.not_true,cF]
   by_cases hp:pos=true
   ·subst hp
    obtain⟨r,e,hr⟩:=Mn (n:=n) v.pos.1 hm.2.2 hn
    simp only [cT,e,Au]
    refine BI ?_
    rw [decide_eq_true_eq,hr]
    exact⟨fun a b=>a (b.2 trivial),fun a b=>a ⟨v,fun _=>b⟩⟩
   ·have hp:pos=false:=by simpa using hp
    subst hp
    exact Az fun a=>a ⟨v,fun h=>by cases h⟩
  ·simp only [Bool.not_false,cT,Au]
   exact Cc fun a=>v a.1
 obtain⟨r,e,hr,_⟩:=JV (xs:=l) (L:=fun m i=>Gf n l pos (fun i6=>(some (-1))) m i) (f:=fun t=>Uk n t pos) hf (fun m i hi=>by
  simp only [Gf.eq_2,Cx hi,cT,AU hi,Au,wT i]) (fun m=>by
  simp only [Gf.eq_2,DH,cF]) n (by omega)
 have e:Gf n l pos (fun i6=>(some (-1))) n 0=some r:=e
 rw [cR,cN,e]
 simp only [Au]
 by_cases c:l.length=2
 ·have:((l.length:Int)==2)=true:=by simp;omega
  rw [this]
  simp only [cT,Au]
  refine BI ?_
  rw [Bool.not_eq_true',decide_eq_false_iff_not,hr]
  exact⟨fun a=>⟨c,fun t ht=>Classical.byContradiction fun q=>a ⟨t,ht,q⟩⟩,fun a ⟨t,ht,q⟩=>q (a.2 t ht)⟩
 ·have:((l.length:Int)==2)=false:=by rw [beq_eq_false_iff_ne];omega
  rw [this]
  exact Az fun v=>c v.1
def RG(N i:Nat)(p:BD):Prop:=(0<=p.Cap∧p.Cap<=500)∧(i+1=N->p.Dir=2∧p.Cap=0∧p.Clock=false)∧(i+1<N->p.Dir=1)
structure Kb(l:List BD):Prop where
 few:2<=l.length∧l.length<=5
 pin:∀i (h:i<l.length),RG l.length i l[i]
 nm:∀k (h:k<l.length),EF l[k].Name=true∧∀i (hi:i<k),(l[i].Name.toList==l[k].Name.toList)=false
def cnt(l:List BD):Nat:=l.countP (·.Clock)
def SMP(l:List BD):Prop:=l.length<=1048576∧∀p∈l,p.Name.size<=1048576
theorem QW{l:List BD}{i:Nat}(h:i<l.length):cnt (l.take (i+1))=cnt (l.take i)+if l[i].Clock=true then 1 else 0:=by
 unfold cnt
 rw [List.take_succ_eq_append_getElem h,List.countP_append]
 congr 1
 by_cases e:l[i].Clock=true
 ·rw [if_pos e];simp [e]
 ·rw [if_neg e];simp [e]
theorem Pn1{n:Nat}{c:AX}(h:SMP c.Pins)(hn:1048577<=n):∃r:Int×Bool,oX n c=some r∧(r.2=true↔Kb c.Pins)∧(r.2=true->r.1=cnt c.Pins):=by
 rw [oX]
 by_cases hl:2<=c.Pins.length∧c.Pins.length<=5
 ·have d:(decide ((c.Pins.length:Int)<2)||decide ((c.Pins.length:Int)>5))=false:=by
   simp only [Bool.or_eq_false_iff,decide_eq_false_iff_not];omega
  rw [d,cF]
  have wl:wrap .i64 ((c.Pins.length:Int)-1)=(c.Pins.length:Int)-1:=Aa (by omega) (by omega)
  refine loop (L:=fun m i (q:Int)=>Jo n c (fun i23 i24=>(some (i23,true))) m q i) c.Pins.length (fun i q=>q=cnt (c.Pins.take i)∧∀k (h:k<c.Pins.length),k<i->RG c.Pins.length k c.Pins[k]∧EF c.Pins[k].Name=true∧∀j (hj:j<k),(c.Pins[j].Name.toList==c.Pins[k].Name.toList)=false)
   (fun o=>∃r:Int×Bool,o=some r∧(r.2=true↔Kb c.Pins)∧(r.2=true->r.1=cnt c.Pins)) ?_ ?_ n 0 0 (by omega) (by omega) ⟨by simp [cnt],fun k _ hk=>by omega⟩
  ·intro m i q hi ⟨hq,hI⟩
   have no:∀o:Option (Int×Bool),o=some (0,false)->¬Kb c.Pins->∃r:Int×Bool,o=some r∧(r.2=true↔Kb c.Pins)∧(r.2=true->r.1=cnt c.Pins):=fun o e hv=>⟨_,e,by simp [hv],fun h=>by cases h⟩
   have wi:decide ((i:Int)<(c.Pins.length:Int))=true:=Cx hi
   rw [Jo.eq_2]
   simp only [wi,cT,AU hi,Au]
   have inner:∀k2:Int->Option (Int×Bool),(∀j (hj:j<i),(c.Pins[j].Name.toList==c.Pins[i].Name.toList)=false)∧IP c i c.Pins[i] k2 n 0=k2 i∨(¬∀j (hj:j<i),(c.Pins[j].Name.toList==c.Pins[i].Name.toList)=false)∧IP c i c.Pins[i] k2 n 0=some (0,false):=by
    intro k2
    refine loop (L:=fun m j (_:Unit)=>IP c i c.Pins[i] k2 m j) i (fun b _=>∀j (hj:j<i),j<b->(c.Pins[j].Name.toList==c.Pins[i].Name.toList)=false) (fun o=>(∀j (hj:j<i),(c.Pins[j].Name.toList==c.Pins[i].Name.toList)=false)∧o=k2 i∨(¬∀j (hj:j<i),(c.Pins[j].Name.toList==c.Pins[i].Name.toList)=false)∧o=some (0,false)) ?_ ?_ n 0 () (by omega) (by omega) (fun j _ hj=>by omega)
    ·intro m j _ hj hJ
     simp only [IP.eq_2,Cx hj,cT,AU (show j<c.Pins.length by omega),Au,wT j]
     cases e:(c.Pins[j].Name.toList==c.Pins[i].Name.toList)with
     |true=>exact .inr (.inr ⟨fun h=>(by rw [h j hj]at e;cases e),by trivial⟩)
     |false=>
      refine .inl ⟨(),fun a ha hb=>?_,by trivial⟩
      by_cases ea:a=j
      ·subst ea;exact e
      ·exact hJ a ha (by omega)
    ·intro m _ hJ
     simp only [IP.eq_2,DH,cF]
     exact .inl ⟨fun j hj=>hJ j hj hj,by trivial⟩
   rcases inner _ with ⟨g1,g2⟩|⟨g1,g2⟩
   ·rw [g2]
    have hsz:=h.2 _ (List.getElem_mem hi)
    simp only [Nm2 hsz hn,Au,GV,EX,wl]
    cases hnm:EF c.Pins[i].Name with
    |false=>
     simp only [Bool.not_false,Bool.true_or,cT]
     exact .inr (no _ rfl fun v=>by have:=(v.nm i hi).1;rw [hnm]at this;cases this)
    |true=>
     simp only [Bool.not_true,Bool.false_or]
     by_cases c1:0<=c.Pins[i].Cap∧c.Pins[i].Cap<=500
     ·have d1:(decide (c.Pins[i].Cap>=0)&&decide (c.Pins[i].Cap<=500))=true:=by simp only [Bool.and_eq_true,decide_eq_true_eq];omega
      simp only [d1,Bool.not_true,cF]
      have pI:RG c.Pins.length i c.Pins[i]↔((((i:Int)==(c.Pins.length:Int)-1)&&((((c.Pins[i].Dir !=2))||((c.Pins[i].Cap !=0)))||c.Pins[i].Clock))||((decide ((i:Int)<(c.Pins.length:Int)-1))&&((c.Pins[i].Dir !=1))))=false:=by
       unfold RG
       by_cases e1:i+1=c.Pins.length
       ·have t1:((i:Int)==(c.Pins.length:Int)-1)=true:=by rw [beq_iff_eq];omega
        have t2:decide ((i:Int)<(c.Pins.length:Int)-1)=false:=decide_eq_false (by omega)
        simp only [t1,t2,Bool.true_and,Bool.false_and,Bool.or_false,Bool.or_eq_false_iff,bne_eq_false_iff_eq]
        exact⟨fun⟨_,a,_⟩=>⟨⟨(a e1).1,(a e1).2.1⟩,(a e1).2.2⟩,fun⟨⟨a,b⟩,d⟩=>⟨c1,fun _=>⟨a,b,d⟩,fun h=>by omega⟩⟩
       ·have t1:((i:Int)==(c.Pins.length:Int)-1)=false:=by rw [beq_eq_false_iff_ne];omega
        have t2:decide ((i:Int)<(c.Pins.length:Int)-1)=true:=decide_eq_true (by omega)
        simp only [t1,t2,Bool.true_and,Bool.false_and,Bool.false_or,bne_eq_false_iff_eq]
        exact⟨fun⟨_,_,a⟩=>a (by omega),fun a=>⟨c1,fun h=>absurd h e1,fun _=>a⟩⟩
      cases hc:((((i:Int)==(c.Pins.length:Int)-1)&&((((c.Pins[i].Dir !=2))||((c.Pins[i].Cap !=0)))||c.Pins[i].Clock))||((decide ((i:Int)<(c.Pins.length:Int)-1))&&((c.Pins[i].Dir !=1))))with
      |true=>
       rw [hc]at pI
       simp only [cT]
       exact .inr (no _ rfl fun v=>by have:=pI.1 (v.pin i hi);cases this)
      |false=>
       have hp:=pI.2 hc
       simp only [cF]
       have hI':∀k (h:k<c.Pins.length),k<i+1->RG c.Pins.length k c.Pins[k]∧EF c.Pins[k].Name=true∧∀j (hj:j<k),(c.Pins[j].Name.toList==c.Pins[k].Name.toList)=false:=fun k hk hki=>by
        by_cases ek:k=i
        ·subst ek;exact⟨hp,hnm,g1⟩
        ·exact hI k hk (by omega)
       have ct:=QW hi
       have cl:cnt (c.Pins.take i)<=5:=Nat.le_trans List.countP_le_length (by simp;omega)
       cases hk:c.Pins[i].Clock with
       |true=>
        rw [hk,if_pos rfl]at ct
        refine .inl ⟨q+1,⟨by rw [ct,hq];simp,hI'⟩,?_⟩
        simp only [cT,wT i,Aa (x:=q+1) (by omega) (by omega)]
       |false=>
        rw [hk]at ct
        refine .inl ⟨q,⟨by rw [ct,hq];simp,hI'⟩,?_⟩
        simp only [cF,wT i]
     ·have d1:(decide (c.Pins[i].Cap>=0)&&decide (c.Pins[i].Cap<=500))=false:=by
       rw [Bool.and_eq_false_iff,decide_eq_false_iff_not,decide_eq_false_iff_not];omega
      simp only [d1,Bool.not_false,cT]
      exact .inr (no _ rfl fun v=>c1 (v.pin i hi).1)
   ·rw [g2]
    exact .inr (no _ rfl fun v=>g1 (v.nm i hi).2)
  ·intro m q ⟨hq,hI⟩
   simp only [Jo.eq_2,DH,cF]
   rw [List.take_length]at hq
   exact⟨_,rfl,⟨fun _=>⟨hl,fun i h=>(hI i h h).1,fun k h=>(hI k h h).2⟩,fun _=>rfl⟩,fun _=>hq⟩
 ·have d:(decide ((c.Pins.length:Int)<2)||decide ((c.Pins.length:Int)>5))=true:=by
   rw [Bool.or_eq_true,decide_eq_true_eq,decide_eq_true_eq];omega
  rw [d,cT]
  exact⟨_,rfl,⟨fun h=>(by cases h),fun v=>absurd v.few hl⟩,fun h=>(by cases h)⟩
theorem Pn2{n:Nat}{l:List BD}(h:SMP l)(hn:1048577<=n):BE (Kb l) (YI n l):=by
 have hl:=h.1
 rw [YI]
 have wl:0<l.length->wrap .i64 ((l.length:Int)-1)=(l.length:Int)-1:=fun h0=>Aa (by omega) (by omega)
 refine loop (L:=fun m i (q:List ByteArray)=>Gj n l _ m q i) l.length (fun i q=>q=(l.take i).map (·.Name)∧∀k (h:k<l.length),k<i->RG l.length k l[k]) _ ?_ ?_ n 0 [] (by omega) (by omega) ⟨by simp,fun k _ hk=>by omega⟩
 ·intro m i q hi ⟨hq,hI⟩
  have hql:q.length<=1048576:=by rw [hq];simp;omega
  have ha:=CR (xs:=q) (ys:=[l[i].Name]) (b:=16) (by simp;omega) (by omega)
  have hq':q++[l[i].Name]=(l.take (i+1)).map (·.Name):=by rw [hq,List.take_succ_eq_append_getElem hi,List.map_append];rfl
  simp only [Gj.eq_2,Cx hi,cT,AU hi,Au,ha,wl (by omega),Ij,wT i]
  have stepI:RG l.length i l[i]->∀k (h:k<l.length),k<i+1->RG l.length k l[k]:=fun hp k hk hki=>by
   by_cases ek:k=i
   ·subst ek;exact hp
   ·exact hI k hk (by omega)
  by_cases e1:i+1=l.length
  ·have t1:((i:Int)==(l.length:Int)-1)=true:=by rw [beq_iff_eq];omega
   simp only [t1,cT]
   cases hc:((((l[i].Dir !=2))||((l[i].Cap !=0)))||l[i].Clock)with
   |true=>
    refine .inr (Az fun v=>?_)
    have:=(v.pin i hi).2.1 e1
    rw [this.1,this.2.1,this.2.2]at hc;cases hc
   |false=>
    simp only [Bool.or_eq_false_iff,bne_eq_false_iff_eq]at hc
    exact .inl ⟨_,⟨hq',stepI ⟨by omega,fun _=>⟨hc.1.1,hc.1.2,hc.2⟩,fun h=>by omega⟩⟩,by trivial⟩
  ·have t1:((i:Int)==(l.length:Int)-1)=false:=by rw [beq_eq_false_iff_ne];omega
   simp only [t1,cF,EX,Au]
   by_cases c1:l[i].Dir=1∧0<=l[i].Cap∧l[i].Cap<=500
   ·have d1:((l[i].Dir !=1)|| !(decide (l[i].Cap>=0)&&decide (l[i].Cap<=500)))=false:=by
     simp only [Bool.or_eq_false_iff,bne_eq_false_iff_eq,Bool.not_eq_false',Bool.and_eq_true,decide_eq_true_eq];omega
    simp only [d1,cF]
    exact .inl ⟨_,⟨hq',stepI ⟨by omega,fun h=>absurd h e1,fun _=>c1.1⟩⟩,by trivial⟩
   ·have d1:((l[i].Dir !=1)|| !(decide (l[i].Cap>=0)&&decide (l[i].Cap<=500)))=true:=by
     simp only [Bool.or_eq_true,bne_iff_ne,Bool.not_eq_true',Bool.and_eq_false_iff,decide_eq_false_iff_not];omega
    simp only [d1,cT]
    exact .inr (Az fun v=>c1 ⟨(v.pin i hi).2.2 (by omega),(v.pin i hi).1⟩)
 ·intro m q ⟨hq,hI⟩
  rw [List.take_length]at hq
  obtain⟨b,e,hb⟩:=AN (n:=n) (xs:=q) (by rw [hq];simpa using hl) (by rw [hq];intro x hx;obtain⟨p,hp,rfl⟩:=List.mem_map.1 hx;exact h.2 p hp) hn
  simp only [Gj.eq_2,DH,cF,Sn,Ij,e,Au,CQ]
  refine BI ?_
  rw [Bool.and_eq_true,hb,Bool.and_eq_true,decide_eq_true_eq,decide_eq_true_eq]
  subst hq
  simp only [List.length_map,List.getElem_map]
  exact⟨fun⟨a,b⟩=>⟨by omega,fun i hi=>hI i hi hi,b⟩,fun v=>⟨by have:=v.few;omega,v.nm⟩⟩
def HZ(l:List BD)(i:Int):Bool:=((l[i.toNat]?).map (·.Clock)).getD false
theorem nP{l:List BD}{i:Int}(h0:0<=i)(h1:i<l.length):∃x,AE l i=some x∧x.Clock=HZ l i:=by
 obtain⟨x,e,h⟩:=DC h0 h1
 exact⟨x,e,by simp [HZ,h]⟩
theorem Sb{l:List BD}{j:Nat}(h:j<l.length):HZ l (j:Int)=l[j].Clock:=by simp [HZ,h]
theorem TJ{l:List BD}(hc:cnt l<=1){i j:Nat}(hi:i<l.length)(hj:j<l.length)(h1:l[i].Clock=true)(h2:l[j].Clock=true):i=j:=by
 have key:∀i j:Nat,∀(hi:i<l.length) (hj:j<l.length),l[i].Clock=true->l[j].Clock=true->¬i<j:=by
  intro i j hi hj h1 h2 hlt
  have e:cnt l=cnt (l.take (i+1))+cnt (l.drop (i+1)):=by unfold cnt;rw [←List.countP_append,List.take_append_drop]
  have p1:0<cnt (l.take (i+1)):=List.countP_pos_iff.2 ⟨l[i],by rw [List.mem_take_iff_getElem];exact⟨i,by omega,rfl⟩,h1⟩
  have p2:0<cnt (l.drop (i+1)):=List.countP_pos_iff.2 ⟨l[j],by rw [List.mem_drop_iff_getElem];exact⟨j-(i+1),by omega,by congr 1;omega⟩,h2⟩
  omega
 have a:=key i j hi hj h1 h2
 have b:=key j i hj hi h2 h1
 omega
theorem Ck{n:Nat}{c:AX}(h:c.Pins.length<=1048576)(hn:1048577<=n):∃r,Si n c=some r∧(r>=0↔∃x∈c.Pins,x.Clock=true)∧(r= -1∨∃j:Nat,r=(j:Int)∧∃h:j<c.Pins.length,c.Pins[j].Clock=true∧∀i (hi:i<c.Pins.length),i<j->¬c.Pins[i].Clock=true):=by
 obtain⟨r,e,hr⟩:=JV (xs:=c.Pins) (L:=fun m i=>Gp n c.Pins (fun i5=>(some (-1))) m i) (f:=fun p=>Vp n p) (P:=fun p=>p.Clock=true) (fun p _=>by rw [Vp];exact BI Iff.rfl) (fun m i hi=>by
  simp only [Gp.eq_2,Cx hi,cT,AU hi,Au,wT i]) (fun m=>by
  simp only [Gp.eq_2,DH,cF]) n (by omega)
 have e:Gp n c.Pins (fun i5=>(some (-1))) n 0=some r:=e
 exact⟨r,by rw [Si,dB,e];rfl,hr⟩
def xH(a:Ah):Prop:=(a.Delay.length<=1048576∧∀t∈a.Delay,gA t)∧(a.Slew.length<=1048576∧∀t∈a.Slew,gA t)
structure oF(c:AX):Prop where
 name:c.Name.size<=1048576
 pins:SMP c.Pins
 arcs:c.Arcs.length<=1048576∧∀a∈c.Arcs,xH a
 truth:c.Truth.length<=1048576
theorem Eo.c{c:AX}(h:Eo c):oF c:=
 ⟨h.1,⟨h.2.2.1.1,fun p hp=>(h.2.2.1.2 p hp).1⟩,⟨h.2.2.2.1.1,fun a ha=>⟨⟨(h.2.2.2.1.2 a ha).2.2.2.2.1.1,fun t ht=>DT.t (t:=t) ((h.2.2.2.1.2 a ha).2.2.2.2.1.2 t ht)⟩,⟨(h.2.2.2.1.2 a ha).2.2.2.2.2.1,fun t ht=>DT.t (t:=t) ((h.2.2.2.1.2 a ha).2.2.2.2.2.2 t ht)⟩⟩⟩,h.2.2.2.2.1.1⟩
def MA(c:AX)(a:Ah):Prop:=((0<=a.From∧a.From+2<=c.Pins.length)∧(0<=a.To∧a.To+1<=c.Pins.length))∧
 if a.Kind=1 then HZ c.Pins a.From=false∧a.To+1=c.Pins.length∧(1<=a.Sense∧a.Sense<=3)∧TI a.Delay true∧TI a.Slew true
 else if a.Kind=2∨a.Kind=3 then HZ c.Pins a.From=true∧a.To+1=c.Pins.length∧a.Sense=0∧TI a.Delay true∧TI a.Slew true
 else if a.Kind=4∨a.Kind=5 then HZ c.Pins a.From=true∧a.To+1<c.Pins.length∧HZ c.Pins a.To=false∧a.Sense=0∧TI a.Delay false∧a.Slew.length=0
 else False
def UP(c:AX)(a:Ah)(r:Int):Prop:=
 if a.Kind=4∨a.Kind=5 then a.Sense=0∧a.Slew.length=0∧TI a.Delay false∧a.From=r∧0<=a.From∧(0<=a.To∧a.To+2<=c.Pins.length)∧a.To≠a.From
 else TI a.Delay true∧TI a.Slew true∧a.To+1=c.Pins.length∧(0<=a.From∧a.From+2<=c.Pins.length)∧
  if a.Kind=1 then HZ c.Pins a.From=false∧1<=a.Sense∧a.Sense<=3 else if a.Kind=2∨a.Kind=3 then HZ c.Pins a.From=true∧a.Sense=0 else False
theorem fG(k:Int):k=1∨k=2∨k=3∨k=4∨k=5∨(k≠1∧k≠2∧k≠3∧k≠4∧k≠5):=by omega
theorem OJ{x lo hi:Int}:(decide (x>=lo)&&decide (x<=hi))=true↔lo<=x∧x<=hi:=by simp only [Bool.and_eq_true,decide_eq_true_eq,ge_iff_le]
theorem AbB{n:Nat}{c:AX}{a:Ah}(hp:c.Pins.length<=5)(h2:2<=c.Pins.length)(h:xH a)(hn:1048577<=n):BE (MA c a) (Vx n c a):=by
 have w1:wrap .i64 ((c.Pins.length:Int)-1)=(c.Pins.length:Int)-1:=Aa (by omega) (by omega)
 have w2:wrap .i64 ((c.Pins.length:Int)-1-1)=(c.Pins.length:Int)-1-1:=Aa (by omega) (by omega)
 obtain⟨t1,e1,h1⟩:=vZ (n:=n) (pos:=true) h.1.2 hn
 obtain⟨t2,e2,h2'⟩:=vZ (n:=n) (pos:=true) h.2.2 hn
 obtain⟨t3,e3,h3⟩:=vZ (n:=n) (pos:=false) h.1.2 hn
 rw [Vx]
 simp only [GV,Au,w1,w2,EX]
 by_cases c1:(0<=a.From∧a.From+2<=c.Pins.length)∧(0<=a.To∧a.To+1<=c.Pins.length)
 ·have d1:(decide (a.From>=0)&&decide (a.From<=(c.Pins.length:Int)-1-1))=true:=OJ.2 (by omega)
  have d2:(decide (a.To>=0)&&decide (a.To<=(c.Pins.length:Int)-1))=true:=OJ.2 (by omega)
  obtain⟨x,ex,hx⟩:=nP (l:=c.Pins) c1.1.1 (by omega)
  obtain⟨y,ey,hy⟩:=nP (l:=c.Pins) c1.2.1 (by omega)
  simp only [d1,d2,Bool.not_true,Bool.or_self,cF,ex,ey,Au,hx,hy,e1,e2,e3,CQ]
  have to1:(a.To==(c.Pins.length:Int)-1)=true↔a.To+1=c.Pins.length:=by rw [beq_iff_eq];omega
  have to2:decide (a.To<(c.Pins.length:Int)-1)=true↔a.To+1<c.Pins.length:=by rw [decide_eq_true_eq];omega
  have sl:((a.Slew.length:Int)==0)=true↔a.Slew.length=0:=by rw [beq_iff_eq];omega
  have nb:∀b:Bool,(!b)=true↔b=false:=by simp
  rcases fG a.Kind with k|k|k|k|k|k
  ·have:MA c a↔_:=Iff.rfl
   simp only [k,show((1:Int)==1)=true from rfl,cT]
   refine BI ?_
   unfold MA
   simp only [k,if_true,Bool.and_eq_true,nb,to1,OJ,h1,h2']
   exact⟨fun⟨⟨⟨⟨p,q⟩,s⟩,u⟩,v⟩=>⟨c1,p,q,by simpa using s,u,v⟩,fun⟨_,p,q,s,u,v⟩=>⟨⟨⟨⟨p,q⟩,by simpa using s⟩,u⟩,v⟩⟩
  ·simp only [k,show((2:Int)==1)=false from rfl,show((2:Int)==2)=true from rfl,cT,cF]
   refine BI ?_
   unfold MA
   simp only [k,show¬((2:Int)=1) by omega,if_false,true_or,if_true,Bool.and_eq_true,beq_iff_eq,to1,h1,h2']
   exact⟨fun⟨⟨⟨⟨p,q⟩,s⟩,u⟩,v⟩=>⟨c1,p,by omega,s,u,v⟩,fun⟨_,p,q,s,u,v⟩=>⟨⟨⟨⟨p,by omega⟩,s⟩,u⟩,v⟩⟩
  ·simp only [k,show((3:Int)==1)=false from rfl,show((3:Int)==2)=false from rfl,show((3:Int)==3)=true from rfl,cT,cF]
   refine BI ?_
   unfold MA
   simp only [k,show¬((3:Int)=1) by omega,if_false,or_true,if_true,Bool.and_eq_true,beq_iff_eq,to1,h1,h2']
   exact⟨fun⟨⟨⟨⟨p,q⟩,s⟩,u⟩,v⟩=>⟨c1,p,by omega,s,u,v⟩,fun⟨_,p,q,s,u,v⟩=>⟨⟨⟨⟨p,by omega⟩,s⟩,u⟩,v⟩⟩
  ·simp only [k,show((4:Int)==1)=false from rfl,show((4:Int)==2)=false from rfl,show((4:Int)==3)=false from rfl,show((4:Int)==4)=true from rfl,cT,cF]
   refine BI ?_
   unfold MA
   simp only [k,show¬((4:Int)=1) by omega,show¬((4:Int)=2∨(4:Int)=3) by omega,if_false,true_or,if_true,Bool.and_eq_true,beq_iff_eq,nb,to2,sl,h3,true_and]
   exact⟨fun⟨⟨⟨⟨⟨p,q⟩,z⟩,s⟩,u⟩,v⟩=>⟨c1,p,q,z,s,u,by omega⟩,fun⟨_,p,q,z,s,u,v⟩=>⟨⟨⟨⟨⟨p,q⟩,z⟩,s⟩,u⟩,by omega⟩⟩
  ·simp only [k,show((5:Int)==1)=false from rfl,show((5:Int)==2)=false from rfl,show((5:Int)==3)=false from rfl,show((5:Int)==4)=false from rfl,show((5:Int)==5)=true from rfl,cT,cF]
   refine BI ?_
   unfold MA
   simp only [k,show¬((5:Int)=1) by omega,show¬((5:Int)=2∨(5:Int)=3) by omega,if_false,or_true,if_true,Bool.and_eq_true,beq_iff_eq,nb,to2,sl,h3,true_and]
   exact⟨fun⟨⟨⟨⟨⟨p,q⟩,z⟩,s⟩,u⟩,v⟩=>⟨c1,p,q,z,s,u,by omega⟩,fun⟨_,p,q,z,s,u,v⟩=>⟨⟨⟨⟨⟨p,q⟩,z⟩,s⟩,u⟩,by omega⟩⟩
  ·obtain⟨k1,k2,k3,k4,k5⟩:=k
   simp only [beq_eq_false_iff_ne.2 k1,beq_eq_false_iff_ne.2 k2,beq_eq_false_iff_ne.2 k3,beq_eq_false_iff_ne.2 k4,beq_eq_false_iff_ne.2 k5,cF]
   refine Az fun v=>?_
   have:=v.2
   rw [if_neg k1,if_neg (by omega),if_neg (by omega)]at this
   exact this
 ·have d1:(!(decide (a.From>=0)&&decide (a.From<=(c.Pins.length:Int)-1-1))|| !(decide (a.To>=0)&&decide (a.To<=(c.Pins.length:Int)-1)))=true:=by
   rw [Bool.or_eq_true,Bool.not_eq_true',Bool.not_eq_true',Bool.and_eq_false_iff,Bool.and_eq_false_iff,decide_eq_false_iff_not,decide_eq_false_iff_not,decide_eq_false_iff_not,decide_eq_false_iff_not]
   omega
  simp only [d1,cT]
  exact Az fun v=>c1 v.1
theorem xF{n:Nat}{c:AX}{a:Ah}{r:Int}(hp:c.Pins.length<=5)(h2:2<=c.Pins.length)(h:xH a)(hr:Si n c=some r)(hn:1048577<=n):BE (UP c a r) (YU n c a):=by
 have w1:wrap .i64 ((c.Pins.length:Int)-1)=(c.Pins.length:Int)-1:=Aa (by omega) (by omega)
 have w2:wrap .i64 ((c.Pins.length:Int)-1-1)=(c.Pins.length:Int)-1-1:=Aa (by omega) (by omega)
 obtain⟨t1,e1,h1⟩:=Ts2 (n:=n) (pos:=true) h.1.2 h.1.1 hn
 obtain⟨t2,e2,h2'⟩:=Ts2 (n:=n) (pos:=true) h.2.2 h.2.1 hn
 obtain⟨t3,e3,h3⟩:=Ts2 (n:=n) (pos:=false) h.1.2 h.1.1 hn
 rw [YU]
 simp only [PI,YD,Ps,Sn,Ij,Au,w1,w2,e1,e2,e3,hr,CQ,EX]
 unfold UP
 by_cases k:a.Kind=4∨a.Kind=5
 ·have kb:((a.Kind==4)||(a.Kind==5))=true:=by rw [Bool.or_eq_true,beq_iff_eq,beq_iff_eq];exact k
  simp only [kb,cT,if_pos k]
  refine BI ?_
  simp only [Bool.and_eq_true,beq_iff_eq,bne_iff_ne,decide_eq_true_eq,h3]
  exact⟨fun⟨⟨⟨⟨⟨⟨p,q⟩,s⟩,t⟩,u⟩,v⟩,x⟩=>⟨p,by omega,s,t,by omega,by omega,x⟩,fun⟨p,q,s,t,u,v,x⟩=>⟨⟨⟨⟨⟨⟨p,by omega⟩,s⟩,t⟩,by omega⟩,by omega⟩,x⟩⟩
 ·have kb:((a.Kind==4)||(a.Kind==5))=false:=by rw [Bool.or_eq_false_iff,beq_eq_false_iff_ne,beq_eq_false_iff_ne];omega
  simp only [kb,cF,if_neg k]
  by_cases g:(TI a.Delay true∧TI a.Slew true)∧a.To+1=c.Pins.length∧(0<=a.From∧a.From+2<=c.Pins.length)
  ·have gb:(((!t1|| !t2)||(a.To !=(c.Pins.length:Int)-1))|| !(decide (a.From>=0)&&decide (a.From<=(c.Pins.length:Int)-1-1)))=false:=by
    rw [h1.2 g.1.1,h2'.2 g.1.2]
    simp only [Bool.not_true,Bool.or_self,Bool.false_or,Bool.or_eq_false_iff,bne_eq_false_iff_eq,Bool.not_eq_false',OJ];omega
   obtain⟨x,ex,hx⟩:=nP (l:=c.Pins) g.2.2.1 (by omega)
   simp only [gb,cF,ex,Au,hx]
   have nb:∀b:Bool,(!b)=true↔b=false:=by simp
   have red:∀R:Prop,(TI a.Delay true∧TI a.Slew true∧a.To+1=c.Pins.length∧(0<=a.From∧a.From+2<=c.Pins.length)∧R)↔R:=fun R=>⟨fun q=>q.2.2.2.2,fun q=>⟨g.1.1,g.1.2,g.2.1,g.2.2,q⟩⟩
   rw [red]
   by_cases k1:a.Kind=1
   ·simp only [k1,show((1:Int)==1)=true from rfl,cT,if_true]
    refine BI ?_
    simp only [Bool.and_eq_true,nb,decide_eq_true_eq]
   ·simp only [beq_eq_false_iff_ne.2 k1,cF,if_neg k1]
    by_cases k2:a.Kind=2
    ·simp only [k2,show((2:Int)==2)=true from rfl,cT,true_or,if_true]
     refine BI ?_
     simp only [Bool.and_eq_true,beq_iff_eq]
    ·simp only [beq_eq_false_iff_ne.2 k2,cF]
     by_cases k3:a.Kind=3
     ·simp only [k3,show((3:Int)==3)=true from rfl,cT,or_true,if_true]
      refine BI ?_
      simp only [Bool.and_eq_true,beq_iff_eq]
     ·simp only [beq_eq_false_iff_ne.2 k3,cF]
      rw [if_neg (by omega)]
      exact Az fun v=>v
  ·have gb:(((!t1|| !t2)||(a.To !=(c.Pins.length:Int)-1))|| !(decide (a.From>=0)&&decide (a.From<=(c.Pins.length:Int)-1-1)))=true:=by
    cases hq:(((!t1|| !t2)||(a.To !=(c.Pins.length:Int)-1))|| !(decide (a.From>=0)&&decide (a.From<=(c.Pins.length:Int)-1-1)))with
    |true=>rfl
    |false=>
     exfalso;apply g
     simp only [Bool.or_eq_false_iff,Bool.not_eq_false',bne_eq_false_iff_eq,OJ]at hq
     exact⟨⟨h1.1 hq.1.1.1,h2'.1 hq.1.1.2⟩,by omega,by omega⟩
   simp only [gb,cT]
   exact Az fun v=>g ⟨⟨v.1,v.2.1⟩,v.2.2.1,v.2.2.2.1⟩
theorem Tv{c:AX}{a:Ah}{r:Int}(hv:Kb c.Pins)(hc:cnt c.Pins<=1)(hr:r= -1∨∃j:Nat,r=(j:Int)∧∃h:j<c.Pins.length,c.Pins[j].Clock=true∧∀i (hi:i<c.Pins.length),i<j->¬c.Pins[i].Clock=true)(hr0:r>=0↔∃x∈c.Pins,x.Clock=true):MA c a↔UP c a r:=by
 have few:=hv.few
 unfold MA UP
 by_cases k:a.Kind=4∨a.Kind=5
 ·rw [if_neg (by omega),if_neg (by omega),if_pos k,if_pos k]
  constructor
  ·rintro ⟨⟨⟨a1,a2⟩,a3,a4⟩,b1,b2,b3,b4,b5,b6⟩
   obtain⟨f,hf⟩:=Int.eq_ofNat_of_zero_le a1
   have hf:a.From=(f:Int):=hf
   have hfl:f<c.Pins.length:=by omega
   have cf:c.Pins[f].Clock=true:=by rw [hf,Sb hfl]at b1;exact b1
   have hge:r>=0:=hr0.2 ⟨_,List.getElem_mem hfl,cf⟩
   rcases hr with hr|⟨j,rfl,hj,hj1,_⟩
   ·omega
   ·have:=TJ hc hfl hj cf hj1
    subst this
    refine⟨b4,b6,b5,hf,a1,by omega,fun e=>?_⟩
    rw [e,b1]at b3;cases b3
  ·rintro ⟨b1,b2,b3,b4,b5,⟨b6,b7⟩,b8⟩
   rcases hr with hr|⟨j,hj0,hj,hj1,_⟩
   ·omega
   ·have cf:HZ c.Pins a.From=true:=by rw [b4,hj0,Sb hj];exact hj1
    have hjl:j+1<c.Pins.length:=by
     by_cases q:j+1<c.Pins.length
     ·exact q
     ·have:=(hv.pin j hj).2.1 (by omega)
      rw [this.2.2]at hj1;cases hj1
    obtain⟨t,ht⟩:=Int.eq_ofNat_of_zero_le b6
    have ht:a.To=(t:Int):=ht
    have htl:t<c.Pins.length:=by omega
    refine⟨⟨⟨by omega,by omega⟩,by omega,by omega⟩,cf,by omega,?_,b1,b3,b2⟩
    rw [ht,Sb htl]
    cases hq:c.Pins[t].Clock with
    |false=>rfl
    |true=>have:=TJ hc htl hj hq hj1;omega
 ·rw [if_neg k,if_neg k]
  by_cases k1:a.Kind=1
  ·rw [if_pos k1,if_pos k1]
   exact⟨fun⟨p,q,s,t,u,v⟩=>⟨u,v,s,p.1,q,t⟩,fun⟨u,v,s,p,q,t⟩=>⟨⟨p,by omega,by omega⟩,q,s,t,u,v⟩⟩
  ·rw [if_neg k1,if_neg k1]
   by_cases k2:a.Kind=2∨a.Kind=3
   ·rw [if_pos k2,if_pos k2]
    exact⟨fun⟨p,q,s,t,u,v⟩=>⟨u,v,s,p.1,q,t⟩,fun⟨u,v,s,p,q,t⟩=>⟨⟨p,by omega,by omega⟩,q,s,t,u,v⟩⟩
   ·rw [if_neg k2,if_neg k2]
    exact⟨fun h=>h.2.elim,fun h=>h.2.2.2.2.elim⟩
def HT(a b:Ah):Prop:=(a.Kind=b.Kind∧a.From=b.From)∧a.To=b.To
def EM(l:List Ah)(k:Int):Prop:=∃a∈l,a.Kind=k
def GC(c:AX):Prop:=
 (c.Kind=1∧cnt c.Pins=0∧c.Truth.length=2^(c.Pins.length-1)∧∀i,i<c.Truth.length->0<=gd c.Truth i∧gd c.Truth i<=1)∨
 (c.Kind=2∧cnt c.Pins=1∧c.Truth.length=0∧¬EM c.Arcs 1∧¬(EM c.Arcs 2↔EM c.Arcs 3))∨
 (c.Kind=3∧cnt c.Pins=1∧c.Truth.length=0∧EM c.Arcs 1∧EM c.Arcs 2∧¬EM c.Arcs 3)
def Yj(A:Ah->Prop)(l:List Ah):Prop:=∀i (h:i<l.length),A l[i]∧∀j (hj:j<i),¬HT l[j] l[i]
structure Mb(c:AX):Prop where
 name:EF c.Name=true
 pins:Kb c.Pins
 few:c.Arcs.length<=8
 leak:0<=c.Leak∧c.Leak<=100000
 energy:0<=c.Energy∧c.Energy<=100000
 arcs:Yj (MA c) c.Arcs
 kind:GC c
theorem GC.cnt{c:AX}(h:GC c):cnt c.Pins<=1:=by
 rcases h with h|h|h<;>omega
theorem Kd{n:Nat}{c:AX}(hl:c.Arcs.length<=1048576)(hk:∀a∈c.Arcs,0<=a.Kind∧a.Kind<6)(hn:1048577<=n):∃l,Zk n c=some l∧l.length=6∧∀k:Nat,k<6->0<=gd l k∧(gd l k>0↔EM c.Arcs k):=by
 have m6:MY 6 8=some 6:=Ds (n:=6) (by omega) (by omega)
 rw [Zk,m6,Au]
 refine loop (L:=fun m i (l:List Int)=>IK c (fun i31 l33=>(some l33)) m i l) c.Arcs.length (fun i l=>l.length=6∧∀k:Nat,k<6->(0<=gd l k∧gd l k<=i)∧(gd l k>0↔EM (c.Arcs.take i) k)) (fun o=>∃l,o=some l∧l.length=6∧∀k:Nat,k<6->0<=gd l k∧(gd l k>0↔EM c.Arcs k)) ?_ ?_ n 0 (List.replicate 6 0) (by omega) (by omega) ⟨by simp,fun k hk=>?_⟩
 ·intro m i l hi ⟨hll,hI⟩
  have hx:=hk _ (List.getElem_mem hi)
  obtain⟨q,hq⟩:=Int.eq_ofNat_of_zero_le hx.1
  have hq:c.Arcs[i].Kind=(q:Int):=hq
  have hq6:q<6:=by omega
  have hg:AE l c.Arcs[i].Kind=some (gd l q):=by rw [hq];exact gI (by omega)
  have hb:=(hI q hq6).1
  refine .inl ⟨l.set q (gd l q+1),⟨by simpa using hll,fun k hk6=>?_⟩,?_⟩
  ·have h1:=hI k hk6
   rw [SA (by omega)]
   have hs:EM (c.Arcs.take (i+1)) k↔EM (c.Arcs.take i) k∨c.Arcs[i].Kind=(k:Int):=by
    rw [List.take_succ_eq_append_getElem hi]
    unfold EM
    constructor
    ·rintro ⟨a,ha,e⟩
     rcases List.mem_append.1 ha with ha|ha
     ·exact .inl ⟨a,ha,e⟩
     ·obtain rfl:=List.mem_singleton.1 ha;exact .inr e
    ·rintro (⟨a,ha,e⟩|e)
     ·exact⟨a,List.mem_append.2 (.inl ha),e⟩
     ·exact⟨_,List.mem_append.2 (.inr (List.mem_singleton.2 rfl)),e⟩
   rw [hs]
   by_cases e:q=k
   ·subst e
    rw [if_pos rfl]
    exact⟨⟨by omega,by omega⟩,⟨fun _=>.inr hq,fun _=>by omega⟩⟩
   ·rw [if_neg e]
    refine⟨⟨by omega,by omega⟩,h1.2.trans ⟨.inl,fun h=>h.resolve_right fun h=>e (by omega)⟩⟩
  ·simp only [IK.eq_2,Cx hi,cT,AU hi,Au,hg,wT i,Aa (x:=gd l q+1) (by omega) (by omega)]
   rw [hq,Int.toNat_natCast]
 ·intro m l ⟨hll,hI⟩
  simp only [IK.eq_2,DH,cF]
  refine⟨l,rfl,hll,fun k hk6=>?_⟩
  have:=hI k hk6
  rw [List.take_length]at this
  exact⟨this.1.1,this.2⟩
 ·have:gd (List.replicate 6 0) k=0:=by simp only [gd,List.getD_eq_getElem?_getD,List.getElem?_replicate];split<;>rfl
  rw [this]
  refine⟨by omega,⟨fun h=>by omega,fun⟨a,ha,_⟩=>by simp at ha⟩⟩
theorem Hs{n:Nat}{c:AX}(hl:c.Arcs.length<=1048576)(k:Int)(hn:1048577<=n):BE (EM c.Arcs k) (RE n c k):=by
 obtain⟨r,e,hr,_⟩:=JV (xs:=c.Arcs) (L:=fun m i=>Gv n c.Arcs k (fun i6=>(some (-1))) m i) (f:=fun a=>XO n a k) (P:=fun a=>a.Kind=k) (fun p _=>by rw [XO];exact BI beq_iff_eq) (fun m i hi=>by
  simp only [Gv.eq_2,Cx hi,cT,AU hi,Au,wT i]) (fun m=>by
  simp only [Gv.eq_2,DH,cF]) n (by omega)
 have e:Gv n c.Arcs k (fun i6=>(some (-1))) n 0=some r:=e
 rw [RE,eC,eH,e]
 exact BI (by rw [decide_eq_true_eq];exact hr)
theorem Yw{L:Nat}(h1:2<=L)(h2:L<=5):SN .i64 1 ((L:Int)-1)=((2^(L-1):Nat):Int)∧SN .i64 1 (IntKind.wrap IntKind.u64 ((L:Int)-1))=((2^(L-1):Nat):Int)∧decide (IntKind.wrap IntKind.u64 ((L:Int)-1)<0)=false:=by
 have:L=2∨L=3∨L=4∨L=5:=by omega
 rcases this with rfl|rfl|rfl|rfl<;>decide
theorem Tr1{n:Nat}{c:AX}{o:Option Bool}{Q:Prop}(h:c.Truth.length<=1048576)(hn:1048577<=n)(hQ:BE Q o):BE ((∀i,i<c.Truth.length->0<=gd c.Truth i∧gd c.Truth i<=1)∧Q) (JU n c (fun _=>o) n 0):=by
 refine(Ec (L:=fun m i=>JU n c (fun _=>o) m i) (Q:=Q) c.Truth.length 0 (fun i=>0<=gd c.Truth i∧gd c.Truth i<=1) ?_ ?_ n 0 (by omega) (by omega) (by omega) (fun j _ h=>by omega)).iff ⟨fun a=>⟨fun i hi=>a.1 i (by omega) hi,a.2⟩,fun a=>⟨fun i _ hi=>a.1 i hi,a.2⟩⟩
 ·intro m i _ hi
  simp only [JU.eq_2,Cx hi,cT,gI hi,Au,GV,wT i]
  by_cases c1:0<=gd c.Truth i∧gd c.Truth i<=1
  ·have d1:(decide (gd c.Truth i>=0)&&decide (gd c.Truth i<=1))=true:=OJ.2 c1
   simp only [d1,Bool.not_true,cF]
   exact .inl ⟨c1,by trivial⟩
  ·have d1:(decide (gd c.Truth i>=0)&&decide (gd c.Truth i<=1))=false:=by
    rw [Bool.and_eq_false_iff,decide_eq_false_iff_not,decide_eq_false_iff_not];omega
   simp only [d1,Bool.not_false,cT]
   exact .inr ⟨c1,by trivial⟩
 ·intro m i h1 h2 _
  obtain rfl:i=c.Truth.length:=by omega
  simp only [JU.eq_2,DH,cF]
  exact hQ
theorem In2{n:Nat}{c:AX}{i:Nat}(hi:i<c.Arcs.length)(hl:c.Arcs.length<=1048576)(hn:1048577<=n)(k2:Int->Option Bool):(∀j (hj:j<i),¬HT c.Arcs[j] c.Arcs[i])∧IV c i c.Arcs[i] k2 n 0=k2 i∨(¬∀j (hj:j<i),¬HT c.Arcs[j] c.Arcs[i])∧IV c i c.Arcs[i] k2 n 0=some false:=by
 refine loop (L:=fun m j (_:Unit)=>IV c i c.Arcs[i] k2 m j) i (fun b _=>∀j (hj:j<i),j<b->¬HT c.Arcs[j] c.Arcs[i]) (fun o=>(∀j (hj:j<i),¬HT c.Arcs[j] c.Arcs[i])∧o=k2 i∨(¬∀j (hj:j<i),¬HT c.Arcs[j] c.Arcs[i])∧o=some false) ?_ ?_ n 0 () (by omega) (by omega) (fun j _ hj=>by omega)
 ·intro m j _ hj hJ
  have e1:HT c.Arcs[j] c.Arcs[i]↔(((c.Arcs[j].Kind==c.Arcs[i].Kind)&&(c.Arcs[j].From==c.Arcs[i].From))&&(c.Arcs[j].To==c.Arcs[i].To))=true:=by
   unfold HT;simp only [Bool.and_eq_true,beq_iff_eq]
  simp only [IV.eq_2,Cx hj,cT,AU (show j<c.Arcs.length by omega),Au,CQ,wT j]
  cases e:(((c.Arcs[j].Kind==c.Arcs[i].Kind)&&(c.Arcs[j].From==c.Arcs[i].From))&&(c.Arcs[j].To==c.Arcs[i].To))with
  |true=>exact .inr (.inr ⟨fun h=>h j hj (e1.2 e),by trivial⟩)
  |false=>
   refine .inl ⟨(),fun a ha hb=>?_,by trivial⟩
   by_cases ea:a=j
   ·subst ea;intro hs;rw [e1.1 hs]at e;cases e
   ·exact hJ a ha (by omega)
 ·intro m _ hJ
  simp only [IV.eq_2,DH,cF]
  exact .inl ⟨fun j hj=>hJ j hj hj,by trivial⟩
theorem AcJ{n:Nat}{c:AX}(h:oF c)(hn:1048577<=n):BE (Mb c) (qE n c):=by
 obtain⟨r,e,hr,hc⟩:=Pn1 (n:=n) h.pins hn
 rw [qE,e]
 simp only [Au,Nm2 h.name hn,GV,EX]
 by_cases g:(Kb c.Pins∧EF c.Name=true)∧c.Arcs.length<=8∧(0<=c.Leak∧c.Leak<=100000)∧(0<=c.Energy∧c.Energy<=100000)
 ·have rt:r.2=true:=hr.2 g.1.1
  have gb:((((!r.2|| !EF c.Name)||decide ((c.Arcs.length:Int)>8))|| !(decide (c.Leak>=0)&&decide (c.Leak<=100000)))|| !(decide (c.Energy>=0)&&decide (c.Energy<=100000)))=false:=by
   rw [rt,g.1.2]
   simp only [Bool.not_true,Bool.or_self,Bool.false_or,Bool.or_eq_false_iff,decide_eq_false_iff_not,Bool.not_eq_false',OJ];omega
  simp only [gb,cF]
  have few:=g.1.1.few
  have hal:=h.arcs.1
  have hcnt:=hc rt
  refine(Ec (L:=fun m i=>Jd n c _ m i) (Q:=GC c) c.Arcs.length 0 (fun i=>∀(hi:i<c.Arcs.length),MA c c.Arcs[i]∧∀j (hj:j<i),¬HT c.Arcs[j] c.Arcs[i]) ?_ ?_ n 0 (by omega) (by omega) (by omega) (fun j _ h=>by omega)).iff ?_
  ·intro m i _ hi
   obtain⟨b,e,hb⟩:=AbB (n:=n) (c:=c) few.2 few.1 (h.arcs.2 _ (List.getElem_mem hi)) hn
   simp only [Jd.eq_2,Cx hi,cT,AU hi,Au,e]
   cases b with
   |false=>exact .inr ⟨fun q=>(by have:=hb.2 (q hi).1;cases this),by trivial⟩
   |true=>
    simp only [Bool.not_true,cF,wT i]
    rcases In2 (n:=n) hi hal hn (fun _=>Jd n c _ m ((i+1:Nat):Int))with ⟨q1,q2⟩|⟨q1,q2⟩
    ·exact .inl ⟨fun _=>⟨hb.1 rfl,q1⟩,q2⟩
    ·exact .inr ⟨fun q=>q1 (q hi).2,q2⟩
  ·intro m i h1 h2 hA
   obtain rfl:i=c.Arcs.length:=by omega
   simp only [Jd.eq_2,DH,cF]
   obtain⟨l,e,hl6,hl⟩:=Kd (n:=n) hal (fun a ha=>by
    obtain⟨j,hj,rfl⟩:=List.getElem_of_mem ha
    have:=(hA j (by omega) hj hj).1.2
    rcases fG c.Arcs[j].Kind with k|k|k|k|k|k<;>first|omega|skip
    obtain⟨k1,k2,k3,k4,k5⟩:=k
    rw [if_neg k1,if_neg (by omega),if_neg (by omega)]at this
    exact this.elim) hn
   have g1:AE l 1=some (gd l 1):=gI (i:=1) (by omega)
   have g2:AE l 2=some (gd l 2):=gI (i:=2) (by omega)
   have g3:AE l 3=some (gd l 3):=gI (i:=3) (by omega)
   have k1:0<=gd l 1∧(gd l 1>0↔EM c.Arcs 1):=hl 1 (by omega)
   have k2:0<=gd l 2∧(gd l 2>0↔EM c.Arcs 2):=hl 2 (by omega)
   have k3:0<=gd l 3∧(gd l 3>0↔EM c.Arcs 3):=hl 3 (by omega)
   have wl:wrap .i64 ((c.Pins.length:Int)-1)=(c.Pins.length:Int)-1:=Aa (by omega) (by omega)
   obtain⟨s1,s2,s3⟩:=Yw few.1 few.2
   rw [e,Au]
   simp only [g1,g2,g3,Au,wl,s2,s3,cF,CQ]
   have tl:((c.Truth.length:Int)==0)=true↔c.Truth.length=0:=by rw [beq_iff_eq];omega
   have tw:((c.Truth.length:Int)==((2^(c.Pins.length-1):Nat):Int))=true↔c.Truth.length=2^(c.Pins.length-1):=by rw [beq_iff_eq];omega
   have c0:(r.1==0)=true↔cnt c.Pins=0:=by rw [beq_iff_eq,hcnt];omega
   have c1:(r.1==1)=true↔cnt c.Pins=1:=by rw [beq_iff_eq,hcnt];omega
   have kk1:(gd l 1==0)=true↔¬EM c.Arcs 1:=by rw [beq_iff_eq,←k1.2];omega
   have kk3:(gd l 3==0)=true↔¬EM c.Arcs 3:=by rw [beq_iff_eq,←k3.2];omega
   have p1:decide (gd l 1>0)=true↔EM c.Arcs 1:=by rw [decide_eq_true_eq];exact k1.2
   have p2:decide (gd l 2>0)=true↔EM c.Arcs 2:=by rw [decide_eq_true_eq];exact k2.2
   have p3:decide (gd l 3>0)=true↔EM c.Arcs 3:=by rw [decide_eq_true_eq];exact k3.2
   have x23:(decide (gd l 2>0) !=decide (gd l 3>0))=true↔¬(EM c.Arcs 2↔EM c.Arcs 3):=by
    rw [←p2,←p3];cases decide (gd l 2>0)<;>cases decide (gd l 3>0)<;>simp
   by_cases q1:c.Kind=1
   ·simp only [q1,show((1:Int)==1)=true from rfl,cT]
    refine(Tr1 (c:=c) (o:=some ((r.1==0)&&((c.Truth.length:Int)==((2^(c.Pins.length-1):Nat):Int)))) (Q:=cnt c.Pins=0∧c.Truth.length=2^(c.Pins.length-1)) h.truth hn (BI (by rw [Bool.and_eq_true,c0,tw]))).iff ?_
    unfold GC
    constructor
    ·rintro ⟨a,b,d⟩;exact .inl ⟨q1,b,d,a⟩
    ·rintro (⟨_,b,d,a⟩|⟨a,_⟩|⟨a,_⟩)
     ·exact⟨a,b,d⟩
     ·omega
     ·omega
   ·simp only [beq_eq_false_iff_ne.2 q1,cF]
    by_cases q2:c.Kind=2
    ·simp only [q2,show((2:Int)==2)=true from rfl,cT]
     refine BI ?_
     rw [Bool.and_eq_true,Bool.and_eq_true,Bool.and_eq_true,c1,kk1,x23,tl]
     unfold GC
     constructor
     ·rintro ⟨⟨⟨a,b⟩,d⟩,f⟩;exact .inr (.inl ⟨q2,a,f,b,d⟩)
     ·rintro (⟨a,_⟩|⟨_,a,f,b,d⟩|⟨a,_⟩)
      ·omega
      ·exact⟨⟨⟨a,b⟩,d⟩,f⟩
      ·omega
    ·simp only [beq_eq_false_iff_ne.2 q2,cF]
     by_cases q3:c.Kind=3
     ·simp only [q3,show((3:Int)==3)=true from rfl,cT]
      refine BI ?_
      simp only [Bool.and_eq_true,true_and,c1,p1,p2,kk3,tl]
      unfold GC
      constructor
      ·rintro ⟨⟨⟨⟨a,b⟩,d⟩,x⟩,f⟩;exact .inr (.inr ⟨q3,a,f,b,d,x⟩)
      ·rintro (⟨a,_⟩|⟨a,_⟩|⟨_,a,f,b,d,x⟩)
       ·omega
       ·omega
       ·exact⟨⟨⟨⟨a,b⟩,d⟩,x⟩,f⟩
     ·simp only [beq_eq_false_iff_ne.2 q3,cF]
      refine Az ?_
      rintro (⟨a,_⟩|⟨a,_⟩|⟨a,_⟩)
      ·exact q1 a
      ·exact q2 a
      ·exact q3 a
  ·constructor
   ·rintro ⟨a,b⟩
    exact⟨g.1.2,g.1.1,g.2.1,g.2.2.1,g.2.2.2,fun i hi=>a i (by omega) hi hi,b⟩
   ·rintro v
    exact⟨fun i _ _ hi=>v.arcs i hi,v.kind⟩
 ·have gb:((((!r.2|| !EF c.Name)||decide ((c.Arcs.length:Int)>8))|| !(decide (c.Leak>=0)&&decide (c.Leak<=100000)))|| !(decide (c.Energy>=0)&&decide (c.Energy<=100000)))=true:=by
   cases hq:((((!r.2|| !EF c.Name)||decide ((c.Arcs.length:Int)>8))|| !(decide (c.Leak>=0)&&decide (c.Leak<=100000)))|| !(decide (c.Energy>=0)&&decide (c.Energy<=100000)))with
   |true=>rfl
   |false=>
    exfalso;apply g
    simp only [Bool.or_eq_false_iff,Bool.not_eq_false',decide_eq_false_iff_not,OJ]at hq
    exact⟨⟨hr.1 hq.1.1.1.1,hq.1.1.1.2⟩,by omega,by simpa using hq.1.2,by simpa using hq.2⟩
  simp only [gb,cT]
  exact Az fun v=>g ⟨⟨v.pins,v.name⟩,v.few,v.leak,v.energy⟩
theorem Cn{n:Nat}{l:List BD}{K:Int->Option Bool}{c:AX}(hc:c.Pins=l)(hl:l.length<=1048576)(hn:1048577<=n):FV c (fun i _=>K i) n 0 0=K (cnt l):=by
 subst hc
 refine loop (L:=fun m i (q:Int)=>FV c (fun i _=>K i) m q i) c.Pins.length (fun i q=>q=cnt (c.Pins.take i)) (fun o=>o=K (cnt c.Pins)) ?_ ?_ n 0 0 (by omega) (by omega) (by simp [cnt])
 ·intro m i q hi hq
  have ct:=QW hi
  have cl:cnt (c.Pins.take i)<=1048576:=Nat.le_trans List.countP_le_length (by simp;omega)
  cases hk:c.Pins[i].Clock with
  |true=>
   rw [hk,if_pos rfl]at ct
   refine .inl ⟨q+1,by rw [ct,hq];simp,?_⟩
   simp only [FV.eq_2,Cx hi,cT,AU hi,Au,hk,wT i,Aa (x:=q+1) (by omega) (by omega)]
  |false=>
   rw [hk]at ct
   refine .inl ⟨q,by rw [ct,hq];simp,?_⟩
   simp only [FV.eq_2,Cx hi,cT,AU hi,Au,hk,cF,wT i]
 ·intro m q hq
  rw [List.take_length]at hq
  simp only [FV.eq_2,DH,cF,hq]
theorem Kn2{n:Nat}{c:AX}(h:oF c)(hv:Kb c.Pins)(hn:1048577<=n):BE (GC c) (ZT n c):=by
 have few:=hv.few
 obtain⟨b1,e1,h1⟩:=Hs (n:=n) h.arcs.1 1 hn
 obtain⟨b2,e2,h2⟩:=Hs (n:=n) h.arcs.1 2 hn
 obtain⟨b3,e3,h3⟩:=Hs (n:=n) h.arcs.1 3 hn
 have wl:wrap .i64 ((c.Pins.length:Int)-1)=(c.Pins.length:Int)-1:=Aa (by omega) (by omega)
 have o:=(Cn (n:=n) (c:=c) (l:=c.Pins) (K:=fun i16=>(cond (c.Kind==1) (Option.bind (cond (i16==0) (Option.bind (Ps n c) fun r20=>(cond (decide (r20<0)) none (some ((((c.Truth.length:Int))==(SN .i64 1 r20)))))) (some false)) fun c20=>(Option.bind (cond c20 (Option.bind (MC n c.Truth 0 1) fun r26=>(some r26)) (some false)) fun c26=>(some c26))) (cond (c.Kind==2) (Option.bind (cond (((i16==1))&&((((c.Truth.length:Int))==0))) (Option.bind (RE n c 1) fun r38=>(some (!r38))) (some false)) fun c38=>(Option.bind (cond c38 (Option.bind (RE n c 2) fun r43=>(Option.bind (RE n c 3) fun r45=>(some ((r43 !=r45))))) (some false)) fun c43=>(some c43))) (cond (c.Kind==3) (Option.bind (cond (((i16==1))&&((((c.Truth.length:Int))==0))) (Option.bind (RE n c 1) fun r61=>(some r61)) (some false)) fun c61=>(Option.bind (cond c61 (Option.bind (RE n c 2) fun r74=>(some r74)) (some false)) fun c74=>(Option.bind (cond c74 (Option.bind (RE n c 3) fun r87=>(some (!r87))) (some false)) fun c87=>(some c87)))) (some false))))) rfl h.pins.1 hn)
 have o2:ZT n c=_:=o
 rw [o2]
 obtain⟨s1,s2,s3⟩:=Yw few.1 few.2
 have d0:decide ((c.Pins.length:Int)-1<0)=false:=decide_eq_false (by omega)
 simp only [Ps,Sn,Au,wl,d0,cF,s1,AW (n:=n) h.truth hn,e1,e2,e3,CQ]
 have tl:((c.Truth.length:Int)==0)=true↔c.Truth.length=0:=by rw [beq_iff_eq];omega
 have tw:((c.Truth.length:Int)==((2^(c.Pins.length-1):Nat):Int))=true↔c.Truth.length=2^(c.Pins.length-1):=by rw [beq_iff_eq];omega
 have c0:((cnt c.Pins:Int)==0)=true↔cnt c.Pins=0:=by rw [beq_iff_eq];omega
 have c1:((cnt c.Pins:Int)==1)=true↔cnt c.Pins=1:=by rw [beq_iff_eq];omega
 have n1:(!b1)=true↔¬EM c.Arcs 1:=by rw [←h1];cases b1<;>simp
 have n3:(!b3)=true↔¬EM c.Arcs 3:=by rw [←h3];cases b3<;>simp
 have x23:(b2 !=b3)=true↔¬(EM c.Arcs 2↔EM c.Arcs 3):=by rw [←h2,←h3];cases b2<;>cases b3<;>simp
 by_cases q1:c.Kind=1
 ·simp only [q1,show((1:Int)==1)=true from rfl,cT]
  refine BI ?_
  rw [Bool.and_eq_true,Bool.and_eq_true,c0,tw,NR]
  unfold GC
  constructor
  ·rintro ⟨⟨a,b⟩,d⟩;exact .inl ⟨q1,a,b,d⟩
  ·rintro (⟨_,a,b,d⟩|⟨a,_⟩|⟨a,_⟩)
   ·exact⟨⟨a,b⟩,d⟩
   ·omega
   ·omega
 ·simp only [beq_eq_false_iff_ne.2 q1,cF]
  by_cases q2:c.Kind=2
  ·simp only [q2,show((2:Int)==2)=true from rfl,cT]
   refine BI ?_
   simp only [Bool.and_eq_true,c1,tl,n1,x23]
   unfold GC
   constructor
   ·rintro ⟨⟨⟨a,b⟩,d⟩,f⟩;exact .inr (.inl ⟨q2,a,b,d,f⟩)
   ·rintro (⟨a,_⟩|⟨_,a,b,d,f⟩|⟨a,_⟩)
    ·omega
    ·exact⟨⟨⟨a,b⟩,d⟩,f⟩
    ·omega
  ·simp only [beq_eq_false_iff_ne.2 q2,cF]
   by_cases q3:c.Kind=3
   ·simp only [q3,show((3:Int)==3)=true from rfl,cT]
    refine BI ?_
    simp only [Bool.and_eq_true,true_and,c1,tl,h1,h2,n3]
    unfold GC
    constructor
    ·rintro ⟨⟨⟨⟨a,b⟩,d⟩,x⟩,f⟩;exact .inr (.inr ⟨q3,a,b,d,x,f⟩)
    ·rintro (⟨a,_⟩|⟨a,_⟩|⟨_,a,b,d,x,f⟩)
     ·omega
     ·omega
     ·exact⟨⟨⟨⟨a,b⟩,d⟩,x⟩,f⟩
   ·simp only [beq_eq_false_iff_ne.2 q3,cF]
    refine Az ?_
    rintro (⟨a,_⟩|⟨a,_⟩|⟨a,_⟩)
    ·exact q1 a
    ·exact q2 a
    ·exact q3 a
theorem As2{n:Nat}{c:AX}{r:Int}(h:oF c)(hv:Kb c.Pins)(hr:Si n c=some r)(hn:1048577<=n):BE (Yj (fun a=>UP c a r) c.Arcs∧c.Arcs.length<=8) (ZX n c):=by
 have few:=hv.few
 have hal:=h.arcs.1
 rw [ZX]
 refine(Ec (L:=fun m i=>IQ n c _ m i) (Q:=c.Arcs.length<=8) c.Arcs.length 0 (fun i=>∀(hi:i<c.Arcs.length),UP c c.Arcs[i] r∧∀j (hj:j<i),¬HT c.Arcs[j] c.Arcs[i]) ?_ ?_ n 0 (by omega) (by omega) (by omega) (fun j _ h=>by omega)).iff ⟨fun a=>⟨fun i hi=>a.1 i (by omega) hi hi,a.2⟩,fun a=>⟨fun i _ _ hi=>a.1 i hi,a.2⟩⟩
 ·intro m i _ hi
  obtain⟨b,e,hb⟩:=xF (n:=n) (c:=c) few.2 few.1 (h.arcs.2 _ (List.getElem_mem hi)) hr hn
  have hsub:NI c.Arcs 0 (i:Int)=some (c.Arcs.take i):=by
   unfold NI
   rw [if_pos ⟨by omega,by omega,by omega⟩];simp
  obtain⟨q,e2,hq,_⟩:=JV (xs:=c.Arcs.take i) (L:=fun m j=>Gg n (c.Arcs.take i) c.Arcs[i] (fun i6=>(some (-1))) m j) (f:=fun a=>Ys n a c.Arcs[i]) (P:=fun a=>HT a c.Arcs[i]) (fun p _=>by rw [Ys];exact BI (by unfold HT;simp only [Bool.and_eq_true,beq_iff_eq])) (fun m j hj=>by
   simp only [Gg.eq_2,Cx hj,cT,AU hj,Au,wS (show j<4611686018427387904 by have:=hj;simp at this;omega)]) (fun m=>by
   simp only [Gg.eq_2,DH,cF]) n (by simp;omega)
  have e2:Gg n (c.Arcs.take i) c.Arcs[i] (fun i6=>(some (-1))) n 0=some q:=e2
  simp only [IQ.eq_2,Cx hi,cT,AU hi,Au,e,hsub,bD,bB,e2,EX,wT i]
  have hd:(decide (q>=0))=true↔¬∀j (hj:j<i),¬HT c.Arcs[j] c.Arcs[i]:=by
   rw [decide_eq_true_eq,hq]
   constructor
   ·rintro ⟨x,hx,hs⟩ hall
    obtain⟨j,hj,rfl⟩:=List.mem_take_iff_getElem.1 hx
    exact hall j (by omega) hs
   ·intro hna
    refine Classical.byContradiction fun hne=>hna fun j hj hs=>hne ⟨c.Arcs[j],List.mem_take_iff_getElem.2 ⟨j,by omega,rfl⟩,hs⟩
  cases hc:(!b||decide (q>=0))with
  |true=>
   refine .inr ⟨fun g=>?_,by trivial⟩
   have:=g hi
   rw [Bool.or_eq_true]at hc
   rcases hc with hc|hc
   ·rw [hb.2 this.1]at hc;cases hc
   ·exact hd.1 hc this.2
  |false=>
   rw [Bool.or_eq_false_iff]at hc
   refine .inl ⟨fun _=>⟨hb.1 (by simpa using hc.1),Classical.byContradiction fun g=>?_⟩,by trivial⟩
   have:=hd.2 g
   rw [hc.2]at this;cases this
 ·intro m i h1 h2 _
  obtain rfl:i=c.Arcs.length:=by omega
  simp only [IQ.eq_2,DH,cF]
  exact BI (by rw [decide_eq_true_eq];omega)
theorem yI{n:Nat}{c:AX}(h:oF c)(hn:1048577<=n):BE (Mb c) (ZU n c):=by
 obtain⟨r,hr,hr0,hr1⟩:=Ck (n:=n) h.pins.1 hn
 rw [ZU,Nm1 h.name hn,Au]
 cases hnm:EF c.Name with
 |false=>
  simp only [cF,Au]
  exact Az fun v=>(by have:=v.name;rw [hnm]at this;cases this)
 |true=>
  obtain⟨b,e,hb⟩:=Pn2 (n:=n) h.pins hn
  simp only [cT,e,Au]
  cases b with
  |false=>
   simp only [cF,Au]
   exact Az fun v=>(by have:=hb.2 v.pins;cases this)
  |true=>
   have hv:=hb.1 rfl
   obtain⟨b1,e1,h1⟩:=As2 (n:=n) h hv hr hn
   obtain⟨b2,e2,h2⟩:=Kn2 (n:=n) h hv hn
   simp only [cT,e1,e2,Ij,Au,CQ]
   refine BI ?_
   rw [Bool.and_eq_true,Bool.and_eq_true,Bool.and_eq_true,h1,h2,OJ,OJ]
   constructor
   ·rintro ⟨⟨⟨⟨a,a8⟩,b⟩,d⟩,f⟩
    exact⟨hnm,hv,a8,b,d,fun i hi=>⟨(Tv hv f.cnt hr1 hr0).2 (a i hi).1,(a i hi).2⟩,f⟩
   ·rintro v
    exact⟨⟨⟨⟨fun i hi=>⟨(Tv hv v.kind.cnt hr1 hr0).1 (v.arcs i hi).1,(v.arcs i hi).2⟩,v.few⟩,v.leak⟩,v.energy⟩,v.kind⟩
def FR(xs:List ByteArray):Prop:=∀k (h:k<xs.length),EF xs[k]=true∧∀i (hi:i<k),(xs[i].toList==xs[k].toList)=false
theorem jR{n:Nat}{xs:List ByteArray}(h:xs.length<=1048576)(hs:∀x∈xs,x.size<=1048576)(hn:1048577<=n):BE (FR xs) (jK n xs):=by
 rw [jK]
 refine(Ec (L:=fun m i=>HR n xs _ m i) (Q:=True) xs.length 0 (fun i=>∀(hi:i<xs.length),EF xs[i]=true∧∀j (hj:j<i),(xs[j].toList==xs[i].toList)=false) ?_ ?_ n 0 (by omega) (by omega) (by omega) (fun j _ h=>by omega)).iff ⟨fun a k hk=>a.1 k (by omega) hk hk,fun a=>⟨fun i _ _ hi=>a i hi,trivial⟩⟩
 ·intro m i _ hi
  simp only [HR.eq_2,Cx hi,cT,AU hi,Au,Nm2 (hs _ (List.getElem_mem hi)) hn]
  cases hb:EF xs[i]with
  |false=>simp only [Bool.not_false,cT];exact .inr ⟨fun g=>(by have:=(g hi).1;rw [hb]at this;cases this),trivial⟩
  |true=>
   simp only [Bool.not_true,cF]
   have key:Je xs (i:Int) (fun i22=>HR n xs (fun i5=>some true) m (wrap .i64 ((i:Int)+1))) n 0=cond ((xs.take i).all (fun x=>!(x.toList==xs[i].toList))) (HR n xs (fun i5=>some true) m (wrap .i64 ((i:Int)+1))) (some false):=by
    refine NE (xs:=xs.take i) (L:=fun q j=>Je xs (i:Int) (fun i22=>HR n xs (fun i5=>some true) m (wrap .i64 ((i:Int)+1))) q j) (fun x=>!(x.toList==xs[i].toList)) ?_ ?_ n (by simp;omega)
    ·intro q j hj
     have hj':j<i:=by simp at hj;omega
     have hd:decide ((j:Int)<(i:Int))=true:=decide_eq_true (by omega)
     simp only [Je.eq_2,hd,cT,AU (show j<xs.length by omega),AU hi,Au,List.getElem_take,wT j]
     cases(xs[j].toList==xs[i].toList)<;>rfl
    ·intro q
     have hl:(xs.take i).length=i:=by simp;omega
     have hd:decide (((xs.take i).length:Int)<(i:Int))=false:=decide_eq_false (by rw [hl];omega)
     simp only [Je.eq_2,hd,cF]
   rw [key]
   cases ha:(xs.take i).all (fun x=>!(x.toList==xs[i].toList))with
   |true=>
    rw [cT,wT i]
    refine .inl ⟨fun _=>⟨hb,fun j hj=>?_⟩,rfl⟩
    have:=List.all_eq_true.1 ha xs[j] (List.mem_take_iff_getElem.2 ⟨j,by omega,rfl⟩)
    simpa using this
   |false=>
    rw [cF]
    refine .inr ⟨fun g=>?_,rfl⟩
    have:(xs.take i).all (fun x=>!(x.toList==xs[i].toList))=true:=by
     rw [List.all_eq_true]
     intro x hx
     obtain⟨j,hj,rfl⟩:=List.mem_take_iff_getElem.1 hx
     have:=(g hi).2 j (by omega)
     simp [this]
    rw [ha]at this;cases this
 ·intro m i h1 h2 _
  obtain rfl:i=xs.length:=by omega
  simp only [HR.eq_2,DH,cF]
  exact Cc trivial
structure Qk(l:Ab):Prop where
 few:l.Cells.length<=8
 cells:∀i (h:i<l.Cells.length),Mb l.Cells[i]
 names:∀k (h:k<l.Cells.length),∀i (hi:i<k),(l.Cells[i].Name.toList==l.Cells[k].Name.toList)=false
def ZW(l:Ab):Prop:=l.Cells.length<=1048576∧∀c∈l.Cells,oF c
theorem Lb1{n:Nat}{l:Ab}(h:ZW l)(hn:1048577<=n):BE (Qk l) (sC n l):=by
 have h1:=h.1
 rw [sC]
 refine(Ec (L:=fun m i=>HI n l _ m i) (Q:=l.Cells.length<=8) l.Cells.length 0 (fun i=>∀(hi:i<l.Cells.length),Mb l.Cells[i]∧∀j (hj:j<i),(l.Cells[j].Name.toList==l.Cells[i].Name.toList)=false) ?_ ?_ n 0 (by omega) (by omega) (by omega) (fun j _ h=>by omega)).iff ⟨fun a=>⟨a.2,fun i hi=>(a.1 i (by omega) hi hi).1,fun k hk=>(a.1 k (by omega) hk hk).2⟩,fun a=>⟨fun i _ _ hi=>⟨a.cells i hi,a.names i hi⟩,a.few⟩⟩
 ·intro m i _ hi
  obtain⟨b,e,hb⟩:=AcJ (n:=n) (h.2 _ (List.getElem_mem hi)) hn
  simp only [HI.eq_2,Cx hi,cT,AU hi,Au,e]
  cases b with
  |false=>simp only [Bool.not_false,cT];exact .inr ⟨fun g=>(by have:=hb.2 (g hi).1;cases this),trivial⟩
  |true=>
   simp only [Bool.not_true,cF]
   have key:Jn l (i:Int) (fun i36=>HI n l (fun i12=>some (decide ((l.Cells.length:Int)<=8))) m (wrap .i64 ((i:Int)+1))) n 0=cond ((l.Cells.take i).all (fun x=>!(x.Name.toList==l.Cells[i].Name.toList))) (HI n l (fun i12=>some (decide ((l.Cells.length:Int)<=8))) m (wrap .i64 ((i:Int)+1))) (some false):=by
    refine NE (xs:=l.Cells.take i) (L:=fun q j=>Jn l (i:Int) (fun i36=>HI n l (fun i12=>some (decide ((l.Cells.length:Int)<=8))) m (wrap .i64 ((i:Int)+1))) q j) (fun x=>!(x.Name.toList==l.Cells[i].Name.toList)) ?_ ?_ n (by simp;omega)
    ·intro q j hj
     have hj':j<i:=by simp at hj;omega
     have hd:decide ((j:Int)<(i:Int))=true:=decide_eq_true (by omega)
     simp only [Jn.eq_2,hd,cT,AU (show j<l.Cells.length by omega),AU hi,Au,List.getElem_take,wT j]
     cases(l.Cells[j].Name.toList==l.Cells[i].Name.toList)<;>rfl
    ·intro q
     have hl:(l.Cells.take i).length=i:=by simp;omega
     have hd:decide (((l.Cells.take i).length:Int)<(i:Int))=false:=decide_eq_false (by rw [hl];omega)
     simp only [Jn.eq_2,hd,cF]
   rw [key]
   cases ha:(l.Cells.take i).all (fun x=>!(x.Name.toList==l.Cells[i].Name.toList))with
   |true=>
    rw [cT,wT i]
    refine .inl ⟨fun _=>⟨hb.1 rfl,fun j hj=>?_⟩,rfl⟩
    have:=List.all_eq_true.1 ha l.Cells[j] (List.mem_take_iff_getElem.2 ⟨j,by omega,rfl⟩)
    simpa using this
   |false=>
    rw [cF]
    refine .inr ⟨fun g=>?_,rfl⟩
    have:(l.Cells.take i).all (fun x=>!(x.Name.toList==l.Cells[i].Name.toList))=true:=by
     rw [List.all_eq_true]
     intro x hx
     obtain⟨j,hj,rfl⟩:=List.mem_take_iff_getElem.1 hx
     have:=(g hi).2 j (by omega)
     simp [this]
    rw [ha]at this;cases this
 ·intro m i h1 h2 _
  obtain rfl:i=l.Cells.length:=by omega
  simp only [HI.eq_2,DH,cF]
  exact BI (by rw [decide_eq_true_eq];omega)
theorem Lb2{n:Nat}{l:Ab}(h:ZW l)(hn:1048577<=n):BE (Qk l) (Vl n l):=by
 have h1:=h.1
 rw [Vl]
 refine loop (L:=fun m i (s:List ByteArray)=>If n l _ m s i) l.Cells.length (fun i s=>s=(l.Cells.take i).map (·.Name)∧∀j (hj:j<l.Cells.length),j<i->Mb l.Cells[j]) (fun o=>BE (Qk l) o) ?_ ?_ n 0 [] (by omega) (by omega) ⟨by simp,fun j _ h=>by omega⟩
 ·intro m i s hi ⟨hs,hI⟩
  obtain⟨b,e,hb⟩:=yI (n:=n) (h.2 _ (List.getElem_mem hi)) hn
  have hsl:s.length=i:=by rw [hs];simp;omega
  simp only [If.eq_2,Cx hi,cT,AU hi,Au,e]
  cases b with
  |false=>simp only [Bool.not_false,cT];exact .inr (Az fun v=>by have:=hb.2 (v.cells i hi);cases this)
  |true=>
   simp only [Bool.not_true,cF,CR (show s.length+[l.Cells[i].Name].length<=16777216 by simp;omega) (show 16<=1048576 by omega),Au,wT i]
   refine .inl ⟨_,⟨?_,fun j hj hji=>?_⟩,rfl⟩
   ·rw [hs,List.take_succ_eq_append_getElem hi,List.map_append];rfl
   ·by_cases ej:j=i
    ·subst ej;exact hb.1 rfl
    ·exact hI j hj (by omega)
 ·intro m s ⟨hs,hI⟩
  rw [List.take_length]at hs
  have hsl:s.length=l.Cells.length:=by rw [hs];simp
  simp only [If.eq_2,DH,cF]
  by_cases c:l.Cells.length<=8
  ·have d:decide ((l.Cells.length:Int)<=8)=true:=decide_eq_true (by omega)
   obtain⟨b,e,hb⟩:=AN (n:=n) (xs:=s) (by omega) (fun x hx=>by
    rw [hs]at hx
    obtain⟨c,hc,rfl⟩:=List.mem_map.1 hx
    exact(h.2 c hc).name) hn
   simp only [d,cT,e,Au]
   refine BI (hb.trans ⟨fun g=>⟨c,fun i hi=>hI i hi hi,fun k hk i hi=>?_⟩,fun v k hk=>⟨?_,fun i hi=>?_⟩⟩)
   ·have:=(g k (by omega)).2 i hi
    simpa [hs] using this
   ·have:=(v.cells k (by omega)).name
    simpa [hs] using this
   ·have:=v.names k (by omega) i hi
    simpa [hs] using this
  ·have d:decide ((l.Cells.length:Int)<=8)=false:=decide_eq_false (by omega)
   simp only [d,cF,Au]
   exact Az fun v=>c v.few
def eJ(l:List Int)(lo hi:Int):Prop:=∀i,i<l.length->lo<=gd l i∧gd l i<=hi
theorem Xc{n:Nat}{l:List Int}{lo hi:Int}(h:l.length<=1048576)(hn:1048577<=n):BE (eJ l lo hi) (MC n l lo hi):=by
 rw [MC,YG,XL]
 obtain⟨r,e,h⟩:=Jm (xs:=l) (L:=fun m i=>Ev n l lo hi (fun i7=>(some (-1))) m i) (fun x=>!((decide (x>=lo))&&(decide (x<=hi)))) (by
  intro m i hi
  simp only [Ev.eq_2,Cx hi,cT,AU hi,Au,Yc,Ij,wT i]) (by
  intro m
  simp only [Ev.eq_2,DH,cF]) n (by omega)
 simp only [e,Au]
 refine BI ?_
 rw [h,List.any_eq_not_all_not,Bool.not_not]
 simp only [Bool.not_not]
 exact NR
structure QP(w:Ar)(s:Int):Prop where
 many:1<=w.Parent.length∧w.Parent.length<=8
 res:w.Res.length=w.Parent.length
 cap:w.Cap.length=w.Parent.length
 sink:(w.Sink.length:Int)=s
 root:gd w.Parent 0= -1∧gd w.Res 0=0
 tree:∀i,0<i->i<w.Parent.length->0<=gd w.Parent i∧gd w.Parent i<=(i:Int)-1
 ress:eJ w.Res 0 1000
 caps:eJ w.Cap 0 500
 sinks:eJ w.Sink 0 ((w.Parent.length:Int)-1)
def Node(w:Ar)(i:Nat):Prop:=(i=0->gd w.Parent 0= -1∧gd w.Res 0=0)∧(0<i->0<=gd w.Parent i∧gd w.Parent i<=(i:Int)-1)
theorem Wr1{n:Nat}{w:Ar}{s:Int}(h:w.Sink.length<=1048576)(hn:1048577<=n):BE (QP w s) (qT n w s):=by
 rw [qT]
 refine FL (fun c=>Az fun v=>?_) (fun c=>?_)
 ·have:=v.many;have:=v.res;have:=v.cap;have:=v.sink
  simp only [Bool.or_eq_true,decide_eq_true_eq,bne_iff_ne,ne_eq]at c;omega
 ·simp only [Bool.or_eq_false_iff,decide_eq_false_iff_not,bne_eq_false_iff_eq]at c
  obtain⟨⟨⟨⟨c1,c2⟩,c3⟩,c4⟩,c5⟩:=c
  refine(Ec (L:=fun m i=>Ks n w _ m i) (Q:=eJ w.Sink 0 ((w.Parent.length:Int)-1)) w.Parent.length 0 (fun i=>(0<=gd w.Cap i∧gd w.Cap i<=500)∧(0<=gd w.Res i∧gd w.Res i<=1000)∧Node w i) ?_ ?_ n 0 (by omega) (by omega) (by omega) (fun j _ h=>by omega)).iff ⟨fun a=>⟨by omega,by omega,by omega,c5,(a.1 0 (by omega) (by omega)).2.2.1 rfl,fun i h1 h2=>(a.1 i (by omega) h2).2.2.2 h1,fun i hi=>(a.1 i (by omega) (by omega)).2.1,fun i hi=>(a.1 i (by omega) (by omega)).1,a.2⟩,fun v=>⟨fun i _ hi=>⟨v.caps i (by omega),v.ress i (by omega),fun _=>v.root,fun h=>v.tree i h hi⟩,v.sinks⟩⟩
  ·intro m i _ hi
   have w1:wrap .i64 ((i:Int)-1)=(i:Int)-1:=Aa (by omega) (by omega)
   simp only [Ks.eq_2,Cx hi,cT,gI (show i<w.Parent.length by omega),gI (show i<w.Res.length by omega),gI (show i<w.Cap.length by omega),Au,GV,EX,CQ,w1,wT i]
   cases e1:(!(decide (gd w.Cap i>=0)&&decide (gd w.Cap i<=500))|| !(decide (gd w.Res i>=0)&&decide (gd w.Res i<=1000)))with
   |true=>
    rw [cT]
    refine .inr ⟨fun g=>?_,rfl⟩
    simp only [Bool.or_eq_true,Bool.not_eq_true',Bool.and_eq_false_iff,decide_eq_false_iff_not]at e1;omega
   |false=>
    rw [cF]
    simp only [Bool.or_eq_false_iff,Bool.not_eq_false',Bool.and_eq_true,decide_eq_true_eq]at e1
    cases e2:((((i:Int)==0)&&((gd w.Parent i != -1)||(gd w.Res i !=0)))||(decide ((i:Int)>0)&& !(decide (gd w.Parent i>=0)&&decide (gd w.Parent i<=(i:Int)-1))))with
    |true=>
     rw [cT]
     refine .inr ⟨fun g=>?_,rfl⟩
     obtain⟨_,_,g1,g2⟩:=g
     simp only [Bool.or_eq_true,Bool.not_eq_true',Bool.and_eq_false_iff,Bool.and_eq_true,decide_eq_false_iff_not,decide_eq_true_eq,beq_iff_eq,bne_iff_ne,ne_eq]at e2
     by_cases z:i=0
     ·subst z;have:=g1 rfl;omega
     ·have:=g2 (by omega);omega
    |false=>
     rw [cF]
     refine .inl ⟨⟨by omega,by omega,?_⟩,rfl⟩
     simp only [Bool.or_eq_false_iff,Bool.not_eq_false',Bool.and_eq_false_iff,Bool.and_eq_true,decide_eq_false_iff_not,decide_eq_true_eq,beq_eq_false_iff_ne,bne_eq_false_iff_eq,ne_eq]at e2
     refine⟨fun z=>?_,fun z=>by omega⟩
     subst z;omega
  ·intro m i h1 h2 _
   obtain rfl:i=w.Parent.length:=by omega
   have w1:wrap .i64 ((w.Parent.length:Int)-1)=(w.Parent.length:Int)-1:=Aa (by omega) (by omega)
   simp only [Ks.eq_2,DH,cF]
   refine(Ec (L:=fun m i=>Km n w _ m i) (Q:=True) w.Sink.length 0 (fun i=>0<=gd w.Sink i∧gd w.Sink i<=(w.Parent.length:Int)-1) ?_ ?_ n 0 (by omega) (by omega) (by omega) (fun j _ h=>by omega)).iff ⟨fun a i hi=>a.1 i (by omega) hi,fun v=>⟨fun i _ hi=>v i hi,trivial⟩⟩
   ·intro m i _ hi
    simp only [Km.eq_2,Cx hi,cT,gI hi,Au,GV,w1,wT i]
    cases e:(!(decide (gd w.Sink i>=0)&&decide (gd w.Sink i<=(w.Parent.length:Int)-1)))with
    |true=>refine .inr ⟨fun g=>?_,by trivial⟩;simp only [Bool.not_eq_true',Bool.and_eq_false_iff,decide_eq_false_iff_not]at e;omega
    |false=>refine .inl ⟨?_,by trivial⟩;simp only [Bool.not_eq_false',Bool.and_eq_true,decide_eq_true_eq]at e;omega
   ·intro m i h1 h2 _
    obtain rfl:i=w.Sink.length:=by omega
    simp only [Km.eq_2,DH,cF]
    exact Cc trivial
theorem yD{n:Nat}{w:Ar}(h1:1<=w.Parent.length)(h:w.Parent.length<=8)(h2:w.Res.length=w.Parent.length)(hn:1048577<=n):BE (∀i,0<=i->i<w.Parent.length->Node w i) (WH n w):=by
 rw [WH]
 refine(Ec (L:=fun m i=>IA n w _ m i) (Q:=True) w.Parent.length 0 (fun i=>Node w i) ?_ ?_ n 0 (by omega) (by omega) (by omega) (fun j _ h=>by omega)).iff ⟨fun a=>a.1,fun a=>⟨a,trivial⟩⟩
 ·intro m i _ hi
  have w1:wrap .i64 ((i:Int)-1)=(i:Int)-1:=Aa (by omega) (by omega)
  have w0:AE w.Res 0=some (gd w.Res 0):=gI (i:=0) (by omega)
  simp only [IA.eq_2,Cx hi,cT,gI hi,w0,Au,Ij,EX,CQ,w1,wT i]
  cases e2:((((i:Int)==0)&&((gd w.Parent i != -1)||(gd w.Res 0 !=0)))||(decide ((i:Int)>0)&& !(decide (gd w.Parent i>=0)&&decide (gd w.Parent i<=(i:Int)-1))))with
  |true=>
   rw [cT]
   refine .inr ⟨fun g=>?_,rfl⟩
   obtain⟨g1,g2⟩:=g
   simp only [Bool.or_eq_true,Bool.not_eq_true',Bool.and_eq_false_iff,Bool.and_eq_true,decide_eq_false_iff_not,decide_eq_true_eq,beq_iff_eq,bne_iff_ne,ne_eq]at e2
   by_cases z:i=0
   ·subst z;have:=g1 rfl;omega
   ·have:=g2 (by omega);omega
  |false=>
   rw [cF]
   refine .inl ⟨?_,rfl⟩
   simp only [Bool.or_eq_false_iff,Bool.not_eq_false',Bool.and_eq_false_iff,Bool.and_eq_true,decide_eq_false_iff_not,decide_eq_true_eq,beq_eq_false_iff_ne,bne_eq_false_iff_eq,ne_eq]at e2
   refine⟨fun z=>?_,fun z=>by omega⟩
   subst z;omega
 ·intro m i h1 h2 _
  obtain rfl:i=w.Parent.length:=by omega
  simp only [IA.eq_2,DH,cF]
  exact Cc trivial
theorem BE.and{P Q:Prop}{o:Option Bool}{c:Bool}(hc:c=true↔P)(h:P->BE Q o):BE (P∧Q) (cond c o (some false)):=by
 cases c with
 |true=>exact(h (hc.1 rfl)).iff ⟨fun q=>⟨hc.1 rfl,q⟩,fun q=>q.2⟩
 |false=>exact Az fun q=>by have:=hc.2 q.1;cases this
theorem BE.ab{P R:Prop}{o:Option Bool}{f:Bool->Option Bool}(h:BE P o)(k:∀c:Bool,(c=true↔P)->BE R (f c)):BE R (Option.bind o f):=by
 obtain⟨b,rfl,h⟩:=h
 exact k b h
theorem Nl{o:Option Bool}:(Option.bind o fun r=>some r)=o:=by cases o<;>rfl
theorem Wr2{n:Nat}{w:Ar}{s:Int}(h:w.Sink.length<=1048576)(hr:w.Res.length<=1048576)(hc:w.Cap.length<=1048576)(hp:w.Parent.length<=1048576)(hn:1048577<=n):BE (QP w s) (Yq n w s):=by
 have w1:wrap .i64 ((w.Parent.length:Int)-1)=(w.Parent.length:Int)-1:=Aa (by omega) (by omega)
 rw [Yq]
 simp only [OC,Ij,Au,w1,CQ,Nl]
 refine BE.ab (BE.and (P:=(1<=w.Parent.length∧w.Parent.length<=8)∧w.Res.length=w.Parent.length∧w.Cap.length=w.Parent.length) (Q:=∀i,0<=i->i<w.Parent.length->Node w i) ?_ fun p=>yD p.1.1 p.1.2 p.2.1 hn) fun c1 e1=>?_
 ·simp only [Bool.and_eq_true,decide_eq_true_eq,beq_iff_eq];omega
 refine BE.ab (BE.and e1 fun _=>Xc hr hn) fun c2 e2=>?_
 refine BE.ab (BE.and e2 fun _=>Xc hc hn) fun c3 e3=>?_
 refine(BE.and (P:=(((((1<=w.Parent.length∧w.Parent.length<=8)∧w.Res.length=w.Parent.length∧w.Cap.length=w.Parent.length)∧∀i,0<=i->i<w.Parent.length->Node w i)∧eJ w.Res 0 1000)∧eJ w.Cap 0 500)∧(w.Sink.length:Int)=s) ?_ fun _=>Xc h hn).iff ⟨fun⟨⟨⟨⟨⟨⟨a,b,c⟩,t⟩,r⟩,k⟩,s1⟩,s2⟩=>⟨a,b,c,s1,(t 0 (by omega) (by omega)).1 rfl,fun i h1 h2=>(t i (by omega) h2).2 h1,r,k,s2⟩,fun v=>⟨⟨⟨⟨⟨⟨v.many,v.res,v.cap⟩,fun i _ hi=>⟨fun _=>v.root,fun h=>v.tree i h hi⟩⟩,v.ress⟩,v.caps⟩,v.sink⟩,v.sinks⟩⟩
 rw [Bool.and_eq_true,e3,beq_iff_eq]
def Lc(t:List Int)(q:Int):List Int:=t.set q.toNat (gd t q.toNat+1)
def On(x:AO):Int:=gd x.Nets (x.Nets.length-1)
def cI(t:List Int)(x:AO):List Int:=Lc t (On x)
def cP(t:List Int)(p:BG):List Int:=if p.Dir=1 then Lc t p.Net else t
def aF(d:AP):List Int:=d.Ports.foldl cP (d.Instances.foldl cI (List.replicate d.Nets.length 0))
structure Ke(l:Ab)(d:AP)(x:AO):Prop where
 cell:0<=x.Cell∧x.Cell<=(l.Cells.length:Int)-1
 pins:∀c,AE l.Cells x.Cell=some c->x.Nets.length=c.Pins.length
 nets:eJ x.Nets 0 ((d.Nets.length:Int)-1)
structure Mc(d:AP)(p:BG):Prop where
 dir:p.Dir=1∨p.Dir=2
 net:0<=p.Net∧p.Net<=(d.Nets.length:Int)-1
structure Cw(l:Ab)(d:AP):Prop where
 lib:Qk l
 few:d.Instances.length<=14∧d.Nets.length<=30∧d.Ports.length<=8
 inst:∀x∈d.Instances,Ke l d x
 port:∀p∈d.Ports,Mc d p
 ni:FR (d.Instances.map (·.Name))
 np:FR (d.Ports.map (·.Name))
 nn:FR d.Nets
 one:∀i,i<d.Nets.length->gd (aF d) i=1
structure Zh(d:AP):Prop where
 inst:d.Instances.length<=1048576∧∀x∈d.Instances,x.Name.size<=1048576∧x.Nets.length<=1048576
 nets:d.Nets.length<=1048576∧∀x∈d.Nets,x.size<=1048576
 ports:d.Ports.length<=1048576∧∀p∈d.Ports,p.Name.size<=1048576
theorem Ke.long{l:Ab}{d:AP}{x:AO}(v:Ke l d x)(hl:Qk l):2<=x.Nets.length∧x.Nets.length<=5:=by
 obtain⟨c,e,hc⟩:=DC (xs:=l.Cells) v.cell.1 (by have:=v.cell.2;omega)
 have h:=v.pins c e
 obtain⟨h1,h2⟩:=List.getElem?_eq_some_iff.1 hc
 have:=(hl.cells _ h1).pins.few
 rw [h2]at this;omega
theorem Ke.last{l:Ab}{d:AP}{x:AO}(v:Ke l d x)(hl:Qk l):0<=On x∧On x<d.Nets.length:=by
 have:=v.long hl
 have:=v.nets (x.Nets.length-1) (by omega)
 unfold On;omega
theorem Hq{α:Type}{xs:List α}(nm:α->ByteArray){L:Nat->List ByteArray->Int->Option Bool}{k:List ByteArray->Option Bool}(hl:xs.length<=1048576)
 (hs:∀(m i:Nat) (h:i<xs.length) (s:List ByteArray),L (m+1) s (i:Int)=Option.bind (Dj s [nm xs[i]] 16) fun z=>L m z ((i+1:Nat):Int))
 (he:∀(m:Nat) (s:List ByteArray),L (m+1) s (xs.length:Int)=k s) (m:Nat) (hm:xs.length<m):L m [] 0=k (xs.map nm):=by
 refine loop (L:=fun m i s=>L m s i) xs.length (fun i s=>s=(xs.take i).map nm) (fun o=>o=k (xs.map nm)) ?_ ?_ m 0 [] (by omega) (by omega) (by simp)
 ·intro m i s hi e
  refine .inl ⟨s++[nm xs[i]],?_,?_⟩
  ·rw [e,List.take_succ_eq_append_getElem hi,List.map_append];rfl
  ·have:s.length=i:=by rw [e];simp;omega
   show L (m+1) s (i:Int)=_
   rw [hs m i hi,CR (by simp;omega) (by omega),Au]
 ·intro m s e
  rw [List.take_length]at e
  show L (m+1) s (xs.length:Int)=_
  rw [he,e]
def Us(N B:Nat)(t:List Int):Prop:=t.length=N∧∀j,0<=gd t j∧gd t j<=B
theorem Us.bump{N B:Nat}{t:List Int}{q:Int}(h:Us N B t)(h0:0<=q)(h1:q<N):Us N (B+1) (Lc t q):=by
 refine⟨by unfold Lc;simpa using h.1,fun j=>?_⟩
 unfold Lc
 rw [SA (by have:=h.1;omega)]
 have:=h.2 j;have:=h.2 q.toNat
 split<;>omega
theorem Us.up{N B:Nat}{t:List Int}(h:Us N B t):Us N (B+1) t:=⟨h.1,fun j=>by have:=h.2 j;omega⟩
theorem Us.step{N B:Nat}{t:List Int}{q:Int}(h:Us N B t)(h0:0<=q)(h1:q<N)(hB:B<=1048576):AE t q=some (gd t q.toNat)∧t.set q.toNat (wrap .i64 (gd t q.toNat+1))=Lc t q:=by
 refine⟨TU h0 (by rw [h.1];exact h1),?_⟩
 have:=h.2 q.toNat
 rw [Aa (by omega) (by omega)];rfl
theorem LD{α σ:Type}{f:σ->α->σ}{xs:List α}{i:Nat}{s:σ}(h:i<xs.length):(xs.take (i+1)).foldl f s=f ((xs.take i).foldl f s) xs[i]:=by
 rw [List.take_succ_eq_append_getElem h,List.foldl_append];rfl
theorem Pa1{n:Nat}{l:Ab}{d:AP}(hl:Qk l)(h:Zh d)(hn:1048577<=n):BE ((∀x∈d.Instances,Ke l d x)∧∀p∈d.Ports,Mc d p) (sQ n l d):=by
 have hi0:=h.inst.1;have hp0:=h.ports.1;have hn0:=h.nets.1;have hl0:=hl.few
 have wN:wrap .i64 ((d.Nets.length:Int)-1)=(d.Nets.length:Int)-1:=Aa (by omega) (by omega)
 have wL:wrap .i64 ((l.Cells.length:Int)-1)=(l.Cells.length:Int)-1:=Aa (by omega) (by omega)
 rw [sQ]
 refine(Ec (L:=fun m i=>HQ n l d _ m i) (Q:=∀p∈d.Ports,Mc d p) d.Instances.length 0 (fun i=>∀(hi:i<d.Instances.length),Ke l d d.Instances[i]) ?_ ?_ n 0 (by omega) (by omega) (by omega) (fun j _ h=>by omega)).iff ⟨fun a=>⟨fun x hx=>?_,a.2⟩,fun a=>⟨fun i _ _ hi=>a.1 _ (List.getElem_mem hi),a.2⟩⟩
 ·intro m i _ hi
  simp only [HQ.eq_2,Cx hi,cT,AU hi,Au,GV,wL,wT i]
  by_cases c1:0<=d.Instances[i].Cell∧d.Instances[i].Cell<=(l.Cells.length:Int)-1
  ·obtain⟨c,ec,hc⟩:=DC (xs:=l.Cells) c1.1 (by omega)
   have d1:(decide (d.Instances[i].Cell>=0)&&decide (d.Instances[i].Cell<=(l.Cells.length:Int)-1))=true:=by simp only [Bool.and_eq_true,decide_eq_true_eq];omega
   simp only [d1,Bool.not_true,cF,ec,Au]
   by_cases c2:d.Instances[i].Nets.length=c.Pins.length
   ·have d2:((d.Instances[i].Nets.length:Int) !=(c.Pins.length:Int))=false:=by rw [bne_eq_false_iff_eq];omega
    simp only [d2,cF]
    have hnl:=(h.inst.2 _ (List.getElem_mem hi)).2
    have key:JL n d d.Instances[i] (fun i75=>HQ n l d (fun i25=>HH n d (fun i30=>some true) n 0) m ((i+1:Nat):Int)) n 0=cond (d.Instances[i].Nets.all (fun k=>decide (k>=0)&&decide (k<=(d.Nets.length:Int)-1))) (HQ n l d (fun i25=>HH n d (fun i30=>some true) n 0) m ((i+1:Nat):Int)) (some false):=by
     refine NE (xs:=d.Instances[i].Nets) (L:=fun q j=>JL n d d.Instances[i] (fun i75=>HQ n l d (fun i25=>HH n d (fun i30=>some true) n 0) m ((i+1:Nat):Int)) q j) _ ?_ ?_ n (by omega)
     ·intro q j hj
      simp only [JL.eq_2,Cx hj,cT,AU hj,Au,GV,wN,wT j]
      cases(decide (d.Instances[i].Nets[j]>=0)&&decide (d.Instances[i].Nets[j]<=(d.Nets.length:Int)-1))<;>rfl
     ·intro q
      simp only [JL.eq_2,DH,cF]
    rw [key]
    cases ha:d.Instances[i].Nets.all (fun k=>decide (k>=0)&&decide (k<=(d.Nets.length:Int)-1))with
    |true=>
     rw [cT]
     exact .inl ⟨fun _=>⟨c1,fun c' e'=>(by rw [ec]at e';cases e';exact c2),NR.1 ha⟩,rfl⟩
    |false=>
     rw [cF]
     exact .inr ⟨fun g=>(by have:=NR.2 (g hi).nets;rw [ha]at this;cases this),rfl⟩
   ·have d2:((d.Instances[i].Nets.length:Int) !=(c.Pins.length:Int))=true:=by rw [bne_iff_ne];omega
    simp only [d2,cT]
    exact .inr ⟨fun g=>c2 ((g hi).pins c ec),by trivial⟩
  ·have d1:(decide (d.Instances[i].Cell>=0)&&decide (d.Instances[i].Cell<=(l.Cells.length:Int)-1))=false:=by rw [Bool.and_eq_false_iff,decide_eq_false_iff_not,decide_eq_false_iff_not];omega
   simp only [d1,Bool.not_false,cT,Au]
   exact .inr ⟨fun g=>c1 (g hi).cell,by trivial⟩
 ·intro m i h1 h2 _
  obtain rfl:i=d.Instances.length:=by omega
  simp only [HQ.eq_2,DH,cF]
  refine(Ec (L:=fun m i=>HH n d _ m i) (Q:=True) d.Ports.length 0 (fun i=>∀(hi:i<d.Ports.length),Mc d d.Ports[i]) ?_ ?_ n 0 (by omega) (by omega) (by omega) (fun j _ h=>by omega)).iff ⟨fun a p hp=>?_,fun a=>⟨fun i _ _ hi=>a _ (List.getElem_mem hi),trivial⟩⟩
  ·intro m i _ hi
   simp only [HH.eq_2,Cx hi,cT,AU hi,Au,GV,wN,EX,wT i]
   cases e1:(!(decide (d.Ports[i].Dir>=1)&&decide (d.Ports[i].Dir<=2))|| !(decide (d.Ports[i].Net>=0)&&decide (d.Ports[i].Net<=(d.Nets.length:Int)-1)))with
   |true=>
    rw [cT]
    refine .inr ⟨fun g=>?_,rfl⟩
    have:=(g hi).dir;have:=(g hi).net
    simp only [Bool.or_eq_true,Bool.not_eq_true',Bool.and_eq_false_iff,decide_eq_false_iff_not]at e1;omega
   |false=>
    rw [cF]
    simp only [Bool.or_eq_false_iff,Bool.not_eq_false',Bool.and_eq_true,decide_eq_true_eq]at e1
    exact .inl ⟨fun _=>⟨by omega,by omega⟩,rfl⟩
  ·intro m i h1 h2 _
   obtain rfl:i=d.Ports.length:=by omega
   simp only [HH.eq_2,DH,cF]
   exact Cc trivial
  ·obtain⟨j,hj,rfl⟩:=List.getElem_of_mem hp
   exact a.1 j (by omega) hj hj
 ·obtain⟨j,hj,rfl⟩:=List.getElem_of_mem hx
  exact a.1 j (by omega) hj hj
theorem Dg1{n:Nat}{l:Ab}{d:AP}(h:ZW l)(hd:Zh d)(hn:1048577<=n):BE (Cw l d) (rG n l d):=by
 have hi0:=hd.inst.1;have hp0:=hd.ports.1;have hn0:=hd.nets.1
 rw [rG]
 refine(Lb1 h hn).bind (fun vl=>?_) (fun vl=>?_)
 ·simp only [Bool.not_true,Bool.false_or]
  by_cases c:(d.Instances.length<=14∧d.Nets.length<=30)∧d.Ports.length<=8
  ·have e:(decide ((d.Instances.length:Int)>14)||decide ((d.Nets.length:Int)>30)||decide ((d.Ports.length:Int)>8))=false:=by simp only [Bool.or_eq_false_iff,decide_eq_false_iff_not];omega
   simp only [e,cF]
   obtain⟨b,eb,hb⟩:=Pa1 (n:=n) vl hd hn
   rw [eb,Au,Au]
   cases b with
   |false=>
    simp only [Bool.not_false,cT]
    exact Az fun v=>by have:=hb.2 ⟨v.inst,v.port⟩;cases this
   |true=>
    obtain⟨v1,v2⟩:=hb.1 rfl
    simp only [Bool.not_true,cF]
    rw [Hq (xs:=d.Instances) (·.Name) (L:=fun m s i=>LA d _ m s i) (k:=fun s=>JT d _ n [] 0) hi0 (by
     intro m i hi s
     simp only [LA.eq_2,Cx hi,cT,AU hi,Au,wT i]) (by
     intro m s
     simp only [LA.eq_2,DH,cF];rfl) n (by omega)]
    rw [Hq (xs:=d.Ports) (·.Name) (L:=fun m s i=>JT d _ m s i) hp0 (by
     intro m i hi s
     simp only [JT.eq_2,Cx hi,cT,AU hi,Au,wT i]) (by
     intro m s
     simp only [JT.eq_2,DH,cF];rfl) n (by omega)]
    obtain⟨b1,e1,h1⟩:=jR (n:=n) (xs:=d.Instances.map (·.Name)) (by simpa using hi0) (fun x hx=>by obtain⟨y,hy,rfl⟩:=List.mem_map.1 hx;exact(hd.inst.2 y hy).1) hn
    obtain⟨b2,e2,h2⟩:=jR (n:=n) (xs:=d.Ports.map (·.Name)) (by simpa using hp0) (fun x hx=>by obtain⟨y,hy,rfl⟩:=List.mem_map.1 hx;exact hd.ports.2 y hy) hn
    obtain⟨b3,e3,h3⟩:=jR (n:=n) (xs:=d.Nets) hn0 hd.nets.2 hn
    simp only [e1,e2,e3,Au,EX]
    cases eb:((!b1|| !b2)|| !b3)with
    |true=>
     rw [cT]
     refine Az fun v=>?_
     have:=h1.2 v.ni;have:=h2.2 v.np;have:=h3.2 v.nn
     subst b1 b2 b3;cases eb
    |false=>
     rw [cF]
     simp only [Bool.or_eq_false_iff,Bool.not_eq_false']at eb
     obtain⟨⟨rfl,rfl⟩,rfl⟩:=eb
     rw [Ds (by omega) (by omega),Au]
     have k1:=Oi (xs:=d.Instances) (L:=fun m i s=>LC d (fun i149 l151=>HC d (fun i155 l157=>Fo l157 (fun i161=>some true) n 0) n 0 l151) m i s) (k:=fun s=>HC d (fun i155 l157=>Fo l157 (fun i161=>some true) n 0) n 0 s) cI (fun i s=>Us d.Nets.length i s) (by
      intro m i hi s hs
      have hv:=v1 _ (List.getElem_mem hi)
      have hv2:=hv.long vl
      obtain⟨q0,q1⟩:=hv.last vl
      obtain⟨g1,g2⟩:=hs.step q0 q1 (by omega)
      have wx:wrap .i64 ((d.Instances[i].Nets.length:Int)-1)=((d.Instances[i].Nets.length-1:Nat):Int):=by rw [Aa (by omega) (by omega)];omega
      refine⟨?_,hs.bump q0 q1⟩
      simp only [LC.eq_2,Cx hi,cT,AU hi,Au,wx,gI (show d.Instances[i].Nets.length-1<d.Instances[i].Nets.length by omega),wT i]
      rw [show gd d.Instances[i].Nets (d.Instances[i].Nets.length-1)=On d.Instances[i]from rfl,g1,Au,Au,g2];rfl) (by
      intro m s _
      simp only [LC.eq_2,DH,cF]) n (List.replicate d.Nets.length 0) ⟨by simp,fun j=>by rw [PR];omega⟩ (by omega)
     rw [k1.1]
     have k2:=Oi (xs:=d.Ports) (L:=fun m i s=>HC d (fun i155 l157=>Fo l157 (fun i161=>some true) n 0) m i s) (k:=fun s=>Fo s (fun i161=>some true) n 0) cP (fun i s=>Us d.Nets.length (d.Instances.length+i) s) (by
      intro m i hi s hs
      have hv:=v2 _ (List.getElem_mem hi)
      obtain⟨g1,g2⟩:=hs.step hv.net.1 (by have:=hv.net.2;omega) (by omega)
      simp only [HC.eq_2,Cx hi,cT,AU hi,Au,wT i,g1,g2]
      by_cases c:d.Ports[i].Dir=1
      ·have e:(d.Ports[i].Dir==1)=true:=beq_iff_eq.2 c
       have e':cP s d.Ports[i]=Lc s d.Ports[i].Net:=if_pos c
       rw [e,cT,e']
       exact⟨rfl,hs.bump hv.net.1 (by have:=hv.net.2;omega)⟩
      ·have e:(d.Ports[i].Dir==1)=false:=beq_eq_false_iff_ne.2 c
       have e':cP s d.Ports[i]=s:=if_neg c
       rw [e,cF,e']
       exact⟨rfl,hs.up⟩) (by
      intro m s _
      simp only [HC.eq_2,DH,cF]) n _ k1.2 (by omega)
     rw [k2.1]
     show BE _ (Fo (aF d) (fun i161=>some true) n 0)
     have hlen:(aF d).length=d.Nets.length:=k2.2.1
     refine(Ec (L:=fun m i=>Fo (aF d) (fun i161=>some true) m i) (Q:=True) d.Nets.length 0 (fun i=>gd (aF d) i=1) ?_ ?_ n 0 (by omega) (by omega) (by omega) (fun j _ h=>by omega)).iff ⟨fun a=>⟨vl,⟨c.1.1,c.1.2,c.2⟩,v1,v2,h1.1 rfl,h2.1 rfl,h3.1 rfl,fun i hi=>a.1 i (by omega) hi⟩,fun v=>⟨fun i _ hi=>v.one i hi,trivial⟩⟩
     ·intro m i _ hi
      have hi':i<(aF d).length:=by omega
      simp only [Fo.eq_2,Cx hi',cT,gI hi',Au,wT i]
      by_cases c:gd (aF d) i=1
      ·have e:(gd (aF d) i !=1)=false:=bne_eq_false_iff_eq.2 c
       rw [e,cF];exact .inl ⟨c,rfl⟩
      ·have e:(gd (aF d) i !=1)=true:=bne_iff_ne.2 c
       rw [e,cT];exact .inr ⟨c,rfl⟩
     ·intro m i q1 q2 _
      obtain rfl:i=d.Nets.length:=by omega
      rw [←hlen]
      simp only [Fo.eq_2,DH,cF]
      exact Cc trivial
  ·have e:(decide ((d.Instances.length:Int)>14)||decide ((d.Nets.length:Int)>30)||decide ((d.Ports.length:Int)>8))=true:=by simp only [Bool.or_eq_true,decide_eq_true_eq];omega
   simp only [e,cT,Au]
   exact Az fun v=>c ⟨⟨v.few.1,v.few.2.1⟩,v.few.2.2⟩
 ·simp only [Bool.not_false,Bool.true_or,cT,Au]
  exact Az fun v=>vl v.lib
theorem Hn2{n:Nat}{d:AP}(hd:Zh d)(hn:1048577<=n):BE (((((d.Instances.length<=14∧d.Nets.length<=30)∧d.Ports.length<=8)∧FR (d.Instances.map (·.Name)))∧FR d.Nets)∧FR (d.Ports.map (·.Name))) (tY n d):=by
 have hi0:=hd.inst.1;have hp0:=hd.ports.1;have hn0:=hd.nets.1
 rw [tY]
 rw [Hq (xs:=d.Instances) (·.Name) (L:=fun m s i=>LO d _ m s i) (k:=fun s=>JY d _ n [] 0) hi0 (by
  intro m i hi s
  simp only [LO.eq_2,Cx hi,cT,AU hi,Au,wT i]) (by
  intro m s
  simp only [LO.eq_2,DH,cF];rfl) n (by omega)]
 rw [Hq (xs:=d.Ports) (·.Name) (L:=fun m s i=>JY d _ m s i) hp0 (by
  intro m i hi s
  simp only [JY.eq_2,Cx hi,cT,AU hi,Au,wT i]) (by
  intro m s
  simp only [JY.eq_2,DH,cF];rfl) n (by omega)]
 simp only [Nl,List.length_map]
 refine BE.ab (BE.and (P:=(d.Instances.length<=14∧d.Nets.length<=30)∧d.Ports.length<=8) (Q:=FR (d.Instances.map fun x:AO=>x.Name)) ?_ fun _=>AN (xs:=d.Instances.map fun x:AO=>x.Name) (by simpa using hi0) (fun x hx=>by obtain⟨y,hy,rfl⟩:=List.mem_map.1 hx;exact(hd.inst.2 y hy).1) hn) fun c1 e1=>?_
 ·simp only [Bool.and_eq_true,decide_eq_true_eq];omega
 refine BE.ab (BE.and (Q:=FR d.Nets) e1 fun _=>AN hn0 hd.nets.2 hn) fun c2 e2=>?_
 exact BE.and (Q:=FR (d.Ports.map fun x:BG=>x.Name)) e2 fun _=>AN (xs:=d.Ports.map fun x:BG=>x.Name) (by simpa using hp0) (fun x hx=>by obtain⟨y,hy,rfl⟩:=List.mem_map.1 hx;exact hd.ports.2 y hy) hn
theorem nN{n:Nat}{d:AP}{q:Int}(hn0:d.Nets.length<=1048576):Ur n d q=some (decide (q>=0)&&decide (q<=(d.Nets.length:Int)-1)):=by
 have wN:wrap .i64 ((d.Nets.length:Int)-1)=(d.Nets.length:Int)-1:=Aa (by omega) (by omega)
 simp only [Ur,aN,Ij,Au,wN]
theorem AcN{n:Nat}{l:Ab}{d:AP}{x:AO}(hl:Qk l)(hn0:d.Nets.length<=1048576)(hx:x.Nets.length<=1048576)(hn:1048577<=n):BE (Ke l d x) (Yt n d l x):=by
 have hl0:=hl.few
 have wL:wrap .i64 ((l.Cells.length:Int)-1)=(l.Cells.length:Int)-1:=Aa (by omega) (by omega)
 rw [Yt]
 simp only [cE,Ij,Au,wL,Nl]
 by_cases c1:0<=x.Cell∧x.Cell<=(l.Cells.length:Int)-1
 ·obtain⟨c,ec,hc⟩:=DC (xs:=l.Cells) c1.1 (by omega)
  have d1:(decide (x.Cell>=0)&&decide (x.Cell<=(l.Cells.length:Int)-1))=true:=by simp only [Bool.and_eq_true,decide_eq_true_eq];omega
  simp only [d1,cT,ec,Au]
  by_cases c2:x.Nets.length=c.Pins.length
  ·have d2:((x.Nets.length:Int)==(c.Pins.length:Int))=true:=by rw [beq_iff_eq];omega
   simp only [d2,cT,dQ,bK]
   obtain⟨r,e,h⟩:=Jm (xs:=x.Nets) (L:=fun m i=>Hi n x.Nets d (fun i7=>(some (-1))) m i) (fun q=>!((decide (q>=0))&&(decide (q<=(d.Nets.length:Int)-1)))) (by
    intro m i hi
    simp only [Hi.eq_2,Cx hi,cT,AU hi,Au,dK,nN hn0,wT i]) (by
    intro m
    simp only [Hi.eq_2,DH,cF]) n (by omega)
   simp only [e,Au]
   refine(BI (P:=eJ x.Nets 0 ((d.Nets.length:Int)-1)) ?_).iff ⟨fun w=>⟨c1,fun c' e'=>(by rw [ec]at e';cases e';exact c2),w⟩,fun v=>v.nets⟩
   rw [h,List.any_eq_not_all_not,Bool.not_not]
   simp only [Bool.not_not]
   exact NR
  ·have d2:((x.Nets.length:Int)==(c.Pins.length:Int))=false:=by rw [beq_eq_false_iff_ne];omega
   simp only [d2,cF]
   exact Az fun v=>c2 (v.pins c ec)
 ·have d1:(decide (x.Cell>=0)&&decide (x.Cell<=(l.Cells.length:Int)-1))=false:=by rw [Bool.and_eq_false_iff,decide_eq_false_iff_not,decide_eq_false_iff_not];omega
  simp only [d1,cF,Au]
  exact Az fun v=>c1 v.cell
theorem Dg2{n:Nat}{l:Ab}{d:AP}(h:ZW l)(hd:Zh d)(hn:1048577<=n):BE (Cw l d) (pS n l d):=by
 have hi0:=hd.inst.1;have hp0:=hd.ports.1;have hn0:=hd.nets.1
 rw [pS]
 refine(Lb2 h hn).bind (fun vl=>?_) (fun vl=>?_)
 ·simp only [Bool.not_true,cF]
  obtain⟨b,eb,hb⟩:=Hn2 (n:=n) hd hn
  rw [eb,Au,Au]
  cases b with
  |false=>
   simp only [Bool.not_false,cT]
   exact Az fun v=>by have:=hb.2 ⟨⟨⟨⟨⟨v.few.1,v.few.2.1⟩,v.few.2.2⟩,v.ni⟩,v.nn⟩,v.np⟩;cases this
  |true=>
   obtain⟨⟨⟨c,hni⟩,hnn⟩,hnp⟩:=hb.1 rfl
   simp only [Bool.not_true,cF]
   rw [Ds (by omega) (by omega),Au]
   refine loop (L:=fun m i s=>LN n l d _ m i s) d.Instances.length (fun i s=>(s=(d.Instances.take i).foldl cI (List.replicate d.Nets.length 0)∧Us d.Nets.length i s)∧∀j (hj:j<d.Instances.length),j<i->Ke l d d.Instances[j]) (fun o=>BE (Cw l d) o) ?_ ?_ n 0 _ (by omega) (by omega) ⟨⟨by simp,⟨by simp,fun j=>by rw [PR];omega⟩⟩,fun j _ h=>by omega⟩
   ·intro m i s hi ⟨⟨hs,hc⟩,hI⟩
    obtain⟨b,eb,hb⟩:=AcN (n:=n) vl hn0 (hd.inst.2 _ (List.getElem_mem hi)).2 hn
    simp only [LN.eq_2,Cx hi,cT,AU hi,Au,eb,wT i]
    cases b with
    |false=>
     simp only [Bool.not_false,cT]
     exact .inr (Az fun v=>by have:=hb.2 (v.inst _ (List.getElem_mem hi));cases this)
    |true=>
     simp only [Bool.not_true,cF]
     have hv:=hb.1 rfl
     have hv2:=hv.long vl
     obtain⟨q0,q1⟩:=hv.last vl
     obtain⟨g1,g2⟩:=hc.step q0 q1 (by omega)
     have wx:wrap .i64 ((d.Instances[i].Nets.length:Int)-1)=((d.Instances[i].Nets.length-1:Nat):Int):=by rw [Aa (by omega) (by omega)];omega
     refine .inl ⟨cI s d.Instances[i],⟨⟨by rw [LD hi,hs],hc.bump q0 q1⟩,fun j hj hji=>?_⟩,?_⟩
     ·by_cases ej:j=i
      ·subst ej;exact hv
      ·exact hI j hj (by omega)
     ·rw [wx,gI (show d.Instances[i].Nets.length-1<d.Instances[i].Nets.length by omega),show gd d.Instances[i].Nets (d.Instances[i].Nets.length-1)=On d.Instances[i]from rfl,Au,g1,Au,Au,g2];rfl
   ·intro m s ⟨⟨hs,hc⟩,hI⟩
    rw [List.take_length]at hs
    have v1:∀x∈d.Instances,Ke l d x:=fun x hx=>by obtain⟨j,hj,rfl⟩:=List.getElem_of_mem hx;exact hI j hj hj
    simp only [LN.eq_2,DH,cF]
    refine loop (L:=fun m i s=>Jj n d _ m i s) d.Ports.length (fun i s'=>(s'=(d.Ports.take i).foldl cP s∧Us d.Nets.length (d.Instances.length+i) s')∧∀j (hj:j<d.Ports.length),j<i->Mc d d.Ports[j]) (fun o=>BE (Cw l d) o) ?_ ?_ n 0 _ (by omega) (by omega) ⟨⟨by simp,hc⟩,fun j _ h=>by omega⟩
    ·intro m i s' hi ⟨⟨hs',hc'⟩,hI'⟩
     simp only [Jj.eq_2,Cx hi,cT,AU hi,Au,nN hn0,EX,wT i]
     cases e1:(((d.Ports[i].Dir !=1)&&(d.Ports[i].Dir !=2))|| !(decide (d.Ports[i].Net>=0)&&decide (d.Ports[i].Net<=(d.Nets.length:Int)-1)))with
     |true=>
      rw [cT]
      refine .inr (Az fun v=>?_)
      have g:=v.port _ (List.getElem_mem hi)
      have:=g.dir;have:=g.net
      simp only [Bool.or_eq_true,Bool.not_eq_true',Bool.and_eq_false_iff,Bool.and_eq_true,decide_eq_false_iff_not,bne_iff_ne,ne_eq]at e1;omega
     |false=>
      rw [cF]
      simp only [Bool.or_eq_false_iff,Bool.not_eq_false',Bool.and_eq_true,Bool.and_eq_false_iff,decide_eq_true_eq,bne_eq_false_iff_eq]at e1
      have hv:Mc d d.Ports[i]:=⟨e1.1,e1.2⟩
      obtain⟨g1,g2⟩:=hc'.step hv.net.1 (by have:=hv.net.2;omega) (by omega)
      have hV:∀j (hj:j<d.Ports.length),j<i+1->Mc d d.Ports[j]:=fun j hj hji=>by
       by_cases ej:j=i
       ·subst ej;exact hv
       ·exact hI' j hj (by omega)
      simp only [g1,g2,Au]
      by_cases c:d.Ports[i].Dir=1
      ·have e:(d.Ports[i].Dir==1)=true:=beq_iff_eq.2 c
       have e':cP s' d.Ports[i]=Lc s' d.Ports[i].Net:=if_pos c
       rw [e,cT]
       exact .inl ⟨_,⟨⟨by rw [LD hi,←hs',e'],hc'.bump hv.net.1 (by have:=hv.net.2;omega)⟩,hV⟩,rfl⟩
      ·have e:(d.Ports[i].Dir==1)=false:=beq_eq_false_iff_ne.2 c
       have e':cP s' d.Ports[i]=s':=if_neg c
       rw [e,cF]
       exact .inl ⟨_,⟨⟨by rw [LD hi,←hs',e'],hc'.up⟩,hV⟩,rfl⟩
    ·intro m s' ⟨⟨hs',hc'⟩,hI'⟩
     rw [List.take_length,hs]at hs'
     have hs':s'=aF d:=hs'
     have v2:∀p∈d.Ports,Mc d p:=fun x hx=>by obtain⟨j,hj,rfl⟩:=List.getElem_of_mem hx;exact hI' j hj hj
     simp only [Jj.eq_2,DH,cF,dV,cU]
     have hl':=hc'.1
     obtain⟨r,e,h⟩:=Jm (xs:=s') (L:=fun m i=>IR n s' (fun i7=>(some (-1))) m i) (fun q=>q !=1) (by
      intro m i hi
      simp only [IR.eq_2,Cx hi,cT,AU hi,Au,aT,wT i]) (by
      intro m
      simp only [IR.eq_2,DH,cF]) n (by omega)
     simp only [e,Au]
     refine BI ?_
     rw [h,Bool.not_eq_true',List.any_eq_false]
     refine⟨fun a=>⟨vl,⟨c.1.1,c.1.2,c.2⟩,v1,v2,hni,hnp,hnn,fun i hi=>?_⟩,fun v x hx=>?_⟩
     ·have:=a s'[i] (List.getElem_mem (by omega))
      rw [←hs',MS (List.getElem?_eq_getElem (show i<s'.length by omega))]
      simpa using this
     ·obtain⟨j,hj,rfl⟩:=List.getElem_of_mem hx
      have:=v.one j (by omega)
      rw [←hs',MS (List.getElem?_eq_getElem hj)]at this
      simp [this]
 ·simp only [Bool.not_false,cT,Au]
  exact Az fun v=>vl v.lib
def GB{α β:Type}(g:Nat->α->List β):Nat->List α->List β
 |_,[]=>[]
 |i,x::xs=>g i x++GB g (i+1) xs
theorem LB{α β:Type}{g:Nat->α->List β}:∀(xs ys:List α) (i:Nat),GB g i (xs++ys)=GB g i xs++GB g (i+xs.length) ys
 |[],ys,i=>by simp [GB]
 |x::xs,ys,i=>by simp only [List.cons_append,GB,LB xs ys (i+1),List.append_assoc,List.length_cons];rw [show i+1+xs.length=i+(xs.length+1) by omega]
theorem YO{α β:Type}{g:Nat->α->List β}{xs:List α}{i:Nat}(h:i<xs.length):GB g 0 (xs.take (i+1))=GB g 0 (xs.take i)++g i xs[i]:=by
 rw [List.take_succ_eq_append_getElem h,LB]
 simp [GB,Nat.min_eq_left (Nat.le_of_lt h)]
theorem Fv{α β:Type}{g:Nat->α->List β}{c:Nat}:∀(xs:List α) (i:Nat),(∀j,∀x∈xs,(g j x).length<=c)->(GB g i xs).length<=xs.length*c
 |[],i,_=>by simp [GB]
 |x::xs,i,h=>by
  have h1:=h i x (by simp)
  have h2:=Fv xs (i+1) fun j y hy=>h j y (by simp [hy])
  simp only [GB,List.length_append,List.length_cons,Nat.add_mul];omega
theorem Hm{α β γ:Type}{g:Nat->α->List β}(f:β->γ):∀(xs:List α) (i:Nat),(GB g i xs).map f=GB (fun i x=>(g i x).map f) i xs
 |[],i=>rfl
 |x::xs,i=>by simp only [GB,List.map_append,Hm f xs (i+1)]
theorem Dg{α β R:Type}{xs:List α}{L:Nat->List β->Int->Option R}{k:List β->Option R}(g:Nat->α->List β)(c B:Nat)(hg:∀j,∀x∈xs,(g j x).length<=c)(hB:B+xs.length*c<=1048576)
 (hs:∀(m i:Nat) (h:i<xs.length) (s:List β),s.length+c<=1048576->L (m+1) s (i:Int)=L m (s++g i xs[i]) ((i+1:Nat):Int))
 (he:∀(m:Nat) (s:List β),L (m+1) s (xs.length:Int)=k s) (m:Nat) (hm:xs.length<m) (s0:List β) (h0:s0.length<=B):L m s0 0=k (s0++GB g 0 xs):=by
 refine loop (L:=fun m i s=>L m s i) xs.length (fun i s=>s=s0++GB g 0 (xs.take i)) (fun o=>o=k (s0++GB g 0 xs)) ?_ ?_ m 0 s0 (by omega) (by omega) (by simp [GB])
 ·intro m i s hi e
  refine .inl ⟨s++g i xs[i],?_,hs m i hi s ?_⟩
  ·rw [e,YO hi,List.append_assoc]
  ·have h1:=Fv (g:=g) (c:=c) (xs.take i) 0 fun j y hy=>hg j y (List.mem_of_mem_take hy)
   have h2:(xs.take i).length=i:=by simp;omega
   rw [h2]at h1
   have h3:(i+1)*c<=xs.length*c:=Nat.mul_le_mul_right c hi
   rw [Nat.add_mul]at h3
   rw [e,List.length_append];omega
 ·intro m s e
  rw [List.take_length]at e
  show L (m+1) s (xs.length:Int)=_
  rw [he,e]
def Mo(i:Nat)(x:AO):List Ak:=GB (fun j q=>[Ak.mk i j q ((j:Int)==(x.Nets.length:Int)-1)]) 0 x.Nets
def aG(i:Nat)(p:BG):List Ak:=[Ak.mk (-1) i p.Net (p.Dir==1)]
def Dt(d:AP):List Ak:=GB Mo 0 d.Instances++GB aG 0 d.Ports
def Oa(p:Ak):Ay:=⟨p.instance_,p.pin_,p.net_,p.drives_⟩
theorem Mp{i:Nat}{x:AO}(h:x.Nets.length<=5):(Mo i x).length<=5:=by
 have:=Fv (c:=1) (g:=fun j q=>[Ak.mk i j q ((j:Int)==(x.Nets.length:Int)-1)]) x.Nets 0 fun j q _=>by simp
 unfold Mo;omega
theorem Dy{d:AP}(h:∀x∈d.Instances,x.Nets.length<=5)(h1:d.Instances.length<=14)(h2:d.Ports.length<=8):(Dt d).length<=78:=by
 have a:=Fv (c:=5) (g:=Mo) d.Instances 0 fun j q hq=>Mp (h q hq)
 have b:=Fv (c:=1) (g:=aG) d.Ports 0 fun j q _=>by simp [aG]
 unfold Dt;rw [List.length_append];omega
theorem ZI{n:Nat}{d:AP}(h:∀x∈d.Instances,x.Nets.length<=5)(h1:d.Instances.length<=14)(h2:d.Ports.length<=8)(hn:1048577<=n):bX n d=some (Dt d):=by
 rw [bX]
 have a:=Fv (c:=5) (g:=Mo) d.Instances 0 fun j q hq=>Mp (h q hq)
 rw [Dg (xs:=d.Instances) (L:=fun m s i=>JR n d _ m s i) (k:=fun s=>JH d _ n s 0) Mo 5 0 (fun j q hq=>Mp (h q hq)) (by omega) (by
  intro m i hi s hs
  have hx:=h _ (List.getElem_mem hi)
  have wx:wrap .i64 ((d.Instances[i].Nets.length:Int)-1)=(d.Instances[i].Nets.length:Int)-1:=Aa (by omega) (by omega)
  simp only [JR.eq_2,Cx hi,cT,AU hi,Au,wT i]
  refine Dg (xs:=d.Instances[i].Nets) (L:=fun m s j=>LQ (i:Int) d.Instances[i] _ m s j) (k:=fun s=>JR n d _ m s ((i+1:Nat):Int)) (fun j q=>[Ak.mk i j q ((j:Int)==(d.Instances[i].Nets.length:Int)-1)]) 1 s.length (fun j q _=>by simp) (by omega) ?_ ?_ n (by omega) s (by omega)
  ·intro m j hj s hs
   simp only [LQ.eq_2,Cx hj,cT,AU hj,Au,wx,wT j]
   rw [CR (by simp;omega) (by omega),Au]
  ·intro m s
   simp only [LQ.eq_2,DH,cF]) (by
  intro m s
  simp only [JR.eq_2,DH,cF];rfl) n (by omega) [] (by simp)]
 rw [Dg (xs:=d.Ports) (L:=fun m s i=>JH d _ m s i) (k:=fun s=>some s) aG 1 70 (fun j q _=>by simp [aG]) (by omega) (by
  intro m i hi s hs
  simp only [JH.eq_2,Cx hi,cT,AU hi,Au,wT i]
  rw [CR (by simp;omega) (by omega),Au];rfl) (by
  intro m s
  simp only [JH.eq_2,DH,cF]) n (by omega) _ (by simp;omega)]
 simp [Dt]
theorem nW{n:Nat}{d:AP}(h:∀x∈d.Instances,x.Nets.length<=5)(h1:d.Instances.length<=14)(h2:d.Ports.length<=8)(hn:1048577<=n):kY n d=some ((Dt d).map Oa):=by
 rw [kY]
 have hlI:∀j,∀x∈d.Instances,((Mo j x).map Oa).length<=5:=fun j x hx=>by rw [List.length_map];exact Mp (h x hx)
 have a:=Fv (c:=5) (g:=fun i x=>(Mo i x).map Oa) d.Instances 0 hlI
 rw [Dg (xs:=d.Instances) (L:=fun m s i=>Jb n d _ m s i) (k:=fun s=>Jh d _ n s 0) (fun i x=>(Mo i x).map Oa) 5 0 hlI (by omega) (by
  intro m i hi s hs
  have hx:=h _ (List.getElem_mem hi)
  have wx:wrap .i64 ((d.Instances[i].Nets.length:Int)-1)=(d.Instances[i].Nets.length:Int)-1:=Aa (by omega) (by omega)
  simp only [Jb.eq_2,Cx hi,cT,AU hi,Au,wT i]
  rw [Mo,Hm]
  refine Dg (xs:=d.Instances[i].Nets) (L:=fun m s j=>LK (i:Int) d.Instances[i] _ m s j) (k:=fun s=>Jb n d _ m s ((i+1:Nat):Int)) (fun j q=>[Ak.mk i j q ((j:Int)==(d.Instances[i].Nets.length:Int)-1)].map Oa) 1 s.length (fun j q _=>by simp) (by omega) ?_ ?_ n (by omega) s (by omega)
  ·intro m j hj s hs
   simp only [LK.eq_2,Cx hj,cT,AU hj,Au,wx,wT j]
   rw [CR (by simp;omega) (by omega),Au];rfl
  ·intro m s
   simp only [LK.eq_2,DH,cF]) (by
  intro m s
  simp only [Jb.eq_2,DH,cF];rfl) n (by omega) [] (by simp)]
 rw [Dg (xs:=d.Ports) (L:=fun m s i=>Jh d _ m s i) (k:=fun s=>some s) (fun i x=>(aG i x).map Oa) 1 70 (fun j q _=>by simp [aG]) (by omega) (by
  intro m i hi s hs
  simp only [Jh.eq_2,Cx hi,cT,AU hi,Au,wT i]
  rw [CR (by simp;omega) (by omega),Au];rfl) (by
  intro m s
  simp only [Jh.eq_2,DH,cF]) n (by omega) _ (by simp;omega)]
 simp [Dt,Hm]
def It(q:Int)(p:Ak):Bool:=p.net_==q&& !p.drives_
def dP(d:AP)(q:Int):Nat:=(Dt d).countP (It q)
structure Ce(b:AQ):Prop where
 design:Cw b.Library b.Design
 many:b.Wires.length=b.Design.Nets.length
 wire:∀i (h:i<b.Wires.length),QP b.Wires[i] (dP b.Design i)
def SMW(w:Ar):Prop:=((w.Parent.length<=1048576∧w.Res.length<=1048576)∧w.Cap.length<=1048576)∧w.Sink.length<=1048576
structure ZO(b:AQ):Prop where
 lib:ZW b.Library
 design:Zh b.Design
 wires:b.Wires.length<=1048576∧∀w∈b.Wires,SMW w
theorem Cw.short{l:Ab}{d:AP}(v:Cw l d):∀x∈d.Instances,x.Nets.length<=5:=fun x hx=>((v.inst x hx).long v.lib).2
theorem ES{α β:Type}{g:Nat->α->List β}{Q:β->Prop}:∀(xs:List α) (i:Nat),(∀j (h:j<xs.length),∀y∈g (i+j) xs[j],Q y)->∀y∈GB g i xs,Q y
 |[],i,_,y,hy=>by simp [GB]at hy
 |x::xs,i,h,y,hy=>by
  simp only [GB,List.mem_append]at hy
  rcases hy with hy|hy
  ·exact h 0 (by simp) y (by simpa using hy)
  ·refine ES xs (i+1) (fun j hj y hy=>h (j+1) (by simpa using hj) y ?_) y hy
   simpa [show i+1+j=i+(j+1) by omega] using hy
theorem Cw.net{l:Ab}{d:AP}(v:Cw l d):∀p∈Dt d,0<=p.net_∧p.net_<d.Nets.length:=by
 intro p hp
 simp only [Dt,List.mem_append]at hp
 rcases hp with hp|hp
 ·refine ES (Q:=fun p:Ak=>0<=p.net_∧p.net_<d.Nets.length) d.Instances 0 (fun j hj y hy=>?_) p hp
  refine ES (Q:=fun p:Ak=>0<=p.net_∧p.net_<d.Nets.length) _ 0 (fun k hk z hz=>?_) y hy
  have:=(v.inst _ (List.getElem_mem hj)).nets k hk
  rw [MS (List.getElem?_eq_getElem hk)]at this
  simp only [List.mem_singleton]at hz
  subst hz;show 0<=d.Instances[j].Nets[k]∧d.Instances[j].Nets[k]<_;omega
 ·refine ES (Q:=fun p:Ak=>0<=p.net_∧p.net_<d.Nets.length) d.Ports 0 (fun j hj y hy=>?_) p hp
  have:=(v.port _ (List.getElem_mem hj)).net
  simp only [aG,List.mem_singleton]at hy
  subst hy;show 0<=d.Ports[j].Net∧d.Ports[j].Net<_;omega
def Rr(d:AP)(q:Int):List Int:=GB (fun i p=>if It q p=true then [(i:Int)]else []) 0 (Dt d)
theorem Nc{d:AP}{q:Int}:(Rr d q).length=dP d q:=by
 have:∀(xs:List Ak) (i:Nat),(GB (fun i p=>if It q p=true then [(i:Int)]else []) i xs).length=xs.countP (It q):=by
  intro xs
  induction xs with
  |nil=>intro i;rfl
  |cons x xs ih=>
   intro i
   simp only [GB,List.length_append,ih,List.countP_cons]
   split<;>simp<;>omega
 exact this _ 0
theorem xO{n:Nat}{l:Ab}{d:AP}(v:Cw l d)(q:Int)(hn:1048577<=n):Wm n d q=some (Rr d q):=by
 rw [Wm,nW v.short v.few.1 v.few.2.2 hn,Au]
 have hl:=Dy v.short v.few.1 v.few.2.2
 have e:((Dt d).map Oa).length=(Dt d).length:=by simp
 have:=Dg (xs:=(Dt d).map Oa) (L:=fun m s i=>Gw q ((Dt d).map Oa) (fun l38 i42=>some l38) m s i) (k:=fun s=>some s) (fun i p=>if (p.net_==q&& !p.drives_)=true then [(i:Int)]else []) 1 0 (fun j p _=>by split<;>simp) (by omega) (by
  intro m i hi s hs
  simp only [Gw.eq_2,Cx hi,cT,AU hi,Au,CQ,wT i]
  cases c:(((Dt d).map Oa)[i].net_==q&& !((Dt d).map Oa)[i].drives_)with
  |true=>rw [cT,if_pos rfl,CR (by simp;omega) (by omega),Au]
  |false=>rw [cF,if_neg (by simp),List.append_nil]) (by
  intro m s
  simp only [Gw.eq_2,DH,cF]) n (by omega) [] (by simp)
 rw [this,List.nil_append]
 congr 1
 have:∀(xs:List Ak) (i:Nat),GB (fun i (p:Ay)=>if (p.net_==q&& !p.drives_)=true then [(i:Int)]else []) i (xs.map Oa)=GB (fun i p=>if It q p=true then [(i:Int)]else []) i xs:=by
  intro xs
  induction xs with
  |nil=>intro i;rfl
  |cons x xs ih=>intro i;simp only [List.map_cons,GB,ih];rfl
 exact this _ 0
theorem Bk1{n:Nat}{b:AQ}(h:ZO b)(hn:1048577<=n):BE (Ce b) (YT n b):=by
 have hw0:=h.wires.1
 rw [YT]
 refine(Dg1 h.lib h.design hn).bind (fun v=>?_) (fun v=>?_)
 ·simp only [Bool.not_true,Bool.false_or]
  refine FL (fun c=>Az fun g=>?_) (fun c=>?_)
  ·have:=g.many;rw [bne_iff_ne]at c;omega
  ·rw [bne_eq_false_iff_eq]at c
   refine(Ec (L:=fun m i=>Hg n b _ m i) (Q:=True) b.Wires.length 0 (fun i=>∀(hi:i<b.Wires.length),QP b.Wires[i] (dP b.Design i)) ?_ ?_ n 0 (by omega) (by omega) (by omega) (fun j _ h=>by omega)).iff ⟨fun a=>⟨v,by omega,fun i hi=>a.1 i (by omega) hi hi⟩,fun a=>⟨fun i _ _ hi=>a.wire i hi,trivial⟩⟩
   ·intro m i _ hi
    obtain⟨r,e,hr⟩:=Wr1 (n:=n) (w:=b.Wires[i]) (s:=(dP b.Design i:Int)) (h.wires.2 _ (List.getElem_mem hi)).2 hn
    simp only [Hg.eq_2,Cx hi,cT,AU hi,Au,xO v _ hn,Nc,e,wT i]
    cases r with
    |true=>exact .inl ⟨fun _=>hr.1 rfl,by trivial⟩
    |false=>exact .inr ⟨fun g=>(by have:=hr.2 (g hi);cases this),by trivial⟩
   ·intro m i h1 h2 _
    obtain rfl:i=b.Wires.length:=by omega
    simp only [Hg.eq_2,DH,cF]
    exact Cc trivial
 ·simp only [Bool.not_false,Bool.true_or,cT]
  exact Az fun g=>v g.design
theorem Bk2{n:Nat}{b:AQ}(h:ZO b)(hn:1048577<=n):BE (Ce b) (uU n b):=by
 have hw0:=h.wires.1
 rw [uU]
 refine(Dg2 h.lib h.design hn).bind (fun v=>?_) (fun v=>?_)
 ·simp only [Bool.not_true,Bool.false_or]
  refine FL (fun c=>Az fun g=>?_) (fun c=>?_)
  ·have:=g.many;rw [bne_iff_ne]at c;omega
  ·rw [bne_eq_false_iff_eq]at c
   have hl:=Dy v.short v.few.1 v.few.2.2
   rw [Ds (by omega) (by omega),Au,ZI v.short v.few.1 v.few.2.2 hn,Au]
   refine loop (L:=fun m i s=>JK (Dt b.Design) _ m i s) (Dt b.Design).length (fun i s=>Us b.Wires.length i s∧∀q:Nat,q<b.Wires.length->gd s q=((Dt b.Design).take i).countP (It q)) (fun o=>BE (Ce b) o) ?_ ?_ n 0 _ (by omega) (by omega) ⟨⟨by simp,fun j=>by rw [PR];omega⟩,fun q _=>by rw [PR];simp⟩
   ·intro m i s hi ⟨hc,hs⟩
    have hp:=v.net _ (List.getElem_mem hi)
    obtain⟨g1,g2⟩:=hc.step hp.1 (by omega) (by omega)
    simp only [JK.eq_2,Cx hi,cT,AU hi,Au,g1,g2,wT i]
    cases hd:(Dt b.Design)[i].drives_ with
    |true=>
     simp only [Bool.not_true,cF]
     refine .inl ⟨s,⟨hc.up,fun q hq=>?_⟩,rfl⟩
     rw [hs q hq,List.take_succ_eq_append_getElem hi,List.countP_append]
     simp [It,hd]
    |false=>
     simp only [Bool.not_false,cT]
     refine .inl ⟨_,⟨hc.bump hp.1 (by omega),fun q hq=>?_⟩,rfl⟩
     rw [List.take_succ_eq_append_getElem hi,List.countP_append]
     unfold Lc
     rw [SA (by have:=hc.1;omega)]
     by_cases e:(Dt b.Design)[i].net_.toNat=q
     ·have e2:(Dt b.Design)[i].net_=(q:Int):=by omega
      rw [if_pos e,e,hs q hq]
      simp [It,hd,e2]
     ·have e2:¬(Dt b.Design)[i].net_=(q:Int):=by omega
      rw [if_neg e,hs q hq]
      simp [It,hd,e2]
   ·intro m s ⟨hc,hs⟩
    simp only [JK.eq_2,DH,cF]
    refine(Ec (L:=fun m i=>LP n b s _ m i) (Q:=True) b.Wires.length 0 (fun i=>∀(hi:i<b.Wires.length),QP b.Wires[i] (dP b.Design i)) ?_ ?_ n 0 (by omega) (by omega) (by omega) (fun j _ h=>by omega)).iff ⟨fun a=>⟨v,by omega,fun i hi=>a.1 i (by omega) hi hi⟩,fun a=>⟨fun i _ _ hi=>a.wire i hi,trivial⟩⟩
    ·intro m i _ hi
     have hw:=h.wires.2 _ (List.getElem_mem hi)
     obtain⟨r,e,hr⟩:=Wr2 (n:=n) (w:=b.Wires[i]) (s:=(dP b.Design i:Int)) hw.2 hw.1.1.2 hw.1.2 hw.1.1.1 hn
     have hg:gd s i=(dP b.Design i:Int):=by rw [hs i hi,List.take_length];rfl
     simp only [LP.eq_2,Cx hi,cT,AU hi,gI (show i<s.length by rw [hc.1];exact hi),hg,Au,e,wT i]
     cases r with
     |true=>exact .inl ⟨fun _=>hr.1 rfl,by trivial⟩
     |false=>exact .inr ⟨fun g=>(by have:=hr.2 (g hi);cases this),by trivial⟩
    ·intro m i h1 h2 _
     obtain rfl:i=b.Wires.length:=by omega
     simp only [LP.eq_2,DH,cF]
     exact Cc trivial
 ·simp only [Bool.not_false,Bool.true_or,cT]
  exact Az fun g=>v g.design
theorem HW{σ R:Type}{Q:R->Prop}{L:Nat->Int->σ->Option R}(N:Nat)(I:Nat->σ->Prop)
 (hs:∀(m i:Nat) (st:σ),i<N->I i st->∃st',I (i+1) st'∧L (m+1) (i:Int) st=L m ((i+1:Nat):Int) st')
 (he:∀(m:Nat) (st:σ),I N st->OL Q (L (m+1) (N:Int) st)) (m:Nat) (st:σ) (hm:N<m) (h:I 0 st):OL Q (L m 0 st):=
 loop N I (OL Q) (fun m i st a b=>.inl (hs m i st a b)) he m 0 st (by omega) (by omega) h
theorem Ue{σ R:Type}{Q:R->Prop}{L:Nat->Int->σ->Option R}(s N:Nat)(I:Nat->σ->Prop)
 (hs:∀(m i:Nat) (st:σ),s<=i->i<N->I i st->∃st',I (i+1) st'∧L (m+1) (i:Int) st=L m ((i+1:Nat):Int) st')
 (he:∀(m:Nat) (st:σ),I N st->OL Q (L (m+1) (N:Int) st)) (m:Nat) (st:σ) (hsN:s<=N) (hm:N<m) (h:I s st):OL Q (L m (s:Int) st):=
 loop N (fun i st=>s<=i∧I i st) (OL Q) (fun m i st a b=>by
  obtain⟨st',h1,h2⟩:=hs m i st b.1 a b.2
  exact .inl ⟨st',⟨by have:=b.1;omega,h1⟩,h2⟩) (fun m st h=>he m st h.2) m s st hsN (by omega) ⟨Nat.le_refl _,h⟩
theorem zD{n:Nat}{l:Ab}{d:AP}(v:Cw l d)(q:Int)(hn:1048577<=n):Xs n d q=some (Rr d q):=by
 rw [Xs,ZI v.short v.few.1 v.few.2.2 hn,Au]
 have hl:=Dy v.short v.few.1 v.few.2.2
 have:=Dg (xs:=Dt d) (L:=fun m s i=>Gk q (Dt d) (fun l29 i33=>some l29) m s i) (k:=fun s=>some s) (fun i p=>if It q p=true then [(i:Int)]else []) 1 0 (fun j p _=>by split<;>simp) (by omega) (by
  intro m i hi s hs
  simp only [Gk.eq_2,Cx hi,cT,AU hi,Au,wT i]
  rw [show((Dt d)[i].net_==q&& !(Dt d)[i].drives_)=It q (Dt d)[i]from rfl]
  cases c:It q (Dt d)[i]with
  |true=>rw [cT,if_pos rfl,CR (by simp;omega) (by omega),Au]
  |false=>rw [cF,if_neg (by simp),List.append_nil]) (by
  intro m s
  simp only [Gk.eq_2,DH,cF]) n (by omega) [] (by simp)
 rw [this,List.nil_append];rfl
theorem Zv{d:AP}{q:Int}:∀x∈Rr d q,0<=x∧x<(Dt d).length:=by
 refine ES (Q:=fun x:Int=>0<=x∧x<(Dt d).length) _ 0 fun j hj y hy=>?_
 split at hy
 ·simp only [Nat.zero_add,List.mem_singleton]at hy;omega
 ·cases hy
theorem Cw.place{l:Ab}{d:AP}(v:Cw l d):∀p∈Dt d,0<=p.instance_->∃x c pin,AE d.Instances p.instance_=some x∧AE l.Cells x.Cell=some c∧AE c.Pins p.pin_=some pin:=by
 intro p hp
 simp only [Dt,List.mem_append]at hp
 rcases hp with hp|hp
 ·refine ES (Q:=fun p:Ak=>0<=p.instance_->∃x c pin,AE d.Instances p.instance_=some x∧AE l.Cells x.Cell=some c∧AE c.Pins p.pin_=some pin) d.Instances 0 (fun j hj y hy=>?_) p hp
  refine ES (Q:=fun p:Ak=>0<=p.instance_->∃x c pin,AE d.Instances p.instance_=some x∧AE l.Cells x.Cell=some c∧AE c.Pins p.pin_=some pin) _ 0 (fun k hk z hz=>?_) y hy
  have vi:=v.inst _ (List.getElem_mem hj)
  simp only [Nat.zero_add,List.mem_singleton]at hz
  subst hz
  intro _
  obtain⟨c,ec,_⟩:=DC (xs:=l.Cells) vi.cell.1 (by have:=vi.cell.2;omega)
  have hc:=vi.pins c ec
  exact⟨_,c,_,AU hj,ec,AU (show k<c.Pins.length by omega)⟩
 ·refine ES (Q:=fun p:Ak=>0<=p.instance_->∃x c pin,AE d.Instances p.instance_=some x∧AE l.Cells x.Cell=some c∧AE c.Pins p.pin_=some pin) d.Ports 0 (fun j hj y hy=>?_) p hp
  simp only [aG,List.mem_singleton]at hy
  subst hy;intro h;exact absurd h (by show¬(0:Int)<= -1;decide)
theorem wD{n:Nat}{l:Ab}{d:AP}(v:Cw l d){p:Ak}(hp:p∈Dt d):∃r,Zi n d l p=some r:=by
 rw [Zi]
 by_cases c:p.instance_<0
 ·rw [decide_eq_true c,cT];exact⟨_,rfl⟩
 ·obtain⟨x,c',pin,e1,e2,e3⟩:=v.place p hp (by omega)
  rw [decide_eq_false c,cF,e1,Au,e2,Au,e3,Au];exact⟨_,rfl⟩
theorem IW{t:List Int}{i:Int}(h0:0<=i)(h1:i<t.length):∃x,AE t i=some x:=⟨_,TU h0 h1⟩
theorem Ld2{n:Nat}{b:AQ}(v:Ce b){i:Nat}(hi:i<b.Wires.length)(hn:1048577<=n):OL (fun r=>r.length=b.Wires[i].Parent.length) (oI n b (i:Int)):=by
 have vd:=v.design
 have vw:=v.wire i hi
 have hm:=vw.many
 have hP:=vw.cap
 have hl:=Dy vd.short vd.few.1 vd.few.2.2
 rw [oI,AU hi,Au,cZ,CR (by simp;omega) (by omega),Au,Au,ZI vd.short vd.few.1 vd.few.2.2 hn,Au,zD vd _ hn,Au,List.nil_append]
 have hsl:(Rr b.Design (i:Int)).length=b.Wires[i].Sink.length:=by rw [Nc];have:=vw.sink;omega
 have hsn:dP b.Design (i:Int)<=78:=Nat.le_trans List.countP_le_length hl
 have hsn2:=Nc (d:=b.Design) (q:=(i:Int))
 refine HW (L:=fun m j s=>LJ n b b.Wires[i] (Dt b.Design) (Rr b.Design (i:Int)) _ m j s) (Rr b.Design (i:Int)).length (fun _ s=>s.length=b.Wires[i].Parent.length) ?_ ?_ n _ (by omega) hP
 ·intro m j s hj hs
  have hj2:j<b.Wires[i].Sink.length:=by omega
  have hk:=vw.sinks j hj2
  have hq:=Zv _ (List.getElem_mem hj)
  obtain⟨a,ea⟩:=IW (t:=s) hk.1 (by omega)
  obtain⟨p,ep,hp⟩:=DC (xs:=Dt b.Design) hq.1 hq.2
  obtain⟨r,er⟩:=wD (n:=n) vd (List.mem_of_getElem? hp)
  simp only [LJ.eq_2,Cx hj,cT,AU hj,gI hj2,Au,ea,ep,er,wT j]
  exact⟨_,by simpa using hs,rfl⟩
 ·intro m s hs
  simp only [LJ.eq_2,DH,cF]
  have wx:wrap .i64 ((s.length:Int)-1)=((s.length-1:Nat):Int):=by rw [Aa (by omega) (by omega)];omega
  rw [wx]
  have key:∀(m k:Nat) (s:List Int),k<b.Wires[i].Parent.length->s.length=b.Wires[i].Parent.length->k<m->OL (fun r:List Int=>r.length=b.Wires[i].Parent.length) (LS b.Wires[i] (fun i91 l93=>some l93) m (k:Int) s):=by
   intro m
   induction m with
   |zero=>intro k s _ _ h;omega
   |succ m ih=>
    intro k s hk hs hm
    by_cases c:0<k
    ·have hd:decide ((k:Int)>0)=true:=decide_eq_true (by omega)
     have ht:=vw.tree k c hk
     obtain⟨a,ea⟩:=IW (t:=s) ht.1 (by omega)
     have wk:wrap .i64 ((k:Int)-1)=((k-1:Nat):Int):=by rw [Aa (by omega) (by omega)];omega
     simp only [LS.eq_2,hd,cT,gI hk,Au,ea,gI (show k<s.length by omega),wk]
     exact ih (k-1) _ (by omega) (by simpa using hs) (by omega)
    ·have hd:decide ((k:Int)>0)=false:=decide_eq_false (by omega)
     simp only [LS.eq_2,hd,cF]
     exact⟨s,rfl,hs⟩
  exact key n (s.length-1) s (by omega) hs (by omega)
theorem Dl2{n:Nat}{b:AQ}(v:Ce b){i:Nat}(hi:i<b.Wires.length)(hn:1048577<=n):OL (fun r=>r.length=b.Wires[i].Parent.length) (Xk n b (i:Int)):=by
 have vw:=v.wire i hi
 have hm:=vw.many
 have hR:=vw.res
 rw [Xk,AU hi,Au]
 refine(Ld2 v hi hn).bind fun r e hr=>?_
 rw [Ds (by omega) (by omega),Au]
 refine Ue (L:=fun m j s=>Hu b.Wires[i] r _ m j s) 1 b.Wires[i].Parent.length (fun _ s=>s.length=b.Wires[i].Parent.length) ?_ ?_ n _ (by omega) (by omega) (by simpa using hr)
 ·intro m j s h1 hj hs
  have ht:=vw.tree j (by omega) hj
  obtain⟨a,ea⟩:=IW (t:=s) ht.1 (by omega)
  simp only [Hu.eq_2,Cx (show j<s.length by omega),cT,gI hj,gI (show j<b.Wires[i].Res.length by omega),gI (show j<r.length by omega),gI (show j<s.length by omega),Au,ea,wT j]
  exact⟨_,by simpa using hs,rfl⟩
 ·intro m s hs
  rw [←hs]
  simp only [Hu.eq_2,DH,cF]
  exact⟨s,rfl,rfl⟩
theorem Ex2{n:Nat}{b:AQ}(v:Ce b){i:Nat}(hi:i<b.Wires.length)(hn:1048577<=n):OL (fun _=>True) (YH n b (i:Int)):=by
 have vw:=v.wire i hi
 have vd:=v.design
 have hl:=Dy vd.short vd.few.1 vd.few.2.2
 have hsn:dP b.Design (i:Int)<=78:=Nat.le_trans List.countP_le_length hl
 have hsk:=vw.sink
 rw [YH]
 refine(Dl2 v hi hn).bind fun r e hr=>?_
 rw [AU hi,Au]
 refine HW (L:=fun m j s=>IJ r b.Wires[i] _ m s j) b.Wires[i].Sink.length (fun j s=>s.length=j) ?_ ?_ n _ (by omega) rfl
 ·intro m j s hj hs
  have hk:=vw.sinks j hj
  obtain⟨a,ea⟩:=IW (t:=r) hk.1 (by omega)
  refine⟨s++[a],by simp;omega,?_⟩
  simp only [IJ.eq_2,Cx hj,cT,gI hj,Au,ea,wT j]
  rw [CR (by simp;omega) (by omega),Au]
 ·intro m s hs
  simp only [IJ.eq_2,DH,cF]
  exact⟨s,rfl,trivial⟩
theorem Tr2{n:Nat}(a:Ah):OL (fun r:List Bz=>r.length<=4) (Wh n a):=by
 rw [Wh]
 repeat' refine cS (fun _=>?_) (fun _=>?_)
 all_goals exact Yo (by simp)
theorem Ce2{n:Nat}{b:AQ}(v:Ce b){x:AO}(hx:x∈b.Design.Instances)(q:Int)(hn:1048577<=n):OL (fun r:List Bc=>r.length<=32) (pW n b x q):=by
 have vi:=v.design.inst x hx
 obtain⟨c,ec,hc⟩:=DC (xs:=b.Library.Cells) vi.cell.1 (by have:=vi.cell.2;omega)
 obtain⟨h1,h2⟩:=List.getElem?_eq_some_iff.1 hc
 have few:=(v.design.lib.cells _ h1).few
 rw [h2]at few
 rw [pW,ec,Au]
 refine HW (L:=fun m j s=>Gz n q c _ m s j) c.Arcs.length (fun j s=>s.length<=4*j) ?_ ?_ n _ (by omega) (by simp)
 ·intro m j s hj hs
  obtain⟨r,er,hr⟩:=Tr2 (n:=n) c.Arcs[j]
  have key:∃s',s'.length<=4*(j+1)∧Jk q (j:Int) c.Arcs[j] r (fun l88 i92=>Gz n q c (fun l46 i50=>some l46) m l88 (wrap .i64 ((j:Int)+1))) n s 0=Gz n q c (fun l46 i50=>some l46) m s' (wrap .i64 ((j:Int)+1)):=by
   refine loop (L:=fun m k s=>Jk q (j:Int) c.Arcs[j] r _ m s k) r.length (fun k s=>s.length<=4*j+k) (fun o=>∃s':List Bc,s'.length<=4*(j+1)∧o=Gz n q c (fun l46 i50=>some l46) m s' (wrap .i64 ((j:Int)+1))) ?_ ?_ n 0 s (by omega) (by omega) (by omega)
   ·intro m k s hk hs
    simp only [Jk.eq_2,Cx hk,cT,AU hk,Au,wT k]
    rw [CR (by simp;omega) (by omega),Au]
    exact .inl ⟨_,by simp;omega,rfl⟩
   ·intro m s hs
    simp only [Jk.eq_2,DH,cF]
    exact⟨s,by omega,rfl⟩
  obtain⟨s',hs',e'⟩:=key
  refine⟨s',hs',?_⟩
  simp only [Gz.eq_2,Cx hj,cT,AU hj,Au,er]
  rw [e',wT j]
 ·intro m s hs
  simp only [Gz.eq_2,DH,cF]
  exact⟨s,rfl,by omega⟩
theorem Vw2{n:Nat}{b:AQ}(v:Ce b)(hn:1048577<=n):OL (fun r:BU=>r.places_=Dt b.Design) (uK n b):=by
 have vd:=v.design
 have f1:=vd.few.1;have f2:=vd.few.2.1
 have hl:=Dy vd.short vd.few.1 vd.few.2.2
 have hW:=v.many
 rw [uK,ZI vd.short vd.few.1 vd.few.2.2 hn,Au]
 refine HW (L:=fun m j (s:Int×List Bc)=>Kv n b _ m s.1 j s.2) b.Design.Instances.length (fun j s=>s.2.length<=32*j) ?_ ?_ n ((0:Int),[]) (by omega) (by simp)
 ·intro m j s hj hs
  obtain⟨r,er,hr⟩:=Ce2 (n:=n) v (List.getElem_mem hj) s.1 hn
  simp only [Kv.eq_2,Cx hj,cT,AU hj,Au,er,OC,wT j]
  rw [CR (by omega) (by omega),Au]
  exact⟨(_,_),by simp;omega,rfl⟩
 ·intro m s hs
  simp only [Kv.eq_2,DH,cF]
  rw [Ds (by omega) (by omega),Au,Ds (by omega) (by omega),Au]
  refine HW (L:=fun m j (s:List Int×List (List Int))=>JQ (Dt b.Design) _ m j s.1 s.2) (Dt b.Design).length (fun j s=>(s.1.length=b.Wires.length∧s.2.length=b.Wires.length)∧∀x∈s.2,x.length<=j) ?_ ?_ n (List.replicate b.Wires.length 0,List.replicate b.Wires.length []) (by omega) (by simp)
  ·intro m j s hj ⟨⟨h1,h2⟩,h3⟩
   have hp:=vd.net _ (List.getElem_mem hj)
   obtain⟨a,ea⟩:=IW (t:=s.1) hp.1 (by omega)
   obtain⟨y,ey,hy⟩:=DC (xs:=s.2) hp.1 (by omega)
   have hyl:=h3 y (List.mem_of_getElem? hy)
   simp only [JQ.eq_2,Cx hj,cT,AU hj,Au,ea,ey,wT j]
   cases(Dt b.Design)[j].drives_ with
   |true=>
    rw [cT]
    exact⟨(s.1.set (Dt b.Design)[j].net_.toNat (j:Int),s.2),⟨⟨by simpa using h1,h2⟩,fun x hx=>by have:=h3 x hx;omega⟩,rfl⟩
   |false=>
    rw [cF,CR (by simp;omega) (by omega),Au]
    refine⟨(s.1,s.2.set (Dt b.Design)[j].net_.toNat (y++[(j:Int)])),⟨⟨h1,by simpa using h2⟩,fun x hx=>?_⟩,rfl⟩
    rcases List.mem_or_eq_of_mem_set hx with h|h
    ·have:=h3 x h;omega
    ·subst h;simp;omega
  ·intro m t ⟨⟨h1,h2⟩,h3⟩
   simp only [JQ.eq_2,DH,cF]
   refine HW (L:=fun m j (s:(List Bc×List Int)×List Unit)=>GR n b t.1 t.2 _ m j s.1.1 s.1.2 s.2) b.Wires.length (fun j u=>(u.1.1.length<=448+156*j∧u.1.2.length=j)∧u.2.length=j) ?_ ?_ n ((s.2,[]),[]) (by omega) (by simp;omega)
   ·intro m j u hj ⟨⟨g1,g2⟩,g3⟩
    obtain⟨r,er,hr⟩:=Ld2 (n:=n) v hj hn
    obtain⟨z,ez,_⟩:=Ex2 (n:=n) v hj hn
    have hm:=(v.wire j hj).many
    have e0:AE r 0=some (gd r 0):=gI (i:=0) (by omega)
    have hj2:j<t.2.length:=by omega
    have hx:=h3 _ (List.getElem_mem hj2)
    simp only [GR.eq_2,Cx hj,cT,Au,er,e0,ez,AU hj2]
    rw [CR (by simp;omega) (by omega),Au,CR (by simp;omega) (by omega),Au]
    have key:∃s',s'.length<=448+156*(j+1)∧JE n t.1 (j:Int) t.2[j] (fun i418 l421=>GR n b t.1 t.2 (fun i115 l118 l125 l132=>some (BU.mk b (Dt b.Design) l118 l125 l132 [])) m (wrap .i64 ((j:Int)+1)) l421 (u.1.2++[gd r 0]) (u.2++List.map (fun _=>()) [z])) n 0 u.1.1=GR n b t.1 t.2 (fun i115 l118 l125 l132=>some (BU.mk b (Dt b.Design) l118 l125 l132 [])) m (wrap .i64 ((j:Int)+1)) s' (u.1.2++[gd r 0]) (u.2++List.map (fun _=>()) [z]):=by
     refine loop (L:=fun m' k s=>JE n t.1 (j:Int) t.2[j] (fun i418 l421=>GR n b t.1 t.2 (fun i115 l118 l125 l132=>some (BU.mk b (Dt b.Design) l118 l125 l132 [])) m (wrap .i64 ((j:Int)+1)) l421 (u.1.2++[gd r 0]) (u.2++List.map (fun _=>()) [z])) m' k s) t.2[j].length (fun k s=>s.length<=448+156*j+2*k) (fun o=>∃s':List Bc,s'.length<=448+156*(j+1)∧o=GR n b t.1 t.2 (fun i115 l118 l125 l132=>some (BU.mk b (Dt b.Design) l118 l125 l132 [])) m (wrap .i64 ((j:Int)+1)) s' (u.1.2++[gd r 0]) (u.2++List.map (fun _=>()) [z])) ?_ ?_ n 0 u.1.1 (by omega) (by omega) (by omega)
     ·intro m k s hk hs
      refine .inl ?_
      have a1:=gI (l:=t.1) (i:=j) (by omega)
      simp only [JE.eq_2,Cx hk,cT,gI hk,Au,wT k]
      obtain⟨n',rfl⟩:∃n',n=n'+3:=⟨n-3,by omega⟩
      have w1:wrap .i64 ((0:Int)+1)=1:=by decide
      have w2:wrap .i64 ((1:Int)+1)=2:=by decide
      rw [LR.eq_2,show decide ((0:Int)<2)=true from rfl,cT,a1,Au,CR (by simp;omega) (by omega),Au,w1,LR.eq_2,show decide ((1:Int)<2)=true from rfl,cT,a1,Au,CR (by simp;omega) (by omega),Au,w2,LR.eq_2,show decide ((2:Int)<2)=false from rfl,cF]
      exact⟨_,by simp;omega,rfl⟩
     ·intro m s hs
      simp only [JE.eq_2,DH,cF]
      exact⟨s,by omega,rfl⟩
    obtain⟨s',q1,q2⟩:=key
    rw [q2,wT j]
    exact⟨((_,_),_),⟨⟨q1,by simp;omega⟩,by simp;omega⟩,rfl⟩
   ·intro m u _
    simp only [GR.eq_2,DH,cF]
    exact⟨_,rfl,rfl⟩
theorem HU.b{b:AQ}(h:HU b):ZO b:=
 ⟨⟨h.1.1,fun c hc=>Eo.c (c:=c) (h.1.2 c hc)⟩,⟨⟨h.2.1.1.1,fun x hx=>⟨(h.2.1.1.2 x hx).1,(h.2.1.1.2 x hx).2.2.1⟩⟩,⟨h.2.1.2.1.1,h.2.1.2.1.2⟩,⟨h.2.1.2.2.1,fun p hp=>(h.2.1.2.2.2 p hp).1⟩⟩,⟨h.2.2.1,fun w hw=>⟨⟨⟨(h.2.2.2 w hw).1.1,(h.2.2.2 w hw).2.1.1⟩,(h.2.2.2 w hw).2.2.1.1⟩,(h.2.2.2 w hw).2.2.2.1⟩⟩⟩
def GJ(b:AQ):Int:=2*((Dt b.Design).length:Int)
theorem jW{n:Nat}{b:AQ}(v:Ce b)(hn:1048577<=n):VN n b=some (GJ b):=by
 have hl:=Dy v.design.short v.design.few.1 v.design.few.2.2
 rw [VN,nW v.design.short v.design.few.1 v.design.few.2.2 hn,Au,List.length_map,Aa (by omega) (by omega)];rfl
theorem xX{n:Nat}{b:AQ}{r:BU}(v:Ce b)(e:r.places_=Dt b.Design):Wa n r=some (GJ b):=by
 have hl:=Dy v.design.short v.design.few.1 v.design.few.2.2
 rw [Wa,dO,e,Au,Aa (by omega) (by omega)];rfl
def Tu(s:AV):Bool:=(decide (s.Early>= -1000000000)&&decide (s.Early<=1000000000))&&(decide (s.Late>= -1000000000)&&decide (s.Late<=1000000000))
def Og(s:AV):Bool:=Tu s&&decide (s.Early<=s.Late)
def Ov(s:AV):Bool:=(decide (s.Early>=0)&&decide (s.Early<=s.Late))&&decide (s.Late<=1000000)
theorem sp1{n:Nat}{s:AV}:Vh n s=some (Og s):=by
 simp only [Vh,GV,Au,CQ];rfl
theorem sp2{n:Nat}{s:AV}:UI n s=some (Og s):=by
 simp only [UI,Tf,Ij,Au,CQ];rfl
theorem sl1{n:Nat}{s:AV}:dX n s=some (Ov s):=rfl
theorem sl2{n:Nat}{s:AV}:WO n s=some (Ov s):=by
 simp only [WO,sp2,Vg,Ij,Au,CQ]
 congr 1
 rw [Bool.eq_iff_iff]
 simp only [Og,Tu,Ov,Bool.and_eq_true,decide_eq_true_eq]
 omega
def SU(r:Bool)(a s:AV):Bool:=!((!Og a|| !Ov s)||(!r&&(!(a.Early==0&&a.Late==0)|| !(s.Early==0&&s.Late==0))))
structure VI(b:AQ)(x:Ac):Prop where
 reached:(x.Reached.length:Int)=GJ b
 arr:(x.Arrival.length:Int)=GJ b
 slew:(x.Slew.length:Int)=GJ b
 each:∀i (h:i<x.Reached.length) (h2:i<x.Arrival.length) (h3:i<x.Slew.length),SU x.Reached[i] x.Arrival[i] x.Slew[i]=true
theorem Tm1{n:Nat}{b:AQ}{x:Ac}(hl:x.Reached.length<=1048576)(hn:1048577<=n):BE (VI b x) (Zw n (GJ b) x):=by
 rw [Zw]
 refine FL (fun c=>Az fun v=>?_) (fun c=>?_)
 ·have:=v.reached;have:=v.arr;have:=v.slew
  simp only [Bool.or_eq_true,bne_iff_ne,ne_eq]at c;omega
 ·simp only [Bool.or_eq_false_iff,bne_eq_false_iff_eq]at c
  refine(Ec (L:=fun m i=>Ii n x _ m i) (Q:=True) x.Reached.length 0 (fun i=>∀(h:i<x.Reached.length) (h2:i<x.Arrival.length) (h3:i<x.Slew.length),SU x.Reached[i] x.Arrival[i] x.Slew[i]=true) ?_ ?_ n 0 (by omega) (by omega) (by omega) (fun j _ h=>by omega)).iff ⟨fun a=>⟨c.1.1,c.1.2,c.2,fun i h h2 h3=>a.1 i (by omega) h h h2 h3⟩,fun a=>⟨fun i _ _ h h2 h3=>a.each i h h2 h3,trivial⟩⟩
  ·intro m i _ hi
   have hi2:i<x.Arrival.length:=by omega
   have hi3:i<x.Slew.length:=by omega
   simp only [Ii.eq_2,Cx hi,cT,AU hi,AU hi2,AU hi3,Au,sp1,sl1,EX,CQ,wT i]
   cases e:((!Og x.Arrival[i]|| !Ov x.Slew[i])||(!x.Reached[i]&&(!(x.Arrival[i].Early==0&&x.Arrival[i].Late==0)|| !(x.Slew[i].Early==0&&x.Slew[i].Late==0))))with
   |true=>rw [cT];exact .inr ⟨fun g=>(by have:=g hi hi2 hi3;unfold SU at this;rw [e]at this;cases this),rfl⟩
   |false=>rw [cF];exact .inl ⟨fun _ _ _=>(by unfold SU;rw [e];rfl),rfl⟩
  ·intro m i h1 h2 _
   obtain rfl:i=x.Reached.length:=by omega
   simp only [Ii.eq_2,DH,cF]
   exact Cc trivial
theorem Tm2{n:Nat}{b:AQ}{r:BU}{x:Ac}(v:Ce b)(hr:r.places_=Dt b.Design)(hl:x.Reached.length<=1048576)(hn:1048577<=n):BE (VI b x) (Xq n r x):=by
 rw [Xq]
 simp only [dL,Yu,xX v hr,Au,EX]
 refine FL (fun c=>Az fun v=>?_) (fun c=>?_)
 ·have:=v.reached;have:=v.arr;have:=v.slew
  simp only [Bool.or_eq_true,bne_iff_ne,ne_eq]at c;omega
 ·simp only [Bool.or_eq_false_iff,bne_eq_false_iff_eq]at c
  refine(Ec (L:=fun m i=>II n x _ m i) (Q:=True) x.Reached.length 0 (fun i=>∀(h:i<x.Reached.length) (h2:i<x.Arrival.length) (h3:i<x.Slew.length),SU x.Reached[i] x.Arrival[i] x.Slew[i]=true) ?_ ?_ n 0 (by omega) (by omega) (by omega) (fun j _ h=>by omega)).iff ⟨fun a=>⟨c.1.1,c.1.2,c.2,fun i h h2 h3=>a.1 i (by omega) h h h2 h3⟩,fun a=>⟨fun i _ _ h h2 h3=>a.each i h h2 h3,trivial⟩⟩
  ·intro m i _ hi
   have hi2:i<x.Arrival.length:=by omega
   have hi3:i<x.Slew.length:=by omega
   simp only [II.eq_2,Cx hi,cT,AU hi,AU hi2,AU hi3,Au,sp2,sl2,EX,CQ,wT i]
   cases e:((!Og x.Arrival[i]|| !Ov x.Slew[i])||(!x.Reached[i]&&(!(x.Arrival[i].Early==0&&x.Arrival[i].Late==0)|| !(x.Slew[i].Early==0&&x.Slew[i].Late==0))))with
   |true=>rw [cT];exact .inr ⟨fun g=>(by have:=g hi hi2 hi3;unfold SU at this;rw [e]at this;cases this),rfl⟩
   |false=>rw [cF];exact .inl ⟨fun _ _ _=>(by unfold SU;rw [e];rfl),rfl⟩
  ·intro m i h1 h2 _
   obtain rfl:i=x.Reached.length:=by omega
   simp only [II.eq_2,DH,cF]
   exact Cc trivial
theorem fN{σ τ R R':Type}{L:Nat->Int->σ->Option R}{M:Nat->Int->τ->Option R'}(N:Nat)(I:Nat->σ->τ->Prop)(Post:Option R->Option R'->Prop)
 (hs:∀(m i:Nat) (s:σ) (t:τ),i<N->I i s t->∃s' t',I (i+1) s' t'∧L (m+1) (i:Int) s=L m ((i+1:Nat):Int) s'∧M (m+1) (i:Int) t=M m ((i+1:Nat):Int) t')
 (he:∀(m:Nat) (s:σ) (t:τ),I N s t->Post (L (m+1) (N:Int) s) (M (m+1) (N:Int) t)):∀(m i:Nat) (s:σ) (t:τ),i<=N->N-i<m->I i s t->Post (L m (i:Int) s) (M m (i:Int) t)
 |0,i,_,_,_,hm,_=>by omega
 |m+1,i,s,t,hi,hm,h=>by
  by_cases hlt:i<N
  ·obtain⟨s',t',h1,h2,h3⟩:=hs m i s t hlt h
   rw [h2,h3];exact fN N I Post hs he m (i+1) s' t' (by omega) (by omega) h1
  ·obtain rfl:i=N:=by omega
   exact he m s t h
theorem RW{α β:Type}(h:Nat->α->β):∀(xs:List α) (s j:Nat),(GB (fun j q=>[h j q]) s xs)[j]? =(xs[j]?).map (h (s+j))
 |[],s,j=>by simp [GB]
 |x::xs,s,0=>by simp [GB]
 |x::xs,s,j+1=>by
  have:=RW h xs (s+1) j
  simp only [GB,List.singleton_append,List.getElem?_cons_succ,this]
  rw [show s+1+j=s+(j+1) by omega]
structure PW{α:Type}(f:α->Bool)(ys:List α)(k:Nat):Prop where
 hit:∃y,ys[k]? =some y∧f y=true
 miss:∀j y,j<k->ys[j]? =some y->f y=false
theorem PW.lt{α:Type}{f:α->Bool}{ys:List α}{k:Nat}(h:PW f ys k):k<ys.length:=by
 obtain⟨y,e,_⟩:=h.hit
 exact(List.getElem?_eq_some_iff.1 e).1
def Ll(d:AP)(i:Nat):Nat:=(GB Mo 0 (d.Instances.take i)).length
def Sc(i q:Int)(p:Ak):Bool:=(p.instance_==i)&&(p.pin_==q)
theorem dN{d:AP}{i:Nat}(hi:i<d.Instances.length):∃C,Dt d=GB Mo 0 (d.Instances.take i)++(Mo i d.Instances[i]++C):=by
 refine⟨GB Mo (i+1) (d.Instances.drop (i+1))++GB aG 0 d.Ports,?_⟩
 have e:d.Instances=d.Instances.take i++(d.Instances[i]::d.Instances.drop (i+1)):=by
  rw [←List.drop_eq_getElem_cons hi,List.take_append_drop]
 have e2:GB Mo 0 d.Instances=GB Mo 0 (d.Instances.take i)++(Mo i d.Instances[i]++GB Mo (i+1) (d.Instances.drop (i+1))):=by
  conv=>lhs;rw [e]
  rw [LB]
  simp [GB,Nat.min_eq_left (Nat.le_of_lt hi)]
 unfold Dt
 rw [e2];simp
theorem Jz{d:AP}{i q:Nat}(hi:i<d.Instances.length)(hq:q<d.Instances[i].Nets.length):PW (Sc i q) (Dt d) (Ll d i+q):=by
 obtain⟨C,e⟩:=dN hi
 have hp:∀j:Nat,(Mo i d.Instances[i])[j]? =(d.Instances[i].Nets[j]?).map fun x=>Ak.mk i j x ((j:Int)==(d.Instances[i].Nets.length:Int)-1):=by
  intro j
  have:=RW (fun j q=>Ak.mk i j q ((j:Int)==(d.Instances[i].Nets.length:Int)-1)) d.Instances[i].Nets 0 j
  rw [Nat.zero_add]at this
  exact this
 have hl:(Mo i d.Instances[i]).length=d.Instances[i].Nets.length:=by
  apply Nat.le_antisymm
  ·apply Nat.le_of_not_lt
   intro h
   have:=hp d.Instances[i].Nets.length
   rw [List.getElem?_eq_getElem h]at this
   simp at this
  ·apply Nat.le_of_not_lt
   intro h
   have:=hp (Mo i d.Instances[i]).length
   rw [List.getElem?_eq_getElem h]at this
   simp at this
 have hA:∀y∈GB Mo 0 (d.Instances.take i),y.instance_<(i:Int):=by
  refine ES (Q:=fun p:Ak=>p.instance_<(i:Int)) _ 0 (fun j hj y hy=>?_)
  have hji:j<i:=by simp at hj;omega
  refine ES (Q:=fun p:Ak=>p.instance_<(i:Int)) _ 0 (fun k hk z hz=>?_) y hy
  simp only [List.mem_singleton]at hz
  subst hz
  show((0+j:Nat):Int)<i
  omega
 refine⟨⟨Ak.mk i q d.Instances[i].Nets[q] ((q:Int)==(d.Instances[i].Nets.length:Int)-1),?_,by simp [Sc]⟩,?_⟩
 ·rw [e,Ll,List.getElem?_append_right (by omega),Nat.add_sub_cancel_left,List.getElem?_append_left (by omega),hp,List.getElem?_eq_getElem hq];rfl
 ·intro j y hj hy
  rw [e]at hy
  by_cases c:j<(GB Mo 0 (d.Instances.take i)).length
  ·rw [List.getElem?_append_left c]at hy
   have:=hA y (List.mem_of_getElem? hy)
   simp only [Sc,Bool.and_eq_false_iff,beq_eq_false_iff_ne];left;omega
  ·unfold Ll at hj
   rw [List.getElem?_append_right (by omega),List.getElem?_append_left (by omega),hp]at hy
   obtain⟨x,_,rfl⟩:=Option.map_eq_some_iff.1 hy
   simp only [Sc,Bool.and_eq_false_iff,beq_eq_false_iff_ne];right
   show((j-(GB Mo 0 (d.Instances.take i)).length:Nat):Int)≠q
   omega
theorem oZ{n:Nat}{l:Ab}{d:AP}(v:Cw l d){i q:Nat}(hi:i<d.Instances.length)(hq:q<d.Instances[i].Nets.length)(hn:1048577<=n):UZ n d (i:Int) (q:Int)=some ((Ll d i+q:Nat):Int):=by
 have f:=Jz hi hq
 have hl:=Dy v.short v.few.1 v.few.2.2
 have fl:=f.lt
 rw [UZ,nW v.short v.few.1 v.few.2.2 hn,Au]
 refine loop (L:=fun m j (_:Unit)=>GY (i:Int) (q:Int) ((Dt d).map Oa) (fun i26=>(some (-1))) m j) (Ll d i+q+1) (fun j _=>j<=Ll d i+q) (fun o=>o=some ((Ll d i+q:Nat):Int)) ?_ ?_ n 0 () (by omega) (by omega) (by omega)
 ·intro m j _ hj hI
  have hjl:j<(Dt d).length:=by omega
  have hjm:j<((Dt d).map Oa).length:=by simpa using hjl
  have hg:AE ((Dt d).map Oa) (j:Int)=some (Oa (Dt d)[j]):=by rw [AU hjm];simp
  have hb:(Option.bind (cond ((Oa (Dt d)[j]).instance_==(i:Int)) (some ((Oa (Dt d)[j]).pin_==(q:Int))) (some false)) fun c35=>(cond c35 (some (j:Int)) (GY (i:Int) (q:Int) ((Dt d).map Oa) (fun i26=>(some (-1))) m (wrap .i64 ((j:Int)+1)))))=(cond (Sc i q (Dt d)[j]) (some (j:Int)) (GY (i:Int) (q:Int) ((Dt d).map Oa) (fun i26=>(some (-1))) m ((j+1:Nat):Int))):=by
   rw [wT j,CQ,Au];rfl
  simp only [GY.eq_2,Cx hjm,cT,hg,Au]
  rw [hb]
  by_cases c:j=Ll d i+q
  ·obtain⟨y,e,hy⟩:=f.hit
   rw [←c,List.getElem?_eq_getElem hjl]at e
   obtain rfl:=Option.some.inj e
   rw [hy,cT,←c];exact .inr rfl
  ·have:=f.miss j _ (by omega) (List.getElem?_eq_getElem hjl)
   rw [this,cF];exact .inl ⟨(),by omega,rfl⟩
 ·intro m _ hI
  omega
theorem AcK{n:Nat}{l:Ab}{d:AP}(v:Cw l d){i q:Nat}(hi:i<d.Instances.length)(hq:q<d.Instances[i].Nets.length)(hn:1048577<=n):UF n d (i:Int) (q:Int)=some ((Ll d i+q:Nat):Int):=by
 have f:=Jz hi hq
 have hl:=Dy v.short v.few.1 v.few.2.2
 have fl:=f.lt
 rw [UF,ZI v.short v.few.1 v.few.2.2 hn,Au,cK]
 obtain⟨r,e,hr,h⟩:=JV (xs:=Dt d) (L:=fun m j=>Hl n (Dt d) (i:Int) (q:Int) (fun i7=>(some (-1))) m j) (f:=fun p=>some (Sc i q p)) (P:=fun p=>Sc i q p=true) (fun x _=>⟨_,rfl,Iff.rfl⟩) (by
  intro m j hj
  simp only [Hl.eq_2,Cx hj,cT,AU hj,Au,eS,wT j]
  rfl) (by
  intro m
  simp only [Hl.eq_2,DH,cF]) n (by omega)
 rw [e,Au]
 obtain⟨y,ey,hy⟩:=f.hit
 obtain⟨k1,k2⟩:=List.getElem?_eq_some_iff.1 ey
 rcases h with h|⟨j,rfl,hj,h1,h2⟩
 ·subst h
  have:=hr.2 ⟨y,List.mem_of_getElem? ey,hy⟩
  omega
 ·have a:¬j<Ll d i+q:=fun c=>by
   have:=f.miss j _ c (List.getElem?_eq_getElem hj)
   rw [this]at h1;cases h1
  have b:¬Ll d i+q<j:=fun c=>h2 _ k1 c (by rw [k2];exact hy)
  rw [show j=Ll d i+q by omega]
def jO(r:Aj):Bool:=((decide (r.Setup>= -1000000000)&&decide (r.Setup<=1000000000))&&(decide (r.Hold>= -1000000000)&&decide (r.Hold<=1000000000)))&&(decide (r.Uncertainty>=0)&&decide (r.Uncertainty<=1000000000))
theorem rl1{n:Nat}{r:Aj}:ZQ n r=some (jO r):=by
 simp only [ZQ,GV,Au,CQ];rfl
theorem rl2{n:Nat}{r:Aj}:UU n r=some (jO r):=by
 simp only [UU,Tf,Ij,Au,CQ];rfl
theorem Cw.inst_at{l:Ab}{d:AP}(v:Cw l d){i:Nat}(hi:i<d.Instances.length):∃k,∃h:k<l.Cells.length,d.Instances[i].Cell=(k:Int)∧AE l.Cells d.Instances[i].Cell=some l.Cells[k]∧d.Instances[i].Nets.length=l.Cells[k].Pins.length∧Mb l.Cells[k]:=by
 have x:=v.inst _ (List.getElem_mem hi)
 obtain⟨k,hk⟩:=Int.eq_ofNat_of_zero_le x.cell.1
 have hk:d.Instances[i].Cell=(k:Int):=hk
 have h:k<l.Cells.length:=by have:=x.cell.2;omega
 have g:AE l.Cells d.Instances[i].Cell=some l.Cells[k]:=by rw [hk];exact AU h
 exact⟨k,h,hk,g,x.pins _ g,v.lib.cells k h⟩
theorem AbE:∀a:Nat,a<5->∀b:Nat,b<5->wrap .i64 (KY .u64 (IntKind.wrap IntKind.u64 (wrap .i64 ((a:Int)+(b:Int)))) 1)=(((a+b)/2:Nat):Int):=by decide
theorem Ul.mono{l:List Int}(h:Ul l):∀(d i:Nat),i+d+1<l.length->gd l i<gd l (i+d+1)
 |0,i,hi=>by have:=h.2.2 (i+0+1) hi (by omega);simpa using this
 |d+1,i,hi=>by
  have a:=Ul.mono h d i (by omega)
  have b:=h.2.2 (i+(d+1)+1) hi (by omega)
  rw [show i+(d+1)+1-1=i+d+1 by omega]at b
  omega
theorem Ul.lt{l:List Int}(h:Ul l){i j:Nat}(hij:i<j)(hj:j<l.length):gd l i<gd l j:=by
 have:=h.mono (j-i-1) i (by omega)
 rwa [show i+(j-i-1)+1=j by omega]at this
theorem vH{n:Nat}{l:List Int}(h:Ul l){c:Int}{K:Int->Int->Option (Int×Bool)}:∀(m i j:Nat),i<=j->j<=l.length->j-i<m->(∀k,k<i->gd l k<c)->(∀k,j<=k->k<l.length->c<=gd l k)->
 ∃p:Nat,p<=l.length∧(∀k,k<p->gd l k<c)∧(∀k,p<=k->k<l.length->c<=gd l k)∧Hf n l c K m (i:Int) (j:Int)=K (p:Int) (p:Int)
 |0,i,j,_,_,hm,_,_=>by omega
 |m+1,i,j,hij,hj,hm,h1,h2=>by
  have few:=h.1.2
  rw [Hf.eq_2]
  by_cases c0:i<j
  ·have d0:decide ((i:Int)<(j:Int))=true:=decide_eq_true (by omega)
   have hq:(i+j)/2<l.length:=by omega
   simp only [d0,cT,AbE i (by omega) j (by omega),gI hq,Au,bH,QJ,bne_self_eq_false,cF,Bool.false_or]
   by_cases c1:gd l ((i+j)/2)<c
   ·rw [decide_eq_true c1,cT,wS (show(i+j)/2<4611686018427387904 by omega)]
    refine vH h m ((i+j)/2+1) j (by omega) hj (by omega) (fun k hk=>?_) h2
    by_cases e:k=(i+j)/2
    ·rw [e];exact c1
    ·have:=h.lt (show k<(i+j)/2 by omega) hq;omega
   ·rw [decide_eq_false c1,cF]
    refine vH h m i ((i+j)/2) (by omega) (by omega) (by omega) h1 (fun k hk hk2=>?_)
    by_cases e:k=(i+j)/2
    ·rw [e];omega
    ·have:=h.lt (show(i+j)/2<k by omega) hk2;omega
  ·obtain rfl:i=j:=by omega
   have d0:decide ((i:Int)<(i:Int))=false:=decide_eq_false (by omega)
   rw [d0,cF]
   exact⟨i,hj,h1,h2,rfl⟩
def CP(l:List Int)(x:Int):Int:=min (max x (gd l 0)) (gd l (l.length-1))
theorem Wq{l:List Int}(h:Ul l)(x:Int):gd l 0<=CP l x∧CP l x<=gd l (l.length-1):=by
 have h1:=h.1.1
 have:gd l 0<=gd l (l.length-1):=by
  by_cases c:l.length=1
  ·rw [c];exact Int.le_refl _
  ·have:=h.lt (show 0<l.length-1 by omega) (by omega);omega
 unfold CP;omega
theorem WtS{l:List Int}(h:Ul l){x:Int}{q:Nat}{R:Int×Int×Int}(hq:q<l.length)(hk:∀k,q<k->k<l.length->CP l x<gd l k)
 (hR:∀m,HG l x (gd l 0) (gd l (l.length-1)) (fun i21=>(some (0,1,0))) (m+1) (q:Int)=some R):
 ∀(m i:Nat),q<=i->i<l.length->i-q<m->HG l x (gd l 0) (gd l (l.length-1)) (fun i21=>(some (0,1,0))) m (i:Int)=some R
 |0,i,_,_,hm=>by omega
 |m+1,i,hi,hil,hm=>by
  by_cases e:i=q
  ·rw [e];exact hR m
  ·have a:=hk i (by omega) hil
   have a:min (max x (gd l 0)) (gd l (l.length-1))<gd l i:=a
   have d0:decide ((i:Int)>=0)=true:=decide_eq_true (by omega)
   have d1:(min (max x (gd l 0)) (gd l (l.length-1))==gd l i)=false:=by rw [beq_eq_false_iff_ne];omega
   have d2:decide (min (max x (gd l 0)) (gd l (l.length-1))>gd l i)=false:=decide_eq_false (by omega)
   have w:wrap .i64 ((i:Int)-1)=((i-1:Nat):Int):=by rw [Aa (by omega) (by have:=h.1.2;omega)];omega
   simp only [HG.eq_2,d0,cT,gI hil,Au,d1,d2,cF,w]
   exact WtS h hq hk hR m (i-1) (by omega) (by omega) (by omega)
theorem Wt{n:Nat}{l:List Int}(h:Ul l)(x:Int)(hn:1048577<=n):∃(i:Nat) (a b:Int),lE n l x=some ((i:Int),a,b)∧
 ((i<l.length∧a=1∧b=0∧RM n l x=some ([⟨(i:Int),1⟩],1))∨(i+1<l.length∧(1<=a∧a<=100000)∧(1<=b∧b<=100000)∧RM n l x=some ([⟨(i:Int),a⟩,⟨((i+1:Nat):Int),b⟩],a+b))):=by
 have h1:=h.1
 have ci:=Wq h x
 have w1:wrap .i64 ((l.length:Int)-1)=((l.length-1:Nat):Int):=by rw [Aa (by omega) (by omega)];omega
 have g0:AE l 0=some (gd l 0):=gI (l:=l) (i:=0) (by omega)
 have gL:AE l ((l.length-1:Nat):Int)=some (gd l (l.length-1)):=gI (by omega)
 obtain⟨p,p1,p2,p3,p4⟩:=vH (n:=n) h (c:=CP l x) (K:=fun i5 i6=>(Option.bind (cond (decide (i5<(l.length:Int))) (Option.bind (AE l i5) fun x7=>(Option.bind (cond (x7==CP l x) (some true) (Option.bind (AE l i5) fun x15=>(Option.bind (Rs n x15) fun r23=>(Option.bind (cond r23 (Option.bind (Rs n (CP l x)) fun r29=>(some r29)) (some false)) fun c29=>(some c29))))) fun c15=>(some c15))) (some false)) fun c7=>(some (i5,c7)))) n 0 l.length (by omega) (by omega) (by omega) (fun k hk=>by omega) (fun k hk hk2=>by omega)
 have pl:p<l.length:=by
  apply Nat.lt_of_not_le
  intro c
  have:=p2 (l.length-1) (by omega);omega
 have hb:UM n l (CP l x)=some ((p:Int),gd l p==CP l x):=by
  rw [UM]
  refine p4.trans ?_
  simp only [Cx pl,cT,gI pl,Au,Rs,bne_self_eq_false,cF]
  cases(gd l p==CP l x)<;>rfl
 have hi:RM n l x=(Option.bind (UM n l (CP l x)) fun r23=>(cond r23.2 (some ([(Bh.mk r23.1 1)],1)) (Option.bind (AE l r23.1) fun x41=>(Option.bind (AE l (wrap .i64 (r23.1-1))) fun x49=>(Option.bind (AE l r23.1) fun x69=>(Option.bind (AE l (wrap .i64 (r23.1-1))) fun x77=>(some ([(Bh.mk (wrap .i64 (r23.1-1)) (wrap .i64 (x41-(CP l x)))),(Bh.mk r23.1 (wrap .i64 ((CP l x)-x49)))],wrap .i64 (x69-x77))))))))):=by
  rw [RM,g0,w1,Au,gL,Au];rfl
 have hsp:lE n l x=HG l x (gd l 0) (gd l (l.length-1)) (fun i21=>(some (0,1,0))) n ((l.length-1:Nat):Int):=by
  rw [lE,g0,w1,Au,gL,Au]
 have cp:=p3 p (Nat.le_refl _) pl
 by_cases c:gd l p=CP l x
 ·refine⟨p,1,0,?_,.inl ⟨pl,rfl,rfl,?_⟩⟩
  ·rw [hsp]
   refine WtS h pl (fun k hk hk2=>by have:=h.lt hk hk2;omega) (fun m=>?_) n _ (by omega) (by omega) (by omega)
   have d0:decide ((p:Int)>=0)=true:=decide_eq_true (by omega)
   have d1:(min (max x (gd l 0)) (gd l (l.length-1))==gd l p)=true:=by rw [beq_iff_eq];exact c.symm
   simp only [HG.eq_2,d0,cT,gI pl,Au,d1]
  ·rw [hi,hb,Au,show(gd l p==CP l x)=true from by rw [beq_iff_eq];exact c];rfl
 ·have p0:0<p:=by
   apply Nat.pos_of_ne_zero
   intro e;subst e;omega
  have b1:=p2 (p-1) (by omega)
  have r1:=h.2.1 p pl
  have r2:=h.2.1 (p-1) (by omega)
  have wp:wrap .i64 ((p:Int)-1)=((p-1:Nat):Int):=by rw [Aa (by omega) (by omega)];omega
  have wq:wrap .i64 (((p-1:Nat):Int)+1)=(p:Int):=by rw [Aa (by omega) (by omega)];omega
  have e1:wrap .i64 (gd l p-CP l x)=gd l p-CP l x:=Aa (by omega) (by omega)
  have e2:wrap .i64 (CP l x-gd l (p-1))=CP l x-gd l (p-1):=Aa (by omega) (by omega)
  have e3:wrap .i64 (gd l p-gd l (p-1))=gd l p-CP l x+(CP l x-gd l (p-1)):=by rw [Aa (by omega) (by omega)];omega
  refine⟨p-1,gd l p-CP l x,CP l x-gd l (p-1),?_,.inr ⟨by omega,by omega,by omega,?_⟩⟩
  ·rw [hsp]
   refine WtS h (show p-1<l.length by omega) (fun k hk hk2=>?_) (fun m=>?_) n _ (by omega) (by omega) (by omega)
   ·by_cases e:k=p
    ·rw [e];omega
    ·have:=h.lt (show p<k by omega) hk2;omega
   ·have d0:decide (((p-1:Nat):Int)>=0)=true:=decide_eq_true (by omega)
    have d1:(min (max x (gd l 0)) (gd l (l.length-1))==gd l (p-1))=false:=by rw [beq_eq_false_iff_ne];show CP l x≠_;omega
    have d2:decide (min (max x (gd l 0)) (gd l (l.length-1))>gd l (p-1))=true:=decide_eq_true (show CP l x>_ by omega)
    simp only [HG.eq_2,d0,cT,gI (show p-1<l.length by omega),Au,d1,d2,cF,wq,gI pl]
    show some (((p-1:Nat):Int),wrap .i64 (gd l p-CP l x),wrap .i64 (CP l x-gd l (p-1)))=_
    rw [e1,e2]
  ·rw [hi,hb,Au,show(gd l p==CP l x)=false from by rw [beq_eq_false_iff_ne];exact c]
   simp only [cF,wp,gI pl,gI (show p-1<l.length by omega),Au,e1,e2,e3]
   rw [show p-1+1=p by omega]
theorem Dv{n:Nat}{s D mode:Int}(h:D≠0):∃r,Ux n s D mode=some r∧VQ n s D mode=some r:=by
 have hz:(D==0)=false:=by rw [beq_eq_false_iff_ne];exact h
 rw [Ux,VQ,hz]
 simp only [cF]
 rw [Bool.and_comm,Bool.and_comm (decide (Int.tmod s D>0))]
 cases(mode==0)&&decide (Int.tmod s D<0)<;>cases(mode==1)&&decide (Int.tmod s D>0)<;>exact⟨_,rfl,rfl⟩
theorem bW{V a c:Int}(hV:-1000000<=V∧V<=1000000)(ha:1<=a∧a<=100000)(hc:1<=c∧c<=100000):wrap .i64 (wrap .i64 (a*c)*V)=wrap .i64 (wrap .i64 (V*a)*c)∧decide (wrap .i64 (a*c)>0)=true:=by
 have h1:0<a*c:=Int.mul_pos (by omega) (by omega)
 have h2:a*c<=100000*c:=Int.mul_le_mul_of_nonneg_right ha.2 (by omega)
 have h3:V*a<=1000000*a:=Int.mul_le_mul_of_nonneg_right hV.2 (by omega)
 have h4:-1000000*a<=V*a:=Int.mul_le_mul_of_nonneg_right hV.1 (by omega)
 rw [Aa (x:=a*c) (by omega) (by omega),Aa (x:=V*a) (by omega) (by omega)]
 refine⟨by rw [Int.mul_comm (V*a) c,Int.mul_comm a c,Int.mul_assoc,Int.mul_comm a V],decide_eq_true h1⟩
theorem mw{a c:Int}(ha:0<=a∧a<=200000)(hc:0<=c∧c<=200000):wrap .i64 (a*c)=a*c:=by
 have h1:0<=a*c:=Int.mul_nonneg ha.1 hc.1
 have h2:a*c<=200000*c:=Int.mul_le_mul_of_nonneg_right ha.2 hc.1
 exact Aa (by omega) (by omega)
theorem eA{i L k:Nat}(hi:i<=4)(hL:L<=4)(hk:k<=4):wrap .i64 (wrap .i64 ((i:Int)*(L:Int))+(k:Int))=((i*L+k:Nat):Int):=by
 have:i*L<=4*4:=Nat.mul_le_mul hi hL
 rw [aI hi hL,Aa (by omega) (by omega)];omega
theorem uW{i L k u v:Nat}(hi:i+u<=4)(hL:L<=4)(hk:k<=4)(hv:v<=1):wrap .i64 (wrap .i64 (wrap .i64 (wrap .i64 ((i:Int)+(u:Int))*(L:Int))+(k:Int))+(v:Int))=(((i+u)*L+(k+v):Nat):Int):=by
 have:(i+u)*L<=4*4:=Nat.mul_le_mul hi hL
 rw [Aa (x:=(i:Int)+(u:Int)) (by omega) (by omega),show(i:Int)+(u:Int)=((i+u:Nat):Int) by omega,aI hi hL,Aa (x:=(((i+u)*L:Nat):Int)+(k:Int)) (by omega) (by omega),Aa (by omega) (by omega)];omega
theorem eU{S L i k:Nat}(hi:i<S)(hk:k<L):i*L+k<S*L:=by
 have:(i+1)*L<=S*L:=Nat.mul_le_mul_right L hi
 rw [Nat.add_mul]at this;omega
theorem vC{n:Nat}{s D mode:Int}(h:D≠0):∃r,(Option.bind (Ux n s D mode) fun r=>some r)=some r∧(Option.bind (VQ n s D mode) fun r=>some r)=some r:=by
 obtain⟨r,a,b⟩:=Dv (n:=n) (s:=s) (mode:=mode) h
 exact⟨r,by rw [a];rfl,by rw [b];rfl⟩
set_option maxHeartbeats 4000000 in
theorem Lk{n:Nat}{t:AS}(v:VT t)(x y mode:Int)(hn:1048577<=n):∃r,uN n t x y mode=some r∧qB n t x y mode=some r:=by
 obtain⟨i,a,b,s1,e1⟩:=Wt (n:=n) v.1.1 x hn
 obtain⟨k,c,d,s2,e2⟩:=Wt (n:=n) v.1.2 y hn
 have S4:=v.1.1.1.2
 have L4:=v.1.2.1.2
 have hV:=v.2.2
 have hlen:=v.2.1
 obtain⟨m,rfl⟩:∃m,n=m+3:=⟨n-3,by omega⟩
 rw [uN,qB,s1,s2]
 have w01:wrap .i64 (0+1)=1:=rfl
 have w12:wrap .i64 (1+1)=2:=rfl
 have l02:decide ((0:Int)<2)=true:=rfl
 have l12:decide ((1:Int)<2)=true:=rfl
 have l22:decide ((2:Int)<2)=false:=rfl
 have l01:decide ((0:Int)<1)=true:=rfl
 have l11:decide ((1:Int)<1)=false:=rfl
 have b01:((0:Int)==1)=false:=rfl
 have b11:((1:Int)==1)=true:=rfl
 have b00:((0:Int)==0)=true:=rfl
 have b10:((1:Int)==0)=false:=rfl
 have z00:wrap .i64 0=0:=rfl
 have z01:decide ((0:Int)>0)=false:=rfl
 have o10:wrap .i64 (1+0)=1:=rfl
 have g10:∀w:Bh,AE [w] 0=some w:=fun _=>rfl
 have g20:∀w z:Bh,AE [w,z] 0=some w:=fun _ _=>rfl
 have g21:∀w z:Bh,AE [w,z] 1=some z:=fun _ _=>rfl
 have n1:∀w:Bh,(([w]:List Bh).length:Int)=1:=fun _=>rfl
 have n2:∀w z:Bh,(([w,z]:List Bh).length:Int)=2:=fun _ _=>rfl
 have i00:=uW (i:=i) (u:=0) (k:=k) (v:=0) (L:=t.Loads.length)
 have i01:=uW (i:=i) (u:=0) (k:=k) (v:=1) (L:=t.Loads.length)
 have i10:=uW (i:=i) (u:=1) (k:=k) (v:=0) (L:=t.Loads.length)
 have i11:=uW (i:=i) (u:=1) (k:=k) (v:=1) (L:=t.Loads.length)
 simp only [Int.natCast_zero,Int.natCast_one,Nat.add_zero]at i00 i01 i10 i11
 rcases e1 with ⟨hi,ha,hb,e1⟩|⟨hi,ha,hb,e1⟩<;>rcases e2 with ⟨hk,hc,hd,e2⟩|⟨hk,hc,hd,e2⟩<;>rw [e1,e2]
 ·subst ha hb
  subst hc hd
  have q00:=eU (S:=t.Slews.length) (L:=t.Loads.length) (i:=i) (k:=k) (by omega) (by omega)
  have t00:=bW (V:=gd t.Values (i*t.Loads.length+k)) (a:=1) (c:=1) (hV _ (by omega)) (by omega) (by omega)
  have j00:=i00 (by omega) (by omega) (by omega) (by omega)
  have p00:=eA (i:=i) (k:=k) (L:=t.Loads.length) (by omega) (by omega) (by omega)
  have v00:=gI (l:=t.Values) (i:=i*t.Loads.length+k) (by omega)
  simp only [Au,JD.eq_2,EZ.eq_2,JZ.eq_2,JI.eq_2,n1,n2,g10,g20,g21,w01,w12,l02,l12,l22,l01,l11,cT,cF,b01,b11,b00,b10,Int.zero_mul,Int.mul_zero,z00,z01,o10,j00,p00,v00,t00.1,t00.2]
  refine vC ?_
  exact(by decide:wrap .i64 (1*1)≠0)
 ·subst ha hb
  have q00:=eU (S:=t.Slews.length) (L:=t.Loads.length) (i:=i) (k:=k) (by omega) (by omega)
  have t00:=bW (V:=gd t.Values (i*t.Loads.length+k)) (a:=1) (c:=c) (hV _ (by omega)) (by omega) (by omega)
  have j00:=i00 (by omega) (by omega) (by omega) (by omega)
  have p00:=eA (i:=i) (k:=k) (L:=t.Loads.length) (by omega) (by omega) (by omega)
  have v00:=gI (l:=t.Values) (i:=i*t.Loads.length+k) (by omega)
  have q01:=eU (S:=t.Slews.length) (L:=t.Loads.length) (i:=i) (k:=(k+1)) (by omega) (by omega)
  have t01:=bW (V:=gd t.Values (i*t.Loads.length+(k+1))) (a:=1) (c:=d) (hV _ (by omega)) (by omega) (by omega)
  have j01:=i01 (by omega) (by omega) (by omega) (by omega)
  have p01:=eA (i:=i) (k:=(k+1)) (L:=t.Loads.length) (by omega) (by omega) (by omega)
  have v01:=gI (l:=t.Values) (i:=i*t.Loads.length+(k+1)) (by omega)
  have sB:wrap .i64 (c+d)=c+d:=Aa (by omega) (by omega)
  simp only [Au,JD.eq_2,EZ.eq_2,JZ.eq_2,JI.eq_2,n1,n2,g10,g20,g21,w01,w12,l02,l12,l22,l01,l11,cT,cF,b01,b11,b00,b10,Int.zero_mul,Int.mul_zero,z00,z01,o10,j00,p00,v00,t00.1,t00.2,j01,p01,v01,t01.1,t01.2,sB]
  refine vC ?_
  rw [mw (by omega) (by omega)]
  have:=Int.mul_pos (show 0<(1:Int) by omega) (show 0<(c+d) by omega)
  omega
 ·subst hc hd
  have q00:=eU (S:=t.Slews.length) (L:=t.Loads.length) (i:=i) (k:=k) (by omega) (by omega)
  have t00:=bW (V:=gd t.Values (i*t.Loads.length+k)) (a:=a) (c:=1) (hV _ (by omega)) (by omega) (by omega)
  have j00:=i00 (by omega) (by omega) (by omega) (by omega)
  have p00:=eA (i:=i) (k:=k) (L:=t.Loads.length) (by omega) (by omega) (by omega)
  have v00:=gI (l:=t.Values) (i:=i*t.Loads.length+k) (by omega)
  have q10:=eU (S:=t.Slews.length) (L:=t.Loads.length) (i:=(i+1)) (k:=k) (by omega) (by omega)
  have t10:=bW (V:=gd t.Values ((i+1)*t.Loads.length+k)) (a:=b) (c:=1) (hV _ (by omega)) (by omega) (by omega)
  have j10:=i10 (by omega) (by omega) (by omega) (by omega)
  have p10:=eA (i:=(i+1)) (k:=k) (L:=t.Loads.length) (by omega) (by omega) (by omega)
  have v10:=gI (l:=t.Values) (i:=(i+1)*t.Loads.length+k) (by omega)
  have sA:wrap .i64 (a+b)=a+b:=Aa (by omega) (by omega)
  simp only [Au,JD.eq_2,EZ.eq_2,JZ.eq_2,JI.eq_2,n1,n2,g10,g20,g21,w01,w12,l02,l12,l22,l01,l11,cT,cF,b01,b11,b00,b10,Int.zero_mul,Int.mul_zero,z00,z01,o10,j00,p00,v00,t00.1,t00.2,j10,p10,v10,t10.1,t10.2,sA]
  refine vC ?_
  rw [mw (by omega) (by omega)]
  have:=Int.mul_pos (show 0<(a+b) by omega) (show 0<(1:Int) by omega)
  omega
 ·have q00:=eU (S:=t.Slews.length) (L:=t.Loads.length) (i:=i) (k:=k) (by omega) (by omega)
  have t00:=bW (V:=gd t.Values (i*t.Loads.length+k)) (a:=a) (c:=c) (hV _ (by omega)) (by omega) (by omega)
  have j00:=i00 (by omega) (by omega) (by omega) (by omega)
  have p00:=eA (i:=i) (k:=k) (L:=t.Loads.length) (by omega) (by omega) (by omega)
  have v00:=gI (l:=t.Values) (i:=i*t.Loads.length+k) (by omega)
  have q01:=eU (S:=t.Slews.length) (L:=t.Loads.length) (i:=i) (k:=(k+1)) (by omega) (by omega)
  have t01:=bW (V:=gd t.Values (i*t.Loads.length+(k+1))) (a:=a) (c:=d) (hV _ (by omega)) (by omega) (by omega)
  have j01:=i01 (by omega) (by omega) (by omega) (by omega)
  have p01:=eA (i:=i) (k:=(k+1)) (L:=t.Loads.length) (by omega) (by omega) (by omega)
  have v01:=gI (l:=t.Values) (i:=i*t.Loads.length+(k+1)) (by omega)
  have q10:=eU (S:=t.Slews.length) (L:=t.Loads.length) (i:=(i+1)) (k:=k) (by omega) (by omega)
  have t10:=bW (V:=gd t.Values ((i+1)*t.Loads.length+k)) (a:=b) (c:=c) (hV _ (by omega)) (by omega) (by omega)
  have j10:=i10 (by omega) (by omega) (by omega) (by omega)
  have p10:=eA (i:=(i+1)) (k:=k) (L:=t.Loads.length) (by omega) (by omega) (by omega)
  have v10:=gI (l:=t.Values) (i:=(i+1)*t.Loads.length+k) (by omega)
  have q11:=eU (S:=t.Slews.length) (L:=t.Loads.length) (i:=(i+1)) (k:=(k+1)) (by omega) (by omega)
  have t11:=bW (V:=gd t.Values ((i+1)*t.Loads.length+(k+1))) (a:=b) (c:=d) (hV _ (by omega)) (by omega) (by omega)
  have j11:=i11 (by omega) (by omega) (by omega) (by omega)
  have p11:=eA (i:=(i+1)) (k:=(k+1)) (L:=t.Loads.length) (by omega) (by omega) (by omega)
  have v11:=gI (l:=t.Values) (i:=(i+1)*t.Loads.length+(k+1)) (by omega)
  have sA:wrap .i64 (a+b)=a+b:=Aa (by omega) (by omega)
  have sB:wrap .i64 (c+d)=c+d:=Aa (by omega) (by omega)
  simp only [Au,JD.eq_2,EZ.eq_2,JZ.eq_2,JI.eq_2,n1,n2,g10,g20,g21,w01,w12,l02,l12,l22,l01,l11,cT,cF,b01,b11,b00,b10,Int.zero_mul,Int.mul_zero,z00,z01,o10,j00,p00,v00,t00.1,t00.2,j01,p01,v01,t01.1,t01.2,j10,p10,v10,t10.1,t10.2,j11,p11,v11,t11.1,t11.2,sA,sB]
  refine vC ?_
  rw [mw (by omega) (by omega)]
  have:=Int.mul_pos (show 0<(a+b) by omega) (show 0<(c+d) by omega)
  omega
theorem aX{l:List BD}{i:Int}(h:HZ l i=true):0<cnt l:=by
 unfold HZ at h
 cases e:l[i.toNat]? with
 |none=>rw [e]at h;cases h
 |some p=>
  rw [e]at h
  have h:p.Clock=true:=h
  exact List.countP_pos_iff.2 ⟨p,List.mem_of_getElem? e,h⟩
theorem AbH{n:Nat}{c:AX}(v:Mb c)(hn:1048577<=n):∃q,Wp n c=some q∧WT n c=some q∧(c.Kind≠1->q=0∨q=1):=by
 have hal:=v.few
 obtain⟨b2,e3,h3⟩:=Hs (n:=n) (c:=c) (by omega) 2 hn
 simp only [Wp,WT,e3,Au]
 rcases v.kind with ⟨k,_⟩|⟨k,_,_,_,x⟩|⟨k,_⟩
 ·rw [k];exact⟨_,rfl,rfl,fun h=>absurd rfl h⟩
 ·rw [k]
  simp only [show((2:Int)==3)=false from rfl,show((2:Int)==2)=true from rfl,show((2:Int)==1)=false from rfl,cT,cF]
  have key:∃q,Gm c (fun i19=>(some 0)) n 0=some q∧(q=0∧¬EM c.Arcs 3∨q=1∧EM c.Arcs 3):=by
   refine loop (L:=fun m i (_:Unit)=>Gm c (fun i19=>(some 0)) m i) c.Arcs.length (fun i _=>∀j (hj:j<c.Arcs.length),j<i->c.Arcs[j].Kind≠3) (fun o=>∃q,o=some q∧(q=0∧¬EM c.Arcs 3∨q=1∧EM c.Arcs 3)) ?_ ?_ n 0 () (by omega) (by omega) (fun j _ hj=>by omega)
   ·intro m i _ hi hI
    simp only [Gm.eq_2,Cx hi,cT,AU hi,Au,wT i]
    by_cases q:c.Arcs[i].Kind=3
    ·have:(c.Arcs[i].Kind==3)=true:=by rw [beq_iff_eq];exact q
     simp only [this,cT]
     exact .inr ⟨1,rfl,.inr ⟨rfl,_,List.getElem_mem hi,q⟩⟩
    ·have:(c.Arcs[i].Kind==3)=false:=by rw [beq_eq_false_iff_ne];exact q
     simp only [this,cF]
     refine .inl ⟨(),fun j hj hji=>?_,by trivial⟩
     by_cases ej:j=i
     ·subst ej;exact q
     ·exact hI j hj (by omega)
   ·intro m _ hI
    simp only [Gm.eq_2,DH,cF]
    refine⟨0,rfl,.inl ⟨rfl,fun⟨a,ha,e⟩=>?_⟩⟩
    obtain⟨j,hj,rfl⟩:=List.getElem_of_mem ha
    exact hI j hj hj e
  obtain⟨q,e4,hq⟩:=key
  rw [e4]
  refine⟨q,rfl,?_,fun _=>by omega⟩
  cases b2 with
  |true=>
   have:¬EM c.Arcs 3:=fun g=>x ⟨fun _=>g,fun _=>h3.1 rfl⟩
   rcases hq with hq|hq
   ·rw [hq.1];rfl
   ·exact absurd hq.2 this
  |false=>
   have n2:¬EM c.Arcs 2:=fun g=>by have:=h3.2 g;cases this
   have:EM c.Arcs 3:=Classical.byContradiction fun g=>x ⟨fun a=>absurd a n2,fun a=>absurd a g⟩
   rcases hq with hq|hq
   ·exact absurd this hq.2
   ·rw [hq.1];rfl
 ·rw [k];exact⟨_,rfl,rfl,fun _=>.inr rfl⟩
structure Lp(b:AQ)(inst arc:Int)(a:Ah)(i j:Nat)(c:AX):Prop where
 ei:inst=(i:Int)
 ej:arc=(j:Int)
 hi:i<b.Design.Instances.length
 gc:AE b.Library.Cells b.Design.Instances[i].Cell=some c
 vc:Mb c
 nets:b.Design.Instances[i].Nets.length=c.Pins.length
 hj:j<c.Arcs.length
 ea:c.Arcs[j]=a
 kind:a.Kind=4∨a.Kind=5
theorem sN{n:Nat}{b:AQ}(v:Ce b)(inst arc:Int):∃x:Ah×Bool,UR n b inst arc=some x∧OM n b inst arc=some x∧(x.2=true->∃i j c,Lp b inst arc x.1 i j c):=by
 have fw:=v.design.few
 have wI:wrap .i64 ((b.Design.Instances.length:Int)-1)=(b.Design.Instances.length:Int)-1:=Aa (by omega) (by omega)
 rw [UR,OM]
 simp only [GV,Zm,Ij,XB,Au,wI]
 cases di:(decide (inst>=0)&&decide (inst<=(b.Design.Instances.length:Int)-1))with
 |false=>exact⟨_,rfl,rfl,fun h=>by cases h⟩
 |true=>
  simp only [Bool.and_eq_true,decide_eq_true_eq]at di
  obtain⟨i,hi⟩:=Int.eq_ofNat_of_zero_le di.1
  have hi:inst=(i:Int):=hi
  subst hi
  have hil:i<b.Design.Instances.length:=by omega
  obtain⟨k,hk,hc,gc,hnl,vc⟩:=v.design.inst_at hil
  have few:=vc.few
  have wA:wrap .i64 ((b.Library.Cells[k].Arcs.length:Int)-1)=(b.Library.Cells[k].Arcs.length:Int)-1:=Aa (by omega) (by omega)
  simp only [Bool.not_true,cF,AU hil,gc,Au,wA]
  cases dj:(decide (arc>=0)&&decide (arc<=(b.Library.Cells[k].Arcs.length:Int)-1))with
  |false=>exact⟨_,rfl,rfl,fun h=>by cases h⟩
  |true=>
   simp only [Bool.and_eq_true,decide_eq_true_eq]at dj
   obtain⟨j,hj⟩:=Int.eq_ofNat_of_zero_le dj.1
   have hj:arc=(j:Int):=hj
   subst hj
   have hjl:j<b.Library.Cells[k].Arcs.length:=by omega
   simp only [Bool.not_true,cF,AU hjl,Au,PI]
   by_cases k4:b.Library.Cells[k].Arcs[j].Kind=4
   ·rw [k4];exact⟨_,rfl,rfl,fun _=>⟨i,j,_,rfl,rfl,hil,gc,vc,hnl,hjl,rfl,.inl k4⟩⟩
   ·by_cases k5:b.Library.Cells[k].Arcs[j].Kind=5
    ·rw [k5];exact⟨_,rfl,rfl,fun _=>⟨i,j,_,rfl,rfl,hil,gc,vc,hnl,hjl,rfl,.inr k5⟩⟩
    ·have b4:(b.Library.Cells[k].Arcs[j].Kind==4)=false:=by rw [beq_eq_false_iff_ne];exact k4
     have b5:(b.Library.Cells[k].Arcs[j].Kind==5)=false:=by rw [beq_eq_false_iff_ne];exact k5
     have c4:(b.Library.Cells[k].Arcs[j].Kind !=4)=true:=by rw [bne_iff_ne];exact k4
     have c5:(b.Library.Cells[k].Arcs[j].Kind !=5)=true:=by rw [bne_iff_ne];exact k5
     rw [b4,b5,c4,c5]
     exact⟨_,rfl,rfl,fun h=>by cases h⟩
theorem NT{n:Nat}{b:AQ}{r:BU}{inst arc tr s:Int}{a:Ah}{i j:Nat}{c:AX}(v:Ce b)(hr:r.Block=b)(h:Lp b inst arc a i j c)(ht:tr=0∨tr=1)(hn:1048577<=n):
 ∃D C:Nat,Qg n b [inst,arc,tr]=some ((D:Int),(C:Int))∧Sj n r ⟨inst,arc,tr,s⟩=some ((D:Int),(C:Int))∧(D:Int)<GJ b∧(C:Int)<GJ b:=by
 obtain⟨rfl,rfl,hi,gc,vc,nets,hj,rfl,kind⟩:=h
 have ar:=(vc.arcs j hj).1
 unfold MA at ar
 have k1:¬c.Arcs[j].Kind=1:=by omega
 have k2:¬(c.Arcs[j].Kind=2∨c.Arcs[j].Kind=3):=by omega
 rw [if_neg k1,if_neg k2,if_pos kind]at ar
 obtain⟨⟨hF,hT⟩,eB,hT2,_⟩:=ar
 have kg:c.Kind≠1:=fun e=>by
  rcases vc.kind with ⟨_,z,_⟩|⟨z,_⟩|⟨z,_⟩
  ·have:=aX eB;omega
  ·omega
  ·omega
 obtain⟨q,e1,e2,hq⟩:=AbH (n:=n) vc hn
 have hq:=hq kg
 obtain⟨F,eF⟩:=Int.eq_ofNat_of_zero_le hF.1
 have eF:c.Arcs[j].From=(F:Int):=eF
 obtain⟨T,eT⟩:=Int.eq_ofNat_of_zero_le hT.1
 have eT:c.Arcs[j].To=(T:Int):=eT
 have hp:=Dy v.design.short v.design.few.1 v.design.few.2.2
 have b1:=(Jz (d:=b.Design) (q:=T) hi (by omega)).lt
 have b2:=(Jz (d:=b.Design) (q:=F) hi (by omega)).lt
 have p1:=oZ (n:=n) v.design (q:=T) hi (by omega) hn
 have p2:=oZ (n:=n) v.design (q:=F) hi (by omega) hn
 have p3:UF n b.Design (i:Int) 0=some ((Ll b.Design i+0:Nat):Int):=AcK (n:=n) v.design (q:=0) hi (by omega) hn
 obtain⟨O,hO⟩:∃O:Nat,O=Ll b.Design i:=⟨_,rfl⟩
 rw [←hO]at p1 p2 p3 b1 b2
 have nd:GJ b=2*((Dt b.Design).length:Int):=rfl
 refine⟨2*(O+T)+tr.toNat,2*(O+F)+q.toNat,?_,?_,by omega,by omega⟩
 ·have g0:AE [(i:Int),(j:Int),tr] 0=some (i:Int):=rfl
  have g1:AE [(i:Int),(j:Int),tr] 1=some (j:Int):=rfl
  have g2:AE [(i:Int),(j:Int),tr] 2=some tr:=rfl
  rw [Qg]
  simp only [g0,g1,g2,Au,AU hi,gc,AU hj,eF,eT,p1,p2,e1]
  rw [Aa (x:=2*((O+T:Nat):Int)) (by omega) (by omega),Aa (x:=2*((O+F:Nat):Int)) (by omega) (by omega),Aa (by omega) (by omega),Aa (by omega) (by omega)]
  congr 2<;>omega
 ·rw [Sj]
  simp only [hr,Au,AU hi,gc,AU hj,eF,eT,p3,e2]
  rw [Aa (x:=((O+0:Nat):Int)+(T:Int)) (by omega) (by omega),Aa (x:=((O+0:Nat):Int)+(F:Int)) (by omega) (by omega),Aa (x:=2*(((O+0:Nat):Int)+(T:Int))) (by omega) (by omega),Aa (x:=2*(((O+0:Nat):Int)+(F:Int))) (by omega) (by omega),Aa (by omega) (by omega),Aa (by omega) (by omega)]
  congr 2<;>omega
theorem Wo{b:AQ}{inst arc tr:Int}{a:Ah}{i j:Nat}{c:AX}(h:Lp b inst arc a i j c)(ht:tr=0∨tr=1):∃t,AE a.Delay tr=some t∧VT t:=by
 obtain⟨rfl,rfl,hi,gc,vc,nets,hj,rfl,kind⟩:=h
 have ar:=(vc.arcs j hj).1
 unfold MA at ar
 have k1:¬c.Arcs[j].Kind=1:=by omega
 have k2:¬(c.Arcs[j].Kind=2∨c.Arcs[j].Kind=3):=by omega
 rw [if_neg k1,if_neg k2,if_pos kind]at ar
 obtain⟨_,_,_,_,_,hd,_⟩:=ar
 obtain⟨t,e,he⟩:=DC (xs:=c.Arcs[j].Delay) (i:=tr) (by omega) (by have:=hd.1;omega)
 exact⟨t,e,(hd.2 t (List.mem_of_getElem? he)).1⟩
theorem SE{x s:Int}{y:Option Int}(e:(cond (decide (x<0)) (some (-1)) y)=some s)(hs:0<=s):0<=x∧y=some s:=by
 by_cases h:x<0
 ·rw [decide_eq_true h,cT]at e;have:=Option.some.inj e;omega
 ·rw [decide_eq_false h,cF]at e;exact⟨by omega,e⟩
theorem OR{s:Int}{o:Option Int}{g:Int->Option Int}(e:(Option.bind o fun r=>cond (decide (r<0)) (some (-1)) (g r))=some s)(hs:0<=s):∃r,o=some r∧0<=r∧g r=some s:=by
 cases o with
 |none=>cases e
 |some r=>
  rw [Au]at e
  obtain⟨a,b⟩:=SE e hs
  exact⟨r,rfl,a,b⟩
theorem cL{α:Type}{xs:List α}{LZ LM:Nat->Int->Int->Option Int}{f:α->Int->Option Int}
 (hz:∀(m i:Nat) (l:Int) (h:i<xs.length),LZ (m+1) l (i:Int)=Option.bind (f xs[i] l) fun r=>cond (decide (r<0)) (some (-1)) (LZ m r ((i+1:Nat):Int)))
 (hze:∀(m:Nat) (l:Int),LZ (m+1) l (xs.length:Int)=some l)
 (hm:∀(m i:Nat) (k l r:Int) (h:i<xs.length),f xs[i] l=some r->0<=r->0<=l->l<=1048576->0<=k->k+4+4*l<=1152921504606846976->r<=l∧∃k',LM (m+1) k (i:Int)=LM m k' ((i+1:Nat):Int)∧k<=k'∧k'<=k+4+4*(l-r))
 (hme:∀(m:Nat) (k:Int),LM (m+1) k (xs.length:Int)=some k):
 ∀(m i:Nat) (k l r:Int),i<=xs.length->xs.length-i<m->LZ m l (i:Int)=some r->0<=r->0<=l->l<=1048576->0<=k->k+4*((xs.length-i:Nat):Int)+4*l<=1152921504606846976->r<=l∧∃k',LM m k (i:Int)=some k'∧k<=k'∧k'<=k+4*((xs.length-i:Nat):Int)+4*(l-r)
 |0,i,_,_,_,_,hf,_,_,_,_,_,_=>by omega
 |m+1,i,k,l,r,hi,hf,e,hr,h0,h1,hk,hb=>by
  by_cases h:i<xs.length
  ·rw [hz m i l h]at e
   obtain⟨r1,e1,p1,e2⟩:=OR e hr
   obtain⟨q1,k1,a1,a2,a3⟩:=hm m i k l r1 h e1 p1 h0 h1 hk (by omega)
   obtain⟨q2,k2,b1,b2,b3⟩:=cL hz hze hm hme m (i+1) k1 r1 r (by omega) (by omega) e2 hr p1 (by omega) (by omega) (by omega)
   exact⟨by omega,k2,by rw [a1,b1],by omega,by omega⟩
  ·obtain rfl:i=xs.length:=by omega
   rw [hze]at e
   obtain rfl:=Option.some.inj e
   exact⟨Int.le_refl _,k,hme m k,Int.le_refl _,by omega⟩
theorem wk{k:Int}(h0:0<=k)(h1:k<=2305843009213693952):wrap .i64 (k+1)=k+1:=Aa (by omega) (by omega)
theorem EI{n:Nat}{a:List Int}{left k r:Int}(hR:(fun xs=>xs.length<=9223372036854775807∧∀x∈xs,Ki .i64 x) a)(h0:0<=left)(h1:left<=1048576)(hn:1048577<=n)(e:SK n a left=some r)(hr:0<=r)(k0:0<=k)(k1:k+4*left<=1152921504606846976):
 r<=left∧∃k',UN n a k=some k'∧k<=k'∧k'<=k+4*(left-r):=by
 have hl:=hR.1
 rw [SK,Aa (by omega) (by omega)]at e
 obtain⟨p,e⟩:=SE e hr
 obtain rfl:=Option.some.inj e
 have key:∀(m i:Nat) (k:Int),i<=a.length->a.length-i<m->0<=k->k+((a.length-i:Nat):Int)<=1152921504606846976->LF a (fun i5 i6=>some i5) m k (i:Int)=some (k+((a.length-i:Nat):Int)):=by
  intro m
  induction m with
  |zero=>intro i k _ h;omega
  |succ m ih=>
   intro i k hi hm h0 hb
   by_cases h:i<a.length
   ·simp only [LF.eq_2,Cx h,cT,AU h,Au,wk (k:=k) h0 (by omega),wT i]
    rw [ih (i+1) (k+1) (by omega) (by omega) (by omega) (by omega)]
    congr 1;omega
   ·obtain rfl:i=a.length:=by omega
    simp only [LF.eq_2,DH,cF]
    congr 1;omega
 refine⟨by omega,k+(a.length:Int),?_,by omega,by omega⟩
 rw [UN]
 have:=key n 0 k (by omega) (by omega) k0 (by simp;omega)
 simpa using this
theorem cY{n:Nat}{a:List BD}{left k r:Int}(hR:(fun xs=>xs.length<=9223372036854775807∧∀x∈xs,Oz x) a)(h0:0<=left)(h1:left<=1048576)(hn:1048577<=n)(e:mW n a left=some r)(hr:0<=r)(k0:0<=k)(k1:k+4*left<=1152921504606846976):
 r<=left∧∃k',Xd n a k=some k'∧k<=k'∧k'<=k+4*(left-r):=by
 have hl:=hR.1
 rw [mW,Aa (by omega) (by omega)]at e
 obtain⟨p,e⟩:=SE e hr
 obtain⟨q,k2,b1,b2,b3⟩:=cL (xs:=a) (LZ:=fun m l i=>HN n a (fun i5 i6=>(some i5)) m l i) (LM:=fun m k i=>Ih n a (fun i5 i6=>(some i5)) m k i) (f:=Qm n)
  (fun m i l hi=>by
   simp only [HN.eq_2,Cx hi,cT,AU hi,Au,wT i])
  (fun m l=>by simp only [HN.eq_2,DH,cF])
  (fun m i k l r hi e hr h0 h1 k0 k1=>by
   have hx:=hR.2 _ (List.getElem_mem hi)
   rw [Qm]at e
   have g:(a[i].Name.size:Int)<=9223372036854775807:=by have g:=hx.1;rw [Dm]at g;omega
   rw [Aa (x:=l-(a[i].Name.size:Int)) (by omega) (by omega)]at e
   obtain⟨p0,e⟩:=SE e hr
   obtain rfl:=Option.some.inj e
   obtain⟨t,ht⟩:=MT (n:=n) (k:=k) (by omega) (by omega) hn
   refine⟨by omega,k+1+1+1+1,?_,by omega,by omega⟩
   simp only [Ih.eq_2,Cx hi,cT,AU hi,Au,wT i,ht,wk (k:=k) (by omega) (by omega),wk (k:=k+1) (by omega) (by omega),wk (k:=k+1+1) (by omega) (by omega),wk (k:=k+1+1+1) (by omega) (by omega)])
  (fun m k=>by simp only [Ih.eq_2,DH,cF]) n 0 k (left-(a.length:Int)) r (by omega) (by omega) e hr p (by omega) k0 (by omega)
 rw [Nat.sub_zero]at b3
 refine⟨by omega,k2,?_,b2,by omega⟩
 rw [Xd];exact b1
theorem OU{n:Nat}{a:List AS}{left k r:Int}(hR:(fun xs=>xs.length<=9223372036854775807∧∀x∈xs,IY x) a)(h0:0<=left)(h1:left<=1048576)(hn:1048577<=n)(e:fY n a left=some r)(hr:0<=r)(k0:0<=k)(k1:k+4*left<=1152921504606846976):
 r<=left∧∃k',UO n a k=some k'∧k<=k'∧k'<=k+4*(left-r):=by
 have hl:=hR.1
 rw [fY,Aa (by omega) (by omega)]at e
 obtain⟨p,e⟩:=SE e hr
 obtain⟨q,k2,b1,b2,b3⟩:=cL (xs:=a) (LZ:=fun m l i=>HD n a (fun i5 i6=>(some i5)) m l i) (LM:=fun m k i=>IM n a (fun i5 i6=>(some i5)) m k i) (f:=Rb n)
  (fun m i l hi=>by
   simp only [HD.eq_2,Cx hi,cT,AU hi,Au,wT i])
  (fun m l=>by simp only [HD.eq_2,DH,cF])
  (fun m i k l r hi e hr h0 h1 k0 k1=>by
   have hx:=hR.2 _ (List.getElem_mem hi)
   rw [Rb]at e
   obtain⟨r0,e0,p1,e⟩:=OR e hr
   obtain⟨r1,e1,p2,e⟩:=OR e hr
   obtain⟨r2,e2,p3,e⟩:=OR e hr
   obtain rfl:=Option.some.inj e
   obtain⟨u0,k_0,m0,v0,z0⟩:=EI (n:=n) (a:=a[i].Slews) (left:=l) (k:=k) (hx.1) (by omega) (by omega) hn e0 (by omega) (by omega) (by omega)
   obtain⟨u1,k_1,m1,v1,z1⟩:=EI (n:=n) (a:=a[i].Loads) (left:=r0) (k:=k_0) (hx.2.1) (by omega) (by omega) hn e1 (by omega) (by omega) (by omega)
   obtain⟨u2,k_2,m2,v2,z2⟩:=EI (n:=n) (a:=a[i].Values) (left:=r1) (k:=k_1) (hx.2.2) (by omega) (by omega) hn e2 (by omega) (by omega) (by omega)
   refine⟨by omega,k_2,?_,by omega,by omega⟩
   simp only [IM.eq_2,Cx hi,cT,AU hi,Au,wT i,m0,m1,m2])
  (fun m k=>by simp only [IM.eq_2,DH,cF]) n 0 k (left-(a.length:Int)) r (by omega) (by omega) e hr p (by omega) k0 (by omega)
 rw [Nat.sub_zero]at b3
 refine⟨by omega,k2,?_,b2,by omega⟩
 rw [UO];exact b1
theorem eO{n:Nat}{a:List Ah}{left k r:Int}(hR:(fun xs=>xs.length<=9223372036854775807∧∀x∈xs,PA x) a)(h0:0<=left)(h1:left<=1048576)(hn:1048577<=n)(e:jF n a left=some r)(hr:0<=r)(k0:0<=k)(k1:k+4*left<=1152921504606846976):
 r<=left∧∃k',XR n a k=some k'∧k<=k'∧k'<=k+4*(left-r):=by
 have hl:=hR.1
 rw [jF,Aa (by omega) (by omega)]at e
 obtain⟨p,e⟩:=SE e hr
 obtain⟨q,k2,b1,b2,b3⟩:=cL (xs:=a) (LZ:=fun m l i=>HF n a (fun i5 i6=>(some i5)) m l i) (LM:=fun m k i=>IE n a (fun i5 i6=>(some i5)) m k i) (f:=QN n)
  (fun m i l hi=>by
   simp only [HF.eq_2,Cx hi,cT,AU hi,Au,wT i])
  (fun m l=>by simp only [HF.eq_2,DH,cF])
  (fun m i k l r hi e hr h0 h1 k0 k1=>by
   have hx:=hR.2 _ (List.getElem_mem hi)
   rw [QN]at e
   obtain⟨r0,e0,p1,e⟩:=OR e hr
   obtain⟨r1,e1,p2,e⟩:=OR e hr
   obtain rfl:=Option.some.inj e
   obtain⟨u0,k_0,m0,v0,z0⟩:=OU (n:=n) (a:=a[i].Delay) (left:=l) (k:=k+1+1+1+1) (hx.2.2.2.2.1) (by omega) (by omega) hn e0 (by omega) (by omega) (by omega)
   obtain⟨u1,k_1,m1,v1,z1⟩:=OU (n:=n) (a:=a[i].Slew) (left:=r0) (k:=k_0) (hx.2.2.2.2.2) (by omega) (by omega) hn e1 (by omega) (by omega) (by omega)
   refine⟨by omega,k_1,?_,by omega,by omega⟩
   simp only [IE.eq_2,Cx hi,cT,AU hi,Au,wT i,wk (k:=k) (by omega) (by omega),wk (k:=k+1) (by omega) (by omega),wk (k:=k+1+1) (by omega) (by omega),wk (k:=k+1+1+1) (by omega) (by omega),m0,m1])
  (fun m k=>by simp only [IE.eq_2,DH,cF]) n 0 k (left-(a.length:Int)) r (by omega) (by omega) e hr p (by omega) k0 (by omega)
 rw [Nat.sub_zero]at b3
 refine⟨by omega,k2,?_,b2,by omega⟩
 rw [XR];exact b1
theorem Vq{n:Nat}{a:List AX}{left k r:Int}(hR:(fun xs=>xs.length<=9223372036854775807∧∀x∈xs,MW x) a)(h0:0<=left)(h1:left<=1048576)(hn:1048577<=n)(e:Sz n a left=some r)(hr:0<=r)(k0:0<=k)(k1:k+4*left<=1152921504606846976):
 r<=left∧∃k',Xj n a k=some k'∧k<=k'∧k'<=k+4*(left-r):=by
 have hl:=hR.1
 rw [Sz,Aa (by omega) (by omega)]at e
 obtain⟨p,e⟩:=SE e hr
 obtain⟨q,k2,b1,b2,b3⟩:=cL (xs:=a) (LZ:=fun m l i=>FP n a (fun i5 i6=>(some i5)) m l i) (LM:=fun m k i=>Hw n a (fun i5 i6=>(some i5)) m k i) (f:=QM n)
  (fun m i l hi=>by
   simp only [FP.eq_2,Cx hi,cT,AU hi,Au,wT i])
  (fun m l=>by simp only [FP.eq_2,DH,cF])
  (fun m i k l r hi e hr h0 h1 k0 k1=>by
   have hx:=hR.2 _ (List.getElem_mem hi)
   rw [QM]at e
   have g:(a[i].Name.size:Int)<=9223372036854775807:=by have g:=hx.1;rw [Dm]at g;omega
   rw [Aa (x:=l-(a[i].Name.size:Int)) (by omega) (by omega)]at e
   obtain⟨p0,e⟩:=SE e hr
   obtain⟨r0,e0,p1,e⟩:=OR e hr
   obtain⟨r1,e1,p2,e⟩:=OR e hr
   obtain⟨r2,e2,p3,e⟩:=OR e hr
   obtain rfl:=Option.some.inj e
   obtain⟨t,ht⟩:=MT (n:=n) (k:=k) (by omega) (by omega) hn
   obtain⟨u0,k_0,m0,v0,z0⟩:=cY (n:=n) (a:=a[i].Pins) (left:=(l-(a[i].Name.size:Int))) (k:=k+1+1) (hx.2.2.1) (by omega) (by omega) hn e0 (by omega) (by omega) (by omega)
   obtain⟨u1,k_1,m1,v1,z1⟩:=eO (n:=n) (a:=a[i].Arcs) (left:=r0) (k:=k_0) (hx.2.2.2.1) (by omega) (by omega) hn e1 (by omega) (by omega) (by omega)
   obtain⟨u2,k_2,m2,v2,z2⟩:=EI (n:=n) (a:=a[i].Truth) (left:=r1) (k:=k_1) (hx.2.2.2.2.1) (by omega) (by omega) hn e2 (by omega) (by omega) (by omega)
   refine⟨by omega,k_2+1+1,?_,by omega,by omega⟩
   simp only [Hw.eq_2,Cx hi,cT,AU hi,Au,wT i,ht,wk (k:=k) (by omega) (by omega),wk (k:=k+1) (by omega) (by omega),m0,m1,m2,wk (k:=k_2) (by omega) (by omega),wk (k:=k_2+1) (by omega) (by omega)])
  (fun m k=>by simp only [Hw.eq_2,DH,cF]) n 0 k (left-(a.length:Int)) r (by omega) (by omega) e hr p (by omega) k0 (by omega)
 rw [Nat.sub_zero]at b3
 refine⟨by omega,k2,?_,b2,by omega⟩
 rw [Xj];exact b1
theorem TA{n:Nat}{a:Ab}{left k r:Int}(hR:KU a)(h0:0<=left)(h1:left<=1048576)(hn:1048577<=n)(e:SV n a left=some r)(hr:0<=r)(k0:0<=k)(k1:k+4*left<=1152921504606846976):
 r<=left∧∃k',YR n a k=some k'∧k<=k'∧k'<=k+4*(left-r):=by
 rw [SV]at e
 obtain⟨r0,e0,p0,e⟩:=OR e hr
 obtain rfl:=Option.some.inj e
 obtain⟨u0,k_0,m0,v0,z0⟩:=Vq (n:=n) (a:=a.Cells) (left:=left) (k:=k) (hR) (by omega) (by omega) hn e0 (by omega) (by omega) (by omega)
 exact⟨by omega,k_0,by simp only [YR,Au,m0],by omega,by omega⟩
theorem Pg{n:Nat}{a:List AO}{left k r:Int}(hR:(fun xs=>xs.length<=9223372036854775807∧∀x∈xs,FM x) a)(h0:0<=left)(h1:left<=1048576)(hn:1048577<=n)(e:TE n a left=some r)(hr:0<=r)(k0:0<=k)(k1:k+4*left<=1152921504606846976):
 r<=left∧∃k',XK n a k=some k'∧k<=k'∧k'<=k+4*(left-r):=by
 have hl:=hR.1
 rw [TE,Aa (by omega) (by omega)]at e
 obtain⟨p,e⟩:=SE e hr
 obtain⟨q,k2,b1,b2,b3⟩:=cL (xs:=a) (LZ:=fun m l i=>Fa n a (fun i5 i6=>(some i5)) m l i) (LM:=fun m k i=>Ho n a (fun i5 i6=>(some i5)) m k i) (f:=Pz n)
  (fun m i l hi=>by
   simp only [Fa.eq_2,Cx hi,cT,AU hi,Au,wT i])
  (fun m l=>by simp only [Fa.eq_2,DH,cF])
  (fun m i k l r hi e hr h0 h1 k0 k1=>by
   have hx:=hR.2 _ (List.getElem_mem hi)
   rw [Pz]at e
   have g:(a[i].Name.size:Int)<=9223372036854775807:=by have g:=hx.1;rw [Dm]at g;omega
   rw [Aa (x:=l-(a[i].Name.size:Int)) (by omega) (by omega)]at e
   obtain⟨p0,e⟩:=SE e hr
   obtain⟨r0,e0,p1,e⟩:=OR e hr
   obtain rfl:=Option.some.inj e
   obtain⟨t,ht⟩:=MT (n:=n) (k:=k) (by omega) (by omega) hn
   obtain⟨u0,k_0,m0,v0,z0⟩:=EI (n:=n) (a:=a[i].Nets) (left:=(l-(a[i].Name.size:Int))) (k:=k+1+1) (hx.2.2) (by omega) (by omega) hn e0 (by omega) (by omega) (by omega)
   refine⟨by omega,k_0,?_,by omega,by omega⟩
   simp only [Ho.eq_2,Cx hi,cT,AU hi,Au,wT i,ht,wk (k:=k) (by omega) (by omega),wk (k:=k+1) (by omega) (by omega),m0])
  (fun m k=>by simp only [Ho.eq_2,DH,cF]) n 0 k (left-(a.length:Int)) r (by omega) (by omega) e hr p (by omega) k0 (by omega)
 rw [Nat.sub_zero]at b3
 refine⟨by omega,k2,?_,b2,by omega⟩
 rw [XK];exact b1
theorem SR{n:Nat}{a:List ByteArray}{left k r:Int}(hR:(fun xs=>xs.length<=9223372036854775807∧∀x∈xs,(fun s=>s.size<=maxLen) x) a)(h0:0<=left)(h1:left<=1048576)(hn:1048577<=n)(e:Sf n a left=some r)(hr:0<=r)(k0:0<=k)(k1:k+4*left<=1152921504606846976):
 r<=left∧∃k',We n a k=some k'∧k<=k'∧k'<=k+4*(left-r):=by
 have hl:=hR.1
 rw [Sf,Aa (by omega) (by omega)]at e
 obtain⟨p,e⟩:=SE e hr
 obtain⟨q,k2,b1,b2,b3⟩:=cL (xs:=a) (LZ:=fun m l i=>FZ a (fun i5 i6=>(some i5)) m l i) (LM:=fun m k i=>Hk n a (fun i5 i6=>(some i5)) m k i) (f:=(fun(x:ByteArray) (l:Int)=>cond (decide (wrap .i64 (l-(x.size:Int))<0)) (some (-1)) (some (wrap .i64 (l-(x.size:Int))))))
  (fun m i l hi=>by
   simp only [FZ.eq_2,Cx hi,cT,AU hi,Au,wT i]
   cases d:decide (wrap .i64 (l-(a[i].size:Int))<0)with
   |true=>rfl
   |false=>simp only [cF,Au,d])
  (fun m l=>by simp only [FZ.eq_2,DH,cF])
  (fun m i k l r hi e hr h0 h1 k0 k1=>by
   have hx:=hR.2 _ (List.getElem_mem hi)
   have g:(a[i].size:Int)<=9223372036854775807:=by have g:=hx;rw [Dm]at g;omega
   rw [Aa (x:=l-(a[i].size:Int)) (by omega) (by omega)]at e
   obtain⟨p0,e⟩:=SE e hr
   obtain rfl:=Option.some.inj e
   obtain⟨t,ht⟩:=MT (n:=n) (k:=k) (by omega) (by omega) hn
   refine⟨by omega,k+1,?_,by omega,by omega⟩
   simp only [Hk.eq_2,Cx hi,cT,AU hi,Au,wT i,ht,wk (k:=k) (by omega) (by omega)])
  (fun m k=>by simp only [Hk.eq_2,DH,cF]) n 0 k (left-(a.length:Int)) r (by omega) (by omega) e hr p (by omega) k0 (by omega)
 rw [Nat.sub_zero]at b3
 refine⟨by omega,k2,?_,b2,by omega⟩
 rw [We];exact b1
theorem WR{n:Nat}{a:List BG}{left k r:Int}(hR:(fun xs=>xs.length<=9223372036854775807∧∀x∈xs,ML x) a)(h0:0<=left)(h1:left<=1048576)(hn:1048577<=n)(e:SB n a left=some r)(hr:0<=r)(k0:0<=k)(k1:k+4*left<=1152921504606846976):
 r<=left∧∃k',Xx n a k=some k'∧k<=k'∧k'<=k+4*(left-r):=by
 have hl:=hR.1
 rw [SB,Aa (by omega) (by omega)]at e
 obtain⟨p,e⟩:=SE e hr
 obtain⟨q,k2,b1,b2,b3⟩:=cL (xs:=a) (LZ:=fun m l i=>FX n a (fun i5 i6=>(some i5)) m l i) (LM:=fun m k i=>Hx n a (fun i5 i6=>(some i5)) m k i) (f:=RK n)
  (fun m i l hi=>by
   simp only [FX.eq_2,Cx hi,cT,AU hi,Au,wT i])
  (fun m l=>by simp only [FX.eq_2,DH,cF])
  (fun m i k l r hi e hr h0 h1 k0 k1=>by
   have hx:=hR.2 _ (List.getElem_mem hi)
   rw [RK]at e
   have g:(a[i].Name.size:Int)<=9223372036854775807:=by have g:=hx.1;rw [Dm]at g;omega
   rw [Aa (x:=l-(a[i].Name.size:Int)) (by omega) (by omega)]at e
   obtain⟨p0,e⟩:=SE e hr
   obtain rfl:=Option.some.inj e
   obtain⟨t,ht⟩:=MT (n:=n) (k:=k) (by omega) (by omega) hn
   refine⟨by omega,k+1+1+1,?_,by omega,by omega⟩
   simp only [Hx.eq_2,Cx hi,cT,AU hi,Au,wT i,ht,wk (k:=k) (by omega) (by omega),wk (k:=k+1) (by omega) (by omega),wk (k:=k+1+1) (by omega) (by omega)])
  (fun m k=>by simp only [Hx.eq_2,DH,cF]) n 0 k (left-(a.length:Int)) r (by omega) (by omega) e hr p (by omega) k0 (by omega)
 rw [Nat.sub_zero]at b3
 refine⟨by omega,k2,?_,b2,by omega⟩
 rw [Xx];exact b1
theorem UX{n:Nat}{a:AP}{left k r:Int}(hR:Ld a)(h0:0<=left)(h1:left<=1048576)(hn:1048577<=n)(e:SS n a left=some r)(hr:0<=r)(k0:0<=k)(k1:k+4*left<=1152921504606846976):
 r<=left∧∃k',Zt n a k=some k'∧k<=k'∧k'<=k+4*(left-r):=by
 rw [SS]at e
 obtain⟨r0,e0,p0,e⟩:=OR e hr
 obtain⟨r1,e1,p1,e⟩:=OR e hr
 obtain⟨r2,e2,p2,e⟩:=OR e hr
 obtain rfl:=Option.some.inj e
 obtain⟨u0,k_0,m0,v0,z0⟩:=Pg (n:=n) (a:=a.Instances) (left:=left) (k:=k) (hR.1) (by omega) (by omega) hn e0 (by omega) (by omega) (by omega)
 obtain⟨u1,k_1,m1,v1,z1⟩:=SR (n:=n) (a:=a.Nets) (left:=r0) (k:=k_0) (hR.2.1) (by omega) (by omega) hn e1 (by omega) (by omega) (by omega)
 obtain⟨u2,k_2,m2,v2,z2⟩:=WR (n:=n) (a:=a.Ports) (left:=r1) (k:=k_1) (hR.2.2) (by omega) (by omega) hn e2 (by omega) (by omega) (by omega)
 exact⟨by omega,k_2,by simp only [Zt,Au,m0,m1,m2],by omega,by omega⟩
theorem Vs{n:Nat}{a:List Ar}{left k r:Int}(hR:(fun xs=>xs.length<=9223372036854775807∧∀x∈xs,MG x) a)(h0:0<=left)(h1:left<=1048576)(hn:1048577<=n)(e:SG n a left=some r)(hr:0<=r)(k0:0<=k)(k1:k+4*left<=1152921504606846976):
 r<=left∧∃k',YY n a k=some k'∧k<=k'∧k'<=k+4*(left-r):=by
 have hl:=hR.1
 rw [SG,Aa (by omega) (by omega)]at e
 obtain⟨p,e⟩:=SE e hr
 obtain⟨q,k2,b1,b2,b3⟩:=cL (xs:=a) (LZ:=fun m l i=>Fb n a (fun i5 i6=>(some i5)) m l i) (LM:=fun m k i=>IX n a (fun i5 i6=>(some i5)) m k i) (f:=Qi n)
  (fun m i l hi=>by
   simp only [Fb.eq_2,Cx hi,cT,AU hi,Au,wT i])
  (fun m l=>by simp only [Fb.eq_2,DH,cF])
  (fun m i k l r hi e hr h0 h1 k0 k1=>by
   have hx:=hR.2 _ (List.getElem_mem hi)
   rw [Qi]at e
   obtain⟨r0,e0,p1,e⟩:=OR e hr
   obtain⟨r1,e1,p2,e⟩:=OR e hr
   obtain⟨r2,e2,p3,e⟩:=OR e hr
   obtain⟨r3,e3,p4,e⟩:=OR e hr
   obtain rfl:=Option.some.inj e
   obtain⟨u0,k_0,m0,v0,z0⟩:=EI (n:=n) (a:=a[i].Parent) (left:=l) (k:=k) (hx.1) (by omega) (by omega) hn e0 (by omega) (by omega) (by omega)
   obtain⟨u1,k_1,m1,v1,z1⟩:=EI (n:=n) (a:=a[i].Res) (left:=r0) (k:=k_0) (hx.2.1) (by omega) (by omega) hn e1 (by omega) (by omega) (by omega)
   obtain⟨u2,k_2,m2,v2,z2⟩:=EI (n:=n) (a:=a[i].Cap) (left:=r1) (k:=k_1) (hx.2.2.1) (by omega) (by omega) hn e2 (by omega) (by omega) (by omega)
   obtain⟨u3,k_3,m3,v3,z3⟩:=EI (n:=n) (a:=a[i].Sink) (left:=r2) (k:=k_2) (hx.2.2.2) (by omega) (by omega) hn e3 (by omega) (by omega) (by omega)
   refine⟨by omega,k_3,?_,by omega,by omega⟩
   simp only [IX.eq_2,Cx hi,cT,AU hi,Au,wT i,m0,m1,m2,m3])
  (fun m k=>by simp only [IX.eq_2,DH,cF]) n 0 k (left-(a.length:Int)) r (by omega) (by omega) e hr p (by omega) k0 (by omega)
 rw [Nat.sub_zero]at b3
 refine⟨by omega,k2,?_,b2,by omega⟩
 rw [YY];exact b1
theorem Vu{n:Nat}{a:AQ}{left k r:Int}(hR:Mq a)(h0:0<=left)(h1:left<=1048576)(hn:1048577<=n)(e:Rp n a left=some r)(hr:0<=r)(k0:0<=k)(k1:k+4*left<=1152921504606846976):
 r<=left∧∃k',Wl n a k=some k'∧k<=k'∧k'<=k+4*(left-r):=by
 rw [Rp]at e
 obtain⟨r0,e0,p0,e⟩:=OR e hr
 obtain⟨r1,e1,p1,e⟩:=OR e hr
 obtain⟨r2,e2,p2,e⟩:=OR e hr
 obtain rfl:=Option.some.inj e
 obtain⟨u0,k_0,m0,v0,z0⟩:=TA (n:=n) (a:=a.Library) (left:=left) (k:=k) (hR.1) (by omega) (by omega) hn e0 (by omega) (by omega) (by omega)
 obtain⟨u1,k_1,m1,v1,z1⟩:=UX (n:=n) (a:=a.Design) (left:=r0) (k:=k_0) (hR.2.1) (by omega) (by omega) hn e1 (by omega) (by omega) (by omega)
 obtain⟨u2,k_2,m2,v2,z2⟩:=Vs (n:=n) (a:=a.Wires) (left:=r1) (k:=k_1) (hR.2.2) (by omega) (by omega) hn e2 (by omega) (by omega) (by omega)
 exact⟨by omega,k_2,by simp only [Wl,Au,m0,m1,m2],by omega,by omega⟩
def PP(a:Ah):Bool:=a.Kind==4||a.Kind==5
def IG(b:AQ)(x:AO):List Ah:=match AE b.Library.Cells x.Cell with
 |some c=>c.Arcs
 |none=>[]
def LU(i j:Nat)(a:Ah):List (Int×Int×Int):=if PP a=true then [((i:Int),(j:Int),0),((i:Int),(j:Int),1)]else []
def Li(b:AQ)(i:Nat)(x:AO):List (Int×Int×Int):=GB (LU i) 0 (IG b x)
def Bu(b:AQ):List (Int×Int×Int):=GB (Li b) 0 b.Design.Instances
def Zz(p:Int×Int×Int):List Int:=[p.1,p.2.1,p.2.2]
def Zx(p:Int×Int×Int):Al:=⟨p.1,p.2.1,p.2.2,0⟩
theorem MO(i j:Nat)(a:Ah):(LU i j a).length<=2:=by unfold LU;split<;>simp
theorem MR{b:AQ}(v:Ce b)(i:Nat){x:AO}(hx:x∈b.Design.Instances):(Li b i x).length<=16:=by
 obtain⟨j,hj,rfl⟩:=List.getElem_of_mem hx
 obtain⟨k,hk,_,gc,_,vc⟩:=v.design.inst_at hj
 have:=Fv (c:=2) (g:=LU i) (IG b b.Design.Instances[j]) 0 fun j a _=>MO i j a
 have few:=vc.few
 unfold Li
 unfold IG at this ⊢
 rw [gc]at this ⊢
 simp only at this ⊢
 omega
theorem Sm{b:AQ}(v:Ce b):(Bu b).length<=224:=by
 have:=Fv (c:=16) (g:=Li b) b.Design.Instances 0 fun j x hx=>MR v j hx
 have:=v.design.few.1
 unfold Bu;omega
theorem lF{n:Nat}{b:AQ}(v:Ce b)(hn:1048577<=n):sD n b=some ((Bu b).map Zz):=by
 have few:=v.design.few.1
 rw [sD]
 rw [Dg (xs:=b.Design.Instances) (L:=fun m s i=>JN n b (fun l32 i36=>(some l32)) m s i) (k:=fun s=>some s) (fun i x=>(Li b i x).map Zz) 16 0 (fun j x hx=>by rw [List.length_map];exact MR v j hx) (by omega) (by
  intro m i hi s hs
  obtain⟨k,hk,_,gc,_,vc⟩:=v.design.inst_at hi
  have fa:=vc.few
  simp only [JN.eq_2,Cx hi,cT,AU hi,gc,Au,wT i]
  have ea:IG b b.Design.Instances[i]=b.Library.Cells[k].Arcs:=by unfold IG;rw [gc]
  rw [Li,ea,Hm]
  refine Dg (xs:=b.Library.Cells[k].Arcs) (L:=fun m s j=>Jf (i:Int) b.Library.Cells[k] _ m s j) (k:=fun s=>JN n b (fun l32 i36=>(some l32)) m s ((i+1:Nat):Int)) (fun j a=>(LU i j a).map Zz) 2 s.length (fun j a _=>by rw [List.length_map];exact MO i j a) (by omega) ?_ ?_ n (by omega) s (by omega)
  ·intro m j hj s hs
   simp only [Jf.eq_2,Cx hj,cT,AU hj,Au,wT j]
   have eb:(Option.bind (cond (b.Library.Cells[k].Arcs[j].Kind==4) (some true) (some (b.Library.Cells[k].Arcs[j].Kind==5))) fun c92=>(some c92))=some (PP b.Library.Cells[k].Arcs[j]):=by
    unfold PP;cases(b.Library.Cells[k].Arcs[j].Kind==4)<;>rfl
   have eb2:(cond (b.Library.Cells[k].Arcs[j].Kind==4) (some true) (some (b.Library.Cells[k].Arcs[j].Kind==5)))=some (PP b.Library.Cells[k].Arcs[j]):=by
    unfold PP;cases(b.Library.Cells[k].Arcs[j].Kind==4)<;>rfl
   rw [eb2,Au]
   unfold LU
   cases PP b.Library.Cells[k].Arcs[j]with
   |true=>rw [cT,CR (by simp;omega) (by omega),Au];rfl
   |false=>simp
  ·intro m s
   simp only [Jf.eq_2,DH,cF]) (by
  intro m s
  simp only [JN.eq_2,DH,cF]) n (by omega) [] (by simp)]
 rw [List.nil_append,Bu,Hm]
theorem lG{n:Nat}{b:AQ}(v:Ce b)(hn:1048577<=n):oU n b=some ((Bu b).map Zx):=by
 have few:=v.design.few.1
 rw [oU]
 rw [Dg (xs:=b.Design.Instances) (L:=fun m s i=>Jl n b (fun l23 i27=>(some l23)) m s i) (k:=fun s=>some s) (fun i x=>(Li b i x).map Zx) 16 0 (fun j x hx=>by rw [List.length_map];exact MR v j hx) (by omega) (by
  intro m i hi s hs
  obtain⟨k,hk,_,gc,_,vc⟩:=v.design.inst_at hi
  have fa:=vc.few
  simp only [Jl.eq_2,Cx hi,cT,AU hi,gc,Au,wT i]
  have ea:IG b b.Design.Instances[i]=b.Library.Cells[k].Arcs:=by unfold IG;rw [gc]
  rw [Li,ea,Hm]
  refine Dg (xs:=b.Library.Cells[k].Arcs) (L:=fun m s j=>Jc n (i:Int) b.Library.Cells[k] _ m s j) (k:=fun s=>Jl n b (fun l23 i27=>(some l23)) m s ((i+1:Nat):Int)) (fun j a=>(LU i j a).map Zx) 2 s.length (fun j a _=>by rw [List.length_map];exact MO i j a) (by omega) ?_ ?_ n (by omega) s (by omega)
  ·intro m j hj s hs
   simp only [Jc.eq_2,Cx hj,cT,AU hj,Au,PI,wT j]
   have eb:(b.Library.Cells[k].Arcs[j].Kind==4||b.Library.Cells[k].Arcs[j].Kind==5)=PP b.Library.Cells[k].Arcs[j]:=rfl
   rw [eb]
   unfold LU
   cases PP b.Library.Cells[k].Arcs[j]with
   |true=>rw [cT,CR (by simp;omega) (by omega),Au];rfl
   |false=>simp
  ·intro m s
   simp only [Jc.eq_2,DH,cF]) (by
  intro m s
  simp only [Jl.eq_2,DH,cF]) n (by omega) [] (by simp)]
 rw [List.nil_append,Bu,Hm]
theorem NP{b:AQ}(v:Ce b):∀p∈Bu b,(p.2.2=0∨p.2.2=1)∧∃a i j c,Lp b p.1 p.2.1 a i j c:=by
 refine ES (Q:=fun p:Int×Int×Int=>(p.2.2=0∨p.2.2=1)∧∃a i j c,Lp b p.1 p.2.1 a i j c) b.Design.Instances 0 (fun i hi y hy=>?_)
 rw [Nat.zero_add]at hy
 obtain⟨k,hk,_,gc,hnl,vc⟩:=v.design.inst_at hi
 have ea:IG b b.Design.Instances[i]=b.Library.Cells[k].Arcs:=by unfold IG;rw [gc]
 rw [Li,ea]at hy
 refine ES (Q:=fun p:Int×Int×Int=>(p.2.2=0∨p.2.2=1)∧∃a i j c,Lp b p.1 p.2.1 a i j c) _ 0 (fun j hj z hz=>?_) y hy
 rw [Nat.zero_add]at hz
 unfold LU at hz
 split at hz
 ·rename_i hc
  have kd:b.Library.Cells[k].Arcs[j].Kind=4∨b.Library.Cells[k].Arcs[j].Kind=5:=by
   simpa [PP] using hc
  simp only [List.mem_cons,List.not_mem_nil,or_false]at hz
  rcases hz with rfl|rfl
  ·exact⟨.inl rfl,_,i,j,_,rfl,rfl,hi,gc,vc,hnl,hj,rfl,kd⟩
  ·exact⟨.inr rfl,_,i,j,_,rfl,rfl,hi,gc,vc,hnl,hj,rfl,kd⟩
 ·simp at hz
theorem Tq{n:Nat}{b:AQ}(v:Ce b){inst arc:Int}{a:Ah}{i j:Nat}{c:AX}(h:Lp b inst arc a i j c):OM n b inst arc=some (a,true):=by
 obtain⟨rfl,rfl,hi,gc,vc,nets,hj,rfl,kind⟩:=h
 have fw:=v.design.few
 have fa:=vc.few
 have wI:wrap .i64 ((b.Design.Instances.length:Int)-1)=(b.Design.Instances.length:Int)-1:=Aa (by omega) (by omega)
 have wA:wrap .i64 ((c.Arcs.length:Int)-1)=(c.Arcs.length:Int)-1:=Aa (by omega) (by omega)
 have d1:(decide ((i:Int)>=0)&&decide ((i:Int)<=(b.Design.Instances.length:Int)-1))=true:=by simp only [Bool.and_eq_true,decide_eq_true_eq];omega
 have d2:(decide ((j:Int)>=0)&&decide ((j:Int)<=(c.Arcs.length:Int)-1))=true:=by simp only [Bool.and_eq_true,decide_eq_true_eq];omega
 have d3:(c.Arcs[j].Kind==4||c.Arcs[j].Kind==5)=true:=by simpa using kind
 rw [OM]
 simp only [Zm,Ij,XB,Au,wI,d1,Bool.not_true,cF,AU hi,gc,wA,d2,AU hj,PI,d3]
theorem Ui{b:AQ}{s:List Al}{i j k z:Int}(h:∀x∈s,(x.Instance,x.Arc,x.Transition)∈Bu b)(hm:(i,j,k)∈Bu b):∀x∈s++[Al.mk i j k z],(x.Instance,x.Arc,x.Transition)∈Bu b:=fun x hx=>by
 rcases List.mem_append.1 hx with hx|hx
 ·exact h x hx
 ·obtain rfl:=List.mem_singleton.1 hx;exact hm
theorem yM{n:Nat}{b:AQ}{t:Ac}{rel:Aj}{w:BU}(v:Ce b)(vt:VI b t)(hn:1048577<=n):
 ∃g:List Al,g.length<=1048576∧(∀x∈g,(x.Instance,x.Arc,x.Transition)∈Bu b)∧Zg n b t rel=some g∧Vn n ⟨b,w.places_,w.links_,w.loads_,w.delays_,w.extras_⟩ t rel=some g:=by
 have hl:=Sm v
 rw [Zg,Vn,lF v hn,lG v hn,Au,Au]
 refine fN (L:=fun m i (s:List Al)=>Gx n b t rel ((Bu b).map Zz) (fun l62 i66=>(some l62)) m s i) (M:=fun m i (s:List Al)=>GZ n ⟨b,w.places_,w.links_,w.loads_,w.delays_,w.extras_⟩ t rel ((Bu b).map Zx) (fun l57 i61=>(some l57)) m s i) (Bu b).length
  (fun i s s'=>s=s'∧s.length<=i∧∀x∈s,(x.Instance,x.Arc,x.Transition)∈Bu b) (fun o o'=>∃g:List Al,g.length<=1048576∧(∀x∈g,(x.Instance,x.Arc,x.Transition)∈Bu b)∧o=some g∧o'=some g) ?_ ?_ n 0 [] [] (by omega) (by omega) ⟨rfl,by simp,by simp⟩
 ·intro m i s s' hi hr
  obtain⟨rfl,hs,hq⟩:=hr
  have l1:i<((Bu b).map Zz).length:=by simpa using hi
  have l2:i<((Bu b).map Zx).length:=by simpa using hi
  have e1:AE ((Bu b).map Zz) (i:Int)=some (Zz (Bu b)[i]):=by rw [AU l1];simp
  have e2:AE ((Bu b).map Zx) (i:Int)=some (Zx (Bu b)[i]):=by rw [AU l2];simp
  obtain⟨htr,a,i',j',c,ck⟩:=NP v _ (List.getElem_mem hi)
  have hm:=List.getElem_mem hi
  generalize (Bu b)[i]=p at htr ck e1 e2 hm
  obtain⟨inst,arc,tr⟩:=p
  have htr:tr=0∨tr=1:=htr
  have ck:Lp b inst arc a i' j' c:=ck
  have g0:AE [inst,arc,tr] 0=some inst:=rfl
  have g1:AE [inst,arc,tr] 1=some arc:=rfl
  have g2:AE [inst,arc,tr] 2=some tr:=rfl
  have e1:AE ((Bu b).map Zz) (i:Int)=some [inst,arc,tr]:=e1
  have e2:AE ((Bu b).map Zx) (i:Int)=some ⟨inst,arc,tr,0⟩:=e2
  obtain⟨D,C,n1,n2,hD,hC⟩:=NT (n:=n) (r:=⟨b,w.places_,w.links_,w.loads_,w.delays_,w.extras_⟩) (s:=0) v rfl ck htr hn
  obtain⟨tb,q1,vtb⟩:=Wo ck htr
  have z1:=vt.reached;have z2:=vt.arr;have z3:=vt.slew
  obtain⟨r1,k1,_⟩:=DC (xs:=t.Reached) (i:=(D:Int)) (by omega) (by omega)
  obtain⟨r2,k2,_⟩:=DC (xs:=t.Reached) (i:=(C:Int)) (by omega) (by omega)
  obtain⟨y1,k3,_⟩:=DC (xs:=t.Arrival) (i:=(D:Int)) (by omega) (by omega)
  obtain⟨y2,k4,_⟩:=DC (xs:=t.Arrival) (i:=(C:Int)) (by omega) (by omega)
  obtain⟨s1,k5,_⟩:=DC (xs:=t.Slew) (i:=(D:Int)) (by omega) (by omega)
  obtain⟨s2,k6,_⟩:=DC (xs:=t.Slew) (i:=(C:Int)) (by omega) (by omega)
  obtain⟨R,k7,k8⟩:=Lk (n:=n) vtb s1.Late s2.Late 1 hn
  have gi:AE b.Design.Instances inst=some (b.Design.Instances[i']'ck.hi):=(congrArg (AE b.Design.Instances) ck.ei).trans (AU ck.hi)
  have ga:AE c.Arcs arc=some a:=by rw [ck.ej,AU ck.hj,ck.ea]
  have ca:=Tq (n:=n) v ck
  have dl:decide ((i:Int)<(((Bu b).map Zz).length:Int))=true:=decide_eq_true (by omega)
  have dm:decide ((i:Int)<(((Bu b).map Zx).length:Int))=true:=decide_eq_true (by omega)
  simp only [Gx.eq_2,GZ.eq_2,dl,dm,cT,e1,e2,Au,cV,bQ,eG,n1,n2,g0,g1,g2,k1,k2,k3,k4,k5,k6,gi,ck.gc,ga,q1,k7,k8,ca,wT i]
  cases r1 with
  |false=>exact⟨s,s,⟨rfl,by omega,hq⟩,rfl,rfl⟩
  |true=>
   cases r2 with
   |false=>exact⟨s,s,⟨rfl,by omega,hq⟩,rfl,rfl⟩
   |true=>
    cases(a.Kind==4)<;>simp only [Bool.not_true,cT,cF,Au]<;>rw [CR (by simp;omega) (by omega)]<;>exact⟨_,_,⟨rfl,by simp;omega,Ui hq hm⟩,rfl,rfl⟩
 ·intro m s s' hr
  obtain⟨rfl,hs,hq⟩:=hr
  have dl:decide (((Bu b).length:Int)<(((Bu b).map Zz).length:Int))=false:=decide_eq_false (by simp)
  have dm:decide (((Bu b).length:Int)<(((Bu b).map Zx).length:Int))=false:=decide_eq_false (by simp)
  simp only [Gx.eq_2,GZ.eq_2,dl,dm,cF]
  exact⟨s,by omega,hq,rfl,rfl⟩
theorem kU{n:Nat}{b:AQ}{t:Ac}{rel:Aj}(hb:ZO b)(ht:t.Reached.length<=1048576)(hn:1048577<=n):
 (Ua n b t rel=some 0∧(Ce b∧VI b t)∧∃w:BU,VJ n b t rel=some (some w,0))∨(∃c:Int,(c !=0)=true∧Ua n b t rel=some c∧VJ n b t rel=some (none,c)):=by
 obtain⟨c,e1,hc⟩:=Bk1 hb hn
 obtain⟨c2,e2,hc2⟩:=Bk2 hb hn
 obtain rfl:c=c2:=by rw [Bool.eq_iff_iff,hc,hc2]
 rw [Ua,VJ,dR,e1,e2,rl1]
 simp only [Au]
 cases c with
 |false=>exact .inr ⟨1,rfl,rfl,rfl⟩
 |true=>
  have v:=hc.1 rfl
  obtain⟨w,ew,hw⟩:=Vw2 (n:=n) v hn
  obtain⟨p,f1,hp⟩:=Tm1 (b:=b) ht hn
  obtain⟨p2,f2,hp2⟩:=Tm2 (r:=⟨b,w.places_,w.links_,w.loads_,w.delays_,w.extras_⟩) v hw ht hn
  obtain rfl:p=p2:=by rw [Bool.eq_iff_iff,hp,hp2]
  simp only [Bool.not_true,cF,jW v hn,Au,f1,ew,f2]
  cases p with
  |false=>exact .inr ⟨1,rfl,rfl,rfl⟩
  |true=>
   simp only [Bool.not_true,cF,Au,OG,bne_self_eq_false,rl2]
   cases jO rel with
   |false=>exact .inr ⟨2,rfl,rfl,rfl⟩
   |true=>exact .inl ⟨rfl,⟨v,hp.1 rfl⟩,_,rfl⟩
def cf(l:List Bool):Nat:=l.countP (fun b=>!b)
theorem uQ{i j:Nat}(h:i+j<=4611686018427387904):wrap .i64 (KY .u64 (IntKind.wrap IntKind.u64 (wrap .i64 ((i:Int)+(j:Int)))) 1)=(((i+j)/2:Nat):Int):=by
 rw [Aa (show-9223372036854775808<=(i:Int)+(j:Int) by omega) (by omega)]
 have h1:IntKind.wrap IntKind.u64 ((i:Int)+(j:Int))=(i:Int)+(j:Int):=by
  simp [IntKind.wrap,IntKind.signed,IntKind.bits]
  omega
 rw [h1]
 have h2:KY .u64 ((i:Int)+(j:Int)) 1=(((i+j)/2:Nat):Int):=by
  have:(2:Int)^(min (1:Int).toNat IntKind.u64.bits)=2:=by decide
  unfold KY
  rw [this,Int.fdiv_eq_ediv_of_nonneg _ (by omega)]
  omega
 rw [h2,Aa (by omega) (by omega)]
structure Lx where
 D:Nat
 q:Bool
 v:Int
def Im(v:Int):Bool:=decide (v>= -1000000000)&&decide (v<=1000000000)
def Mh(s:AV)(c:Lx):AV:=cond c.q ⟨s.Early,min s.Late c.v⟩ ⟨max s.Early c.v,s.Late⟩
def KX(k:Nat)(s:AV)(c:Lx):AV:=cond (c.D==k) (Mh s c) s
def aW:AV:=⟨-1000000000,1000000000⟩
def GH(cs:List Lx)(k:Nat):AV:=cs.foldl (KX k) aW
def Sp(cs:List Lx)(k:Nat):Bool:=cs.any fun c=>c.D==k
def HK(cs:List Lx)(k:Nat):List AG:=cond (Sp cs k) [⟨(k:Int),GH cs k⟩] []
def DN(f:Nat->List AG):Nat->Nat->List AG
 |_,0=>[]
 |lo,n+1=>f lo++DN f (lo+1) n
theorem Nn(f:Nat->List AG):∀(m lo n:Nat),DN f lo (m+n)=DN f lo m++DN f (lo+m) n
 |0,lo,n=>by simp [DN]
 |m+1,lo,n=>by
  rw [show m+1+n=(m+n)+1 by omega,DN,DN,Nn f m (lo+1) n,List.append_assoc,show lo+1+m=lo+(m+1) by omega]
theorem Kr{f g:Nat->List AG}:∀(n lo:Nat),(∀k,lo<=k->k<lo+n->f k=g k)->DN f lo n=DN g lo n
 |0,_,_=>rfl
 |n+1,lo,h=>by
  rw [DN,DN,h lo (Nat.le_refl _) (by omega),Kr n (lo+1) fun k h1 h2=>h k (by omega) (by omega)]
theorem Lf{f:Nat->List AG}(h:∀k,(f k).length<=1):∀(n lo:Nat),(DN f lo n).length<=n
 |0,_=>Nat.le_refl _
 |n+1,lo=>by
  have h1:=h lo
  have h2:=Lf h n (lo+1)
  rw [DN,List.length_append];omega
theorem QU{f:Nat->List AG}{x:AG}:∀{n lo:Nat},x∈DN f lo n->∃k,lo<=k∧k<lo+n∧x∈f k
 |0,_,h=>by cases h
 |n+1,lo,h=>by
  rw [DN]at h
  rcases List.mem_append.1 h with h|h
  ·exact⟨lo,Nat.le_refl _,by omega,h⟩
  ·obtain⟨k,h1,h2,h3⟩:=QU h
   exact⟨k,by omega,by omega,h3⟩
theorem PO(cs:List Lx)(k:Nat):(HK cs k).length<=1:=by
 unfold HK;cases Sp cs k<;>simp
theorem QV{cs:List Lx}{k:Nat}{x:AG}(h:x∈HK cs k):x.Node=(k:Int):=by
 unfold HK at h
 cases hu:Sp cs k with
 |true=>rw [hu]at h;obtain rfl:=List.mem_singleton.1 h;rfl
 |false=>rw [hu]at h;cases h
theorem Oh{cs:List Lx}{lo n:Nat}{x:AG}(h:x∈DN (HK cs) lo n):(lo:Int)<=x.Node∧x.Node<((lo+n:Nat):Int):=by
 obtain⟨k,h1,h2,h3⟩:=QU h
 have:=QV h3
 omega
theorem Ja(cs:List Lx)(c:Lx)(k:Nat):Sp (cs++[c]) k=(Sp cs k||c.D==k):=by simp [Sp]
theorem Ea(cs:List Lx)(c:Lx)(k:Nat):GH (cs++[c]) k=KX k (GH cs k) c:=by simp [GH]
theorem mS{cs:List Lx}{k:Nat}(h:Sp cs k=false):GH cs k=aW:=by
 have:∀(l:List Lx) (s:AV),(l.any fun c=>c.D==k)=false->l.foldl (KX k) s=s:=by
  intro l
  induction l with
  |nil=>intro s _;rfl
  |cons c l ih=>
   intro s h
   simp only [List.any_cons,Bool.or_eq_false_iff]at h
   rw [List.foldl_cons,show KX k s c=s by unfold KX;rw [h.1];rfl]
   exact ih s h.2
 exact this cs aW h
theorem iE(cs:List Lx)(k:Nat):-1000000000<=(GH cs k).Early∧(GH cs k).Late<=1000000000:=by
 have:∀(l:List Lx) (s:AV),-1000000000<=s.Early∧s.Late<=1000000000-> -1000000000<=(l.foldl (KX k) s).Early∧(l.foldl (KX k) s).Late<=1000000000:=by
  intro l
  induction l with
  |nil=>intro s h;exact h
  |cons c l ih=>
   intro s h
   rw [List.foldl_cons]
   refine ih _ ?_
   unfold KX Mh
   cases c.D==k with
   |false=>exact h
   |true=>
    cases c.q with
    |false=>exact⟨by show-1000000000<=max s.Early c.v;omega,h.2⟩
    |true=>exact⟨h.1,by show min s.Late c.v<=1000000000;omega⟩
 exact this cs aW ⟨by decide,by decide⟩
theorem OV{cs:List Lx}{c:Lx}{k:Nat}(h:k≠c.D):HK (cs++[c]) k=HK cs k:=by
 have e:(c.D==k)=false:=by rw [beq_eq_false_iff_ne];exact fun e=>h e.symm
 unfold HK
 rw [Ja,Ea,e,Bool.or_false]
 unfold KX
 rw [e];rfl
theorem Vo(cs:List Lx)(c:Lx):HK (cs++[c]) c.D=[⟨(c.D:Int),Mh (GH cs c.D) c⟩]:=by
 unfold HK
 rw [Ja,Ea,beq_self_eq_true,Bool.or_true,cT]
 unfold KX
 rw [beq_self_eq_true];rfl
theorem Ny(cs:List Lx){N D:Nat}(h:D<N):DN (HK cs) 0 N=DN (HK cs) 0 D++(HK cs D++DN (HK cs) (D+1) (N-D-1)):=by
 have:=Nn (HK cs) D 0 ((N-D-1)+1)
 rw [show D+((N-D-1)+1)=N by omega,DN,Nat.zero_add]at this
 exact this
theorem Un(cs:List Lx)(c:Lx){N:Nat}(h:c.D<N):DN (HK (cs++[c])) 0 N=DN (HK cs) 0 c.D++(⟨(c.D:Int),Mh (GH cs c.D) c⟩::DN (HK cs) (c.D+1) (N-c.D-1)):=by
 rw [Ny _ h,Vo,Kr (f:=HK (cs++[c])) (g:=HK cs) c.D 0 fun k _ h2=>OV (by omega),Kr (f:=HK (cs++[c])) (g:=HK cs) (N-c.D-1) (c.D+1) fun k h1 _=>OV (by omega)]
 rfl
theorem oC{n:Nat}{x:AG}{d:Int}:∃r,VE n x d=some r∧decide (r<0)=decide (x.Node<d)∧(r==0)=(x.Node==d):=by
 simp only [VE,eP,QJ,Au,bne_self_eq_false,cF]
 by_cases h:x.Node<d
 ·rw [decide_eq_true h,cT]
  exact⟨_,rfl,rfl,by rw [show((-1:Int)==0)=false from rfl];exact(beq_eq_false_iff_ne.2 (by omega)).symm⟩
 ·rw [decide_eq_false h,cF]
  by_cases g:x.Node>d
  ·rw [decide_eq_true g,cT]
   exact⟨_,rfl,rfl,by rw [show((1:Int)==0)=false from rfl];exact(beq_eq_false_iff_ne.2 (by omega)).symm⟩
  ·rw [decide_eq_false g,cF]
   exact⟨_,rfl,rfl,by rw [show((0:Int)==0)=true from rfl];exact(beq_iff_eq.2 (by omega)).symm⟩
theorem oD{n:Nat}{l:List AG}{d:Int}{p:Nat}{K:Int->Int->Option (Int×Bool)}(hl:l.length<=1048576)(hp:p<=l.length)(h1:∀k (h:k<l.length),k<p->l[k].Node<d)(h2:∀k (h:k<l.length),p<=k->d<=l[k].Node):∀(m i j:Nat),i<=p->p<=j->j<=l.length->j-i<m->
 IC n l d K m (i:Int) (j:Int)=K (p:Int) (p:Int)
 |0,i,j,_,_,_,hm=>by omega
 |m+1,i,j,hi,hj,hj2,hm=>by
  rw [IC.eq_2]
  by_cases c0:i<j
  ·have hq:(i+j)/2<l.length:=by omega
   obtain⟨r,e,e1,_⟩:=oC (n:=n) (x:=l[(i+j)/2]) (d:=d)
   simp only [decide_eq_true (show(i:Int)<(j:Int) by omega),cT,uQ (show i+j<=4611686018427387904 by omega),AU hq,Au,e,e1]
   by_cases c1:(i+j)/2<p
   ·rw [decide_eq_true (h1 _ hq c1),cT,wS (show(i+j)/2<4611686018427387904 by omega)]
    exact oD hl hp h1 h2 m _ j (by omega) hj hj2 (by omega)
   ·have:=h2 _ hq (by omega)
    rw [decide_eq_false (show¬l[(i+j)/2].Node<d by omega),cF]
    exact oD hl hp h1 h2 m i _ hi (by omega) (by omega) (by omega)
  ·obtain rfl:i=p:=by omega
   obtain rfl:i=j:=by omega
   rw [decide_eq_false (show¬((i:Int)<(i:Int)) by omega),cF]
theorem BSF{n:Nat}{A M B:List AG}{d:Int}(hl:(A++(M++B)).length<=1048576)(hA:∀x∈A,x.Node<d)(hM:∀x∈M,x.Node=d)(hB:∀x∈B,d<x.Node)(hn:1048577<=n):
 Vm n (A++(M++B)) d=some ((A.length:Int),!M.isEmpty):=by
 rw [Vm]
 rw [show(0:Int)=((0:Nat):Int)from rfl,oD (p:=A.length) hl (by simp) (fun k h hk=>?_) (fun k h hk=>?_) n 0 _ (by omega) (by simp) (Nat.le_refl _) (by omega)]
 ·cases M with
  |nil=>
   cases B with
   |nil=>rw [decide_eq_false (by simp)];rfl
   |cons y B=>
    have hy:=hB y List.mem_cons_self
    obtain⟨r,e,_,e2⟩:=oC (n:=n) (x:=y) (d:=d)
    rw [decide_eq_true (by simp;omega),cT,EH,show(A++([]++y::B))[A.length]? =some y by simp,Au,e,Au];show some (_,(r==0))=_;rw [e2,beq_eq_false_iff_ne.2 (by omega)];rfl
  |cons y M=>
   have hy:=hM y List.mem_cons_self
   obtain⟨r,e,_,e2⟩:=oC (n:=n) (x:=y) (d:=d)
   rw [decide_eq_true (by simp;omega),cT,EH,show(A++(y::M++B))[A.length]? =some y by simp,Au,e,Au];show some (_,(r==0))=_;rw [e2,beq_iff_eq.2 hy];rfl
 ·rw [List.getElem_append_left hk];exact hA _ (List.getElem_mem _)
 ·rw [List.getElem_append_right hk]
  rcases List.mem_append.1 (List.getElem_mem (show k-A.length<(M++B).length by simp at h ⊢;omega))with g|g
  ·rw [hM _ g];exact Int.le_refl _
  ·have:=hB _ g;omega
structure Cv(n:Nat)(b:AQ)(t:Ac)(x:Al)(c:Lx):Prop where
 spec:∃z,Qg n b [x.Instance,x.Arc,x.Transition]=some ((c.D:Int),z)
 impl:∀r:BU,r.Block=b->∃z,Sj n r x=some ((c.D:Int),z)
 arc:∃a:Ah,(∃z,UR n b x.Instance x.Arc=some (a,z))∧OM n b x.Instance x.Arc=some (a,true)∧(a.Kind==4)=c.q
 lt:(c.D:Int)<GJ b
 val:∃y,AE t.Arrival (c.D:Int)=some y∧c.v=cond c.q (wrap .i64 (y.Late+x.Slack)) (wrap .i64 (y.Early-x.Slack))
theorem CvE{n:Nat}{b:AQ}{t:Ac}(v:Ce b)(vt:VI b t)(hn:1048577<=n){x:Al}(hx:(x.Instance,x.Arc,x.Transition)∈Bu b):∃c,Cv n b t x c:=by
 obtain⟨htr,a,i',j',c,ck⟩:=NP v _ hx
 obtain⟨inst,arc,tr,sl⟩:=x
 have htr:tr=0∨tr=1:=htr
 have ck:Lp b inst arc a i' j' c:=ck
 have ca:=Tq (n:=n) v ck
 obtain⟨D,C,m1,_,hD,_⟩:=NT (n:=n) (r:=⟨b,[],[],[],[],[]⟩) (s:=0) v rfl ck htr hn
 have z2:=vt.arr
 obtain⟨y,k3,_⟩:=DC (xs:=t.Arrival) (i:=(D:Int)) (by omega) (by omega)
 obtain⟨z,e1,e2,_⟩:=sN (n:=n) v inst arc
 rw [ca]at e2
 refine⟨⟨D,a.Kind==4,cond (a.Kind==4) (wrap .i64 (y.Late+sl)) (wrap .i64 (y.Early-sl))⟩,⟨_,m1⟩,fun r hr=>?_,⟨a,⟨true,e1.trans e2.symm⟩,ca,rfl⟩,hD,y,k3,rfl⟩
 obtain⟨D',C',n1,n2,_⟩:=NT (n:=n) (r:=r) (s:=sl) v hr ck htr hn
 rw [m1]at n1
 simp only [Option.some.injEq,Prod.mk.injEq]at n1
 exact⟨_,by rw [n2,n1.1]⟩
theorem CvL{n:Nat}{b:AQ}{t:Ac}(v:Ce b)(vt:VI b t)(hn:1048577<=n):∀g:List Al,(∀x∈g,(x.Instance,x.Arc,x.Transition)∈Bu b)->∃cs:List Lx,cs.length=g.length∧∀i (h:i<g.length) (h2:i<cs.length),Cv n b t g[i] cs[i]
 |[],_=>⟨[],rfl,fun i h=>absurd h (Nat.not_lt_zero _)⟩
 |x::g,h=>by
  obtain⟨c,hc⟩:=CvE v vt hn (h x List.mem_cons_self)
  obtain⟨cs,h1,h2⟩:=CvL v vt hn g fun y hy=>h y (List.mem_cons_of_mem _ hy)
  refine⟨c::cs,by simp [h1],fun i hi hi2=>?_⟩
  cases i with
  |zero=>exact hc
  |succ i=>exact h2 i (by simpa using hi) (by simpa using hi2)
theorem Oq{α:Type}{l:List α}{i:Nat}(h:i<l.length):l.take (i+1)=l.take i++[l[i]]:=List.take_succ_eq_append_getElem h
theorem rV{n:Nat}{b:AQ}{t:Ac}{g:List Al}{cs:List Lx}(hl:cs.length=g.length)(hg:g.length<=1048576)(hC:∀i (h:i<g.length) (h2:i<cs.length),Cv n b t g[i] cs[i])(k:Nat){K:Bool->Int->Int->Int->Int->Option ((List AG)×Int)}(hn:1048577<=n):
 (∃c∈cs,c.D=k∧Im c.v=false)∧GP n b t g (k:Int) K n false 0 (k:Int) (-1000000000) 1000000000=some ([],3)∨
 (∀c∈cs,c.D=k->Im c.v=true)∧∃z,GP n b t g (k:Int) K n false 0 (k:Int) (-1000000000) 1000000000=K (Sp cs k) z (k:Int) (GH cs k).Early (GH cs k).Late:=by
 refine TR (L:=fun m i (p:Bool×Int×Int)=>GP n b t g (k:Int) K m p.1 i (k:Int) p.2.1 p.2.2) g.length (fun i p=>(∀c∈cs.take i,c.D=k->Im c.v=true)∧p.1=Sp (cs.take i) k∧p.2.1=(GH (cs.take i) k).Early∧p.2.2=(GH (cs.take i) k).Late)
  (fun o=>(∃c∈cs,c.D=k∧Im c.v=false)∧o=some ([],3)∨(∀c∈cs,c.D=k->Im c.v=true)∧∃z,o=K (Sp cs k) z (k:Int) (GH cs k).Early (GH cs k).Late) ?_ ?_ n 0 (false,-1000000000,1000000000) (by omega) (by omega) ⟨fun c h=>(by simp at h),by simp [Sp],rfl,rfl⟩
 ·rintro m i ⟨q,e,l⟩ hi ⟨hI,hq,he,hl'⟩ ih
  have hq:q=Sp (cs.take i) k:=hq
  have he:e=(GH (cs.take i) k).Early:=he
  have hl':l=(GH (cs.take i) k).Late:=hl'
  have hic:i<cs.length:=by omega
  have ts:=Oq hic
  have cv:=hC i hi hic
  obtain⟨z,f1⟩:=cv.spec
  obtain⟨a,⟨z2,f2⟩,_,f4⟩:=cv.arc
  obtain⟨y,f5,f6⟩:=cv.val
  have sp:=iE (cs.take i) k
  have hm:=List.getElem_mem hic
  rw [ts]at ih
  generalize cs[i]=c at cv f1 f4 f5 f6 hm ih
  simp only [GP.eq_2,Cx hi,cT,AU hi,Au,f1,f2,wT i]
  cases hd:((c.D:Int) !=(k:Int))with
  |true=>
   have hne:c.D≠k:=fun e=>by rw [e,bne_self_eq_false]at hd;cases hd
   have hb:(c.D==k)=false:=beq_eq_false_iff_ne.2 hne
   rw [cT]
   refine ih (q,e,l) ⟨fun c' h hk=>?_,?_,?_,?_⟩
   ·rcases List.mem_append.1 h with h|h
    ·exact hI c' h hk
    ·obtain rfl:=List.mem_singleton.1 h;exact absurd hk hne
   ·rw [Ja,hb,Bool.or_false];exact hq
   ·rw [Ea];unfold KX;rw [hb];exact he
   ·rw [Ea];unfold KX;rw [hb];exact hl'
  |false=>
   obtain rfl:c.D=k:=by have:=bne_eq_false_iff_eq.1 hd;omega
   have hb:(c.D==c.D)=true:=beq_self_eq_true _
   rw [cF,f5]
   simp only [Au,f4,GV]
   have good:Im c.v=true->∀c'∈cs.take i++[c],c'.D=c.D->Im c'.v=true:=fun ht c' h hk=>by
    rcases List.mem_append.1 h with h|h
    ·exact hI c' h hk
    ·obtain rfl:=List.mem_singleton.1 h;exact ht
   cases hcq:c.q with
   |true=>
    rw [hcq,cT]at f6
    rw [cT,←f6,show(!(decide ((-1000000000:Int)>= -1000000000)&&decide ((-1000000000:Int)<=1000000000)))=false from rfl,cF,Au]
    show(_∨_)
    cases ht:Im c.v with
    |false=>
     refine .inl ⟨⟨c,hm,rfl,ht⟩,?_⟩
     unfold Im at ht;rw [ht];rfl
    |true=>
     have ht2:=ht
     unfold Im at ht;rw [ht]
     refine ih (true,max e (-1000000000),min l c.v) ⟨good ht2,by rw [Ja,hb,Bool.or_true],?_,?_⟩
     ·rw [Ea];unfold KX Mh;rw [hb,hcq];show max e (-1000000000)=(GH (cs.take i) c.D).Early;omega
     ·rw [Ea];unfold KX Mh;rw [hb,hcq];show min l c.v=min (GH (cs.take i) c.D).Late c.v;rw [hl']
   |false=>
    rw [hcq,cF]at f6
    rw [cF,←f6]
    show(_∨_)
    cases ht:Im c.v with
    |false=>
     refine .inl ⟨⟨c,hm,rfl,ht⟩,?_⟩
     unfold Im at ht;rw [ht];rfl
    |true=>
     have ht2:=ht
     unfold Im at ht;rw [ht]
     refine ih (true,max e c.v,min l 1000000000) ⟨good ht2,by rw [Ja,hb,Bool.or_true],?_,?_⟩
     ·rw [Ea];unfold KX Mh;rw [hb,hcq];show max e c.v=max (GH (cs.take i) c.D).Early c.v;rw [he]
     ·rw [Ea];unfold KX Mh;rw [hb,hcq];show min l 1000000000=(GH (cs.take i) c.D).Late;omega
 ·rintro m ⟨q,e,l⟩ ⟨hI,hq,he,hl'⟩
  rw [←hl,List.take_length]at hI hq he hl'
  simp only [GP.eq_2,DH,cF]
  have hq:q=Sp cs k:=hq
  have he:e=(GH cs k).Early:=he
  have hl':l=(GH cs k).Late:=hl'
  exact .inr ⟨hI,_,by rw [hq,he,hl']⟩
theorem vX{n:Nat}{b:AQ}{t:Ac}{g:List Al}{cs:List Lx}(v:Ce b)(hl:cs.length=g.length)(hg:g.length<=1048576)(hC:∀i (h:i<g.length) (h2:i<cs.length),Cv n b t g[i] cs[i])(hn:1048577<=n):
 (∃c∈cs,Im c.v=false)∧Fu n b t g (fun l79 i83=>(some (l79,0))) n [] 0=some ([],3)∨
 (∀c∈cs,Im c.v=true)∧Fu n b t g (fun l79 i83=>(some (l79,0))) n [] 0=some (DN (HK cs) 0 (2*(Dt b.Design).length),0):=by
 have vd:=v.design
 have hp:=Dy vd.short vd.few.1 vd.few.2.2
 have wc:GJ b=((2*(Dt b.Design).length:Nat):Int):=by unfold GJ;omega
 have hN:2*(Dt b.Design).length<=1000:=by omega
 generalize 2*(Dt b.Design).length=N at*
 refine TR (L:=fun m i l=>Fu n b t g (fun l79 i83=>(some (l79,0))) m l i) N (fun i l=>(∀c∈cs,c.D<i->Im c.v=true)∧l=DN (HK cs) 0 i)
  (fun o=>(∃c∈cs,Im c.v=false)∧o=some ([],3)∨(∀c∈cs,Im c.v=true)∧o=some (DN (HK cs) 0 N,0)) ?_ ?_ n 0 [] (by omega) (by omega) ⟨fun c _ h=>absurd h (Nat.not_lt_zero _),rfl⟩
 ·rintro m i l hi ⟨hI,rfl⟩ ih
  have e1:DN (HK cs) 0 (i+1)=DN (HK cs) 0 i++HK cs i:=by
   have:=Nn (HK cs) i 0 1
   rw [Nat.zero_add]at this
   rw [this];simp [DN]
  have hlen:=Lf (PO cs) i 0
  simp only [Fu.eq_2,jW v hn,Au,decide_eq_true (show(i:Int)<GJ b by omega),cT,wT i]
  rcases rV (K:=fun q111 i112 i116 i117 i118=>(cond q111 (Option.bind (Dj (DN (HK cs) 0 i) ([(AG.mk i116 ((AV.mk i117 i118)))]) 24) fun z134=>(Fu n b t g (fun l79 i83=>(some (l79,0))) m z134 ((i+1:Nat):Int))) (Fu n b t g (fun l79 i83=>(some (l79,0))) m (DN (HK cs) 0 i) ((i+1:Nat):Int)))) hl hg hC i hn with ⟨⟨c,hc,_,hb⟩,e⟩|⟨hgd,z,e⟩
  ·rw [e];exact .inl ⟨⟨c,hc,hb⟩,rfl⟩
  ·rw [e]
   have hI2:∀c∈cs,c.D<i+1->Im c.v=true:=fun c hc h=>by
    by_cases ed:c.D=i
    ·exact hgd c hc ed
    ·exact hI c hc (by omega)
   unfold HK at e1
   cases hu:Sp cs i with
   |false=>
    rw [hu,cF,List.append_nil]at e1
    rw [cF]
    exact ih _ ⟨hI2,e1.symm⟩
   |true=>
    rw [hu,cT]at e1
    rw [cT,CR (by simp;omega) (by omega),Au]
    exact ih _ ⟨hI2,e1.symm⟩
 ·rintro m l ⟨hI,rfl⟩
  simp only [Fu.eq_2,jW v hn,Au,wc,decide_eq_false (show¬((N:Nat):Int)<((N:Nat):Int) by omega),cF]
  refine .inr ⟨fun c hc=>?_,by trivial⟩
  obtain⟨i,hi,rfl⟩:=List.getElem_of_mem hc
  have:=(hC i (by omega) hi).lt
  exact hI _ hc (by omega)
theorem cJ{A B:List AG}{x:AG}(h:(A++B).length<=1048576):ZG 24 (A++B) (A.length:Int) [x]=some (A++x::B):=by
 unfold ZG
 dsimp only
 rw [if_pos ⟨by omega,by simp;omega,by omega,by omega⟩]
 simp
theorem Ya{A B:List AG}{x y:AG}:(A++x::B).set ((A.length:Int)).toNat y=A++y::B:=by simp
theorem TN{A B:List AG}{x:AG}:AE (A++x::B) (A.length:Int)=some x:=by rw [EH];simp
theorem TgO{n:Nat}{b:AQ}{t:Ac}{w:BU}{g:List Al}{cs:List Lx}(v:Ce b)(hw:w.Block=b)(hl:cs.length=g.length)(hg:g.length<=1048576)(hC:∀i (h:i<g.length) (h2:i<cs.length),Cv n b t g[i] cs[i])(hn:1048577<=n):
 (∃c∈cs,Im c.v=false)∧EU n w t g (fun l56 i60=>(some (l56,true))) n [] 0=some ([],false)∨
 (∀c∈cs,Im c.v=true)∧EU n w t g (fun l56 i60=>(some (l56,true))) n [] 0=some (DN (HK cs) 0 (2*(Dt b.Design).length),true):=by
 have vd:=v.design
 have hp:=Dy vd.short vd.few.1 vd.few.2.2
 have wc:GJ b=((2*(Dt b.Design).length:Nat):Int):=by unfold GJ;omega
 have hN:2*(Dt b.Design).length<=1000:=by omega
 generalize 2*(Dt b.Design).length=N at*
 have z0:DN (HK []) 0 N=[]:=by
  have:∀n lo,DN (HK []) lo n=[]:=by
   intro n
   induction n with
   |zero=>intro lo;rfl
   |succ n ih=>intro lo;rw [DN,ih];rfl
  exact this N 0
 refine TR (L:=fun m i l=>EU n w t g (fun l56 i60=>(some (l56,true))) m l i) g.length (fun i l=>(∀c∈cs.take i,Im c.v=true)∧l=DN (HK (cs.take i)) 0 N)
  (fun o=>(∃c∈cs,Im c.v=false)∧o=some ([],false)∨(∀c∈cs,Im c.v=true)∧o=some (DN (HK cs) 0 N,true)) ?_ ?_ n 0 [] (by omega) (by omega) ⟨fun c h=>(by simp at h),by rw [List.take_zero,z0]⟩
 ·rintro m i l hi ⟨hI,rfl⟩ ih
  have hic:i<cs.length:=by omega
  have ts:=Oq hic
  have cv:=hC i hi hic
  obtain⟨z,f1⟩:=cv.impl w hw
  obtain⟨a,_,f3,f4⟩:=cv.arc
  obtain⟨y,f5,f6⟩:=cv.val
  have hlt:=cv.lt
  have hm:=List.getElem_mem hic
  rw [ts]at ih
  generalize cs[i]=c at cv f1 f4 f5 f6 hm ih hlt
  have hD:c.D<N:=by omega
  have good:Im c.v=true->∀c'∈cs.take i++[c],Im c'.v=true:=fun ht c' h=>by
   rcases List.mem_append.1 h with h|h
   ·exact hI c' h
   ·obtain rfl:=List.mem_singleton.1 h;exact ht
  have nx:=Un (cs.take i) c hD
  have sp:=Ny (cs.take i) hD
  have hln:=Lf (PO (cs.take i)) N 0
  rw [sp]at hln
  have hA:∀x∈DN (HK (cs.take i)) 0 c.D,x.Node<(c.D:Int):=fun x hx=>by have:=Oh hx;omega
  have hM:∀x∈HK (cs.take i) c.D,x.Node=(c.D:Int):=fun x hx=>QV hx
  have hB:∀x∈DN (HK (cs.take i)) (c.D+1) (N-c.D-1),(c.D:Int)<x.Node:=fun x hx=>by have:=Oh hx;omega
  have bs:=BSF (n:=n) (show _<=1048576 by omega) hA hM hB hn
  rw [sp]
  generalize DN (HK (cs.take i)) 0 c.D=A at*
  generalize DN (HK (cs.take i)) (c.D+1) (N-c.D-1)=B at*
  simp only [EU.eq_2,Cx hi,cT,AU hi,Au,f1,bs,hw,wT i]
  unfold HK at hln ⊢
  cases hu:Sp (cs.take i) c.D with
  |false=>
   rw [hu,cF,List.nil_append]at hln
   have e0:=mS hu
   simp only [cF,List.nil_append,List.isEmpty_nil,Bool.not_true,Bool.not_false,cT,oB,cJ (show(A++B).length<=1048576 by omega),Au,TN,Ya,f5,f3,f4,Tf,Ij]
   rw [e0]at nx
   cases hcq:c.q with
   |true=>
    rw [hcq,cT]at f6
    unfold Mh at nx;rw [hcq,cT]at nx
    rw [cT,←f6]
    cases ht:Im c.v with
    |false=>refine .inl ⟨⟨c,hm,ht⟩,?_⟩;unfold Im at ht;rw [ht];rfl
    |true=>have ht2:=ht;unfold Im at ht;rw [ht];exact ih _ ⟨good ht2,nx.symm⟩
   |false=>
    rw [hcq,cF]at f6
    unfold Mh at nx;rw [hcq,cF]at nx
    rw [cF,←f6]
    cases ht:Im c.v with
    |false=>refine .inl ⟨⟨c,hm,ht⟩,?_⟩;unfold Im at ht;rw [ht];rfl
    |true=>have ht2:=ht;unfold Im at ht;rw [ht];exact ih _ ⟨good ht2,nx.symm⟩
  |true=>
   simp only [cT,List.singleton_append,List.isEmpty_cons,Bool.not_false,Bool.not_true,cF,TN,Ya,Au,f5,f3,f4,Tf,Ij]
   cases hcq:c.q with
   |true=>
    rw [hcq,cT]at f6
    unfold Mh at nx;rw [hcq,cT]at nx
    rw [cT,←f6]
    cases ht:Im c.v with
    |false=>refine .inl ⟨⟨c,hm,ht⟩,?_⟩;unfold Im at ht;rw [ht];rfl
    |true=>have ht2:=ht;unfold Im at ht;rw [ht];exact ih _ ⟨good ht2,nx.symm⟩
   |false=>
    rw [hcq,cF]at f6
    unfold Mh at nx;rw [hcq,cF]at nx
    rw [cF,←f6]
    cases ht:Im c.v with
    |false=>refine .inl ⟨⟨c,hm,ht⟩,?_⟩;unfold Im at ht;rw [ht];rfl
    |true=>have ht2:=ht;unfold Im at ht;rw [ht];exact ih _ ⟨good ht2,nx.symm⟩
 ·rintro m l ⟨hI,rfl⟩
  rw [←hl,List.take_length]at hI ⊢
  simp only [EU.eq_2,hl,DH,cF]
  exact .inr ⟨hI,by trivial⟩
theorem TgE{n:Nat}{b:AQ}{t:Ac}{rel:Aj}(hb:ZO b)(ht:t.Reached.length<=1048576)(hn:1048577<=n):
 ∃(l:List AG) (c:Int),l.length<=1048576∧sH n b t rel=some (l,c)∧Um n b t rel=some (l,c):=by
 rw [sH,Um]
 rcases kU (n:=n) (rel:=rel) hb ht hn with ⟨f1,⟨v,vt⟩,w,f2⟩|⟨c,hc,f1,f2⟩
 ·rw [f1,f2]
  simp only [Au,cF,OG,bne_self_eq_false]
  obtain⟨g,k0,kq,k1,k2⟩:=yM (n:=n) (rel:=rel) (w:=w) v vt hn
  obtain⟨cs,hl,hC⟩:=CvL v vt hn g kq
  have vd:=v.design
  have hp:=Dy vd.short vd.few.1 vd.few.2.2
  rw [k1,dH,k2,Au,Au]
  rcases vX (t:=t) v hl k0 hC hn with ⟨⟨c,hc,hb1⟩,e1⟩|⟨hg1,e1⟩
  ·rcases TgO (t:=t) (w:=⟨b,w.places_,w.links_,w.loads_,w.delays_,w.extras_⟩) v rfl hl k0 hC hn with ⟨_,e2⟩|⟨hg2,e2⟩
   ·exact⟨[],3,by simp,e1,by rw [e2];rfl⟩
   ·rw [hg2 c hc]at hb1;cases hb1
  ·rcases TgO (t:=t) (w:=⟨b,w.places_,w.links_,w.loads_,w.delays_,w.extras_⟩) v rfl hl k0 hC hn with ⟨⟨c,hc,hb1⟩,_⟩|⟨hg2,e2⟩
   ·rw [hg1 c hc]at hb1;cases hb1
   ·exact⟨_,0,by have:=Lf (PO cs) (2*(Dt b.Design).length) 0;omega,e1,by rw [e2];rfl⟩
 ·rw [f1,f2]
  simp only [Au,OG,hc,cT]
  exact⟨[],c,by simp,rfl,rfl⟩
theorem RS{a:AQ}{t:Ac}{rel:Aj}(hR:Mq a)(hL:NH t)(_hrel:Na rel):∃n,bS n a t rel=some true:=by
 obtain⟨n,hn⟩:∃n,1048577<=n:=⟨_,Nat.le_refl _⟩
 refine⟨n,?_⟩
 rw [bS]
 obtain⟨r,e,hr,hs⟩:=bN (n:=n) (left:=1048576) hR (by omega) (by omega) hn
 rw [e,Au]
 by_cases h0:r<0
 ·rw [decide_eq_true h0];rfl
 have hS:=hs (by omega)
 obtain⟨r2,e2,hr2,hs2⟩:=YN (n:=n) (left:=r) hL (by omega) (by omega) hn
 rw [decide_eq_false h0,cF,e2,Au]
 by_cases h2:r2<0
 ·rw [decide_eq_true h2];rfl
 have hT:=hs2 (by omega)
 obtain⟨g,c,hg,g1,g2⟩:=TgE (n:=n) (rel:=rel) (HU.b hS) hT.1.1 hn
 obtain⟨_,k1,m1,u1,v1⟩:=Vu (n:=n) (left:=1048576) (k:=1) hR (by omega) (by omega) hn e (by omega) (by omega) (by omega)
 obtain⟨q2,m2,u2,v2⟩:=Zp (n:=n) (k:=k1) hT (by omega) (by omega) hn
 obtain⟨q4,m4,u4,v4,z4⟩:=UE (n:=n) (a:=g) (k:=1) hg (by omega) (by omega) hn
 have hG:(fun xs=>xs.length<=1048576∧∀x∈xs,MH x) g:=⟨hg,fun _ _=>⟨trivial,trivial,trivial⟩⟩
 simp only [decide_eq_false h2,cF,dS hS hn,Xo hT hn,show VS n rel=some rel from rfl,Au,g1,g2,bne_self_eq_false,Bool.or_self,bJ hS hn,YS hT hn,UD hG hn,Bool.not_true,m1,m2,decide_eq_false (show¬q2.1<0 by omega),m4,z4,decide_eq_false (show¬q4.1<0 by omega)]
end Go.Proofs.YtjpcjanfamdmiaaGreatDoor
