/- The plain law behind FnCheckTargets: the plain function answers true; no condition. -/
import Derived.Test.YtejmafeocaidlabGreatDoorWalkFnCheckTargets
set_option linter.all false
set_option maxHeartbeats 4000000
namespace Go.Proofs.YtejmafeocaidlabGreatDoor
open Go Go.RowKit Go.Eng
open Go.IntKind (wrap)

theorem HY{b c:Bool}:(cond b (some true) (some c))=some (b||c):=by cases b<;>rfl
theorem Do{b c:Bool}:(cond b (some c) (some false))=some (b&&c):=by cases b<;>rfl
theorem Ex{i N:Nat}(h:i<N):decide ((i:Int)<(N:Int))=true:=AX (by omega)
theorem FS(N:Nat):decide ((N:Int)<(N:Int))=false:=Aa (by omega)
theorem wS{i:Nat}(h:i<4611686018427387904):wrap .i64 ((i:Int)+1)=((i+1:Nat):Int):=by rw [BD (by omega) (by omega)];simp
theorem Ac{α:Type}{xs:List α}{i:Nat}(h:i<xs.length):AL xs (i:Int)=some xs[i]:=by rw [IK];exact AH h
theorem Dx{α:Type}{xs:List α}{i:Int}(h0:0<=i)(h1:i<xs.length):∃x,AL xs i=some x∧xs[i.toNat]? =some x:=by
 obtain⟨x,hx,_⟩:=HR h0 h1
 exact⟨x,hx,(HH hx).2.2⟩
theorem loop{σ R:Type}{L:Nat->Int->σ->Option R}(N:Nat)(I:Nat->σ->Prop)(Post:Option R->Prop)
 (hs:∀(m i:Nat) (st:σ),i<N->I i st->(∃st',I (i+1) st'∧L (m+1) (i:Int) st=L m ((i+1:Nat):Int) st')∨Post (L (m+1) (i:Int) st))
 (he:∀(m:Nat) (st:σ),I N st->Post (L (m+1) (N:Int) st)):∀(m i:Nat) (st:σ),i<=N->N-i<m->I i st->Post (L m (i:Int) st)
 |0,i,st,_,hm,_=>by omega
 |m+1,i,st,hi,hm,h=>by
  by_cases hlt:i<N
  ·rcases hs m i st hlt h with ⟨st',h1,h2⟩|h1
   ·rw [h2];exact loop N I Post hs he m (i+1) st' (by omega) (by omega) h1
   ·exact h1
  ·obtain rfl:i=N:=by omega
   exact he m st h
theorem Sj{α σ R:Type}{xs:List α}{L:Nat->Int->σ->Option R}{k:σ->Option R}(f:σ->α->σ)(I:Nat->σ->Prop)
 (hs:∀(m i:Nat) (h:i<xs.length) (st:σ),I i st->L (m+1) (i:Int) st=L m ((i+1:Nat):Int) (f st xs[i])∧I (i+1) (f st xs[i]))
 (he:∀(m:Nat) (st:σ),I xs.length st->L (m+1) (xs.length:Int) st=k st) (m:Nat) (st:σ) (h:I 0 st) (hm:xs.length<m):L m 0 st=k (xs.foldl f st)∧I xs.length (xs.foldl f st):=by
 refine loop xs.length (fun i s=>I i s∧(xs.drop i).foldl f s=xs.foldl f st) (fun o=>o=k (xs.foldl f st)∧I xs.length (xs.foldl f st)) ?_ ?_ m 0 st (by omega) (by omega) ⟨h,by simp⟩
 ·intro m i s hi ⟨h1,h2⟩
  obtain⟨e,h3⟩:=hs m i hi s h1
  exact .inl ⟨_,⟨h3,by rw [DB hi]at h2;exact h2⟩,e⟩
 ·intro m s ⟨h1,h2⟩
  rw [Fj]at h2
  have h2:s=xs.foldl f st:=h2
  rw [←h2]
  exact⟨he m s h1,h1⟩
theorem CC{α:Type}{xs ys:List α}{b:Nat}(h:xs.length+ys.length<=16777216)(hb:b<=1048576):De xs ys b=some (xs++ys):=by
 unfold De
 have:(xs.length+ys.length)*b<=16777216*1048576:=EQ h hb
 rw [BE ⟨by omega,by omega⟩]
theorem RJ{α R:Type}{xs:List α}{L:Nat->Int->Option R}{k no:Option R}(p:α->Bool)(hs:∀(m i:Nat) (h:i<xs.length),L (m+1) (i:Int)=cond (p xs[i]) (L m ((i+1:Nat):Int)) no)
 (he:∀m:Nat,L (m+1) (xs.length:Int)=k) (m:Nat) (hm:xs.length<m):L m 0=cond (xs.all p) k no:=by
 refine loop (L:=fun m i (_:Unit)=>L m i) xs.length (fun i _=>xs.all p=(xs.drop i).all p) (fun o=>o=cond (xs.all p) k no) ?_ ?_ m 0 () (by omega) (by omega) (by simp)
 ·intro m i _ hi h
  rw [DB hi,Fv]at h
  cases hp:p xs[i]with
  |false=>refine .inr ?_;rw [h,hp];simp only [hs m i hi,hp,cF,FU]
  |true=>refine .inl ⟨(),by rw [h,hp];simp,?_⟩;simp only [hs m i hi,hp,cT]
 ·intro m _ h
  rw [Fj]at h
  rw [h];simp [he m]
theorem WZ{σ R:Type}{L:Nat->σ->Option R}(μ:σ->Nat)(I:σ->Prop)(Post:Option R->Prop)
 (hs:∀(m:Nat) (st:σ),I st->(∀st',I st'->μ st'<μ st->Post (L m st'))->Post (L (m+1) st)):∀(m:Nat) (st:σ),μ st<m->I st->Post (L m st)
 |0,st,h,_=>by omega
 |m+1,st,h,hI=>hs m st hI fun st' h1 h2=>WZ μ I Post hs m st' (by omega) h1
theorem Ht{σ R:Type}{L:Nat->Int->σ->Option R}(N:Nat)(I:Nat->σ->Prop)(Post:Option R->Prop)
 (hs:∀(m i:Nat) (st:σ),i<N->I i st->(∀st',I (i+1) st'->Post (L m ((i+1:Nat):Int) st'))->Post (L (m+1) (i:Int) st))
 (he:∀(m:Nat) (st:σ),I N st->Post (L (m+1) (N:Int) st)):∀(m i:Nat) (st:σ),i<=N->N-i<m->I i st->Post (L m (i:Int) st)
 |0,i,st,_,hm,_=>by omega
 |m+1,i,st,hi,hm,h=>by
  by_cases hlt:i<N
  ·exact hs m i st hlt h fun st' h'=>Ht N I Post hs he m (i+1) st' (by omega) (by omega) h'
  ·obtain rfl:i=N:=by omega
   exact he m st h
def CO{α:Type}(Q:α->Prop)(o:Option α):Prop:=∃v,o=some v∧Q v
theorem Af{α:Type}{Q:α->Prop}{v:α}(h:Q v):CO Q (some v):=⟨v,rfl,h⟩
theorem CO.bind{α β:Type}{A:α->Prop}{Q:β->Prop}{o:Option α}{f:α->Option β}(h:CO A o)(k:∀v,o=Option.some v->A v->CO Q (f v)):CO Q (Option.bind o f):=by
 obtain⟨v,e,hv⟩:=h
 rw [e];exact k v e hv
theorem BU{α:Type}{Q:α->Prop}{c:Bool}{x y:Option α}(h1:c=true->CO Q x)(h2:c=false->CO Q y):CO Q (cond c x y):=by
 cases c
 ·exact h2 rfl
 ·exact h1 rfl
theorem CO.weaken{α:Type}{Q Q':α->Prop}{o:Option α}(h:CO Q o)(hq:∀v,Q v->Q' v):CO Q' o:=by
 obtain⟨v,e,hv⟩:=h
 exact⟨v,e,hq v hv⟩
theorem CO.get{α:Type}{Q:α->Prop}{xs:List α}{i:Int}(h0:0<=i)(h1:i<xs.length)(h:∀x∈xs,Q x):CO Q (AL xs i):=by
 obtain⟨x,hx,hm⟩:=HR h0 h1
 exact⟨x,hx,h x hm⟩
theorem EV{α:Type}{xs:List α}{i:Int}(h0:0<=i)(h1:i<xs.length):CO (fun x=>x∈xs) (AL xs i):=CO.get h0 h1 fun _ h=>h
theorem Nd{α:Type}{xs:List α}{L:Nat->Int->Option Int}(p:α->Bool)(hs:∀(m i:Nat) (h:i<xs.length),L (m+1) (i:Int)=cond (p xs[i]) (some (i:Int)) (L m ((i+1:Nat):Int)))
 (he:∀m:Nat,L (m+1) (xs.length:Int)=some (-1)) (m:Nat) (hm:xs.length<m):∃r,L m 0=some r∧decide (r>=0)=xs.any p:=by
 refine loop (L:=fun m i (_:Unit)=>L m i) xs.length (fun i _=>xs.any p=(xs.drop i).any p) (fun o=>∃r,o=some r∧decide (r>=0)=xs.any p) ?_ ?_ m 0 () (by omega) (by omega) (by simp)
 ·intro m i _ hi h
  rw [DB hi,List.any_cons]at h
  cases hp:p xs[i]with
  |false=>refine .inl ⟨(),by rw [h,hp];simp,?_⟩;simp only [hs m i hi,hp,cF]
  |true=>refine .inr ⟨(i:Int),?_,?_⟩
         ·simp only [hs m i hi,hp,cT]
         ·rw [h,hp];simp
 ·intro m _ h
  rw [Fj]at h
  exact⟨-1,he m,by rw [h];rfl⟩
structure Gh(c:List Int)(s:AA):Prop where
 code:s.c=c
 at0:0<=s.at_∧s.at_<=c.length
 sd:0<=s.b∧s.b<2147483647
def NG(c:List Int):Prop:=c.length<=4096∧∀x∈c,0<=x∧x<=255
theorem Ib{a b:Int}(ha:0<=a)(hb:0<b):0<=Int.tmod a b∧Int.tmod a b<b:=⟨Int.tmod_nonneg _ ha,Int.tmod_lt_of_pos _ hb⟩
theorem Nx{n:Nat}{c:List Int}(hc:NG c){s:AA}(h:Gh c s)(k:Int):CO (fun r=>Gh c r.2∧0<=r.1∧(r.1<k∨r.1=0∧k<=1)) (HA n s k):=by
 obtain⟨h1,h2,h3⟩:=h
 have hl:=hc.1
 rw [HA]
 refine BU (fun hk=>Af ⟨⟨h1,h2,h3⟩,ED _,.inr ⟨rfl,CQ hk⟩⟩) fun hk=>?_
 have hk:=Fy hk
 have hk0:(k==0)=false:=by rw [AG];omega
 refine BU (fun ha=>?_) fun ha=>?_
 ·have ha:=CQ ha
  rw [h1]at ha ⊢
  refine CO.bind (CO.get h2.1 ha hc.2) fun x _ hx=>?_
  have wx:wrap .i64 x=x:=BD (by omega) (by omega)
  have wa:wrap .i64 (s.at_+1)=s.at_+1:=BD (by omega) (by omega)
  have wm:wrap .i64 (s.b*48271)=s.b*48271:=BD (by omega) (by omega)
  simp only [hk0,cF,wx,wa,wm,BD (x:=s.b*48271+x) (by omega) (by omega),BD (x:=s.b*48271+x+1) (by omega) (by omega)]
  have m1:=Ib (a:=s.b*48271+x+1) (b:=2147483647) (by omega) (by omega)
  refine BU (fun _=>Af ⟨⟨rfl,⟨?_,?_⟩,h3⟩,?_⟩) fun _=>Af ⟨⟨rfl,⟨?_,?_⟩,m1⟩,?_⟩
  ·show 0<=s.at_+1;omega
  ·show s.at_+1<=_;omega
  ·exact⟨(Ib hx.1 (by omega)).1,.inl (Ib hx.1 (by omega)).2⟩
  ·show 0<=s.at_+1;omega
  ·show s.at_+1<=_;omega
  ·exact⟨(Ib m1.1 (by omega)).1,.inl (Ib m1.1 (by omega)).2⟩
 ·have wm:wrap .i64 (s.b*48271)=s.b*48271:=BD (by omega) (by omega)
  have m1:=Ib (a:=s.b*48271+11) (b:=2147483647) (by omega) (by omega)
  simp only [hk0,cF,wm,BD (x:=s.b*48271+11) (by omega) (by omega)]
  generalize Int.tmod (s.b*48271+11) 2147483647=q at*
  have d0:0<=Int.tdiv q 7:=Int.tdiv_nonneg m1.1 (by omega)
  have d1:Int.tdiv q 7<=q:=Int.tdiv_le_self _ m1.1
  rw [BD (x:=Int.tdiv q 7) (by omega) (by omega)]
  exact Af ⟨⟨h1,h2,m1⟩,(Ib d0 (by omega)).1,.inl (Ib d0 (by omega)).2⟩
theorem Gh.mk2{c d:List Int}{s:AA}(h:Gh c s)(e:d=c):Gh c (AA.mk d s.at_ s.b):=⟨e,h.at0,h.sd⟩
theorem Fr{n:Nat}{c:List Int}(hc:NG c)(hn:1048577<=n):CO (fun r=>Gh c r) (aI n c):=by
 have hl:=hc.1
 rw [aI]
 refine Ht (L:=fun m i (p:Int×Int)=>LN c (fun i12 i14 i15=>(some ((AA.mk c i14 i15)))) m i p.1 p.2) (min c.length 64) (fun _ p=>p.1=0∧0<=p.2∧p.2<2147483647) _ ?_ ?_ n 0 (0,12345) (by omega) (by omega) ⟨rfl,by omega,by omega⟩
 ·intro m i ⟨a,sd⟩ hi ⟨h1,h2⟩ ih
  dsimp only at h1 h2 ⊢
  have hi1:i<c.length:=by omega
  have hx:=hc.2 _ (AI hi1)
  simp only [LN.eq_2,Ex hi1,Ex (show i<64 by omega),Bool.and_self,cT,Ac hi1,BJ,show((64:Int))=((64:Nat):Int)from rfl,wT i]
  generalize c[i]=x at*
  rw [BD (x:=sd*31) (by omega) (by omega),BD (x:=x) (by omega) (by omega),BD (x:=sd*31+x) (by omega) (by omega)]
  have m1:=Ib (a:=sd*31+x) (b:=2147483647) (by omega) (by omega)
  exact ih (a,_) ⟨h1,m1⟩
 ·intro m ⟨a,sd⟩ ⟨h1,h2⟩
  dsimp only at h1 h2 ⊢
  have:(decide (((min c.length 64:Nat):Int)<(c.length:Int))&&decide (((min c.length 64:Nat):Int)<64))=false:=by
   rw [Av,AQ,AQ];omega
  simp only [LN.eq_2,this,cF]
  exact Af ⟨rfl,⟨by subst h1;exact ED _,by subst h1;exact Int.natCast_nonneg _⟩,h2⟩
theorem NG.of{code:List Int}(hR:code.length<=9223372036854775807∧∀x∈code,oM .u8 x)(h:¬(code.length:Int)>4096):NG code:=⟨by omega,fun x hx=>hR.2 x hx⟩
def gd(t:List Int)(j:Nat):Int:=t.getD j 0
theorem PA{t:List Int}{j:Nat}{v:Int}(h:t[j]? =some v):gd t j=v:=by simp [gd,h]
theorem lL{t:List Int}{j:Nat}(h:j<t.length):t[j]? =some (gd t j):=by simp [gd,h]
theorem RK{t:List Int}{i j:Nat}{v:Int}(h:i<t.length):gd (t.set i v) j=if i=j then v else gd t j:=by
 unfold gd
 rw [DL,DL,List.getElem?_set]
 by_cases e:i=j
 ·subst e;simp [h]
 ·simp [e]
theorem WM{t:List Int}{i:Int}(h0:0<=i)(h1:i<t.length):AL t i=some (gd t i.toNat):=by
 obtain⟨x,hx,h⟩:=Dx h0 h1
 rw [hx,PA h]
def gb(t:List Bool)(j:Nat):Bool:=t.getD j false
theorem Rj{t:List Bool}{i j:Nat}{v:Bool}(h:i<t.length):gb (t.set i v) j=if i=j then v else gb t j:=by
 unfold gb
 rw [DL,DL,List.getElem?_set]
 by_cases e:i=j
 ·subst e;simp [h]
 ·simp [e]
theorem Rg{n j:Nat}:gd (List.replicate n 0) j=0:=by
 simp only [gd,DL,EA];split<;>rfl
def OA(b:UInt8):Bool:=decide ((b.toNat:Int)>=97)&&decide ((b.toNat:Int)<=122)
def Tm(b:UInt8):Bool:=decide ((b.toNat:Int)>=48)&&decide ((b.toNat:Int)<=57)
def HN(s:ByteArray):Bool:=(decide ((s.size:Int)>=1)&&decide ((s.size:Int)<=8))&&(s.data.toList.all fun b=>OA b||Tm b)&&(s.data.toList.take 1).all OA
theorem QN(s:ByteArray):s.size=s.data.toList.length:=by rw [EG];rfl
theorem WU{s:ByteArray}{i:Nat}(h:i<s.data.toList.length):TI s (i:Int)=some ((s.data.toList[i].toNat:Nat):Int):=by
 unfold TI
 rw [BE (by omega),DF]
 have:s[i]? =some s.data.toList[i]:=by
  have hs:i<s.size:=by rw [QN];exact h
  rw [show s[i]? =some s[i]from getElem?_pos s i hs]
  rfl
 rw [this];rfl
theorem aV(p q:UInt8->Bool)(h:(List.range 256).all (fun i=>p (UInt8.ofNat i)==q (UInt8.ofNat i))=true)(b:UInt8):p b=q b:=by
 have:=CG.1 h b.toNat (GL.2 b.toNat_lt)
 rw [UInt8.ofNat_toNat]at this
 exact eq_of_beq this
def lettersL:List UInt8:=[97,98,99,100,101,102,103,104,105,106,107,108,109,110,111,112,113,114,115,116,117,118,119,120,121,122]
def nameL:List UInt8:=[97,98,99,100,101,102,103,104,105,106,107,108,109,110,111,112,113,114,115,116,117,118,119,120,121,122,48,49,50,51,52,53,54,55,56,57]
theorem ZI(b:UInt8):nameL.contains b=(OA b||Tm b):=aV (fun b=>nameL.contains b) (fun b=>OA b||Tm b) (by decide+kernel) b
theorem Us(b:UInt8):lettersL.contains b=OA b:=aV (fun b=>lettersL.contains b) (fun b=>OA b) (by decide+kernel) b
theorem QC{p:UInt8->Bool}:∀{l:List UInt8} (h:0<l.length),(l.take 1).all p=p l[0]
 |[],h=>by simp at h
 |a::r,_=>by simp
theorem If{p:UInt8->Bool}:∀(l:List UInt8),(l.dropWhile p=[])↔l.all p=true
 |[]=>by simp
 |a::l=>by
  rw [List.dropWhile_cons,Fv]
  cases h:p a with
  |true=>simpa using If l
  |false=>simp
theorem NS{p:UInt8->Bool}:∀{l:List UInt8} {a:UInt8} {r:List UInt8},l.dropWhile p=a::r->p a=false
 |b::l,a,r,h=>by
  rw [List.dropWhile_cons]at h
  split at h
  ·exact NS h
  ·next q=>simp only [List.cons.injEq]at h;rw [←h.1];simpa using q
theorem Xu(l cs:List UInt8):(Lib.trimS l cs==[])=l.all (cs.contains ·):=by
 rw [Bool.eq_iff_iff,Ai]
 unfold Lib.trimS Lib.trimLeftS Lib.trimRightS
 rw [If,List.all_reverse]
 rw [show l.all (cs.contains ·)=l.reverse.all (cs.contains ·) by rw [List.all_reverse]]
 constructor
 ·intro h
  cases hd:l.reverse.dropWhile (cs.contains ·)with
  |nil=>exact(If _).1 hd
  |cons a r=>
   have h1:=NS hd
   rw [hd,Fv,h1]at h
   cases h
 ·intro h
  rw [(If _).2 h];rfl
theorem Pj:∀(l:List UInt8) (c:UInt8),decide (Lib.indexByte l c>=0)=l.contains c∧Lib.indexByte l c>= -1
 |[],c=>by simp [Lib.indexByte]
 |b::l,c=>by
  obtain⟨h1,h2⟩:=Pj l c
  rw [Lib.indexByte,List.contains_cons]
  by_cases e:b=c
  ·subst e;simp
  ·have e1:(b==c)=false:=AG.2 e
   have e2:(c==b)=false:=AG.2 fun q=>e q.symm
   rw [e1,e2,DG,←h1]
   by_cases h:Lib.indexByte l c= -1
   ·rw [h];simp
   ·have:(Lib.indexByte l c== -1)=false:=AG.2 h
    rw [this]
    have hge:Lib.indexByte l c>=0:=by omega
    rw [AX hge]
    simp only [Bool.false_eq_true,if_false]
    exact⟨AX (by omega),by omega⟩
theorem Nm1{n:Nat}{s:ByteArray}(hs:s.size<=1048576)(hn:1048577<=n):XR n s=some (HN s):=by
 rw [XR,Ld,BJ]
 unfold HN
 cases hw:(decide ((s.size:Int)>=1)&&decide ((s.size:Int)<=8))with
 |false=>simp
 |true=>
  have hsz:1<=s.size:=by simp only [AD,AP]at hw;omega
  have ht:Yt n s ((ByteArray.mk #[97,98,99,100,101,102,103,104,105,106,107,108,109,110,111,112,113,114,115,116,117,118,119,120,121,122,48,49,50,51,52,53,54,55,56,57]))=some ⟨(Lib.trimS s.data.toList nameL).toArray⟩:=by
   unfold Yt
   rw [BE ⟨by omega,by decide,by decide⟩];rfl
  simp only [cT,ht,BJ,FH]
  have hb:((⟨(Lib.trimS s.data.toList nameL).toArray⟩:ByteArray).toList==((ByteArray.mk #[])).toList)=(s.data.toList.all fun b=>OA b||Tm b):=by
   rw [Lib.toList_data,Lib.toList_data]
   show((Lib.trimS s.data.toList nameL)==[])=_
   rw [Xu]
   congr 1
   funext b;exact ZI b
  rw [hb]
  cases(s.data.toList.all fun b=>OA b||Tm b)with
  |false=>simp
  |true=>
   rw [QN]at hsz
   have hg:=WU (s:=s) (i:=0) (by omega)
   simp only [cT,show((0:Int))=((0:Nat):Int)from rfl,hg,BJ,oC,FH]
   have h1:=(Pj lettersL (s.data.toList[0])).1
   rw [Us]at h1
   have e1:(((s.data.toList[0].toNat:Nat):Int).toNat.toUInt8)=s.data.toList[0]:=by rw [DF];exact UInt8.ofNat_toNat
   rw [e1]
   have e2:(s.data.toList.take 1).all OA=OA s.data.toList[0]:=QC (by omega)
   rw [e2,←h1];rfl
theorem vI{n:Nat}{s:ByteArray}(hs:s.size<=1048576)(hn:1048577<=n):iP n s=some (HN s):=by
 rw [iP]
 have hl:=QN s
 refine loop (L:=fun m i (_:Unit)=>JI s _ m i) s.data.toList.length (fun i _=>HN s=((decide ((s.size:Int)>=1)&&decide ((s.size:Int)<=8))&&((s.data.toList.drop i).all fun b=>OA b||Tm b)&&((s.data.toList.take 1).drop i).all OA)) (fun r=>r=some (HN s)) ?_ ?_ n 0 () (by omega) (by omega) (by simp [HN])
 ·intro m i _ hi hI
  have g:=WU hi
  have hd:decide ((i:Int)<(s.size:Int))=true:=AX (by omega)
  have key:JI s (fun i3=>(some (((decide ((s.size:Int)>=1))&&(decide ((s.size:Int)<=8)))))) (m+1) (i:Int)=cond (!OA s.data.toList[i]&& !(Tm s.data.toList[i]&&decide (0<i))) (some false) (JI s (fun i3=>(some (((decide ((s.size:Int)>=1))&&(decide ((s.size:Int)<=8)))))) m ((i+1:Nat):Int)):=by
   have e0:decide ((i:Int)>0)=decide (0<i):=by by_cases h:0<i<;>simp [h]<;>omega
   simp only [JI.eq_2,hd,cT,g,BJ,Do,wT i,e0]
   rfl
  by_cases hc:(!OA s.data.toList[i]&& !(Tm s.data.toList[i]&&decide (0<i)))=true
  ·refine .inr ?_
   show JI s _ (m+1) (i:Int)=_
   rw [key,hc,cT]
   have:HN s=false:=by
    rw [hI,DB hi,Fv]
    simp only [AD,BY,Av,AQ]at hc
    obtain⟨h1,h2⟩:=hc
    rw [h1]
    rcases h2 with h2|h2
    ·rw [h2];simp
    ·obtain rfl:i=0:=by omega
     rw [GH,QC hi,h1];simp
   rw [this]
  ·refine .inl ⟨(),?_,?_⟩
   ·rw [hI,DB hi,Fv]
    have hc:=Bool.eq_false_iff.2 hc
    simp only [Av,Bw,AD,AP]at hc
    by_cases h0:i=0
    ·subst h0
     have h1:OA s.data.toList[0]=true:=by
      rcases hc with h|h
      ·exact h
      ·omega
     have e2:(s.data.toList.take 1).drop (0+1)=[]:=EL (by simp;omega)
     rw [GH,QC hi,e2,h1];simp
    ·have e1:(s.data.toList.take 1).drop i=[]:=EL (by simp;omega)
     have e2:(s.data.toList.take 1).drop (i+1)=[]:=EL (by simp;omega)
     rw [e1,e2]
     have:(OA s.data.toList[i]||Tm s.data.toList[i])=true:=by
      rcases hc with h|h
      ·rw [h];rfl
      ·rw [h.1];simp
     rw [this];simp
   ·show JI s _ (m+1) (i:Int)=JI s _ m ((i+1:Nat):Int)
    rw [key,Bool.eq_false_iff.2 hc,cF]
 ·intro m _ hI
  have hd:decide (((s.data.toList.length:Nat):Int)<(s.size:Int))=false:=Aa (by omega)
  simp only [JI.eq_2,hd,cF]
  rw [hI,Fj,EL (by simp;omega)]
  simp
def Ch(P:Prop)(r:Option Bool):Prop:=∃b:Bool,r=some b∧(b=true↔P)
theorem Cb{P:Prop}(h:¬P):Ch P (some false):=⟨false,rfl,by simp [h]⟩
theorem FJ{P:Prop}(h:P):Ch P (some true):=⟨true,rfl,by simp [h]⟩
theorem Ct1{n:Nat}{xs:List ByteArray}{x:ByteArray}(h:xs.length<=1048576)(hn:1048577<=n):cV n xs x=some (xs.any fun y=>x.toList==y.toList):=by
 rw [cV,dR]
 obtain⟨r,e1,e2⟩:=Nd (xs:=xs) (L:=fun m i=>KS xs x (fun i5=>(some (-1))) m i) (fun y=>x.toList==y.toList) (fun m i hi=>by
  simp only [KS.eq_2,Ex hi,cT,Ac hi,BJ,wT i]) (fun m=>by
  simp only [KS.eq_2,FS,cF]) n (by omega)
 have e1:KS xs x (fun i5=>(some (-1))) n 0=some r:=e1
 rw [e1,BJ,e2]
theorem AN{n:Nat}{xs:List ByteArray}(h:xs.length<=1048576)(hs:∀x∈xs,x.size<=1048576)(hn:1048577<=n):Ch (∀k (h:k<xs.length),HN xs[k]=true∧∀i (hi:i<k),(xs[i].toList==xs[k].toList)=false) (TP n xs):=by
 rw [TP]
 refine loop (L:=fun m i (_:Unit)=>ME n xs _ m i) xs.length (fun i _=>∀k (h:k<xs.length),k<i->HN xs[k]=true∧∀i (hi:i<k),(xs[i].toList==xs[k].toList)=false) _ ?_ ?_ n 0 () (by omega) (by omega) (fun k h hk=>by omega)
 ·intro m i _ hi hI
  have hsub:LQ xs 0 (i:Int)=some (xs.take i):=by
   unfold LQ
   rw [BE ⟨by omega,by omega,by omega⟩];simp
  have hct:=Ct1 (n:=n) (xs:=xs.take i) (x:=xs[i]) (by simp;omega) hn
  simp only [ME.eq_2,Ex hi,cT,Ac hi,BJ,Nm1 (hs _ (AI hi)) hn,hsub,hct,HY,wT i]
  cases hb:(!HN xs[i]||(xs.take i).any fun y=>xs[i].toList==y.toList)with
  |true=>
   refine .inr (Cb fun hv=>?_)
   obtain⟨h1,h2⟩:=hv i hi
   rw [h1,Al,DG,List.any_eq_true]at hb
   obtain⟨y,hy,he⟩:=hb
   obtain⟨j,hj,rfl⟩:=FV.1 hy
   rw [DM]at hj
   rw [List.getElem_take]at he
   have:=h2 j (by omega)
   rw [AG]at this
   exact this (eq_of_beq he).symm
  |false=>
   simp only [BB,Bw]at hb
   refine .inl ⟨(),fun k h hk=>?_,rfl⟩
   by_cases e:k=i
   ·subst e
    refine⟨hb.1,fun j hj=>?_⟩
    rw [AG]
    intro he
    have:=List.any_eq_false.1 hb.2 xs[j] (FV.2 ⟨j,by rw [DM];omega,by rw [List.getElem_take]⟩)
    exact this (by rw [he];simp)
   ·exact hI k h (by omega)
 ·intro m _ hI
  simp only [ME.eq_2,FS,cF]
  exact FJ fun k h=>hI k h h
theorem AW{n:Nat}{ks:List Int}{lo hi:Int}(h:ks.length<=1048576)(hn:1048577<=n):Pz n ks lo hi=some (ks.all fun k=>decide (k>=lo)&&decide (k<=hi)):=by
 rw [Pz,Zp,aK]
 obtain⟨r,e1,e2⟩:=Nd (xs:=ks) (L:=fun m i=>IC n ks lo hi (fun i7=>(some (-1))) m i) (fun k=>!(decide (k>=lo)&&decide (k<=hi))) (fun m i hi=>by
  simp only [IC.eq_2,Ex hi,cT,Ac hi,BJ,Zk,Ld,wT i]) (fun m=>by
  simp only [IC.eq_2,FS,cF]) n (by omega)
 have e1:IC n ks lo hi (fun i7=>(some (-1))) n 0=some r:=e1
 rw [e1,BJ,BJ,e2]
 congr 1
 rw [List.not_any_eq_all_not]
 congr 1
 funext k;rw [Bool.not_not]
theorem Nb{n0:Nat}:∀(j n:Nat) (k:Int),0<=k->k<(10:Int)^(j+1)->k<=1000000000000000000->j<n->j<=100->CO (fun t=>t.size<=j+1) (RP n k)
 |j,0,k,_,_,_,h,_=>by omega
 |j,n+1,k,k0,k1,k2,h,hj=>by
  rw [sG,Aa (show¬k<0 by omega),cF]
  by_cases hk:k<10
  ·rw [AX hk,cT]
   exact Af (by rw [QE];simp)
  ·rw [Aa hk,cF]
   match j,k1 with
   |0,k1=>simp at k1;omega
   |j+1,k1=>
    have e:wrap .i64 (Int.tdiv k 10)=k/10:=by rw [ES k0];exact BD (by omega) (by omega)
    rw [e]
    rw [Int.pow_succ]at k1
    refine CO.bind (Nb (n0:=n0) j n (k/10) (by omega) (by omega) (by omega) (by omega) (by omega)) fun r _ hr=>?_
    rw [Qt (by rw [QE];simp;omega)]
    exact Af (by rw [ByteArray.size_append,QE];simp;omega)
theorem Nb2{n:Nat}{k:Nat}(hk:k<=1000)(hn:1048577<=n):CO (fun t=>t.size<=4) (RP n (k:Int)):=
 (Nb (n0:=0) 3 n k (by omega) (by show _<(10000:Int);omega) (by omega) (by omega) (by omega))
theorem Ch.iff{P Q:Prop}{o:Option Bool}(h:Ch P o)(e:P↔Q):Ch Q o:=by
 obtain⟨b,rfl,h⟩:=h;exact⟨b,rfl,h.trans e⟩
theorem Co{P:Prop}{b:Bool}(h:b=true↔P):Ch P (some b):=⟨b,rfl,h⟩
theorem Ch.bind{P R:Prop}{o:Option Bool}{f:Bool->Option Bool}(h:Ch P o)(h1:P->Ch R (f true))(h0:¬P->Ch R (f false)):Ch R (Option.bind o f):=by
 obtain⟨b,rfl,h⟩:=h
 cases b with
 |true=>exact h1 (h.1 rfl)
 |false=>exact h0 fun p=>by have:=h.2 p;cases this
theorem IZ{R:Prop}{c:Bool}{x y:Option Bool}(h1:c=true->Ch R x)(h0:c=false->Ch R y):Ch R (cond c x y):=by
 cases c
 ·exact h0 rfl
 ·exact h1 rfl
theorem HV{L:Nat->Int->Option Bool}{Q:Prop}(N s:Nat)(p:Nat->Prop)
 (hs:∀(m i:Nat),s<=i->i<N->(p i∧L (m+1) (i:Int)=L m ((i+1:Nat):Int))∨(¬p i∧L (m+1) (i:Int)=some false))
 (he:∀(m i:Nat),N<=i->i<=N+s->(∀j,s<=j->j<N->p j)->Ch Q (L (m+1) (i:Int))):∀(m i:Nat),s<=i->i<=N+s->N-i<m->(∀j,s<=j->j<i->j<N->p j)->Ch ((∀i,s<=i->i<N->p i)∧Q) (L m (i:Int))
 |0,i,_,_,hm,_=>by omega
 |m+1,i,hi,hi2,hm,hI=>by
  by_cases hlt:i<N
  ·rcases hs m i hi hlt with ⟨h1,h2⟩|⟨h1,h2⟩
   ·rw [h2]
    refine HV N s p hs he m (i+1) (by omega) (by omega) (by omega) fun j h3 h4 h5=>?_
    by_cases e:j=i
    ·subst e;exact h1
    ·exact hI j h3 (by omega) h5
   ·rw [h2];exact Cb fun h=>h1 (h.1 i hi hlt)
  ·have ha:∀j,s<=j->j<N->p j:=fun j h3 h4=>hI j h3 (by omega) h4
   exact(he m i (by omega) hi2 ha).iff ⟨fun q=>⟨ha,q⟩,fun q=>q.2⟩
theorem Mz{α:Type}{xs:List α}{L:Nat->Int->Option Int}{f:α->Option Bool}{P:α->Prop}(hf:∀x∈xs,Ch (P x) (f x))(hs:∀(m i:Nat) (h:i<xs.length),L (m+1) (i:Int)=Option.bind (f xs[i]) fun r=>cond r (some (i:Int)) (L m ((i+1:Nat):Int)))
 (he:∀m:Nat,L (m+1) (xs.length:Int)=some (-1)) (m:Nat) (hm:xs.length<m):∃r,L m 0=some r∧(r>=0↔∃x∈xs,P x)∧(r= -1∨∃j:Nat,r=(j:Int)∧∃h:j<xs.length,P xs[j]∧∀i (hi:i<xs.length),i<j->¬P xs[i]):=by
 refine loop (L:=fun m i (_:Unit)=>L m i) xs.length (fun i _=>∀j (h:j<xs.length),j<i->¬P xs[j]) (fun o=>∃r,o=some r∧(r>=0↔∃x∈xs,P x)∧(r= -1∨∃j:Nat,r=(j:Int)∧∃h:j<xs.length,P xs[j]∧∀i (hi:i<xs.length),i<j->¬P xs[i])) ?_ ?_ m 0 () (by omega) (by omega) (fun j _ h=>by omega)
 ·intro m i _ hi hI
  obtain⟨b,e,hb⟩:=hf _ (AI hi)
  rw [hs m i hi,e,BJ]
  cases b with
  |true=>exact .inr ⟨(i:Int),rfl,⟨fun _=>⟨_,AI hi,hb.1 rfl⟩,fun _=>by omega⟩,.inr ⟨i,rfl,hi,hb.1 rfl,hI⟩⟩
  |false=>
   refine .inl ⟨(),fun j h hj=>?_,by trivial⟩
   by_cases ej:j=i
   ·subst ej;intro hp;have:=hb.2 hp;cases this
   ·exact hI j h (by omega)
 ·intro m _ hI
  refine⟨-1,he m,⟨fun h=>by omega,fun⟨x,hx,hp⟩=>?_⟩,.inl rfl⟩
  obtain⟨j,hj,rfl⟩:=Bs hx
  exact absurd hp (hI j hj hj)
theorem gI{l:List Int}{i:Nat}(h:i<l.length):AL l (i:Int)=some (gd l i):=by rw [IK];exact lL h
def WX(l:List Int):Prop:=(1<=l.length∧l.length<=4)∧(∀i,i<l.length->0<=gd l i∧gd l i<=100000)∧∀i,i<l.length->0<i->gd l (i-1)<gd l i
def VT(t:Bm):Prop:=(WX t.d∧WX t.c)∧t.b.length=t.d.length*t.c.length∧∀i,i<t.b.length-> -1000000<=gd t.b i∧gd t.b i<=1000000
theorem Rf{l:List Int}{lo hi:Int}:(l.all fun k=>decide (k>=lo)&&decide (k<=hi))=true↔∀i,i<l.length->lo<=gd l i∧gd l i<=hi:=by
 rw [CG]
 constructor
 ·intro h i hi
  have:=h _ (AI hi)
  simp only [AD,AP]at this
  rw [PA (AH hi)];omega
 ·intro h x hx
  obtain⟨j,hj,rfl⟩:=Bs hx
  have:=h j hj
  rw [PA (AH hj)]at this
  simp only [AD,AP];omega
theorem Ax1{n:Nat}{l:List Int}(h:l.length<=1048576)(hn:1048577<=n):Ch (WX l) (Xd n l):=by
 rw [Xd]
 refine(HV (L:=fun m i=>LS n l _ m i) (Q:=1<=l.length∧l.length<=4) l.length 0 (fun i=>(0<=gd l i∧gd l i<=100000)∧(0<i->gd l (i-1)<gd l i)) ?_ ?_ n 0 (by omega) (by omega) (by omega) (fun j _ h=>by omega)).iff ?_
 ·intro m i _ hi
  have w1:0<i->wrap .i64 ((i:Int)-1)=((i-1:Nat):Int):=fun h0=>by rw [BD (by omega) (by omega)];omega
  simp only [LS.eq_2,Ex hi,cT,gI hi,BJ,JA,wT i]
  by_cases c1:0<=gd l i∧gd l i<=100000
  ·have d1:(decide (gd l i>=0)&&decide (gd l i<=100000))=true:=by simp only [AD,AP];omega
   simp only [d1,Al,cF]
   by_cases h0:0<i
   ·have d2:decide ((i:Int)>0)=true:=AX (by omega)
    simp only [d2,cT,w1 h0,gI (show i-1<l.length by omega),BJ]
    by_cases c2:gd l (i-1)<gd l i
    ·have d3:decide (gd l (i-1)>=gd l i)=false:=Aa (by omega)
     simp only [d3,cF]
     exact .inl ⟨⟨c1,fun _=>c2⟩,by trivial⟩
    ·have d3:decide (gd l (i-1)>=gd l i)=true:=AX (by omega)
     simp only [d3,cT]
     exact .inr ⟨fun h=>c2 (h.2 h0),by trivial⟩
   ·have d2:decide ((i:Int)>0)=false:=Aa (by omega)
    simp only [d2,cF,BJ]
    exact .inl ⟨⟨c1,fun h=>absurd h h0⟩,by trivial⟩
  ·have d1:(decide (gd l i>=0)&&decide (gd l i<=100000))=false:=by
    rw [Av,AQ,AQ];omega
   simp only [d1,BM,cT,BJ]
   exact .inr ⟨fun h=>c1 h.1,by trivial⟩
 ·intro m i h1 h2 _
  obtain rfl:i=l.length:=by omega
  simp only [LS.eq_2,FS,cF]
  exact Co (by simp only [AD,AP];omega)
 ·exact⟨fun⟨a,b⟩=>⟨b,fun i hi=>(a i (by omega) hi).1,fun i hi h0=>(a i (by omega) hi).2 h0⟩,fun⟨a,b,c⟩=>⟨fun i _ hi=>⟨b i hi,c i hi⟩,a⟩⟩
theorem Inc{n:Nat}{l:List Int}(h:l.length<=1048576)(hn:1048577<=n):Ch (∀i,i<l.length->0<i->gd l (i-1)<gd l i) (Xx n l):=by
 rw [Xx]
 refine(HV (L:=fun m i=>Li l _ m i) (Q:=True) l.length 1 (fun i=>gd l (i-1)<gd l i) ?_ ?_ n 1 (by omega) (by omega) (by omega) (fun j _ h=>by omega)).iff ?_
 ·intro m i h0 hi
  have w1:wrap .i64 ((i:Int)-1)=((i-1:Nat):Int):=by rw [BD (by omega) (by omega)];omega
  simp only [Li.eq_2,Ex hi,cT,w1,gI hi,gI (show i-1<l.length by omega),BJ,wT i]
  by_cases c2:gd l (i-1)<gd l i
  ·have d3:decide (gd l (i-1)>=gd l i)=false:=Aa (by omega)
   simp only [d3,cF]
   exact .inl ⟨c2,by trivial⟩
  ·have d3:decide (gd l (i-1)>=gd l i)=true:=AX (by omega)
   simp only [d3,cT]
   exact .inr ⟨c2,by trivial⟩
 ·intro m i h1 h2 _
  have:decide ((i:Int)<(l.length:Int))=false:=Aa (by omega)
  simp only [Li.eq_2,this,cF]
  exact FJ trivial
 ·exact⟨fun a i hi h0=>a.1 i h0 hi,fun a=>⟨fun i h0 hi=>a i hi h0,trivial⟩⟩
theorem Ax2{n:Nat}{l:List Int}(h:l.length<=1048576)(hn:1048577<=n):Ch (WX l) (Xl n l):=by
 obtain⟨b,e,hb⟩:=Inc (n:=n) h hn
 rw [Xl]
 simp only [RM,Ld,AW (n:=n) h hn,e,BJ,Do]
 refine Co ?_
 rw [AD,AD,Rf,hb]
 simp only [AD,AP]
 exact⟨fun⟨⟨a,b⟩,c⟩=>⟨by omega,b,c⟩,fun⟨a,b,c⟩=>⟨⟨by omega,b⟩,c⟩⟩
theorem dJ{a b:Nat}(ha:a<=4)(hb:b<=4):wrap .i64 ((a:Int)*(b:Int))=((a*b:Nat):Int):=by
 have:a*b<=4*4:=EQ ha hb
 have e:((a*b:Nat):Int)=(a:Int)*b:=by simp
 rw [←e,BD (by omega) (by omega)]
def aJ(t:Bm):Prop:=t.d.length<=1048576∧t.c.length<=1048576∧t.b.length<=1048576
theorem Tb1{n:Nat}{t:Bm}(h:aJ t)(hn:1048577<=n):Ch (VT t) (cW n t):=by
 rw [cW]
 refine Ch.bind (Ax1 h.1 hn) (fun v1=>?_) fun v1=>?_
 ·simp only [Al,cF]
  obtain⟨b,e,hb⟩:=Ax1 (n:=n) h.2.1 hn
  rw [e,BJ,BJ]
  cases b with
  |false=>
   simp only [BM,Fb,cT]
   exact Cb fun v=>by have:=hb.2 v.1.2;cases this
  |true=>
   have v2:=hb.1 rfl
   rw [dJ v1.1.2 v2.1.2]
   simp only [Al,DG]
   refine IZ (fun c=>?_) fun c=>?_
   ·refine Cb fun v=>?_
    rw [v.2.1]at c;simp at c
   ·have c:t.b.length=t.d.length*t.c.length:=by
     rw [BG]at c;omega
    have hv:=h.2.2
    refine(HV (L:=fun m i=>MP n t _ m i) (Q:=True) t.b.length 0 (fun i=>-1000000<=gd t.b i∧gd t.b i<=1000000) ?_ ?_ n 0 (by omega) (by omega) (by omega) (fun j _ h=>by omega)).iff ?_
    ·intro m i _ hi
     simp only [MP.eq_2,Ex hi,cT,gI hi,BJ,JA,wT i]
     by_cases c1:-1000000<=gd t.b i∧gd t.b i<=1000000
     ·have d1:(decide (gd t.b i>= -1000000)&&decide (gd t.b i<=1000000))=true:=by simp only [AD,AP];omega
      simp only [d1,Al,cF]
      exact .inl ⟨c1,by trivial⟩
     ·have d1:(decide (gd t.b i>= -1000000)&&decide (gd t.b i<=1000000))=false:=by
       rw [Av,AQ,AQ];omega
      simp only [d1,BM,cT]
      exact .inr ⟨c1,by trivial⟩
    ·intro m i h1 h2 _
     obtain rfl:i=t.b.length:=by omega
     simp only [MP.eq_2,FS,cF]
     exact FJ trivial
    ·exact⟨fun a=>⟨⟨v1,v2⟩,c,fun i hi=>a.1 i (by omega) hi⟩,fun a=>⟨fun i _ hi=>a.2.2 i hi,trivial⟩⟩
 ·simp only [BM,cT,BJ,Fb]
  exact Cb fun v=>v1 v.1.1
theorem Tb2{n:Nat}{t:Bm}(h:aJ t)(hn:1048577<=n):Ch (VT t) (bD n t):=by
 rw [bD]
 refine Ch.bind (Ax2 h.1 hn) (fun v1=>?_) fun v1=>?_
 ·simp only [cT]
  obtain⟨b,e,hb⟩:=Ax2 (n:=n) h.2.1 hn
  rw [e,BJ,BJ]
  cases b with
  |false=>
   simp only [FU,cF,BJ]
   exact Cb fun v=>by have:=hb.2 v.1.2;cases this
  |true=>
   have v2:=hb.1 rfl
   rw [dJ v1.1.2 v2.1.2,AW (n:=n) h.2.2 hn]
   simp only [FH,BJ,Do]
   refine Co ?_
   rw [AD,Rf,Ai]
   exact⟨fun⟨a,b⟩=>⟨⟨v1,v2⟩,by omega,b⟩,fun a=>⟨by have:=a.2.1;omega,a.2.2⟩⟩
 ·simp only [cF,BJ,FU]
  exact Cb fun v=>v1 v.1.1
theorem VT.pos{t:Bm}(h:VT t):0<t.b.length∧t.b.length<=16:=by
 have a:=h.1.1.1
 have b:=h.1.2.1
 rw [h.2.1]
 exact⟨Nat.mul_pos (by omega) (by omega),(EQ a.2 b.2:_<=4*4)⟩
def VP(t:Bm):Prop:=∀j,j<t.b.length->0<=gd t.b j
theorem Bnd{n:Nat}{t:Bm}(h:aJ t)(hn:1048577<=n):(¬VT t∧∃s:BF,Ws n t=some (s,1))∨(VT t∧∃s:BF,Ws n t=some (s,0)∧(s.c<0↔¬VP t)):=by
 obtain⟨b,e,hb⟩:=Tb1 (n:=n) h hn
 rw [Ws,e,BJ]
 cases b with
 |false=>exact .inl ⟨fun v=>(by have:=hb.2 v;cases this),_,rfl⟩
 |true=>
  have v:=hb.1 rfl
  have hp:=v.pos
  have g0:AL t.b 0=some (gd t.b 0):=gI (i:=0) (by omega)
  refine .inr ⟨v,?_⟩
  simp only [Al,cF,g0,BJ]
  refine loop (L:=fun m i (p:Int×Int)=>LP t (fun i93 i97 i98=>(some ((BF.mk i97 i98),0))) m i p.1 p.2) t.b.length (fun i p=>(p.1<0↔¬∀j,j<i->0<=gd t.b j)) (fun o=>∃s:BF,o=some (s,0)∧(s.c<0↔¬VP t)) ?_ ?_ n 1 (gd t.b 0,gd t.b 0) (by omega) (by omega) ?_
  ·intro m i ⟨a,c⟩ hi hI
   dsimp only at hI ⊢
   refine .inl ⟨(min a (gd t.b i),max c (gd t.b i)),?_,?_⟩
   ·dsimp only
    constructor
    ·intro hm hall
     by_cases ha:a<0
     ·exact hI.1 ha fun j hj=>hall j (by omega)
     ·have:=hall i (by omega);omega
    ·intro hna
     by_cases ha:a<0
     ·omega
     ·have hall:∀j,j<i->0<=gd t.b j:=fun j hj=>by
       by_cases q:0<=gd t.b j
       ·exact q
       ·exact absurd (hI.2 fun hh=>q (hh j hj)) ha
      by_cases q:0<=gd t.b i
      ·exfalso;apply hna;intro j hj
       by_cases ej:j=i
       ·subst ej;exact q
       ·exact hall j (by omega)
      ·omega
   ·simp only [LP.eq_2,Ex hi,cT,gI hi,BJ,wT i]
  ·intro m ⟨a,c⟩ hI
   dsimp only at hI ⊢
   simp only [LP.eq_2,FS,cF]
   exact⟨_,rfl,hI⟩
  ·dsimp only
   constructor
   ·intro h0 hall;have:=hall 0 (by omega);omega
   ·intro h0
    by_cases q:gd t.b 0<0
    ·exact q
    ·exfalso;apply h0;intro j hj;obtain rfl:j=0:=by omega
     omega
theorem Mn{n:Nat}{l:List Int}(h0:0<l.length)(h:l.length<=1048576)(hn:1048577<=n):∃r,cN n l=some r∧(r<0↔¬∀j,j<l.length->0<=gd l j):=by
 have g0:AL l 0=some (gd l 0):=gI (i:=0) (by omega)
 have d0:decide ((l.length:Int)<1)=false:=Aa (by omega)
 rw [cN,d0,cF,g0,BJ]
 refine loop (L:=fun m i (a:Int)=>Lq l (fun i15 i16=>(some i15)) m a i) l.length (fun i a=>(a<0↔¬∀j,j<i->0<=gd l j)) (fun o=>∃r,o=some r∧(r<0↔¬∀j,j<l.length->0<=gd l j)) ?_ ?_ n 1 (gd l 0) (by omega) (by omega) ?_
 ·intro m i a hi hI
  refine .inl ⟨min a (gd l i),?_,?_⟩
  ·constructor
   ·intro hm hall
    by_cases ha:a<0
    ·exact hI.1 ha fun j hj=>hall j (by omega)
    ·have:=hall i (by omega);omega
   ·intro hna
    by_cases ha:a<0
    ·omega
    ·have hall:∀j,j<i->0<=gd l j:=fun j hj=>by
      by_cases q:0<=gd l j
      ·exact q
      ·exact absurd (hI.2 fun hh=>q (hh j hj)) ha
     by_cases q:0<=gd l i
     ·exfalso;apply hna;intro j hj
      by_cases ej:j=i
      ·subst ej;exact q
      ·exact hall j (by omega)
     ·omega
  ·simp only [Lq.eq_2,Ex hi,cT,gI hi,BJ,wT i]
 ·intro m a hI
  simp only [Lq.eq_2,FS,cF]
  exact⟨_,rfl,hI⟩
 ·constructor
  ·intro h0 hall;have:=hall 0 (by omega);omega
  ·intro h0
   by_cases q:gd l 0<0
   ·exact q
   ·exfalso;apply h0;intro j hj;obtain rfl:j=0:=by omega
    omega
def Uz(l:List Bm)(pos:Bool):Prop:=l.length=2∧∀t∈l,VT t∧(pos=true->VP t)
theorem wQ{n:Nat}{l:List Bm}{pos:Bool}(h:∀t∈l,aJ t)(hn:1048577<=n):Ch (Uz l pos) (TF n l pos):=by
 rw [TF]
 refine IZ (fun c=>?_) fun c=>?_
 ·refine Cb fun v=>?_
  rw [v.1]at c;simp at c
 ·have c:l.length=2:=by rw [BG]at c;omega
  refine(HV (L:=fun m i=>Lr n l pos _ m i) (Q:=True) 2 0 (fun i=>∀t,l[i]? =some t->VT t∧(pos=true->VP t)) ?_ ?_ n 0 (by omega) (by omega) (by omega) (fun j _ h=>by omega)).iff ?_
  ·intro m i _ hi
   have hil:i<l.length:=by omega
   have g:=AH hil
   have d1:decide ((i:Int)<2)=true:=AX (by omega)
   simp only [Lr.eq_2,d1,cT,Ac hil,BJ,wT i,g]
   rcases Bnd (n:=n) (h _ (AI hil)) hn with ⟨v,s,e⟩|⟨v,s,e,hs⟩
   ·rw [e]
    exact .inr ⟨fun q=>v (q _ rfl).1,by trivial⟩
   ·rw [e]
    simp only [BJ,CP,DG]
    by_cases hp:pos=true
    ·subst hp
     by_cases q:s.c<0
     ·rw [AX q]
      exact .inr ⟨fun r=>(hs.1 q) ((r _ rfl).2 rfl),by trivial⟩
     ·rw [Aa q]
      refine .inl ⟨fun t ht=>?_,by trivial⟩
      obtain rfl:=AM ht
      exact⟨v,fun _=>Dl fun r=>q (hs.2 r)⟩
    ·have hp:pos=false:=by simpa using hp
     subst hp
     refine .inl ⟨fun t ht=>?_,by trivial⟩
     obtain rfl:=AM ht
     exact⟨v,fun h=>by cases h⟩
  ·intro m i h1 h2 _
   obtain rfl:i=2:=by omega
   simp only [Lr.eq_2,show decide (((2:Nat):Int)<2)=false from rfl,cF]
   exact FJ trivial
  ·constructor
   ·rintro ⟨a,_⟩
    refine⟨c,fun t ht=>?_⟩
    obtain⟨j,hj⟩:=List.getElem?_of_mem ht
    have hjl:j<l.length:=(AK.1 hj).1
    exact a j (by omega) (by omega) t hj
   ·rintro ⟨_,a⟩
    exact⟨fun i _ _ t ht=>a t (CL ht),trivial⟩
theorem Ts2{n:Nat}{l:List Bm}{pos:Bool}(h:∀t∈l,aJ t)(hl:l.length<=1048576)(hn:1048577<=n):Ch (Uz l pos) (VF n l pos):=by
 rw [VF]
 have hf:∀t∈l,Ch (¬(VT t∧(pos=true->VP t))) (Wz n t pos):=by
  intro t ht
  have hm:=h t ht
  rw [Wz]
  refine Ch.bind (Tb2 hm hn) (fun v=>?_) fun v=>?_
  ·simp only [Al,cF]
   by_cases hp:pos=true
   ·subst hp
    obtain⟨r,e,hr⟩:=Mn (n:=n) v.pos.1 hm.2.2 hn
    simp only [cT,e,BJ]
    refine Co ?_
    rw [AP,hr]
    exact⟨fun a b=>a (b.2 trivial),fun a b=>a ⟨v,fun _=>b⟩⟩
   ·have hp:pos=false:=by simpa using hp
    subst hp
    exact Cb fun a=>a ⟨v,fun h=>by cases h⟩
  ·simp only [BM,cT,BJ]
   exact FJ fun a=>v a.1
 obtain⟨r,e,hr,_⟩:=Mz (xs:=l) (L:=fun m i=>Jt n l pos (fun i6=>(some (-1))) m i) (f:=fun t=>Wz n t pos) hf (fun m i hi=>by
  simp only [Jt.eq_2,Ex hi,cT,Ac hi,BJ,wT i]) (fun m=>by
  simp only [Jt.eq_2,FS,cF]) n (by omega)
 have e:Jt n l pos (fun i6=>(some (-1))) n 0=some r:=e
 rw [fZ,eD,e]
 simp only [BJ]
 by_cases c:l.length=2
 ·have:((l.length:Int)==2)=true:=by simp;omega
  rw [this]
  simp only [cT,BJ]
  refine Co ?_
  rw [BY,AQ,hr]
  exact⟨fun a=>⟨c,fun t ht=>Dl fun q=>a ⟨t,ht,q⟩⟩,fun a ⟨t,ht,q⟩=>q (a.2 t ht)⟩
 ·have:((l.length:Int)==2)=false:=by rw [AG];omega
  rw [this]
  exact Cb fun v=>c v.1
def Uk(N i:Nat)(p:DZ):Prop:=(0<=p.c∧p.c<=500)∧(i+1=N->p.b=2∧p.c=0∧p.d=false)∧(i+1<N->p.b=1)
structure OE(l:List DZ):Prop where
 few:2<=l.length∧l.length<=5
 pin:∀i (h:i<l.length),Uk l.length i l[i]
 nm:∀k (h:k<l.length),HN l[k].f=true∧∀i (hi:i<k),(l[i].f.toList==l[k].f.toList)=false
def cnt(l:List DZ):Nat:=l.countP (·.d)
def mZ(l:List DZ):Prop:=l.length<=1048576∧∀p∈l,p.f.size<=1048576
theorem UV{l:List DZ}{i:Nat}(h:i<l.length):cnt (l.take (i+1))=cnt (l.take i)+if l[i].d=true then 1 else 0:=by
 unfold cnt
 rw [Bf h,DV]
 congr 1
 by_cases e:l[i].d=true
 ·rw [BE e];simp [e]
 ·rw [BV e];simp [e]
theorem Pn1{n:Nat}{c:BL}(h:mZ c.d)(hn:1048577<=n):∃r:Int×Bool,tH n c=some r∧(r.2=true↔OE c.d)∧(r.2=true->r.1=cnt c.d):=by
 rw [tH]
 by_cases hl:2<=c.d.length∧c.d.length<=5
 ·have d:(decide ((c.d.length:Int)<2)||decide ((c.d.length:Int)>5))=false:=by
   simp only [BB,AQ];omega
  rw [d,cF]
  have wl:wrap .i64 ((c.d.length:Int)-1)=(c.d.length:Int)-1:=BD (by omega) (by omega)
  refine loop (L:=fun m i (q:Int)=>Me n c (fun i23 i24=>(some (i23,true))) m q i) c.d.length (fun i q=>q=cnt (c.d.take i)∧∀k (h:k<c.d.length),k<i->Uk c.d.length k c.d[k]∧HN c.d[k].f=true∧∀j (hj:j<k),(c.d[j].f.toList==c.d[k].f.toList)=false)
   (fun o=>∃r:Int×Bool,o=some r∧(r.2=true↔OE c.d)∧(r.2=true->r.1=cnt c.d)) ?_ ?_ n 0 0 (by omega) (by omega) ⟨by simp [cnt],fun k _ hk=>by omega⟩
  ·intro m i q hi ⟨hq,hI⟩
   have no:∀o:Option (Int×Bool),o=some (0,false)->¬OE c.d->∃r:Int×Bool,o=some r∧(r.2=true↔OE c.d)∧(r.2=true->r.1=cnt c.d):=fun o e hv=>⟨_,e,by simp [hv],fun h=>by cases h⟩
   have wi:decide ((i:Int)<(c.d.length:Int))=true:=Ex hi
   rw [Me.eq_2]
   simp only [wi,cT,Ac hi,BJ]
   have inner:∀k2:Int->Option (Int×Bool),(∀j (hj:j<i),(c.d[j].f.toList==c.d[i].f.toList)=false)∧Lc c i c.d[i] k2 n 0=k2 i∨(¬∀j (hj:j<i),(c.d[j].f.toList==c.d[i].f.toList)=false)∧Lc c i c.d[i] k2 n 0=some (0,false):=by
    intro k2
    refine loop (L:=fun m j (_:Unit)=>Lc c i c.d[i] k2 m j) i (fun b _=>∀j (hj:j<i),j<b->(c.d[j].f.toList==c.d[i].f.toList)=false) (fun o=>(∀j (hj:j<i),(c.d[j].f.toList==c.d[i].f.toList)=false)∧o=k2 i∨(¬∀j (hj:j<i),(c.d[j].f.toList==c.d[i].f.toList)=false)∧o=some (0,false)) ?_ ?_ n 0 () (by omega) (by omega) (fun j _ hj=>by omega)
    ·intro m j _ hj hJ
     simp only [Lc.eq_2,Ex hj,cT,Ac (show j<c.d.length by omega),BJ,wT j]
     cases e:(c.d[j].f.toList==c.d[i].f.toList)with
     |true=>exact .inr (.inr ⟨fun h=>(by rw [h j hj]at e;cases e),by trivial⟩)
     |false=>
      refine .inl ⟨(),fun a ha hb=>?_,by trivial⟩
      by_cases ea:a=j
      ·subst ea;exact e
      ·exact hJ a ha (by omega)
    ·intro m _ hJ
     simp only [Lc.eq_2,FS,cF]
     exact .inl ⟨fun j hj=>hJ j hj hj,by trivial⟩
   rcases inner _ with ⟨g1,g2⟩|⟨g1,g2⟩
   ·rw [g2]
    have hsz:=h.2 _ (AI hi)
    simp only [vI hsz hn,BJ,JA,HY,wl]
    cases hnm:HN c.d[i].f with
    |false=>
     simp only [BM,Fb,cT]
     exact .inr (no _ rfl fun v=>by have:=(v.nm i hi).1;rw [hnm]at this;cases this)
    |true=>
     simp only [Al,DG]
     by_cases c1:0<=c.d[i].c∧c.d[i].c<=500
     ·have d1:(decide (c.d[i].c>=0)&&decide (c.d[i].c<=500))=true:=by simp only [AD,AP];omega
      simp only [d1,Al,cF]
      have pI:Uk c.d.length i c.d[i]↔((((i:Int)==(c.d.length:Int)-1)&&((((c.d[i].b !=2))||((c.d[i].c !=0)))||c.d[i].d))||((decide ((i:Int)<(c.d.length:Int)-1))&&((c.d[i].b !=1))))=false:=by
       unfold Uk
       by_cases e1:i+1=c.d.length
       ·have t1:((i:Int)==(c.d.length:Int)-1)=true:=by rw [Ai];omega
        have t2:decide ((i:Int)<(c.d.length:Int)-1)=false:=Aa (by omega)
        simp only [t1,t2,FH,FU,Bool.or_false,BB,BG]
        exact⟨fun⟨_,a,_⟩=>⟨⟨(a e1).1,(a e1).2.1⟩,(a e1).2.2⟩,fun⟨⟨a,b⟩,d⟩=>⟨c1,fun _=>⟨a,b,d⟩,fun h=>by omega⟩⟩
       ·have t1:((i:Int)==(c.d.length:Int)-1)=false:=by rw [AG];omega
        have t2:decide ((i:Int)<(c.d.length:Int)-1)=true:=AX (by omega)
        simp only [t1,t2,FH,FU,DG,BG]
        exact⟨fun⟨_,_,a⟩=>a (by omega),fun a=>⟨c1,fun h=>absurd h e1,fun _=>a⟩⟩
      cases hc:((((i:Int)==(c.d.length:Int)-1)&&((((c.d[i].b !=2))||((c.d[i].c !=0)))||c.d[i].d))||((decide ((i:Int)<(c.d.length:Int)-1))&&((c.d[i].b !=1))))with
      |true=>
       rw [hc]at pI
       simp only [cT]
       exact .inr (no _ rfl fun v=>by have:=pI.1 (v.pin i hi);cases this)
      |false=>
       have hp:=pI.2 hc
       simp only [cF]
       have hI':∀k (h:k<c.d.length),k<i+1->Uk c.d.length k c.d[k]∧HN c.d[k].f=true∧∀j (hj:j<k),(c.d[j].f.toList==c.d[k].f.toList)=false:=fun k hk hki=>by
        by_cases ek:k=i
        ·subst ek;exact⟨hp,hnm,g1⟩
        ·exact hI k hk (by omega)
       have ct:=UV hi
       have cl:cnt (c.d.take i)<=5:=Ar Cj (by simp;omega)
       cases hk:c.d[i].d with
       |true=>
        rw [hk,BE rfl]at ct
        refine .inl ⟨q+1,⟨by rw [ct,hq];simp,hI'⟩,?_⟩
        simp only [cT,wT i,BD (x:=q+1) (by omega) (by omega)]
       |false=>
        rw [hk]at ct
        refine .inl ⟨q,⟨by rw [ct,hq];simp,hI'⟩,?_⟩
        simp only [cF,wT i]
     ·have d1:(decide (c.d[i].c>=0)&&decide (c.d[i].c<=500))=false:=by
       rw [Av,AQ,AQ];omega
      simp only [d1,BM,cT]
      exact .inr (no _ rfl fun v=>c1 (v.pin i hi).1)
   ·rw [g2]
    exact .inr (no _ rfl fun v=>g1 (v.nm i hi).2)
  ·intro m q ⟨hq,hI⟩
   simp only [Me.eq_2,FS,cF]
   rw [CY]at hq
   exact⟨_,rfl,⟨fun _=>⟨hl,fun i h=>(hI i h h).1,fun k h=>(hI k h h).2⟩,fun _=>rfl⟩,fun _=>hq⟩
 ·have d:(decide ((c.d.length:Int)<2)||decide ((c.d.length:Int)>5))=true:=by
   rw [CN,AP,AP];omega
  rw [d,cT]
  exact⟨_,rfl,⟨fun h=>(by cases h),fun v=>absurd v.few hl⟩,fun h=>(by cases h)⟩
theorem Pn2{n:Nat}{l:List DZ}(h:mZ l)(hn:1048577<=n):Ch (OE l) (ZG n l):=by
 have hl:=h.1
 rw [ZG]
 have wl:0<l.length->wrap .i64 ((l.length:Int)-1)=(l.length:Int)-1:=fun h0=>BD (by omega) (by omega)
 refine loop (L:=fun m i (q:List ByteArray)=>Jw n l _ m q i) l.length (fun i q=>q=(l.take i).map (·.f)∧∀k (h:k<l.length),k<i->Uk l.length k l[k]) _ ?_ ?_ n 0 [] (by omega) (by omega) ⟨by simp,fun k _ hk=>by omega⟩
 ·intro m i q hi ⟨hq,hI⟩
  have hql:q.length<=1048576:=by rw [hq];simp;omega
  have ha:=CC (xs:=q) (ys:=[l[i].f]) (b:=16) (by simp;omega) (by omega)
  have hq':q++[l[i].f]=(l.take (i+1)).map (·.f):=by rw [hq,Bf hi,FG];rfl
  simp only [Jw.eq_2,Ex hi,cT,Ac hi,BJ,ha,wl (by omega),Ld,wT i]
  have stepI:Uk l.length i l[i]->∀k (h:k<l.length),k<i+1->Uk l.length k l[k]:=fun hp k hk hki=>by
   by_cases ek:k=i
   ·subst ek;exact hp
   ·exact hI k hk (by omega)
  by_cases e1:i+1=l.length
  ·have t1:((i:Int)==(l.length:Int)-1)=true:=by rw [Ai];omega
   simp only [t1,cT]
   cases hc:((((l[i].b !=2))||((l[i].c !=0)))||l[i].d)with
   |true=>
    refine .inr (Cb fun v=>?_)
    have:=(v.pin i hi).2.1 e1
    rw [this.1,this.2.1,this.2.2]at hc;cases hc
   |false=>
    simp only [BB,BG]at hc
    exact .inl ⟨_,⟨hq',stepI ⟨by omega,fun _=>⟨hc.1.1,hc.1.2,hc.2⟩,fun h=>by omega⟩⟩,by trivial⟩
  ·have t1:((i:Int)==(l.length:Int)-1)=false:=by rw [AG];omega
   simp only [t1,cF,HY,BJ]
   by_cases c1:l[i].b=1∧0<=l[i].c∧l[i].c<=500
   ·have d1:((l[i].b !=1)|| !(decide (l[i].c>=0)&&decide (l[i].c<=500)))=false:=by
     simp only [BB,BG,Bw,AD,AP];omega
    simp only [d1,cF]
    exact .inl ⟨_,⟨hq',stepI ⟨by omega,fun h=>absurd h e1,fun _=>c1.1⟩⟩,by trivial⟩
   ·have d1:((l[i].b !=1)|| !(decide (l[i].c>=0)&&decide (l[i].c<=500)))=true:=by
     simp only [CN,Cp,BY,Av,AQ];omega
    simp only [d1,cT]
    exact .inr (Cb fun v=>c1 ⟨(v.pin i hi).2.2 (by omega),(v.pin i hi).1⟩)
 ·intro m q ⟨hq,hI⟩
  rw [CY]at hq
  obtain⟨b,e,hb⟩:=AN (n:=n) (xs:=q) (by rw [hq];simpa using hl) (by rw [hq];intro x hx;obtain⟨p,hp,rfl⟩:=Dm.1 hx;exact h.2 p hp) hn
  simp only [Jw.eq_2,FS,cF,Vq,Ld,e,BJ,Do]
  refine Co ?_
  rw [AD,hb,AD,AP,AP]
  subst hq
  simp only [CH,EP]
  exact⟨fun⟨a,b⟩=>⟨by omega,fun i hi=>hI i hi hi,b⟩,fun v=>⟨by have:=v.few;omega,v.nm⟩⟩
def LB(l:List DZ)(i:Int):Bool:=((l[i.toNat]?).map (·.d)).getD false
theorem nS{l:List DZ}{i:Int}(h0:0<=i)(h1:i<l.length):∃x,AL l i=some x∧x.d=LB l i:=by
 obtain⟨x,e,h⟩:=Dx h0 h1
 exact⟨x,e,by simp [LB,h]⟩
theorem Vc{l:List DZ}{j:Nat}(h:j<l.length):LB l (j:Int)=l[j].d:=by simp [LB,h]
theorem WD{l:List DZ}(hc:cnt l<=1){i j:Nat}(hi:i<l.length)(hj:j<l.length)(h1:l[i].d=true)(h2:l[j].d=true):i=j:=by
 have key:∀i j:Nat,∀(hi:i<l.length) (hj:j<l.length),l[i].d=true->l[j].d=true->¬i<j:=by
  intro i j hi hj h1 h2 hlt
  have e:cnt l=cnt (l.take (i+1))+cnt (l.drop (i+1)):=by unfold cnt;rw [←DV,Cw]
  have p1:0<cnt (l.take (i+1)):=List.countP_pos_iff.2 ⟨l[i],by rw [DC];exact⟨i,by omega,rfl⟩,h1⟩
  have p2:0<cnt (l.drop (i+1)):=List.countP_pos_iff.2 ⟨l[j],by rw [List.mem_drop_iff_getElem];exact⟨j-(i+1),by omega,by congr 1;omega⟩,h2⟩
  omega
 have a:=key i j hi hj h1 h2
 have b:=key j i hj hi h2 h1
 omega
theorem Ck{n:Nat}{c:BL}(h:c.d.length<=1048576)(hn:1048577<=n):∃r,Vh n c=some r∧(r>=0↔∃x∈c.d,x.d=true)∧(r= -1∨∃j:Nat,r=(j:Int)∧∃h:j<c.d.length,c.d[j].d=true∧∀i (hi:i<c.d.length),i<j->¬c.d[i].d=true):=by
 obtain⟨r,e,hr⟩:=Mz (xs:=c.d) (L:=fun m i=>KH n c.d (fun i5=>(some (-1))) m i) (f:=fun p=>Xs n p) (P:=fun p=>p.d=true) (fun p _=>by rw [Xs];exact Co Iff.rfl) (fun m i hi=>by
  simp only [KH.eq_2,Ex hi,cT,Ac hi,BJ,wT i]) (fun m=>by
  simp only [KH.eq_2,FS,cF]) n (by omega)
 have e:KH n c.d (fun i5=>(some (-1))) n 0=some r:=e
 exact⟨r,by rw [Vh,fO,e];rfl,hr⟩
def qI(a:CJ):Prop:=(a.h.length<=1048576∧∀t∈a.h,aJ t)∧(a.f.length<=1048576∧∀t∈a.f,aJ t)
structure Xp(c:BL):Prop where
 name:c.f.size<=1048576
 pins:mZ c.d
 arcs:c.c.length<=1048576∧∀a∈c.c,qI a
 truth:c.g.length<=1048576
def OS(c:BL)(a:CJ):Prop:=((0<=a.d∧a.d+2<=c.d.length)∧(0<=a.c∧a.c+1<=c.d.length))∧
 if a.b=1 then LB c.d a.d=false∧a.c+1=c.d.length∧(1<=a.g∧a.g<=3)∧Uz a.h true∧Uz a.f true
 else if a.b=2∨a.b=3 then LB c.d a.d=true∧a.c+1=c.d.length∧a.g=0∧Uz a.h true∧Uz a.f true
 else if a.b=4∨a.b=5 then LB c.d a.d=true∧a.c+1<c.d.length∧LB c.d a.c=false∧a.g=0∧Uz a.h false∧a.f.length=0
 else False
def XC(c:BL)(a:CJ)(r:Int):Prop:=
 if a.b=4∨a.b=5 then a.g=0∧a.f.length=0∧Uz a.h false∧a.d=r∧0<=a.d∧(0<=a.c∧a.c+2<=c.d.length)∧a.c≠a.d
 else Uz a.h true∧Uz a.f true∧a.c+1=c.d.length∧(0<=a.d∧a.d+2<=c.d.length)∧
  if a.b=1 then LB c.d a.d=false∧1<=a.g∧a.g<=3 else if a.b=2∨a.b=3 then LB c.d a.d=true∧a.g=0 else False
theorem iO(k:Int):k=1∨k=2∨k=3∨k=4∨k=5∨(k≠1∧k≠2∧k≠3∧k≠4∧k≠5):=by omega
theorem Qg{x lo hi:Int}:(decide (x>=lo)&&decide (x<=hi))=true↔lo<=x∧x<=hi:=by simp only [AD,AP,ge_iff_le]
theorem AaW{n:Nat}{c:BL}{a:CJ}(hp:c.d.length<=5)(h2:2<=c.d.length)(h:qI a)(hn:1048577<=n):Ch (OS c a) (ZX n c a):=by
 have w1:wrap .i64 ((c.d.length:Int)-1)=(c.d.length:Int)-1:=BD (by omega) (by omega)
 have w2:wrap .i64 ((c.d.length:Int)-1-1)=(c.d.length:Int)-1-1:=BD (by omega) (by omega)
 obtain⟨t1,e1,h1⟩:=wQ (n:=n) (pos:=true) h.1.2 hn
 obtain⟨t2,e2,h2'⟩:=wQ (n:=n) (pos:=true) h.2.2 hn
 obtain⟨t3,e3,h3⟩:=wQ (n:=n) (pos:=false) h.1.2 hn
 rw [ZX];try simp only [jn]
 simp only [JA,BJ,w1,w2,HY]
 by_cases c1:(0<=a.d∧a.d+2<=c.d.length)∧(0<=a.c∧a.c+1<=c.d.length)
 ·have d1:(decide (a.d>=0)&&decide (a.d<=(c.d.length:Int)-1-1))=true:=Qg.2 (by omega)
  have d2:(decide (a.c>=0)&&decide (a.c<=(c.d.length:Int)-1))=true:=Qg.2 (by omega)
  obtain⟨x,ex,hx⟩:=nS (l:=c.d) c1.1.1 (by omega)
  obtain⟨y,ey,hy⟩:=nS (l:=c.d) c1.2.1 (by omega)
  simp only [d1,d2,Al,Fa,cF,ex,ey,BJ,hx,hy,e1,e2,e3,Do]
  have to1:(a.c==(c.d.length:Int)-1)=true↔a.c+1=c.d.length:=by rw [Ai];omega
  have to2:decide (a.c<(c.d.length:Int)-1)=true↔a.c+1<c.d.length:=by rw [AP];omega
  have sl:((a.f.length:Int)==0)=true↔a.f.length=0:=by rw [Ai];omega
  have nb:∀b:Bool,(!b)=true↔b=false:=by simp
  rcases iO a.b with k|k|k|k|k|k
  ·have:OS c a↔_:=Iff.rfl
   simp only [k,show((1:Int)==1)=true from rfl,cT]
   refine Co ?_
   unfold OS
   simp only [k,if_true,AD,nb,to1,Qg,h1,h2']
   exact⟨fun⟨⟨⟨⟨p,q⟩,s⟩,u⟩,v⟩=>⟨c1,p,q,by simpa using s,u,v⟩,fun⟨_,p,q,s,u,v⟩=>⟨⟨⟨⟨p,q⟩,by simpa using s⟩,u⟩,v⟩⟩
  ·simp only [k,show((2:Int)==1)=false from rfl,show((2:Int)==2)=true from rfl,cT,cF]
   refine Co ?_
   unfold OS
   simp only [k,show¬((2:Int)=1) by omega,if_false,true_or,if_true,AD,Ai,to1,h1,h2']
   exact⟨fun⟨⟨⟨⟨p,q⟩,s⟩,u⟩,v⟩=>⟨c1,p,by omega,s,u,v⟩,fun⟨_,p,q,s,u,v⟩=>⟨⟨⟨⟨p,by omega⟩,s⟩,u⟩,v⟩⟩
  ·simp only [k,show((3:Int)==1)=false from rfl,show((3:Int)==2)=false from rfl,show((3:Int)==3)=true from rfl,cT,cF]
   refine Co ?_
   unfold OS
   simp only [k,show¬((3:Int)=1) by omega,if_false,or_true,if_true,AD,Ai,to1,h1,h2']
   exact⟨fun⟨⟨⟨⟨p,q⟩,s⟩,u⟩,v⟩=>⟨c1,p,by omega,s,u,v⟩,fun⟨_,p,q,s,u,v⟩=>⟨⟨⟨⟨p,by omega⟩,s⟩,u⟩,v⟩⟩
  ·simp only [k,show((4:Int)==1)=false from rfl,show((4:Int)==2)=false from rfl,show((4:Int)==3)=false from rfl,show((4:Int)==4)=true from rfl,cT,cF]
   refine Co ?_
   unfold OS
   simp only [k,show¬((4:Int)=1) by omega,show¬((4:Int)=2∨(4:Int)=3) by omega,if_false,true_or,if_true,AD,Ai,nb,to2,sl,h3,true_and]
   exact⟨fun⟨⟨⟨⟨⟨p,q⟩,z⟩,s⟩,u⟩,v⟩=>⟨c1,p,q,z,s,u,by omega⟩,fun⟨_,p,q,z,s,u,v⟩=>⟨⟨⟨⟨⟨p,q⟩,z⟩,s⟩,u⟩,by omega⟩⟩
  ·simp only [k,show((5:Int)==1)=false from rfl,show((5:Int)==2)=false from rfl,show((5:Int)==3)=false from rfl,show((5:Int)==4)=false from rfl,show((5:Int)==5)=true from rfl,cT,cF]
   refine Co ?_
   unfold OS
   simp only [k,show¬((5:Int)=1) by omega,show¬((5:Int)=2∨(5:Int)=3) by omega,if_false,or_true,if_true,AD,Ai,nb,to2,sl,h3,true_and]
   exact⟨fun⟨⟨⟨⟨⟨p,q⟩,z⟩,s⟩,u⟩,v⟩=>⟨c1,p,q,z,s,u,by omega⟩,fun⟨_,p,q,z,s,u,v⟩=>⟨⟨⟨⟨⟨p,q⟩,z⟩,s⟩,u⟩,by omega⟩⟩
  ·obtain⟨k1,k2,k3,k4,k5⟩:=k
   simp only [AG.2 k1,AG.2 k2,AG.2 k3,AG.2 k4,AG.2 k5,cF]
   refine Cb fun v=>?_
   have:=v.2
   rw [BV k1,BV (by omega),BV (by omega)]at this
   exact this
 ·have d1:(!(decide (a.d>=0)&&decide (a.d<=(c.d.length:Int)-1-1))|| !(decide (a.c>=0)&&decide (a.c<=(c.d.length:Int)-1)))=true:=by
   rw [CN,BY,BY,Av,Av,AQ,AQ,AQ,AQ]
   omega
  simp only [d1,cT]
  exact Cb fun v=>c1 v.1
theorem xS{n:Nat}{c:BL}{a:CJ}{r:Int}(hp:c.d.length<=5)(h2:2<=c.d.length)(h:qI a)(hr:Vh n c=some r)(hn:1048577<=n):Ch (XC c a r) (bZ n c a):=by
 have w1:wrap .i64 ((c.d.length:Int)-1)=(c.d.length:Int)-1:=BD (by omega) (by omega)
 have w2:wrap .i64 ((c.d.length:Int)-1-1)=(c.d.length:Int)-1-1:=BD (by omega) (by omega)
 obtain⟨t1,e1,h1⟩:=Ts2 (n:=n) (pos:=true) h.1.2 h.1.1 hn
 obtain⟨t2,e2,h2'⟩:=Ts2 (n:=n) (pos:=true) h.2.2 h.2.1 hn
 obtain⟨t3,e3,h3⟩:=Ts2 (n:=n) (pos:=false) h.1.2 h.1.1 hn
 rw [bZ]
 simp only [TR,aO,Ug,Vq,Ld,BJ,w1,w2,e1,e2,e3,hr,Do,HY]
 unfold XC
 by_cases k:a.b=4∨a.b=5
 ·have kb:((a.b==4)||(a.b==5))=true:=by rw [CN,Ai,Ai];exact k
  simp only [kb,cT,BE k]
  refine Co ?_
  simp only [AD,Ai,Cp,AP,h3]
  exact⟨fun⟨⟨⟨⟨⟨⟨p,q⟩,s⟩,t⟩,u⟩,v⟩,x⟩=>⟨p,by omega,s,t,by omega,by omega,x⟩,fun⟨p,q,s,t,u,v,x⟩=>⟨⟨⟨⟨⟨⟨p,by omega⟩,s⟩,t⟩,by omega⟩,by omega⟩,x⟩⟩
 ·have kb:((a.b==4)||(a.b==5))=false:=by rw [BB,AG,AG];omega
  simp only [kb,cF,BV k]
  by_cases g:(Uz a.h true∧Uz a.f true)∧a.c+1=c.d.length∧(0<=a.d∧a.d+2<=c.d.length)
  ·have gb:(((!t1|| !t2)||(a.c !=(c.d.length:Int)-1))|| !(decide (a.d>=0)&&decide (a.d<=(c.d.length:Int)-1-1)))=false:=by
    rw [h1.2 g.1.1,h2'.2 g.1.2]
    simp only [Al,Fa,DG,BB,BG,Bw,Qg];omega
   obtain⟨x,ex,hx⟩:=nS (l:=c.d) g.2.2.1 (by omega)
   simp only [gb,cF,ex,BJ,hx]
   have nb:∀b:Bool,(!b)=true↔b=false:=by simp
   have red:∀R:Prop,(Uz a.h true∧Uz a.f true∧a.c+1=c.d.length∧(0<=a.d∧a.d+2<=c.d.length)∧R)↔R:=fun R=>⟨fun q=>q.2.2.2.2,fun q=>⟨g.1.1,g.1.2,g.2.1,g.2.2,q⟩⟩
   rw [red]
   by_cases k1:a.b=1
   ·simp only [k1,show((1:Int)==1)=true from rfl,cT,if_true]
    refine Co ?_
    simp only [AD,nb,AP]
   ·simp only [AG.2 k1,cF,BV k1]
    by_cases k2:a.b=2
    ·simp only [k2,show((2:Int)==2)=true from rfl,cT,true_or,if_true]
     refine Co ?_
     simp only [AD,Ai]
    ·simp only [AG.2 k2,cF]
     by_cases k3:a.b=3
     ·simp only [k3,show((3:Int)==3)=true from rfl,cT,or_true,if_true]
      refine Co ?_
      simp only [AD,Ai]
     ·simp only [AG.2 k3,cF]
      rw [BV (by omega)]
      exact Cb fun v=>v
  ·have gb:(((!t1|| !t2)||(a.c !=(c.d.length:Int)-1))|| !(decide (a.d>=0)&&decide (a.d<=(c.d.length:Int)-1-1)))=true:=by
    cases hq:(((!t1|| !t2)||(a.c !=(c.d.length:Int)-1))|| !(decide (a.d>=0)&&decide (a.d<=(c.d.length:Int)-1-1)))with
    |true=>rfl
    |false=>
     exfalso;apply g
     simp only [BB,Bw,BG,Qg]at hq
     exact⟨⟨h1.1 hq.1.1.1,h2'.1 hq.1.1.2⟩,by omega,by omega⟩
   simp only [gb,cT]
   exact Cb fun v=>g ⟨⟨v.1,v.2.1⟩,v.2.2.1,v.2.2.2.1⟩
theorem Wl{c:BL}{a:CJ}{r:Int}(hv:OE c.d)(hc:cnt c.d<=1)(hr:r= -1∨∃j:Nat,r=(j:Int)∧∃h:j<c.d.length,c.d[j].d=true∧∀i (hi:i<c.d.length),i<j->¬c.d[i].d=true)(hr0:r>=0↔∃x∈c.d,x.d=true):OS c a↔XC c a r:=by
 have few:=hv.few
 unfold OS XC
 by_cases k:a.b=4∨a.b=5
 ·rw [BV (by omega),BV (by omega),BE k,BE k]
  constructor
  ·rintro ⟨⟨⟨a1,a2⟩,a3,a4⟩,b1,b2,b3,b4,b5,b6⟩
   obtain⟨f,hf⟩:=Ax a1
   have hf:a.d=(f:Int):=hf
   have hfl:f<c.d.length:=by omega
   have cf:c.d[f].d=true:=by rw [hf,Vc hfl]at b1;exact b1
   have hge:r>=0:=hr0.2 ⟨_,AI hfl,cf⟩
   rcases hr with hr|⟨j,rfl,hj,hj1,_⟩
   ·omega
   ·have:=WD hc hfl hj cf hj1
    subst this
    refine⟨b4,b6,b5,hf,a1,by omega,fun e=>?_⟩
    rw [e,b1]at b3;cases b3
  ·rintro ⟨b1,b2,b3,b4,b5,⟨b6,b7⟩,b8⟩
   rcases hr with hr|⟨j,hj0,hj,hj1,_⟩
   ·omega
   ·have cf:LB c.d a.d=true:=by rw [b4,hj0,Vc hj];exact hj1
    have hjl:j+1<c.d.length:=by
     by_cases q:j+1<c.d.length
     ·exact q
     ·have:=(hv.pin j hj).2.1 (by omega)
      rw [this.2.2]at hj1;cases hj1
    obtain⟨t,ht⟩:=Ax b6
    have ht:a.c=(t:Int):=ht
    have htl:t<c.d.length:=by omega
    refine⟨⟨⟨by omega,by omega⟩,by omega,by omega⟩,cf,by omega,?_,b1,b3,b2⟩
    rw [ht,Vc htl]
    cases hq:c.d[t].d with
    |false=>rfl
    |true=>have:=WD hc htl hj hq hj1;omega
 ·rw [BV k,BV k]
  by_cases k1:a.b=1
  ·rw [BE k1,BE k1]
   exact⟨fun⟨p,q,s,t,u,v⟩=>⟨u,v,s,p.1,q,t⟩,fun⟨u,v,s,p,q,t⟩=>⟨⟨p,by omega,by omega⟩,q,s,t,u,v⟩⟩
  ·rw [BV k1,BV k1]
   by_cases k2:a.b=2∨a.b=3
   ·rw [BE k2,BE k2]
    exact⟨fun⟨p,q,s,t,u,v⟩=>⟨u,v,s,p.1,q,t⟩,fun⟨u,v,s,p,q,t⟩=>⟨⟨p,by omega,by omega⟩,q,s,t,u,v⟩⟩
   ·rw [BV k2,BV k2]
    exact⟨fun h=>h.2.elim,fun h=>h.2.2.2.2.elim⟩
def Ko(a b:CJ):Prop:=(a.b=b.b∧a.d=b.d)∧a.c=b.c
def HP(l:List CJ)(k:Int):Prop:=∃a∈l,a.b=k
def Ja(c:BL):Prop:=
 (c.b=1∧cnt c.d=0∧c.g.length=2^(c.d.length-1)∧∀i,i<c.g.length->0<=gd c.g i∧gd c.g i<=1)∨
 (c.b=2∧cnt c.d=1∧c.g.length=0∧¬HP c.c 1∧¬(HP c.c 2↔HP c.c 3))∨
 (c.b=3∧cnt c.d=1∧c.g.length=0∧HP c.c 1∧HP c.c 2∧¬HP c.c 3)
def aY(A:CJ->Prop)(l:List CJ):Prop:=∀i (h:i<l.length),A l[i]∧∀j (hj:j<i),¬Ko l[j] l[i]
structure Pm(c:BL):Prop where
 name:HN c.f=true
 pins:OE c.d
 few:c.c.length<=8
 leak:0<=c.h∧c.h<=100000
 energy:0<=c.i∧c.i<=100000
 arcs:aY (OS c) c.c
 kind:Ja c
theorem Ja.cnt{c:BL}(h:Ja c):cnt c.d<=1:=by
 rcases h with h|h|h<;>omega
theorem Kd{n:Nat}{c:BL}(hl:c.c.length<=1048576)(hk:∀a∈c.c,0<=a.b∧a.b<6)(hn:1048577<=n):∃l,aF n c=some l∧l.length=6∧∀k:Nat,k<6->0<=gd l k∧(gd l k>0↔HP c.c k):=by
 have m6:Qw 6 8=some 6:=IH (n:=6) (by omega) (by omega)
 rw [aF,m6,BJ]
 refine loop (L:=fun m i (l:List Int)=>Lh c (fun i31 l33=>(some l33)) m i l) c.c.length (fun i l=>l.length=6∧∀k:Nat,k<6->(0<=gd l k∧gd l k<=i)∧(gd l k>0↔HP (c.c.take i) k)) (fun o=>∃l,o=some l∧l.length=6∧∀k:Nat,k<6->0<=gd l k∧(gd l k>0↔HP c.c k)) ?_ ?_ n 0 (List.replicate 6 0) (by omega) (by omega) ⟨by simp,fun k hk=>?_⟩
 ·intro m i l hi ⟨hll,hI⟩
  have hx:=hk _ (AI hi)
  obtain⟨q,hq⟩:=Ax hx.1
  have hq:c.c[i].b=(q:Int):=hq
  have hq6:q<6:=by omega
  have hg:AL l c.c[i].b=some (gd l q):=by rw [hq];exact gI (by omega)
  have hb:=(hI q hq6).1
  refine .inl ⟨l.set q (gd l q+1),⟨by simpa using hll,fun k hk6=>?_⟩,?_⟩
  ·have h1:=hI k hk6
   rw [RK (by omega)]
   have hs:HP (c.c.take (i+1)) k↔HP (c.c.take i) k∨c.c[i].b=(k:Int):=by
    rw [Bf hi]
    unfold HP
    constructor
    ·rintro ⟨a,ha,e⟩
     rcases BR.1 ha with ha|ha
     ·exact .inl ⟨a,ha,e⟩
     ·obtain rfl:=As.1 ha;exact .inr e
    ·rintro (⟨a,ha,e⟩|e)
     ·exact⟨a,BR.2 (.inl ha),e⟩
     ·exact⟨_,BR.2 (.inr (As.2 rfl)),e⟩
   rw [hs]
   by_cases e:q=k
   ·subst e
    rw [BE rfl]
    exact⟨⟨by omega,by omega⟩,⟨fun _=>.inr hq,fun _=>by omega⟩⟩
   ·rw [BV e]
    refine⟨⟨by omega,by omega⟩,h1.2.trans ⟨.inl,fun h=>h.resolve_right fun h=>e (by omega)⟩⟩
  ·simp only [Lh.eq_2,Ex hi,cT,Ac hi,BJ,hg,wT i,BD (x:=gd l q+1) (by omega) (by omega)]
   rw [hq,DF]
 ·intro m l ⟨hll,hI⟩
  simp only [Lh.eq_2,FS,cF]
  refine⟨l,rfl,hll,fun k hk6=>?_⟩
  have:=hI k hk6
  rw [CY]at this
  exact⟨this.1.1,this.2⟩
 ·have:gd (List.replicate 6 0) k=0:=by simp only [gd,DL,EA];split<;>rfl
  rw [this]
  refine⟨by omega,⟨fun h=>by omega,fun⟨a,ha,_⟩=>by simp at ha⟩⟩
theorem Hs{n:Nat}{c:BL}(hl:c.c.length<=1048576)(k:Int)(hn:1048577<=n):Ch (HP c.c k) (Uf n c k):=by
 obtain⟨r,e,hr,_⟩:=Mz (xs:=c.c) (L:=fun m i=>KD n c.c k (fun i6=>(some (-1))) m i) (f:=fun a=>cX n a k) (P:=fun a=>a.b=k) (fun p _=>by rw [cX];exact Co Ai) (fun m i hi=>by
  simp only [KD.eq_2,Ex hi,cT,Ac hi,BJ,wT i]) (fun m=>by
  simp only [KD.eq_2,FS,cF]) n (by omega)
 have e:KD n c.c k (fun i6=>(some (-1))) n 0=some r:=e
 rw [Uf,fE,gM,e]
 exact Co (by rw [AP];exact hr)
theorem bE{L:Nat}(h1:2<=L)(h2:L<=5):Of .i64 1 ((L:Int)-1)=((2^(L-1):Nat):Int)∧Of .i64 1 (IntKind.wrap IntKind.u64 ((L:Int)-1))=((2^(L-1):Nat):Int)∧decide (IntKind.wrap IntKind.u64 ((L:Int)-1)<0)=false:=by
 have:L=2∨L=3∨L=4∨L=5:=by omega
 rcases this with rfl|rfl|rfl|rfl<;>decide
theorem Tr1{n:Nat}{c:BL}{o:Option Bool}{Q:Prop}(h:c.g.length<=1048576)(hn:1048577<=n)(hQ:Ch Q o):Ch ((∀i,i<c.g.length->0<=gd c.g i∧gd c.g i<=1)∧Q) (Ng n c (fun _=>o) n 0):=by
 refine(HV (L:=fun m i=>Ng n c (fun _=>o) m i) (Q:=Q) c.g.length 0 (fun i=>0<=gd c.g i∧gd c.g i<=1) ?_ ?_ n 0 (by omega) (by omega) (by omega) (fun j _ h=>by omega)).iff ⟨fun a=>⟨fun i hi=>a.1 i (by omega) hi,a.2⟩,fun a=>⟨fun i _ hi=>a.1 i hi,a.2⟩⟩
 ·intro m i _ hi
  simp only [Ng.eq_2,Ex hi,cT,gI hi,BJ,JA,wT i]
  by_cases c1:0<=gd c.g i∧gd c.g i<=1
  ·have d1:(decide (gd c.g i>=0)&&decide (gd c.g i<=1))=true:=Qg.2 c1
   simp only [d1,Al,cF]
   exact .inl ⟨c1,by trivial⟩
  ·have d1:(decide (gd c.g i>=0)&&decide (gd c.g i<=1))=false:=by
    rw [Av,AQ,AQ];omega
   simp only [d1,BM,cT]
   exact .inr ⟨c1,by trivial⟩
 ·intro m i h1 h2 _
  obtain rfl:i=c.g.length:=by omega
  simp only [Ng.eq_2,FS,cF]
  exact hQ
theorem In2{n:Nat}{c:BL}{i:Nat}(hi:i<c.c.length)(hl:c.c.length<=1048576)(hn:1048577<=n)(k2:Int->Option Bool):(∀j (hj:j<i),¬Ko c.c[j] c.c[i])∧Ls c i c.c[i] k2 n 0=k2 i∨(¬∀j (hj:j<i),¬Ko c.c[j] c.c[i])∧Ls c i c.c[i] k2 n 0=some false:=by
 refine loop (L:=fun m j (_:Unit)=>Ls c i c.c[i] k2 m j) i (fun b _=>∀j (hj:j<i),j<b->¬Ko c.c[j] c.c[i]) (fun o=>(∀j (hj:j<i),¬Ko c.c[j] c.c[i])∧o=k2 i∨(¬∀j (hj:j<i),¬Ko c.c[j] c.c[i])∧o=some false) ?_ ?_ n 0 () (by omega) (by omega) (fun j _ hj=>by omega)
 ·intro m j _ hj hJ
  have e1:Ko c.c[j] c.c[i]↔(((c.c[j].b==c.c[i].b)&&(c.c[j].d==c.c[i].d))&&(c.c[j].c==c.c[i].c))=true:=by
   unfold Ko;simp only [AD,Ai]
  simp only [Ls.eq_2,Ex hj,cT,Ac (show j<c.c.length by omega),BJ,Do,wT j]
  cases e:(((c.c[j].b==c.c[i].b)&&(c.c[j].d==c.c[i].d))&&(c.c[j].c==c.c[i].c))with
  |true=>exact .inr (.inr ⟨fun h=>h j hj (e1.2 e),by trivial⟩)
  |false=>
   refine .inl ⟨(),fun a ha hb=>?_,by trivial⟩
   by_cases ea:a=j
   ·subst ea;intro hs;rw [e1.1 hs]at e;cases e
   ·exact hJ a ha (by omega)
 ·intro m _ hJ
  simp only [Ls.eq_2,FS,cF]
  exact .inl ⟨fun j hj=>hJ j hj hj,by trivial⟩
theorem AbZ{n:Nat}{c:BL}(h:Xp c)(hn:1048577<=n):Ch (Pm c) (qZ n c):=by
 obtain⟨r,e,hr,hc⟩:=Pn1 (n:=n) h.pins hn
 rw [qZ,e]
 simp only [BJ,vI h.name hn,JA,HY]
 by_cases g:(OE c.d∧HN c.f=true)∧c.c.length<=8∧(0<=c.h∧c.h<=100000)∧(0<=c.i∧c.i<=100000)
 ·have rt:r.2=true:=hr.2 g.1.1
  have gb:((((!r.2|| !HN c.f)||decide ((c.c.length:Int)>8))|| !(decide (c.h>=0)&&decide (c.h<=100000)))|| !(decide (c.i>=0)&&decide (c.i<=100000)))=false:=by
   rw [rt,g.1.2]
   simp only [Al,Fa,DG,BB,AQ,Bw,Qg];omega
  simp only [gb,cF]
  have few:=g.1.1.few
  have hal:=h.arcs.1
  have hcnt:=hc rt
  refine(HV (L:=fun m i=>Nh n c _ m i) (Q:=Ja c) c.c.length 0 (fun i=>∀(hi:i<c.c.length),OS c c.c[i]∧∀j (hj:j<i),¬Ko c.c[j] c.c[i]) ?_ ?_ n 0 (by omega) (by omega) (by omega) (fun j _ h=>by omega)).iff ?_
  ·intro m i _ hi
   obtain⟨b,e,hb⟩:=AaW (n:=n) (c:=c) few.2 few.1 (h.arcs.2 _ (AI hi)) hn
   simp only [Nh.eq_2,Ex hi,cT,Ac hi,BJ,e]
   cases b with
   |false=>exact .inr ⟨fun q=>(by have:=hb.2 (q hi).1;cases this),by trivial⟩
   |true=>
    simp only [Al,cF,wT i]
    rcases In2 (n:=n) hi hal hn (fun _=>Nh n c _ m ((i+1:Nat):Int))with ⟨q1,q2⟩|⟨q1,q2⟩
    ·exact .inl ⟨fun _=>⟨hb.1 rfl,q1⟩,q2⟩
    ·exact .inr ⟨fun q=>q1 (q hi).2,q2⟩
  ·intro m i h1 h2 hA
   obtain rfl:i=c.c.length:=by omega
   simp only [Nh.eq_2,FS,cF]
   obtain⟨l,e,hl6,hl⟩:=Kd (n:=n) hal (fun a ha=>by
    obtain⟨j,hj,rfl⟩:=Bs ha
    have:=(hA j (by omega) hj hj).1.2
    rcases iO c.c[j].b with k|k|k|k|k|k<;>first|omega|skip
    obtain⟨k1,k2,k3,k4,k5⟩:=k
    rw [BV k1,BV (by omega),BV (by omega)]at this
    exact this.elim) hn
   have g1:AL l 1=some (gd l 1):=gI (i:=1) (by omega)
   have g2:AL l 2=some (gd l 2):=gI (i:=2) (by omega)
   have g3:AL l 3=some (gd l 3):=gI (i:=3) (by omega)
   have k1:0<=gd l 1∧(gd l 1>0↔HP c.c 1):=hl 1 (by omega)
   have k2:0<=gd l 2∧(gd l 2>0↔HP c.c 2):=hl 2 (by omega)
   have k3:0<=gd l 3∧(gd l 3>0↔HP c.c 3):=hl 3 (by omega)
   have wl:wrap .i64 ((c.d.length:Int)-1)=(c.d.length:Int)-1:=BD (by omega) (by omega)
   obtain⟨s1,s2,s3⟩:=bE few.1 few.2
   rw [e,BJ]
   simp only [g1,g2,g3,BJ,wl,s2,s3,cF,Do]
   have tl:((c.g.length:Int)==0)=true↔c.g.length=0:=by rw [Ai];omega
   have tw:((c.g.length:Int)==((2^(c.d.length-1):Nat):Int))=true↔c.g.length=2^(c.d.length-1):=by rw [Ai];omega
   have c0:(r.1==0)=true↔cnt c.d=0:=by rw [Ai,hcnt];omega
   have c1:(r.1==1)=true↔cnt c.d=1:=by rw [Ai,hcnt];omega
   have kk1:(gd l 1==0)=true↔¬HP c.c 1:=by rw [Ai,←k1.2];omega
   have kk3:(gd l 3==0)=true↔¬HP c.c 3:=by rw [Ai,←k3.2];omega
   have p1:decide (gd l 1>0)=true↔HP c.c 1:=by rw [AP];exact k1.2
   have p2:decide (gd l 2>0)=true↔HP c.c 2:=by rw [AP];exact k2.2
   have p3:decide (gd l 3>0)=true↔HP c.c 3:=by rw [AP];exact k3.2
   have x23:(decide (gd l 2>0) !=decide (gd l 3>0))=true↔¬(HP c.c 2↔HP c.c 3):=by
    rw [←p2,←p3];cases decide (gd l 2>0)<;>cases decide (gd l 3>0)<;>simp
   by_cases q1:c.b=1
   ·simp only [q1,show((1:Int)==1)=true from rfl,cT]
    refine(Tr1 (c:=c) (o:=some ((r.1==0)&&((c.g.length:Int)==((2^(c.d.length-1):Nat):Int)))) (Q:=cnt c.d=0∧c.g.length=2^(c.d.length-1)) h.truth hn (Co (by rw [AD,c0,tw]))).iff ?_
    unfold Ja
    constructor
    ·rintro ⟨a,b,d⟩;exact .inl ⟨q1,b,d,a⟩
    ·rintro (⟨_,b,d,a⟩|⟨a,_⟩|⟨a,_⟩)
     ·exact⟨a,b,d⟩
     ·omega
     ·omega
   ·simp only [AG.2 q1,cF]
    by_cases q2:c.b=2
    ·simp only [q2,show((2:Int)==2)=true from rfl,cT]
     refine Co ?_
     rw [AD,AD,AD,c1,kk1,x23,tl]
     unfold Ja
     constructor
     ·rintro ⟨⟨⟨a,b⟩,d⟩,f⟩;exact .inr (.inl ⟨q2,a,f,b,d⟩)
     ·rintro (⟨a,_⟩|⟨_,a,f,b,d⟩|⟨a,_⟩)
      ·omega
      ·exact⟨⟨⟨a,b⟩,d⟩,f⟩
      ·omega
    ·simp only [AG.2 q2,cF]
     by_cases q3:c.b=3
     ·simp only [q3,show((3:Int)==3)=true from rfl,cT]
      refine Co ?_
      simp only [AD,true_and,c1,p1,p2,kk3,tl]
      unfold Ja
      constructor
      ·rintro ⟨⟨⟨⟨a,b⟩,d⟩,x⟩,f⟩;exact .inr (.inr ⟨q3,a,f,b,d,x⟩)
      ·rintro (⟨a,_⟩|⟨a,_⟩|⟨_,a,f,b,d,x⟩)
       ·omega
       ·omega
       ·exact⟨⟨⟨⟨a,b⟩,d⟩,x⟩,f⟩
     ·simp only [AG.2 q3,cF]
      refine Cb ?_
      rintro (⟨a,_⟩|⟨a,_⟩|⟨a,_⟩)
      ·exact q1 a
      ·exact q2 a
      ·exact q3 a
  ·constructor
   ·rintro ⟨a,b⟩
    exact⟨g.1.2,g.1.1,g.2.1,g.2.2.1,g.2.2.2,fun i hi=>a i (by omega) hi hi,b⟩
   ·rintro v
    exact⟨fun i _ _ hi=>v.arcs i hi,v.kind⟩
 ·have gb:((((!r.2|| !HN c.f)||decide ((c.c.length:Int)>8))|| !(decide (c.h>=0)&&decide (c.h<=100000)))|| !(decide (c.i>=0)&&decide (c.i<=100000)))=true:=by
   cases hq:((((!r.2|| !HN c.f)||decide ((c.c.length:Int)>8))|| !(decide (c.h>=0)&&decide (c.h<=100000)))|| !(decide (c.i>=0)&&decide (c.i<=100000)))with
   |true=>rfl
   |false=>
    exfalso;apply g
    simp only [BB,Bw,AQ,Qg]at hq
    exact⟨⟨hr.1 hq.1.1.1.1,hq.1.1.1.2⟩,by omega,by simpa using hq.1.2,by simpa using hq.2⟩
  simp only [gb,cT]
  exact Cb fun v=>g ⟨⟨v.pins,v.name⟩,v.few,v.leak,v.energy⟩
theorem Cn{n:Nat}{l:List DZ}{K:Int->Option Bool}{c:BL}(hc:c.d=l)(hl:l.length<=1048576)(hn:1048577<=n):Ig c (fun i _=>K i) n 0 0=K (cnt l):=by
 subst hc
 refine loop (L:=fun m i (q:Int)=>Ig c (fun i _=>K i) m q i) c.d.length (fun i q=>q=cnt (c.d.take i)) (fun o=>o=K (cnt c.d)) ?_ ?_ n 0 0 (by omega) (by omega) (by simp [cnt])
 ·intro m i q hi hq
  have ct:=UV hi
  have cl:cnt (c.d.take i)<=1048576:=Ar Cj (by simp;omega)
  cases hk:c.d[i].d with
  |true=>
   rw [hk,BE rfl]at ct
   refine .inl ⟨q+1,by rw [ct,hq];simp,?_⟩
   simp only [Ig.eq_2,Ex hi,cT,Ac hi,BJ,hk,wT i,BD (x:=q+1) (by omega) (by omega)]
  |false=>
   rw [hk]at ct
   refine .inl ⟨q,by rw [ct,hq];simp,?_⟩
   simp only [Ig.eq_2,Ex hi,cT,Ac hi,BJ,hk,cF,wT i]
 ·intro m q hq
  rw [CY]at hq
  simp only [Ig.eq_2,FS,cF,hq]
theorem Kn2{n:Nat}{c:BL}(h:Xp c)(hv:OE c.d)(hn:1048577<=n):Ch (Ja c) (YG n c):=by
 have few:=hv.few
 obtain⟨b1,e1,h1⟩:=Hs (n:=n) h.arcs.1 1 hn
 obtain⟨b2,e2,h2⟩:=Hs (n:=n) h.arcs.1 2 hn
 obtain⟨b3,e3,h3⟩:=Hs (n:=n) h.arcs.1 3 hn
 have wl:wrap .i64 ((c.d.length:Int)-1)=(c.d.length:Int)-1:=BD (by omega) (by omega)
 have o:=(Cn (n:=n) (c:=c) (l:=c.d) (K:=fun i16=>(cond (c.b==1) (Option.bind (cond (i16==0) (Option.bind (Ug n c) fun r20=>(cond (decide (r20<0)) none (some ((((c.g.length:Int))==(Of .i64 1 r20)))))) (some false)) fun c20=>(Option.bind (cond c20 (Option.bind (Pz n c.g 0 1) fun r26=>(some r26)) (some false)) fun c26=>(some c26))) (cond (c.b==2) (Option.bind (cond (((i16==1))&&((((c.g.length:Int))==0))) (Option.bind (Uf n c 1) fun r38=>(some (!r38))) (some false)) fun c38=>(Option.bind (cond c38 (Option.bind (Uf n c 2) fun r43=>(Option.bind (Uf n c 3) fun r45=>(some ((r43 !=r45))))) (some false)) fun c43=>(some c43))) (cond (c.b==3) (Option.bind (cond (((i16==1))&&((((c.g.length:Int))==0))) (Option.bind (Uf n c 1) fun r61=>(some r61)) (some false)) fun c61=>(Option.bind (cond c61 (Option.bind (Uf n c 2) fun r74=>(some r74)) (some false)) fun c74=>(Option.bind (cond c74 (Option.bind (Uf n c 3) fun r87=>(some (!r87))) (some false)) fun c87=>(some c87)))) (some false))))) rfl h.pins.1 hn)
 have o2:YG n c=_:=o
 rw [o2]
 obtain⟨s1,s2,s3⟩:=bE few.1 few.2
 have d0:decide ((c.d.length:Int)-1<0)=false:=Aa (by omega)
 simp only [Ug,Vq,BJ,wl,d0,cF,s1,AW (n:=n) h.truth hn,e1,e2,e3,Do]
 have tl:((c.g.length:Int)==0)=true↔c.g.length=0:=by rw [Ai];omega
 have tw:((c.g.length:Int)==((2^(c.d.length-1):Nat):Int))=true↔c.g.length=2^(c.d.length-1):=by rw [Ai];omega
 have c0:((cnt c.d:Int)==0)=true↔cnt c.d=0:=by rw [Ai];omega
 have c1:((cnt c.d:Int)==1)=true↔cnt c.d=1:=by rw [Ai];omega
 have n1:(!b1)=true↔¬HP c.c 1:=by rw [←h1];cases b1<;>simp
 have n3:(!b3)=true↔¬HP c.c 3:=by rw [←h3];cases b3<;>simp
 have x23:(b2 !=b3)=true↔¬(HP c.c 2↔HP c.c 3):=by rw [←h2,←h3];cases b2<;>cases b3<;>simp
 by_cases q1:c.b=1
 ·simp only [q1,show((1:Int)==1)=true from rfl,cT]
  refine Co ?_
  rw [AD,AD,c0,tw,Rf]
  unfold Ja
  constructor
  ·rintro ⟨⟨a,b⟩,d⟩;exact .inl ⟨q1,a,b,d⟩
  ·rintro (⟨_,a,b,d⟩|⟨a,_⟩|⟨a,_⟩)
   ·exact⟨⟨a,b⟩,d⟩
   ·omega
   ·omega
 ·simp only [AG.2 q1,cF]
  by_cases q2:c.b=2
  ·simp only [q2,show((2:Int)==2)=true from rfl,cT]
   refine Co ?_
   simp only [AD,c1,tl,n1,x23]
   unfold Ja
   constructor
   ·rintro ⟨⟨⟨a,b⟩,d⟩,f⟩;exact .inr (.inl ⟨q2,a,b,d,f⟩)
   ·rintro (⟨a,_⟩|⟨_,a,b,d,f⟩|⟨a,_⟩)
    ·omega
    ·exact⟨⟨⟨a,b⟩,d⟩,f⟩
    ·omega
  ·simp only [AG.2 q2,cF]
   by_cases q3:c.b=3
   ·simp only [q3,show((3:Int)==3)=true from rfl,cT]
    refine Co ?_
    simp only [AD,true_and,c1,tl,h1,h2,n3]
    unfold Ja
    constructor
    ·rintro ⟨⟨⟨⟨a,b⟩,d⟩,x⟩,f⟩;exact .inr (.inr ⟨q3,a,b,d,x,f⟩)
    ·rintro (⟨a,_⟩|⟨a,_⟩|⟨_,a,b,d,x,f⟩)
     ·omega
     ·omega
     ·exact⟨⟨⟨⟨a,b⟩,d⟩,x⟩,f⟩
   ·simp only [AG.2 q3,cF]
    refine Cb ?_
    rintro (⟨a,_⟩|⟨a,_⟩|⟨a,_⟩)
    ·exact q1 a
    ·exact q2 a
    ·exact q3 a
theorem As2{n:Nat}{c:BL}{r:Int}(h:Xp c)(hv:OE c.d)(hr:Vh n c=some r)(hn:1048577<=n):Ch (aY (fun a=>XC c a r) c.c∧c.c.length<=8) (Zx n c):=by
 have few:=hv.few
 have hal:=h.arcs.1
 rw [Zx];try simp only [jn]
 refine(HV (L:=fun m i=>Ll n c _ m i) (Q:=c.c.length<=8) c.c.length 0 (fun i=>∀(hi:i<c.c.length),XC c c.c[i] r∧∀j (hj:j<i),¬Ko c.c[j] c.c[i]) ?_ ?_ n 0 (by omega) (by omega) (by omega) (fun j _ h=>by omega)).iff ⟨fun a=>⟨fun i hi=>a.1 i (by omega) hi hi,a.2⟩,fun a=>⟨fun i _ _ hi=>a.1 i hi,a.2⟩⟩
 ·intro m i _ hi
  obtain⟨b,e,hb⟩:=xS (n:=n) (c:=c) few.2 few.1 (h.arcs.2 _ (AI hi)) hr hn
  have hsub:LQ c.c 0 (i:Int)=some (c.c.take i):=by
   unfold LQ
   rw [BE ⟨by omega,by omega,by omega⟩];simp
  obtain⟨q,e2,hq,_⟩:=Mz (xs:=c.c.take i) (L:=fun m j=>KR n (c.c.take i) c.c[i] (fun i6=>(some (-1))) m j) (f:=fun a=>YC n a c.c[i]) (P:=fun a=>Ko a c.c[i]) (fun p _=>by rw [YC];exact Co (by unfold Ko;simp only [AD,Ai])) (fun m j hj=>by
   simp only [KR.eq_2,Ex hj,cT,Ac hj,BJ,wS (show j<4611686018427387904 by have:=hj;simp at this;omega)]) (fun m=>by
   simp only [KR.eq_2,FS,cF]) n (by simp;omega)
  have e2:KR n (c.c.take i) c.c[i] (fun i6=>(some (-1))) n 0=some q:=e2
  simp only [Ll.eq_2,Ex hi,cT,Ac hi,BJ,e,hsub,gJ,gA,e2,HY,wT i,jn]
  have hd:(decide (q>=0))=true↔¬∀j (hj:j<i),¬Ko c.c[j] c.c[i]:=by
   rw [AP,hq]
   constructor
   ·rintro ⟨x,hx,hs⟩ hall
    obtain⟨j,hj,rfl⟩:=DC.1 hx
    exact hall j (by omega) hs
   ·intro hna
    refine Dl fun hne=>hna fun j hj hs=>hne ⟨c.c[j],DC.2 ⟨j,by omega,rfl⟩,hs⟩
  cases hc:(!b||decide (q>=0))with
  |true=>
   refine .inr ⟨fun g=>?_,by trivial⟩
   have:=g hi
   rw [CN]at hc
   rcases hc with hc|hc
   ·rw [hb.2 this.1]at hc;cases hc
   ·exact hd.1 hc this.2
  |false=>
   rw [BB]at hc
   refine .inl ⟨fun _=>⟨hb.1 (by simpa using hc.1),Dl fun g=>?_⟩,by trivial⟩
   have:=hd.2 g
   rw [hc.2]at this;cases this
 ·intro m i h1 h2 _
  obtain rfl:i=c.c.length:=by omega
  simp only [Ll.eq_2,FS,cF,jn]
  exact Co (by rw [AP];omega)
theorem yU{n:Nat}{c:BL}(h:Xp c)(hn:1048577<=n):Ch (Pm c) (aL n c):=by
 obtain⟨r,hr,hr0,hr1⟩:=Ck (n:=n) h.pins.1 hn
 rw [aL,Nm1 h.name hn,BJ]
 cases hnm:HN c.f with
 |false=>
  simp only [cF,BJ]
  exact Cb fun v=>(by have:=v.name;rw [hnm]at this;cases this)
 |true=>
  obtain⟨b,e,hb⟩:=Pn2 (n:=n) h.pins hn
  simp only [cT,e,BJ]
  cases b with
  |false=>
   simp only [cF,BJ]
   exact Cb fun v=>(by have:=hb.2 v.pins;cases this)
  |true=>
   have hv:=hb.1 rfl
   obtain⟨b1,e1,h1⟩:=As2 (n:=n) h hv hr hn
   obtain⟨b2,e2,h2⟩:=Kn2 (n:=n) h hv hn
   simp only [cT,e1,e2,Ld,BJ,Do]
   refine Co ?_
   rw [AD,AD,AD,h1,h2,Qg,Qg]
   constructor
   ·rintro ⟨⟨⟨⟨a,a8⟩,b⟩,d⟩,f⟩
    exact⟨hnm,hv,a8,b,d,fun i hi=>⟨(Wl hv f.cnt hr1 hr0).2 (a i hi).1,(a i hi).2⟩,f⟩
   ·rintro v
    exact⟨⟨⟨⟨fun i hi=>⟨(Wl hv v.kind.cnt hr1 hr0).1 (v.arcs i hi).1,(v.arcs i hi).2⟩,v.few⟩,v.leak⟩,v.energy⟩,v.kind⟩
def Ia(xs:List ByteArray):Prop:=∀k (h:k<xs.length),HN xs[k]=true∧∀i (hi:i<k),(xs[i].toList==xs[k].toList)=false
theorem lE{n:Nat}{xs:List ByteArray}(h:xs.length<=1048576)(hs:∀x∈xs,x.size<=1048576)(hn:1048577<=n):Ch (Ia xs) (mP n xs):=by
 rw [mP]
 refine(HV (L:=fun m i=>KY n xs _ m i) (Q:=True) xs.length 0 (fun i=>∀(hi:i<xs.length),HN xs[i]=true∧∀j (hj:j<i),(xs[j].toList==xs[i].toList)=false) ?_ ?_ n 0 (by omega) (by omega) (by omega) (fun j _ h=>by omega)).iff ⟨fun a k hk=>a.1 k (by omega) hk hk,fun a=>⟨fun i _ _ hi=>a i hi,trivial⟩⟩
 ·intro m i _ hi
  simp only [KY.eq_2,Ex hi,cT,Ac hi,BJ,vI (hs _ (AI hi)) hn]
  cases hb:HN xs[i]with
  |false=>simp only [BM,cT];exact .inr ⟨fun g=>(by have:=(g hi).1;rw [hb]at this;cases this),trivial⟩
  |true=>
   simp only [Al,cF]
   have key:Ni xs (i:Int) (fun i22=>KY n xs (fun i5=>some true) m (wrap .i64 ((i:Int)+1))) n 0=cond ((xs.take i).all (fun x=>!(x.toList==xs[i].toList))) (KY n xs (fun i5=>some true) m (wrap .i64 ((i:Int)+1))) (some false):=by
    refine RJ (xs:=xs.take i) (L:=fun q j=>Ni xs (i:Int) (fun i22=>KY n xs (fun i5=>some true) m (wrap .i64 ((i:Int)+1))) q j) (fun x=>!(x.toList==xs[i].toList)) ?_ ?_ n (by simp;omega)
    ·intro q j hj
     have hj':j<i:=by simp at hj;omega
     have hd:decide ((j:Int)<(i:Int))=true:=AX (by omega)
     simp only [Ni.eq_2,hd,cT,Ac (show j<xs.length by omega),Ac hi,BJ,List.getElem_take,wT j]
     cases(xs[j].toList==xs[i].toList)<;>rfl
    ·intro q
     have hl:(xs.take i).length=i:=by simp;omega
     have hd:decide (((xs.take i).length:Int)<(i:Int))=false:=Aa (by rw [hl];omega)
     simp only [Ni.eq_2,hd,cF]
   rw [key]
   cases ha:(xs.take i).all (fun x=>!(x.toList==xs[i].toList))with
   |true=>
    rw [cT,wT i]
    refine .inl ⟨fun _=>⟨hb,fun j hj=>?_⟩,rfl⟩
    have:=CG.1 ha xs[j] (DC.2 ⟨j,by omega,rfl⟩)
    simpa using this
   |false=>
    rw [cF]
    refine .inr ⟨fun g=>?_,rfl⟩
    have:(xs.take i).all (fun x=>!(x.toList==xs[i].toList))=true:=by
     rw [CG]
     intro x hx
     obtain⟨j,hj,rfl⟩:=DC.1 hx
     have:=(g hi).2 j (by omega)
     simp [this]
    rw [ha]at this;cases this
 ·intro m i h1 h2 _
  obtain rfl:i=xs.length:=by omega
  simp only [KY.eq_2,FS,cF]
  exact FJ trivial
structure Ub(l:BT):Prop where
 few:l.b.length<=8
 cells:∀i (h:i<l.b.length),Pm l.b[i]
 names:∀k (h:k<l.b.length),∀i (hi:i<k),(l.b[i].f.toList==l.b[k].f.toList)=false
def Vt(l:BT):Prop:=l.b.length<=1048576∧∀c∈l.b,Xp c
theorem Lb1{n:Nat}{l:BT}(h:Vt l)(hn:1048577<=n):Ch (Ub l) (tE n l):=by
 have h1:=h.1
 rw [tE]
 refine(HV (L:=fun m i=>Kj n l _ m i) (Q:=l.b.length<=8) l.b.length 0 (fun i=>∀(hi:i<l.b.length),Pm l.b[i]∧∀j (hj:j<i),(l.b[j].f.toList==l.b[i].f.toList)=false) ?_ ?_ n 0 (by omega) (by omega) (by omega) (fun j _ h=>by omega)).iff ⟨fun a=>⟨a.2,fun i hi=>(a.1 i (by omega) hi hi).1,fun k hk=>(a.1 k (by omega) hk hk).2⟩,fun a=>⟨fun i _ _ hi=>⟨a.cells i hi,a.names i hi⟩,a.few⟩⟩
 ·intro m i _ hi
  obtain⟨b,e,hb⟩:=AbZ (n:=n) (h.2 _ (AI hi)) hn
  simp only [Kj.eq_2,Ex hi,cT,Ac hi,BJ,e]
  cases b with
  |false=>simp only [BM,cT];exact .inr ⟨fun g=>(by have:=hb.2 (g hi).1;cases this),trivial⟩
  |true=>
   simp only [Al,cF]
   have key:Mf l (i:Int) (fun i36=>Kj n l (fun i12=>some (decide ((l.b.length:Int)<=8))) m (wrap .i64 ((i:Int)+1))) n 0=cond ((l.b.take i).all (fun x=>!(x.f.toList==l.b[i].f.toList))) (Kj n l (fun i12=>some (decide ((l.b.length:Int)<=8))) m (wrap .i64 ((i:Int)+1))) (some false):=by
    refine RJ (xs:=l.b.take i) (L:=fun q j=>Mf l (i:Int) (fun i36=>Kj n l (fun i12=>some (decide ((l.b.length:Int)<=8))) m (wrap .i64 ((i:Int)+1))) q j) (fun x=>!(x.f.toList==l.b[i].f.toList)) ?_ ?_ n (by simp;omega)
    ·intro q j hj
     have hj':j<i:=by simp at hj;omega
     have hd:decide ((j:Int)<(i:Int))=true:=AX (by omega)
     simp only [Mf.eq_2,hd,cT,Ac (show j<l.b.length by omega),Ac hi,BJ,List.getElem_take,wT j]
     cases(l.b[j].f.toList==l.b[i].f.toList)<;>rfl
    ·intro q
     have hl:(l.b.take i).length=i:=by simp;omega
     have hd:decide (((l.b.take i).length:Int)<(i:Int))=false:=Aa (by rw [hl];omega)
     simp only [Mf.eq_2,hd,cF]
   rw [key]
   cases ha:(l.b.take i).all (fun x=>!(x.f.toList==l.b[i].f.toList))with
   |true=>
    rw [cT,wT i]
    refine .inl ⟨fun _=>⟨hb.1 rfl,fun j hj=>?_⟩,rfl⟩
    have:=CG.1 ha l.b[j] (DC.2 ⟨j,by omega,rfl⟩)
    simpa using this
   |false=>
    rw [cF]
    refine .inr ⟨fun g=>?_,rfl⟩
    have:(l.b.take i).all (fun x=>!(x.f.toList==l.b[i].f.toList))=true:=by
     rw [CG]
     intro x hx
     obtain⟨j,hj,rfl⟩:=DC.1 hx
     have:=(g hi).2 j (by omega)
     simp [this]
    rw [ha]at this;cases this
 ·intro m i h1 h2 _
  obtain rfl:i=l.b.length:=by omega
  simp only [Kj.eq_2,FS,cF]
  exact Co (by rw [AP];omega)
theorem Lb2{n:Nat}{l:BT}(h:Vt l)(hn:1048577<=n):Ch (Ub l) (cO n l):=by
 have h1:=h.1
 rw [cO]
 refine loop (L:=fun m i (s:List ByteArray)=>LU n l _ m s i) l.b.length (fun i s=>s=(l.b.take i).map (·.f)∧∀j (hj:j<l.b.length),j<i->Pm l.b[j]) (fun o=>Ch (Ub l) o) ?_ ?_ n 0 [] (by omega) (by omega) ⟨by simp,fun j _ h=>by omega⟩
 ·intro m i s hi ⟨hs,hI⟩
  obtain⟨b,e,hb⟩:=yU (n:=n) (h.2 _ (AI hi)) hn
  have hsl:s.length=i:=by rw [hs];simp;omega
  simp only [LU.eq_2,Ex hi,cT,Ac hi,BJ,e]
  cases b with
  |false=>simp only [BM,cT];exact .inr (Cb fun v=>by have:=hb.2 (v.cells i hi);cases this)
  |true=>
   simp only [Al,cF,CC (show s.length+[l.b[i].f].length<=16777216 by simp;omega) (show 16<=1048576 by omega),BJ,wT i]
   refine .inl ⟨_,⟨?_,fun j hj hji=>?_⟩,rfl⟩
   ·rw [hs,Bf hi,FG];rfl
   ·by_cases ej:j=i
    ·subst ej;exact hb.1 rfl
    ·exact hI j hj (by omega)
 ·intro m s ⟨hs,hI⟩
  rw [CY]at hs
  have hsl:s.length=l.b.length:=by rw [hs];simp
  simp only [LU.eq_2,FS,cF]
  by_cases c:l.b.length<=8
  ·have d:decide ((l.b.length:Int)<=8)=true:=AX (by omega)
   obtain⟨b,e,hb⟩:=AN (n:=n) (xs:=s) (by omega) (fun x hx=>by
    rw [hs]at hx
    obtain⟨c,hc,rfl⟩:=Dm.1 hx
    exact(h.2 c hc).name) hn
   simp only [d,cT,e,BJ]
   refine Co (hb.trans ⟨fun g=>⟨c,fun i hi=>hI i hi hi,fun k hk i hi=>?_⟩,fun v k hk=>⟨?_,fun i hi=>?_⟩⟩)
   ·have:=(g k (by omega)).2 i hi
    simpa [hs] using this
   ·have:=(v.cells k (by omega)).name
    simpa [hs] using this
   ·have:=v.names k (by omega) i hi
    simpa [hs] using this
  ·have d:decide ((l.b.length:Int)<=8)=false:=Aa (by omega)
   simp only [d,cF,BJ]
   exact Cb fun v=>c v.few
def gO(l:List Int)(lo hi:Int):Prop:=∀i,i<l.length->lo<=gd l i∧gd l i<=hi
theorem ZP{n:Nat}{l:List Int}{lo hi:Int}(h:l.length<=1048576)(hn:1048577<=n):Ch (gO l lo hi) (Pz n l lo hi):=by
 rw [Pz,Zp,aK]
 obtain⟨r,e,h⟩:=Nd (xs:=l) (L:=fun m i=>IC n l lo hi (fun i7=>(some (-1))) m i) (fun x=>!((decide (x>=lo))&&(decide (x<=hi)))) (by
  intro m i hi
  simp only [IC.eq_2,Ex hi,cT,Ac hi,BJ,Zk,Ld,wT i]) (by
  intro m
  simp only [IC.eq_2,FS,cF]) n (by omega)
 simp only [e,BJ]
 refine Co ?_
 rw [h,List.any_eq_not_all_not,Bool.not_not]
 simp only [Bool.not_not]
 exact Rf
structure UR(w:CW)(s:Int):Prop where
 many:1<=w.b.length∧w.b.length<=8
 res:w.f.length=w.b.length
 cap:w.c.length=w.b.length
 sink:(w.d.length:Int)=s
 root:gd w.b 0= -1∧gd w.f 0=0
 tree:∀i,0<i->i<w.b.length->0<=gd w.b i∧gd w.b i<=(i:Int)-1
 ress:gO w.f 0 1000
 caps:gO w.c 0 500
 sinks:gO w.d 0 ((w.b.length:Int)-1)
def Node(w:CW)(i:Nat):Prop:=(i=0->gd w.b 0= -1∧gd w.f 0=0)∧(0<i->0<=gd w.b i∧gd w.b i<=(i:Int)-1)
theorem Wr1{n:Nat}{w:CW}{s:Int}(h:w.d.length<=1048576)(hn:1048577<=n):Ch (UR w s) (Yf n w s):=by
 rw [Yf]
 refine IZ (fun c=>Cb fun v=>?_) (fun c=>?_)
 ·have:=v.many;have:=v.res;have:=v.cap;have:=v.sink
  simp only [CN,AP,Cp,ne_eq]at c;omega
 ·simp only [BB,AQ,BG]at c
  obtain⟨⟨⟨⟨c1,c2⟩,c3⟩,c4⟩,c5⟩:=c
  refine(HV (L:=fun m i=>Lw n w _ m i) (Q:=gO w.d 0 ((w.b.length:Int)-1)) w.b.length 0 (fun i=>(0<=gd w.c i∧gd w.c i<=500)∧(0<=gd w.f i∧gd w.f i<=1000)∧Node w i) ?_ ?_ n 0 (by omega) (by omega) (by omega) (fun j _ h=>by omega)).iff ⟨fun a=>⟨by omega,by omega,by omega,c5,(a.1 0 (by omega) (by omega)).2.2.1 rfl,fun i h1 h2=>(a.1 i (by omega) h2).2.2.2 h1,fun i hi=>(a.1 i (by omega) (by omega)).2.1,fun i hi=>(a.1 i (by omega) (by omega)).1,a.2⟩,fun v=>⟨fun i _ hi=>⟨v.caps i (by omega),v.ress i (by omega),fun _=>v.root,fun h=>v.tree i h hi⟩,v.sinks⟩⟩
  ·intro m i _ hi
   have w1:wrap .i64 ((i:Int)-1)=(i:Int)-1:=BD (by omega) (by omega)
   simp only [Lw.eq_2,Ex hi,cT,gI (show i<w.b.length by omega),gI (show i<w.f.length by omega),gI (show i<w.c.length by omega),BJ,JA,HY,Do,w1,wT i]
   cases e1:(!(decide (gd w.c i>=0)&&decide (gd w.c i<=500))|| !(decide (gd w.f i>=0)&&decide (gd w.f i<=1000)))with
   |true=>
    rw [cT]
    refine .inr ⟨fun g=>?_,rfl⟩
    simp only [CN,BY,Av,AQ]at e1;omega
   |false=>
    rw [cF]
    simp only [BB,Bw,AD,AP]at e1
    cases e2:((((i:Int)==0)&&((gd w.b i != -1)||(gd w.f i !=0)))||(decide ((i:Int)>0)&& !(decide (gd w.b i>=0)&&decide (gd w.b i<=(i:Int)-1))))with
    |true=>
     rw [cT]
     refine .inr ⟨fun g=>?_,rfl⟩
     obtain⟨_,_,g1,g2⟩:=g
     simp only [CN,BY,Av,AD,AQ,AP,Ai,Cp,ne_eq]at e2
     by_cases z:i=0
     ·subst z;have:=g1 rfl;omega
     ·have:=g2 (by omega);omega
    |false=>
     rw [cF]
     refine .inl ⟨⟨by omega,by omega,?_⟩,rfl⟩
     simp only [BB,Bw,Av,AD,AQ,AP,AG,BG,ne_eq]at e2
     refine⟨fun z=>?_,fun z=>by omega⟩
     subst z;omega
  ·intro m i h1 h2 _
   obtain rfl:i=w.b.length:=by omega
   have w1:wrap .i64 ((w.b.length:Int)-1)=(w.b.length:Int)-1:=BD (by omega) (by omega)
   simp only [Lw.eq_2,FS,cF]
   refine(HV (L:=fun m i=>ML n w _ m i) (Q:=True) w.d.length 0 (fun i=>0<=gd w.d i∧gd w.d i<=(w.b.length:Int)-1) ?_ ?_ n 0 (by omega) (by omega) (by omega) (fun j _ h=>by omega)).iff ⟨fun a i hi=>a.1 i (by omega) hi,fun v=>⟨fun i _ hi=>v i hi,trivial⟩⟩
   ·intro m i _ hi
    simp only [ML.eq_2,Ex hi,cT,gI hi,BJ,JA,w1,wT i]
    cases e:(!(decide (gd w.d i>=0)&&decide (gd w.d i<=(w.b.length:Int)-1)))with
    |true=>refine .inr ⟨fun g=>?_,by trivial⟩;simp only [BY,Av,AQ]at e;omega
    |false=>refine .inl ⟨?_,by trivial⟩;simp only [Bw,AD,AP]at e;omega
   ·intro m i h1 h2 _
    obtain rfl:i=w.d.length:=by omega
    simp only [ML.eq_2,FS,cF]
    exact FJ trivial
theorem yQ{n:Nat}{w:CW}(h1:1<=w.b.length)(h:w.b.length<=8)(h2:w.f.length=w.b.length)(hn:1048577<=n):Ch (∀i,0<=i->i<w.b.length->Node w i) (YB n w):=by
 rw [YB]
 refine(HV (L:=fun m i=>Lg n w _ m i) (Q:=True) w.b.length 0 (fun i=>Node w i) ?_ ?_ n 0 (by omega) (by omega) (by omega) (fun j _ h=>by omega)).iff ⟨fun a=>a.1,fun a=>⟨a,trivial⟩⟩
 ·intro m i _ hi
  have w1:wrap .i64 ((i:Int)-1)=(i:Int)-1:=BD (by omega) (by omega)
  have w0:AL w.f 0=some (gd w.f 0):=gI (i:=0) (by omega)
  simp only [Lg.eq_2,Ex hi,cT,gI hi,w0,BJ,Ld,HY,Do,w1,wT i]
  cases e2:((((i:Int)==0)&&((gd w.b i != -1)||(gd w.f 0 !=0)))||(decide ((i:Int)>0)&& !(decide (gd w.b i>=0)&&decide (gd w.b i<=(i:Int)-1))))with
  |true=>
   rw [cT]
   refine .inr ⟨fun g=>?_,rfl⟩
   obtain⟨g1,g2⟩:=g
   simp only [CN,BY,Av,AD,AQ,AP,Ai,Cp,ne_eq]at e2
   by_cases z:i=0
   ·subst z;have:=g1 rfl;omega
   ·have:=g2 (by omega);omega
  |false=>
   rw [cF]
   refine .inl ⟨?_,rfl⟩
   simp only [BB,Bw,Av,AD,AQ,AP,AG,BG,ne_eq]at e2
   refine⟨fun z=>?_,fun z=>by omega⟩
   subst z;omega
 ·intro m i h1 h2 _
  obtain rfl:i=w.b.length:=by omega
  simp only [Lg.eq_2,FS,cF]
  exact FJ trivial
theorem Ch.and{P Q:Prop}{o:Option Bool}{c:Bool}(hc:c=true↔P)(h:P->Ch Q o):Ch (P∧Q) (cond c o (some false)):=by
 cases c with
 |true=>exact(h (hc.1 rfl)).iff ⟨fun q=>⟨hc.1 rfl,q⟩,fun q=>q.2⟩
 |false=>exact Cb fun q=>by have:=hc.2 q.1;cases this
theorem Ch.ab{P R:Prop}{o:Option Bool}{f:Bool->Option Bool}(h:Ch P o)(k:∀c:Bool,(c=true↔P)->Ch R (f c)):Ch R (Option.bind o f):=by
 obtain⟨b,rfl,h⟩:=h
 exact k b h
theorem SA{o:Option Bool}:(Option.bind o fun r=>some r)=o:=by cases o<;>rfl
theorem Wr2{n:Nat}{w:CW}{s:Int}(h:w.d.length<=1048576)(hr:w.f.length<=1048576)(hc:w.c.length<=1048576)(hp:w.b.length<=1048576)(hn:1048577<=n):Ch (UR w s) (ZU n w s):=by
 have w1:wrap .i64 ((w.b.length:Int)-1)=(w.b.length:Int)-1:=BD (by omega) (by omega)
 rw [ZU]
 simp only [RM,Ld,BJ,w1,Do,SA]
 refine Ch.ab (Ch.and (P:=(1<=w.b.length∧w.b.length<=8)∧w.f.length=w.b.length∧w.c.length=w.b.length) (Q:=∀i,0<=i->i<w.b.length->Node w i) ?_ fun p=>yQ p.1.1 p.1.2 p.2.1 hn) fun c1 e1=>?_
 ·simp only [AD,AP,Ai];omega
 refine Ch.ab (Ch.and e1 fun _=>ZP hr hn) fun c2 e2=>?_
 refine Ch.ab (Ch.and e2 fun _=>ZP hc hn) fun c3 e3=>?_
 refine(Ch.and (P:=(((((1<=w.b.length∧w.b.length<=8)∧w.f.length=w.b.length∧w.c.length=w.b.length)∧∀i,0<=i->i<w.b.length->Node w i)∧gO w.f 0 1000)∧gO w.c 0 500)∧(w.d.length:Int)=s) ?_ fun _=>ZP h hn).iff ⟨fun⟨⟨⟨⟨⟨⟨a,b,c⟩,t⟩,r⟩,k⟩,s1⟩,s2⟩=>⟨a,b,c,s1,(t 0 (by omega) (by omega)).1 rfl,fun i h1 h2=>(t i (by omega) h2).2 h1,r,k,s2⟩,fun v=>⟨⟨⟨⟨⟨⟨v.many,v.res,v.cap⟩,fun i _ hi=>⟨fun _=>v.root,fun h=>v.tree i h hi⟩⟩,v.ress⟩,v.caps⟩,v.sink⟩,v.sinks⟩⟩
 rw [AD,e3,Ai]
def Kv(t:List Int)(q:Int):List Int:=t.set q.toNat (gd t q.toNat+1)
def NE(x:BI):Int:=gd x.c (x.c.length-1)
def cI(t:List Int)(x:BI):List Int:=Kv t (NE x)
def cP(t:List Int)(p:DK):List Int:=if p.b=1 then Kv t p.c else t
def drv(d:Ae):List Int:=d.d.foldl cP (d.b.foldl cI (List.replicate d.c.length 0))
structure OF(l:BT)(d:Ae)(x:BI):Prop where
 cell:0<=x.b∧x.b<=(l.b.length:Int)-1
 pins:∀c,AL l.b x.b=some c->x.c.length=c.d.length
 nets:gO x.c 0 ((d.c.length:Int)-1)
structure QY(d:Ae)(p:DK):Prop where
 dir:p.b=1∨p.b=2
 net:0<=p.c∧p.c<=(d.c.length:Int)-1
structure Eo(l:BT)(d:Ae):Prop where
 lib:Ub l
 few:d.b.length<=14∧d.c.length<=30∧d.d.length<=8
 inst:∀x∈d.b,OF l d x
 port:∀p∈d.d,QY d p
 ni:Ia (d.b.map (·.f))
 np:Ia (d.d.map (·.f))
 nn:Ia d.c
 one:∀i,i<d.c.length->gd (drv d) i=1
structure cK(d:Ae):Prop where
 inst:d.b.length<=1048576∧∀x∈d.b,x.f.size<=1048576∧x.c.length<=1048576
 nets:d.c.length<=1048576∧∀x∈d.c,x.size<=1048576
 ports:d.d.length<=1048576∧∀p∈d.d,p.f.size<=1048576
theorem OF.long{l:BT}{d:Ae}{x:BI}(v:OF l d x)(hl:Ub l):2<=x.c.length∧x.c.length<=5:=by
 obtain⟨c,e,hc⟩:=Dx (xs:=l.b) v.cell.1 (by have:=v.cell.2;omega)
 have h:=v.pins c e
 obtain⟨h1,h2⟩:=AK.1 hc
 have:=(hl.cells _ h1).pins.few
 rw [h2]at this;omega
theorem OF.last{l:BT}{d:Ae}{x:BI}(v:OF l d x)(hl:Ub l):0<=NE x∧NE x<d.c.length:=by
 have:=v.long hl
 have:=v.nets (x.c.length-1) (by omega)
 unfold NE;omega
theorem LV{α:Type}{xs:List α}(nm:α->ByteArray){L:Nat->List ByteArray->Int->Option Bool}{k:List ByteArray->Option Bool}(hl:xs.length<=1048576)
 (hs:∀(m i:Nat) (h:i<xs.length) (s:List ByteArray),L (m+1) s (i:Int)=Option.bind (De s [nm xs[i]] 16) fun z=>L m z ((i+1:Nat):Int))
 (he:∀(m:Nat) (s:List ByteArray),L (m+1) s (xs.length:Int)=k s) (m:Nat) (hm:xs.length<m):L m [] 0=k (xs.map nm):=by
 refine loop (L:=fun m i s=>L m s i) xs.length (fun i s=>s=(xs.take i).map nm) (fun o=>o=k (xs.map nm)) ?_ ?_ m 0 [] (by omega) (by omega) (by simp)
 ·intro m i s hi e
  refine .inl ⟨s++[nm xs[i]],?_,?_⟩
  ·rw [e,Bf hi,FG];rfl
  ·have:s.length=i:=by rw [e];simp;omega
   show L (m+1) s (i:Int)=_
   rw [hs m i hi,CC (by simp;omega) (by omega),BJ]
 ·intro m s e
  rw [CY]at e
  show L (m+1) s (xs.length:Int)=_
  rw [he,e]
def XX(N B:Nat)(t:List Int):Prop:=t.length=N∧∀j,0<=gd t j∧gd t j<=B
theorem XX.bump{N B:Nat}{t:List Int}{q:Int}(h:XX N B t)(h0:0<=q)(h1:q<N):XX N (B+1) (Kv t q):=by
 refine⟨by unfold Kv;simpa using h.1,fun j=>?_⟩
 unfold Kv
 rw [RK (by have:=h.1;omega)]
 have:=h.2 j;have:=h.2 q.toNat
 split<;>omega
theorem XX.up{N B:Nat}{t:List Int}(h:XX N B t):XX N (B+1) t:=⟨h.1,fun j=>by have:=h.2 j;omega⟩
theorem XX.step{N B:Nat}{t:List Int}{q:Int}(h:XX N B t)(h0:0<=q)(h1:q<N)(hB:B<=1048576):AL t q=some (gd t q.toNat)∧t.set q.toNat (wrap .i64 (gd t q.toNat+1))=Kv t q:=by
 refine⟨WM h0 (by rw [h.1];exact h1),?_⟩
 have:=h.2 q.toNat
 rw [BD (by omega) (by omega)];rfl
theorem Ok{α σ:Type}{f:σ->α->σ}{xs:List α}{i:Nat}{s:σ}(h:i<xs.length):(xs.take (i+1)).foldl f s=f ((xs.take i).foldl f s) xs[i]:=by
 rw [Bf h,List.foldl_append];rfl
theorem Pa1{n:Nat}{l:BT}{d:Ae}(hl:Ub l)(h:cK d)(hn:1048577<=n):Ch ((∀x∈d.b,OF l d x)∧∀p∈d.d,QY d p) (sX n l d):=by
 have hi0:=h.inst.1;have hp0:=h.ports.1;have hn0:=h.nets.1;have hl0:=hl.few
 have wN:wrap .i64 ((d.c.length:Int)-1)=(d.c.length:Int)-1:=BD (by omega) (by omega)
 have wL:wrap .i64 ((l.b.length:Int)-1)=(l.b.length:Int)-1:=BD (by omega) (by omega)
 rw [sX]
 refine(HV (L:=fun m i=>Kg n l d _ m i) (Q:=∀p∈d.d,QY d p) d.b.length 0 (fun i=>∀(hi:i<d.b.length),OF l d d.b[i]) ?_ ?_ n 0 (by omega) (by omega) (by omega) (fun j _ h=>by omega)).iff ⟨fun a=>⟨fun x hx=>?_,a.2⟩,fun a=>⟨fun i _ _ hi=>a.1 _ (AI hi),a.2⟩⟩
 ·intro m i _ hi
  simp only [Kg.eq_2,Ex hi,cT,Ac hi,BJ,JA,wL,wT i]
  by_cases c1:0<=d.b[i].b∧d.b[i].b<=(l.b.length:Int)-1
  ·obtain⟨c,ec,hc⟩:=Dx (xs:=l.b) c1.1 (by omega)
   have d1:(decide (d.b[i].b>=0)&&decide (d.b[i].b<=(l.b.length:Int)-1))=true:=by simp only [AD,AP];omega
   simp only [d1,Al,cF,ec,BJ]
   by_cases c2:d.b[i].c.length=c.d.length
   ·have d2:((d.b[i].c.length:Int) !=(c.d.length:Int))=false:=by rw [BG];omega
    simp only [d2,cF]
    have hnl:=(h.inst.2 _ (AI hi)).2
    have key:NV n d d.b[i] (fun i75=>Kg n l d (fun i25=>KZ n d (fun i30=>some true) n 0) m ((i+1:Nat):Int)) n 0=cond (d.b[i].c.all (fun k=>decide (k>=0)&&decide (k<=(d.c.length:Int)-1))) (Kg n l d (fun i25=>KZ n d (fun i30=>some true) n 0) m ((i+1:Nat):Int)) (some false):=by
     refine RJ (xs:=d.b[i].c) (L:=fun q j=>NV n d d.b[i] (fun i75=>Kg n l d (fun i25=>KZ n d (fun i30=>some true) n 0) m ((i+1:Nat):Int)) q j) _ ?_ ?_ n (by omega)
     ·intro q j hj
      simp only [NV.eq_2,Ex hj,cT,Ac hj,BJ,JA,wN,wT j]
      cases(decide (d.b[i].c[j]>=0)&&decide (d.b[i].c[j]<=(d.c.length:Int)-1))<;>rfl
     ·intro q
      simp only [NV.eq_2,FS,cF]
    rw [key]
    cases ha:d.b[i].c.all (fun k=>decide (k>=0)&&decide (k<=(d.c.length:Int)-1))with
    |true=>
     rw [cT]
     exact .inl ⟨fun _=>⟨c1,fun c' e'=>(by rw [ec]at e';cases e';exact c2),Rf.1 ha⟩,rfl⟩
    |false=>
     rw [cF]
     exact .inr ⟨fun g=>(by have:=Rf.2 (g hi).nets;rw [ha]at this;cases this),rfl⟩
   ·have d2:((d.b[i].c.length:Int) !=(c.d.length:Int))=true:=by rw [Cp];omega
    simp only [d2,cT]
    exact .inr ⟨fun g=>c2 ((g hi).pins c ec),by trivial⟩
  ·have d1:(decide (d.b[i].b>=0)&&decide (d.b[i].b<=(l.b.length:Int)-1))=false:=by rw [Av,AQ,AQ];omega
   simp only [d1,BM,cT,BJ]
   exact .inr ⟨fun g=>c1 (g hi).cell,by trivial⟩
 ·intro m i h1 h2 _
  obtain rfl:i=d.b.length:=by omega
  simp only [Kg.eq_2,FS,cF]
  refine(HV (L:=fun m i=>KZ n d _ m i) (Q:=True) d.d.length 0 (fun i=>∀(hi:i<d.d.length),QY d d.d[i]) ?_ ?_ n 0 (by omega) (by omega) (by omega) (fun j _ h=>by omega)).iff ⟨fun a p hp=>?_,fun a=>⟨fun i _ _ hi=>a _ (AI hi),trivial⟩⟩
  ·intro m i _ hi
   simp only [KZ.eq_2,Ex hi,cT,Ac hi,BJ,JA,wN,HY,wT i]
   cases e1:(!(decide (d.d[i].b>=1)&&decide (d.d[i].b<=2))|| !(decide (d.d[i].c>=0)&&decide (d.d[i].c<=(d.c.length:Int)-1)))with
   |true=>
    rw [cT]
    refine .inr ⟨fun g=>?_,rfl⟩
    have:=(g hi).dir;have:=(g hi).net
    simp only [CN,BY,Av,AQ]at e1;omega
   |false=>
    rw [cF]
    simp only [BB,Bw,AD,AP]at e1
    exact .inl ⟨fun _=>⟨by omega,by omega⟩,rfl⟩
  ·intro m i h1 h2 _
   obtain rfl:i=d.d.length:=by omega
   simp only [KZ.eq_2,FS,cF]
   exact FJ trivial
  ·obtain⟨j,hj,rfl⟩:=Bs hp
   exact a.1 j (by omega) hj hj
 ·obtain⟨j,hj,rfl⟩:=Bs hx
  exact a.1 j (by omega) hj hj
theorem Dg1{n:Nat}{l:BT}{d:Ae}(h:Vt l)(hd:cK d)(hn:1048577<=n):Ch (Eo l d) (uP n l d):=by
 have hi0:=hd.inst.1;have hp0:=hd.ports.1;have hn0:=hd.nets.1
 rw [uP]
 refine(Lb1 h hn).bind (fun vl=>?_) (fun vl=>?_)
 ·simp only [Al,DG]
  by_cases c:(d.b.length<=14∧d.c.length<=30)∧d.d.length<=8
  ·have e:(decide ((d.b.length:Int)>14)||decide ((d.c.length:Int)>30)||decide ((d.d.length:Int)>8))=false:=by simp only [BB,AQ];omega
   simp only [e,cF]
   obtain⟨b,eb,hb⟩:=Pa1 (n:=n) vl hd hn
   rw [eb,BJ,BJ]
   cases b with
   |false=>
    simp only [BM,cT]
    exact Cb fun v=>by have:=hb.2 ⟨v.inst,v.port⟩;cases this
   |true=>
    obtain⟨v1,v2⟩:=hb.1 rfl
    simp only [Al,cF]
    rw [LV (xs:=d.b) (·.f) (L:=fun m s i=>Od d _ m s i) (k:=fun s=>Mq d _ n [] 0) hi0 (by
     intro m i hi s
     simp only [Od.eq_2,Ex hi,cT,Ac hi,BJ,wT i]) (by
     intro m s
     simp only [Od.eq_2,FS,cF];rfl) n (by omega)]
    rw [LV (xs:=d.d) (·.f) (L:=fun m s i=>Mq d _ m s i) hp0 (by
     intro m i hi s
     simp only [Mq.eq_2,Ex hi,cT,Ac hi,BJ,wT i]) (by
     intro m s
     simp only [Mq.eq_2,FS,cF];rfl) n (by omega)]
    obtain⟨b1,e1,h1⟩:=lE (n:=n) (xs:=d.b.map (·.f)) (by simpa using hi0) (fun x hx=>by obtain⟨y,hy,rfl⟩:=Dm.1 hx;exact(hd.inst.2 y hy).1) hn
    obtain⟨b2,e2,h2⟩:=lE (n:=n) (xs:=d.d.map (·.f)) (by simpa using hp0) (fun x hx=>by obtain⟨y,hy,rfl⟩:=Dm.1 hx;exact hd.ports.2 y hy) hn
    obtain⟨b3,e3,h3⟩:=lE (n:=n) (xs:=d.c) hn0 hd.nets.2 hn
    simp only [e1,e2,e3,BJ,HY]
    cases eb:((!b1|| !b2)|| !b3)with
    |true=>
     rw [cT]
     refine Cb fun v=>?_
     have:=h1.2 v.ni;have:=h2.2 v.np;have:=h3.2 v.nn
     subst b1 b2 b3;cases eb
    |false=>
     rw [cF]
     simp only [BB,Bw]at eb
     obtain⟨⟨rfl,rfl⟩,rfl⟩:=eb
     rw [IH (by omega) (by omega),BJ]
     have k1:=Sj (xs:=d.b) (L:=fun m i s=>PD d (fun i149 l151=>KW d (fun i155 l157=>JK l157 (fun i161=>some true) n 0) n 0 l151) m i s) (k:=fun s=>KW d (fun i155 l157=>JK l157 (fun i161=>some true) n 0) n 0 s) cI (fun i s=>XX d.c.length i s) (by
      intro m i hi s hs
      have hv:=v1 _ (AI hi)
      have hv2:=hv.long vl
      obtain⟨q0,q1⟩:=hv.last vl
      obtain⟨g1,g2⟩:=hs.step q0 q1 (by omega)
      have wx:wrap .i64 ((d.b[i].c.length:Int)-1)=((d.b[i].c.length-1:Nat):Int):=by rw [BD (by omega) (by omega)];omega
      refine⟨?_,hs.bump q0 q1⟩
      simp only [PD.eq_2,Ex hi,cT,Ac hi,BJ,wx,gI (show d.b[i].c.length-1<d.b[i].c.length by omega),wT i]
      rw [show gd d.b[i].c (d.b[i].c.length-1)=NE d.b[i]from rfl,g1,BJ,BJ,g2];rfl) (by
      intro m s _
      simp only [PD.eq_2,FS,cF]) n (List.replicate d.c.length 0) ⟨by simp,fun j=>by rw [Rg];omega⟩ (by omega)
     rw [k1.1]
     have k2:=Sj (xs:=d.d) (L:=fun m i s=>KW d (fun i155 l157=>JK l157 (fun i161=>some true) n 0) m i s) (k:=fun s=>JK s (fun i161=>some true) n 0) cP (fun i s=>XX d.c.length (d.b.length+i) s) (by
      intro m i hi s hs
      have hv:=v2 _ (AI hi)
      obtain⟨g1,g2⟩:=hs.step hv.net.1 (by have:=hv.net.2;omega) (by omega)
      simp only [KW.eq_2,Ex hi,cT,Ac hi,BJ,wT i,g1,g2]
      by_cases c:d.d[i].b=1
      ·have e:(d.d[i].b==1)=true:=Ai.2 c
       have e':cP s d.d[i]=Kv s d.d[i].c:=BE c
       rw [e,cT,e']
       exact⟨rfl,hs.bump hv.net.1 (by have:=hv.net.2;omega)⟩
      ·have e:(d.d[i].b==1)=false:=AG.2 c
       have e':cP s d.d[i]=s:=BV c
       rw [e,cF,e']
       exact⟨rfl,hs.up⟩) (by
      intro m s _
      simp only [KW.eq_2,FS,cF]) n _ k1.2 (by omega)
     rw [k2.1]
     show Ch _ (JK (drv d) (fun i161=>some true) n 0)
     have hlen:(drv d).length=d.c.length:=k2.2.1
     refine(HV (L:=fun m i=>JK (drv d) (fun i161=>some true) m i) (Q:=True) d.c.length 0 (fun i=>gd (drv d) i=1) ?_ ?_ n 0 (by omega) (by omega) (by omega) (fun j _ h=>by omega)).iff ⟨fun a=>⟨vl,⟨c.1.1,c.1.2,c.2⟩,v1,v2,h1.1 rfl,h2.1 rfl,h3.1 rfl,fun i hi=>a.1 i (by omega) hi⟩,fun v=>⟨fun i _ hi=>v.one i hi,trivial⟩⟩
     ·intro m i _ hi
      have hi':i<(drv d).length:=by omega
      simp only [JK.eq_2,Ex hi',cT,gI hi',BJ,wT i]
      by_cases c:gd (drv d) i=1
      ·have e:(gd (drv d) i !=1)=false:=BG.2 c
       rw [e,cF];exact .inl ⟨c,rfl⟩
      ·have e:(gd (drv d) i !=1)=true:=Cp.2 c
       rw [e,cT];exact .inr ⟨c,rfl⟩
     ·intro m i q1 q2 _
      obtain rfl:i=d.c.length:=by omega
      rw [←hlen]
      simp only [JK.eq_2,FS,cF]
      exact FJ trivial
  ·have e:(decide ((d.b.length:Int)>14)||decide ((d.c.length:Int)>30)||decide ((d.d.length:Int)>8))=true:=by simp only [CN,AP];omega
   simp only [e,cT,BJ]
   exact Cb fun v=>c ⟨⟨v.few.1,v.few.2.1⟩,v.few.2.2⟩
 ·simp only [BM,Fb,cT,BJ]
  exact Cb fun v=>vl v.lib
theorem Hn2{n:Nat}{d:Ae}(hd:cK d)(hn:1048577<=n):Ch (((((d.b.length<=14∧d.c.length<=30)∧d.d.length<=8)∧Ia (d.b.map (·.f)))∧Ia d.c)∧Ia (d.d.map (·.f))) (qU n d):=by
 have hi0:=hd.inst.1;have hp0:=hd.ports.1;have hn0:=hd.nets.1
 rw [qU]
 rw [LV (xs:=d.b) (·.f) (L:=fun m s i=>OZ d _ m s i) (k:=fun s=>Mo d _ n [] 0) hi0 (by
  intro m i hi s
  simp only [OZ.eq_2,Ex hi,cT,Ac hi,BJ,wT i]) (by
  intro m s
  simp only [OZ.eq_2,FS,cF];rfl) n (by omega)]
 rw [LV (xs:=d.d) (·.f) (L:=fun m s i=>Mo d _ m s i) hp0 (by
  intro m i hi s
  simp only [Mo.eq_2,Ex hi,cT,Ac hi,BJ,wT i]) (by
  intro m s
  simp only [Mo.eq_2,FS,cF];rfl) n (by omega)]
 simp only [SA,CH]
 refine Ch.ab (Ch.and (P:=(d.b.length<=14∧d.c.length<=30)∧d.d.length<=8) (Q:=Ia (d.b.map fun x:BI=>x.f)) ?_ fun _=>AN (xs:=d.b.map fun x:BI=>x.f) (by simpa using hi0) (fun x hx=>by obtain⟨y,hy,rfl⟩:=Dm.1 hx;exact(hd.inst.2 y hy).1) hn) fun c1 e1=>?_
 ·simp only [AD,AP];omega
 refine Ch.ab (Ch.and (Q:=Ia d.c) e1 fun _=>AN hn0 hd.nets.2 hn) fun c2 e2=>?_
 exact Ch.and (Q:=Ia (d.d.map fun x:DK=>x.f)) e2 fun _=>AN (xs:=d.d.map fun x:DK=>x.f) (by simpa using hp0) (fun x hx=>by obtain⟨y,hy,rfl⟩:=Dm.1 hx;exact hd.ports.2 y hy) hn
theorem nN{n:Nat}{d:Ae}{q:Int}(hn0:d.c.length<=1048576):XO n d q=some (decide (q>=0)&&decide (q<=(d.c.length:Int)-1)):=by
 have wN:wrap .i64 ((d.c.length:Int)-1)=(d.c.length:Int)-1:=BD (by omega) (by omega)
 simp only [XO,gK,Ld,BJ,wN]
theorem AcD{n:Nat}{l:BT}{d:Ae}{x:BI}(hl:Ub l)(hn0:d.c.length<=1048576)(hx:x.c.length<=1048576)(hn:1048577<=n):Ch (OF l d x) (ZF n d l x):=by
 have hl0:=hl.few
 have wL:wrap .i64 ((l.b.length:Int)-1)=(l.b.length:Int)-1:=BD (by omega) (by omega)
 rw [ZF]
 simp only [gU,Ld,BJ,wL,SA]
 by_cases c1:0<=x.b∧x.b<=(l.b.length:Int)-1
 ·obtain⟨c,ec,hc⟩:=Dx (xs:=l.b) c1.1 (by omega)
  have d1:(decide (x.b>=0)&&decide (x.b<=(l.b.length:Int)-1))=true:=by simp only [AD,AP];omega
  simp only [d1,cT,ec,BJ]
  by_cases c2:x.c.length=c.d.length
  ·have d2:((x.c.length:Int)==(c.d.length:Int))=true:=by rw [Ai];omega
   simp only [d2,cT,eE,fF]
   obtain⟨r,e,h⟩:=Nd (xs:=x.c) (L:=fun m i=>LW n x.c d (fun i7=>(some (-1))) m i) (fun q=>!((decide (q>=0))&&(decide (q<=(d.c.length:Int)-1)))) (by
    intro m i hi
    simp only [LW.eq_2,Ex hi,cT,Ac hi,BJ,gG,nN hn0,wT i]) (by
    intro m
    simp only [LW.eq_2,FS,cF]) n (by omega)
   simp only [e,BJ]
   refine(Co (P:=gO x.c 0 ((d.c.length:Int)-1)) ?_).iff ⟨fun w=>⟨c1,fun c' e'=>(by rw [ec]at e';cases e';exact c2),w⟩,fun v=>v.nets⟩
   rw [h,List.any_eq_not_all_not,Bool.not_not]
   simp only [Bool.not_not]
   exact Rf
  ·have d2:((x.c.length:Int)==(c.d.length:Int))=false:=by rw [AG];omega
   simp only [d2,cF]
   exact Cb fun v=>c2 (v.pins c ec)
 ·have d1:(decide (x.b>=0)&&decide (x.b<=(l.b.length:Int)-1))=false:=by rw [Av,AQ,AQ];omega
  simp only [d1,cF,BJ]
  exact Cb fun v=>c1 v.cell
theorem Dg2{n:Nat}{l:BT}{d:Ae}(h:Vt l)(hd:cK d)(hn:1048577<=n):Ch (Eo l d) (bT n l d):=by
 have hi0:=hd.inst.1;have hp0:=hd.ports.1;have hn0:=hd.nets.1
 rw [bT];try simp only [jn]
 refine(Lb2 h hn).bind (fun vl=>?_) (fun vl=>?_)
 ·simp only [Al,cF]
  obtain⟨b,eb,hb⟩:=Hn2 (n:=n) hd hn
  rw [eb,BJ,BJ]
  cases b with
  |false=>
   simp only [BM,cT]
   exact Cb fun v=>by have:=hb.2 ⟨⟨⟨⟨⟨v.few.1,v.few.2.1⟩,v.few.2.2⟩,v.ni⟩,v.nn⟩,v.np⟩;cases this
  |true=>
   obtain⟨⟨⟨c,hni⟩,hnn⟩,hnp⟩:=hb.1 rfl
   simp only [Al,cF]
   rw [IH (by omega) (by omega),BJ]
   refine loop (L:=fun m i s=>LI n l d _ m i s) d.b.length (fun i s=>(s=(d.b.take i).foldl cI (List.replicate d.c.length 0)∧XX d.c.length i s)∧∀j (hj:j<d.b.length),j<i->OF l d d.b[j]) (fun o=>Ch (Eo l d) o) ?_ ?_ n 0 _ (by omega) (by omega) ⟨⟨by simp,⟨by simp,fun j=>by rw [Rg];omega⟩⟩,fun j _ h=>by omega⟩
   ·intro m i s hi ⟨⟨hs,hc⟩,hI⟩
    obtain⟨b,eb,hb⟩:=AcD (n:=n) vl hn0 (hd.inst.2 _ (AI hi)).2 hn
    simp only [LI.eq_2,Ex hi,cT,Ac hi,BJ,eb,wT i,jn]
    cases b with
    |false=>
     simp only [BM,cT]
     exact .inr (Cb fun v=>by have:=hb.2 (v.inst _ (AI hi));cases this)
    |true=>
     simp only [Al,cF]
     have hv:=hb.1 rfl
     have hv2:=hv.long vl
     obtain⟨q0,q1⟩:=hv.last vl
     obtain⟨g1,g2⟩:=hc.step q0 q1 (by omega)
     have wx:wrap .i64 ((d.b[i].c.length:Int)-1)=((d.b[i].c.length-1:Nat):Int):=by rw [BD (by omega) (by omega)];omega
     refine .inl ⟨cI s d.b[i],⟨⟨by rw [Ok hi,hs],hc.bump q0 q1⟩,fun j hj hji=>?_⟩,?_⟩
     ·by_cases ej:j=i
      ·subst ej;exact hv
      ·exact hI j hj (by omega)
     ·rw [wx,gI (show d.b[i].c.length-1<d.b[i].c.length by omega),show gd d.b[i].c (d.b[i].c.length-1)=NE d.b[i]from rfl,BJ,g1,BJ,BJ,g2];rfl
   ·intro m s ⟨⟨hs,hc⟩,hI⟩
    rw [CY]at hs
    have v1:∀x∈d.b,OF l d x:=fun x hx=>by obtain⟨j,hj,rfl⟩:=Bs hx;exact hI j hj hj
    simp only [LI.eq_2,FS,cF,jn]
    refine loop (L:=fun m i s=>KE n d _ m i s) d.d.length (fun i s'=>(s'=(d.d.take i).foldl cP s∧XX d.c.length (d.b.length+i) s')∧∀j (hj:j<d.d.length),j<i->QY d d.d[j]) (fun o=>Ch (Eo l d) o) ?_ ?_ n 0 _ (by omega) (by omega) ⟨⟨by simp,hc⟩,fun j _ h=>by omega⟩
    ·intro m i s' hi ⟨⟨hs',hc'⟩,hI'⟩
     simp only [KE.eq_2,Ex hi,cT,Ac hi,BJ,nN hn0,HY,wT i,jn]
     cases e1:(((d.d[i].b !=1)&&(d.d[i].b !=2))|| !(decide (d.d[i].c>=0)&&decide (d.d[i].c<=(d.c.length:Int)-1)))with
     |true=>
      rw [cT]
      refine .inr (Cb fun v=>?_)
      have g:=v.port _ (AI hi)
      have:=g.dir;have:=g.net
      simp only [CN,BY,Av,AD,AQ,Cp,ne_eq]at e1;omega
     |false=>
      rw [cF]
      simp only [BB,Bw,AD,Av,AP,BG]at e1
      have hv:QY d d.d[i]:=⟨e1.1,e1.2⟩
      obtain⟨g1,g2⟩:=hc'.step hv.net.1 (by have:=hv.net.2;omega) (by omega)
      have hV:∀j (hj:j<d.d.length),j<i+1->QY d d.d[j]:=fun j hj hji=>by
       by_cases ej:j=i
       ·subst ej;exact hv
       ·exact hI' j hj (by omega)
      simp only [g1,g2,BJ]
      by_cases c:d.d[i].b=1
      ·have e:(d.d[i].b==1)=true:=Ai.2 c
       have e':cP s' d.d[i]=Kv s' d.d[i].c:=BE c
       rw [e,cT]
       exact .inl ⟨_,⟨⟨by rw [Ok hi,←hs',e'],hc'.bump hv.net.1 (by have:=hv.net.2;omega)⟩,hV⟩,rfl⟩
      ·have e:(d.d[i].b==1)=false:=AG.2 c
       have e':cP s' d.d[i]=s':=BV c
       rw [e,cF]
       exact .inl ⟨_,⟨⟨by rw [Ok hi,←hs',e'],hc'.up⟩,hV⟩,rfl⟩
    ·intro m s' ⟨⟨hs',hc'⟩,hI'⟩
     rw [CY,hs]at hs'
     have hs':s'=drv d:=hs'
     have v2:∀p∈d.d,QY d p:=fun x hx=>by obtain⟨j,hj,rfl⟩:=Bs hx;exact hI' j hj hj
     simp only [KE.eq_2,FS,cF,eC,eV,jn]
     have hl':=hc'.1
     obtain⟨r,e,h⟩:=Nd (xs:=s') (L:=fun m i=>MG n s' (fun i7=>(some (-1))) m i) (fun q=>q !=1) (by
      intro m i hi
      simp only [MG.eq_2,Ex hi,cT,Ac hi,BJ,gY,wT i]) (by
      intro m
      simp only [MG.eq_2,FS,cF]) n (by omega)
     simp only [e,BJ]
     refine Co ?_
     rw [h,BY,List.any_eq_false]
     refine⟨fun a=>⟨vl,⟨c.1.1,c.1.2,c.2⟩,v1,v2,hni,hnp,hnn,fun i hi=>?_⟩,fun v x hx=>?_⟩
     ·have:=a s'[i] (AI (by omega))
      rw [←hs',PA (AH (show i<s'.length by omega))]
      simpa using this
     ·obtain⟨j,hj,rfl⟩:=Bs hx
      have:=v.one j (by omega)
      rw [←hs',PA (AH hj)]at this
      simp [this]
 ·simp only [BM,cT,BJ]
  exact Cb fun v=>vl v.lib
def HX{α β:Type}(g:Nat->α->List β):Nat->List α->List β
 |_,[]=>[]
 |i,x::xs=>g i x++HX g (i+1) xs
theorem Oh{α β:Type}{g:Nat->α->List β}:∀(xs ys:List α) (i:Nat),HX g i (xs++ys)=HX g i xs++HX g (i+xs.length) ys
 |[],ys,i=>by simp [HX]
 |x::xs,ys,i=>by simp only [List.cons_append,HX,Oh xs ys (i+1),Bl,CM];rw [show i+1+xs.length=i+(xs.length+1) by omega]
theorem aE{α β:Type}{g:Nat->α->List β}{xs:List α}{i:Nat}(h:i<xs.length):HX g 0 (xs.take (i+1))=HX g 0 (xs.take i)++g i xs[i]:=by
 rw [Bf h,Oh]
 simp [HX,Fx (Nat.le_of_lt h)]
theorem HF{α β:Type}{g:Nat->α->List β}{c:Nat}:∀(xs:List α) (i:Nat),(∀j,∀x∈xs,(g j x).length<=c)->(HX g i xs).length<=xs.length*c
 |[],i,_=>by simp [HX]
 |x::xs,i,h=>by
  have h1:=h i x (by simp)
  have h2:=HF xs (i+1) fun j y hy=>h j y (by simp [hy])
  simp only [HX,Bk,CM,CT];omega
theorem LO{α β γ:Type}{g:Nat->α->List β}(f:β->γ):∀(xs:List α) (i:Nat),(HX g i xs).map f=HX (fun i x=>(g i x).map f) i xs
 |[],i=>rfl
 |x::xs,i=>by simp only [HX,FG,LO f xs (i+1)]
theorem FN{α β R:Type}{xs:List α}{L:Nat->List β->Int->Option R}{k:List β->Option R}(g:Nat->α->List β)(c B:Nat)(hg:∀j,∀x∈xs,(g j x).length<=c)(hB:B+xs.length*c<=1048576)
 (hs:∀(m i:Nat) (h:i<xs.length) (s:List β),s.length+c<=1048576->L (m+1) s (i:Int)=L m (s++g i xs[i]) ((i+1:Nat):Int))
 (he:∀(m:Nat) (s:List β),L (m+1) s (xs.length:Int)=k s) (m:Nat) (hm:xs.length<m) (s0:List β) (h0:s0.length<=B):L m s0 0=k (s0++HX g 0 xs):=by
 refine loop (L:=fun m i s=>L m s i) xs.length (fun i s=>s=s0++HX g 0 (xs.take i)) (fun o=>o=k (s0++HX g 0 xs)) ?_ ?_ m 0 s0 (by omega) (by omega) (by simp [HX])
 ·intro m i s hi e
  refine .inl ⟨s++g i xs[i],?_,hs m i hi s ?_⟩
  ·rw [e,aE hi,Bl]
  ·have h1:=HF (g:=g) (c:=c) (xs.take i) 0 fun j y hy=>hg j y (List.mem_of_mem_take hy)
   have h2:(xs.take i).length=i:=by simp;omega
   rw [h2]at h1
   have h3:(i+1)*c<=xs.length*c:=Bh c hi
   rw [CT]at h3
   rw [e,Bk];omega
 ·intro m s e
  rw [CY]at e
  show L (m+1) s (xs.length:Int)=_
  rw [he,e]
def QS(i:Nat)(x:BI):List Bi:=HX (fun j q=>[Bi.mk i j q ((j:Int)==(x.c.length:Int)-1)]) 0 x.c
def Xk(i:Nat)(p:DK):List Bi:=[Bi.mk (-1) i p.c (p.b==1)]
def pls(d:Ae):List Bi:=HX QS 0 d.b++HX Xk 0 d.d
def Je(p:Bi):CB:=⟨p.c,p.f,p.b,p.d⟩
theorem Qq{i:Nat}{x:BI}(h:x.c.length<=5):(QS i x).length<=5:=by
 have:=HF (c:=1) (g:=fun j q=>[Bi.mk i j q ((j:Int)==(x.c.length:Int)-1)]) x.c 0 fun j q _=>by simp
 unfold QS;omega
theorem Dy{d:Ae}(h:∀x∈d.b,x.c.length<=5)(h1:d.b.length<=14)(h2:d.d.length<=8):(pls d).length<=78:=by
 have a:=HF (c:=5) (g:=QS) d.b 0 fun j q hq=>Qq (h q hq)
 have b:=HF (c:=1) (g:=Xk) d.d 0 fun j q _=>by simp [Xk]
 unfold pls;rw [Bk];omega
theorem bN{n:Nat}{d:Ae}(h:∀x∈d.b,x.c.length<=5)(h1:d.b.length<=14)(h2:d.d.length<=8)(hn:1048577<=n):fK n d=some (pls d):=by
 rw [fK]
 have a:=HF (c:=5) (g:=QS) d.b 0 fun j q hq=>Qq (h q hq)
 rw [FN (xs:=d.b) (L:=fun m s i=>NO n d _ m s i) (k:=fun s=>NT d _ n s 0) QS 5 0 (fun j q hq=>Qq (h q hq)) (by omega) (by
  intro m i hi s hs
  have hx:=h _ (AI hi)
  have wx:wrap .i64 ((d.b[i].c.length:Int)-1)=(d.b[i].c.length:Int)-1:=BD (by omega) (by omega)
  simp only [NO.eq_2,Ex hi,cT,Ac hi,BJ,wT i]
  refine FN (xs:=d.b[i].c) (L:=fun m s j=>Ot (i:Int) d.b[i] _ m s j) (k:=fun s=>NO n d _ m s ((i+1:Nat):Int)) (fun j q=>[Bi.mk i j q ((j:Int)==(d.b[i].c.length:Int)-1)]) 1 s.length (fun j q _=>by simp) (by omega) ?_ ?_ n (by omega) s (by omega)
  ·intro m j hj s hs
   simp only [Ot.eq_2,Ex hj,cT,Ac hj,BJ,wx,wT j]
   rw [CC (by simp;omega) (by omega),BJ]
  ·intro m s
   simp only [Ot.eq_2,FS,cF]) (by
  intro m s
  simp only [NO.eq_2,FS,cF];rfl) n (by omega) [] (by simp)]
 rw [FN (xs:=d.d) (L:=fun m s i=>NT d _ m s i) (k:=fun s=>some s) Xk 1 70 (fun j q _=>by simp [Xk]) (by omega) (by
  intro m i hi s hs
  simp only [NT.eq_2,Ex hi,cT,Ac hi,BJ,wT i]
  rw [CC (by simp;omega) (by omega),BJ];rfl) (by
  intro m s
  simp only [NT.eq_2,FS,cF]) n (by omega) _ (by simp;omega)]
 simp [pls]
theorem Tn{n:Nat}{d:Ae}(h:∀x∈d.b,x.c.length<=5)(h1:d.b.length<=14)(h2:d.d.length<=8)(hn:1048577<=n):XQ n d=some ((pls d).map Je):=by
 rw [XQ]
 have hlI:∀j,∀x∈d.b,((QS j x).map Je).length<=5:=fun j x hx=>by rw [CH];exact Qq (h x hx)
 have a:=HF (c:=5) (g:=fun i x=>(QS i x).map Je) d.b 0 hlI
 rw [FN (xs:=d.b) (L:=fun m s i=>Mh n d _ m s i) (k:=fun s=>NU d _ n s 0) (fun i x=>(QS i x).map Je) 5 0 hlI (by omega) (by
  intro m i hi s hs
  have hx:=h _ (AI hi)
  have wx:wrap .i64 ((d.b[i].c.length:Int)-1)=(d.b[i].c.length:Int)-1:=BD (by omega) (by omega)
  simp only [Mh.eq_2,Ex hi,cT,Ac hi,BJ,wT i]
  rw [QS,LO]
  refine FN (xs:=d.b[i].c) (L:=fun m s j=>Oo (i:Int) d.b[i] _ m s j) (k:=fun s=>Mh n d _ m s ((i+1:Nat):Int)) (fun j q=>[Bi.mk i j q ((j:Int)==(d.b[i].c.length:Int)-1)].map Je) 1 s.length (fun j q _=>by simp) (by omega) ?_ ?_ n (by omega) s (by omega)
  ·intro m j hj s hs
   simp only [Oo.eq_2,Ex hj,cT,Ac hj,BJ,wx,wT j]
   rw [CC (by simp;omega) (by omega),BJ];rfl
  ·intro m s
   simp only [Oo.eq_2,FS,cF]) (by
  intro m s
  simp only [Mh.eq_2,FS,cF];rfl) n (by omega) [] (by simp)]
 rw [FN (xs:=d.d) (L:=fun m s i=>NU d _ m s i) (k:=fun s=>some s) (fun i x=>(Xk i x).map Je) 1 70 (fun j q _=>by simp [Xk]) (by omega) (by
  intro m i hi s hs
  simp only [NU.eq_2,Ex hi,cT,Ac hi,BJ,wT i]
  rw [CC (by simp;omega) (by omega),BJ];rfl) (by
  intro m s
  simp only [NU.eq_2,FS,cF]) n (by omega) _ (by simp;omega)]
 simp [pls,LO]
def JO(q:Int)(p:Bi):Bool:=p.b==q&& !p.d
def snk(d:Ae)(q:Int):Nat:=(pls d).countP (JO q)
structure DA(b:AJ):Prop where
 design:Eo b.d b.b
 many:b.c.length=b.b.c.length
 wire:∀i (h:i<b.c.length),UR b.c[i] (snk b.b i)
def SMW(w:CW):Prop:=((w.b.length<=1048576∧w.f.length<=1048576)∧w.c.length<=1048576)∧w.d.length<=1048576
structure Tj(b:AJ):Prop where
 lib:Vt b.d
 design:cK b.b
 wires:b.c.length<=1048576∧∀w∈b.c,SMW w
theorem Eo.short{l:BT}{d:Ae}(v:Eo l d):∀x∈d.b,x.c.length<=5:=fun x hx=>((v.inst x hx).long v.lib).2
theorem FK{α β:Type}{g:Nat->α->List β}{Q:β->Prop}:∀(xs:List α) (i:Nat),(∀j (h:j<xs.length),∀y∈g (i+j) xs[j],Q y)->∀y∈HX g i xs,Q y
 |[],i,_,y,hy=>by simp [HX]at hy
 |x::xs,i,h,y,hy=>by
  simp only [HX,BR]at hy
  rcases hy with hy|hy
  ·exact h 0 (by simp) y (by simpa using hy)
  ·refine FK xs (i+1) (fun j hj y hy=>h (j+1) (by simpa using hj) y ?_) y hy
   simpa [show i+1+j=i+(j+1) by omega] using hy
theorem Eo.net{l:BT}{d:Ae}(v:Eo l d):∀p∈pls d,0<=p.b∧p.b<d.c.length:=by
 intro p hp
 simp only [pls,BR]at hp
 rcases hp with hp|hp
 ·refine FK (Q:=fun p:Bi=>0<=p.b∧p.b<d.c.length) d.b 0 (fun j hj y hy=>?_) p hp
  refine FK (Q:=fun p:Bi=>0<=p.b∧p.b<d.c.length) _ 0 (fun k hk z hz=>?_) y hy
  have:=(v.inst _ (AI hj)).nets k hk
  rw [PA (AH hk)]at this
  simp only [As]at hz
  subst hz;show 0<=d.b[j].c[k]∧d.b[j].c[k]<_;omega
 ·refine FK (Q:=fun p:Bi=>0<=p.b∧p.b<d.c.length) d.d 0 (fun j hj y hy=>?_) p hp
  have:=(v.port _ (AI hj)).net
  simp only [Xk,As]at hy
  subst hy;show 0<=d.d[j].c∧d.d[j].c<_;omega
def LL(d:Ae)(q:Int):List Int:=HX (fun i p=>if JO q p=true then [(i:Int)]else []) 0 (pls d)
theorem Iu{d:Ae}{q:Int}:(LL d q).length=snk d q:=by
 have:∀(xs:List Bi) (i:Nat),(HX (fun i p=>if JO q p=true then [(i:Int)]else []) i xs).length=xs.countP (JO q):=by
  intro xs
  induction xs with
  |nil=>intro i;rfl
  |cons x xs ih=>
   intro i
   simp only [HX,Bk,ih,List.countP_cons]
   split<;>simp<;>omega
 exact this _ 0
theorem kT{n:Nat}{l:BT}{d:Ae}(v:Eo l d)(q:Int)(hn:1048577<=n):dF n d q=some (LL d q):=by
 rw [dF,Tn v.short v.few.1 v.few.2.2 hn,BJ]
 have hl:=Dy v.short v.few.1 v.few.2.2
 have e:((pls d).map Je).length=(pls d).length:=by simp
 have:=FN (xs:=(pls d).map Je) (L:=fun m s i=>Jh q ((pls d).map Je) (fun l38 i42=>some l38) m s i) (k:=fun s=>some s) (fun i p=>if (p.b==q&& !p.d)=true then [(i:Int)]else []) 1 0 (fun j p _=>by split<;>simp) (by omega) (by
  intro m i hi s hs
  simp only [Jh.eq_2,Ex hi,cT,Ac hi,BJ,Do,wT i]
  cases c:(((pls d).map Je)[i].b==q&& !((pls d).map Je)[i].d)with
  |true=>rw [cT,BE rfl,CC (by simp;omega) (by omega),BJ]
  |false=>rw [cF,BV (by simp),Eb]) (by
  intro m s
  simp only [Jh.eq_2,FS,cF]) n (by omega) [] (by simp)
 rw [this,CX]
 congr 1
 have:∀(xs:List Bi) (i:Nat),HX (fun i (p:CB)=>if (p.b==q&& !p.d)=true then [(i:Int)]else []) i (xs.map Je)=HX (fun i p=>if JO q p=true then [(i:Int)]else []) i xs:=by
  intro xs
  induction xs with
  |nil=>intro i;rfl
  |cons x xs ih=>intro i;simp only [Eh,HX,ih];rfl
 exact this _ 0
theorem nU{n:Nat}{b:AJ}(h:Tj b)(hn:1048577<=n):Ch (DA b) (Xq n b):=by
 have hw0:=h.wires.1
 rw [Xq]
 refine(Dg1 h.lib h.design hn).bind (fun v=>?_) (fun v=>?_)
 ·simp only [Al,DG]
  refine IZ (fun c=>Cb fun g=>?_) (fun c=>?_)
  ·have:=g.many;rw [Cp]at c;omega
  ·rw [BG]at c
   refine(HV (L:=fun m i=>OY n b _ m i) (Q:=True) b.c.length 0 (fun i=>∀(hi:i<b.c.length),UR b.c[i] (snk b.b i)) ?_ ?_ n 0 (by omega) (by omega) (by omega) (fun j _ h=>by omega)).iff ⟨fun a=>⟨v,by omega,fun i hi=>a.1 i (by omega) hi hi⟩,fun a=>⟨fun i _ _ hi=>a.wire i hi,trivial⟩⟩
   ·intro m i _ hi
    obtain⟨r,e,hr⟩:=Wr1 (n:=n) (w:=b.c[i]) (s:=(snk b.b i:Int)) (h.wires.2 _ (AI hi)).2 hn
    simp only [OY.eq_2,Ex hi,cT,Ac hi,BJ,kT v _ hn,Iu,e,wT i]
    cases r with
    |true=>exact .inl ⟨fun _=>hr.1 rfl,by trivial⟩
    |false=>exact .inr ⟨fun g=>(by have:=hr.2 (g hi);cases this),by trivial⟩
   ·intro m i h1 h2 _
    obtain rfl:i=b.c.length:=by omega
    simp only [OY.eq_2,FS,cF]
    exact FJ trivial
 ·simp only [BM,Fb,cT]
  exact Cb fun g=>v g.design
theorem Bk2{n:Nat}{b:AJ}(h:Tj b)(hn:1048577<=n):Ch (DA b) (cE n b):=by
 have hw0:=h.wires.1
 rw [cE]
 refine(Dg2 h.lib h.design hn).bind (fun v=>?_) (fun v=>?_)
 ·simp only [Al,DG]
  refine IZ (fun c=>Cb fun g=>?_) (fun c=>?_)
  ·have:=g.many;rw [Cp]at c;omega
  ·rw [BG]at c
   have hl:=Dy v.short v.few.1 v.few.2.2
   rw [IH (by omega) (by omega),BJ,bN v.short v.few.1 v.few.2.2 hn,BJ]
   refine loop (L:=fun m i s=>KM (pls b.b) _ m i s) (pls b.b).length (fun i s=>XX b.c.length i s∧∀q:Nat,q<b.c.length->gd s q=((pls b.b).take i).countP (JO q)) (fun o=>Ch (DA b) o) ?_ ?_ n 0 _ (by omega) (by omega) ⟨⟨by simp,fun j=>by rw [Rg];omega⟩,fun q _=>by rw [Rg];simp⟩
   ·intro m i s hi ⟨hc,hs⟩
    have hp:=v.net _ (AI hi)
    obtain⟨g1,g2⟩:=hc.step hp.1 (by omega) (by omega)
    simp only [KM.eq_2,Ex hi,cT,Ac hi,BJ,g1,g2,wT i]
    cases hd:(pls b.b)[i].d with
    |true=>
     simp only [Al,cF]
     refine .inl ⟨s,⟨hc.up,fun q hq=>?_⟩,rfl⟩
     rw [hs q hq,Bf hi,DV]
     simp [JO,hd]
    |false=>
     simp only [BM,cT]
     refine .inl ⟨_,⟨hc.bump hp.1 (by omega),fun q hq=>?_⟩,rfl⟩
     rw [Bf hi,DV]
     unfold Kv
     rw [RK (by have:=hc.1;omega)]
     by_cases e:(pls b.b)[i].b.toNat=q
     ·have e2:(pls b.b)[i].b=(q:Int):=by omega
      rw [BE e,e,hs q hq]
      simp [JO,hd,e2]
     ·have e2:¬(pls b.b)[i].b=(q:Int):=by omega
      rw [BV e,hs q hq]
      simp [JO,hd,e2]
   ·intro m s ⟨hc,hs⟩
    simp only [KM.eq_2,FS,cF]
    refine(HV (L:=fun m i=>Lv n b s _ m i) (Q:=True) b.c.length 0 (fun i=>∀(hi:i<b.c.length),UR b.c[i] (snk b.b i)) ?_ ?_ n 0 (by omega) (by omega) (by omega) (fun j _ h=>by omega)).iff ⟨fun a=>⟨v,by omega,fun i hi=>a.1 i (by omega) hi hi⟩,fun a=>⟨fun i _ _ hi=>a.wire i hi,trivial⟩⟩
    ·intro m i _ hi
     have hw:=h.wires.2 _ (AI hi)
     obtain⟨r,e,hr⟩:=Wr2 (n:=n) (w:=b.c[i]) (s:=(snk b.b i:Int)) hw.2 hw.1.1.2 hw.1.2 hw.1.1.1 hn
     have hg:gd s i=(snk b.b i:Int):=by rw [hs i hi,CY];rfl
     simp only [Lv.eq_2,Ex hi,cT,Ac hi,gI (show i<s.length by rw [hc.1];exact hi),hg,BJ,e,wT i]
     cases r with
     |true=>exact .inl ⟨fun _=>hr.1 rfl,by trivial⟩
     |false=>exact .inr ⟨fun g=>(by have:=hr.2 (g hi);cases this),by trivial⟩
    ·intro m i h1 h2 _
     obtain rfl:i=b.c.length:=by omega
     simp only [Lv.eq_2,FS,cF]
     exact FJ trivial
 ·simp only [BM,Fb,cT]
  exact Cb fun g=>v g.design
theorem Ii{σ R:Type}{Q:R->Prop}{L:Nat->Int->σ->Option R}(N:Nat)(I:Nat->σ->Prop)
 (hs:∀(m i:Nat) (st:σ),i<N->I i st->∃st',I (i+1) st'∧L (m+1) (i:Int) st=L m ((i+1:Nat):Int) st')
 (he:∀(m:Nat) (st:σ),I N st->CO Q (L (m+1) (N:Int) st)) (m:Nat) (st:σ) (hm:N<m) (h:I 0 st):CO Q (L m 0 st):=
 loop N I (CO Q) (fun m i st a b=>.inl (hs m i st a b)) he m 0 st (by omega) (by omega) h
theorem Sl{σ R:Type}{Q:R->Prop}{L:Nat->Int->σ->Option R}(s N:Nat)(I:Nat->σ->Prop)
 (hs:∀(m i:Nat) (st:σ),s<=i->i<N->I i st->∃st',I (i+1) st'∧L (m+1) (i:Int) st=L m ((i+1:Nat):Int) st')
 (he:∀(m:Nat) (st:σ),I N st->CO Q (L (m+1) (N:Int) st)) (m:Nat) (st:σ) (hsN:s<=N) (hm:N<m) (h:I s st):CO Q (L m (s:Int) st):=
 loop N (fun i st=>s<=i∧I i st) (CO Q) (fun m i st a b=>by
  obtain⟨st',h1,h2⟩:=hs m i st b.1 a b.2
  exact .inl ⟨st',⟨by have:=b.1;omega,h1⟩,h2⟩) (fun m st h=>he m st h.2) m s st hsN (by omega) ⟨BN _,h⟩
theorem zJ{n:Nat}{l:BT}{d:Ae}(v:Eo l d)(q:Int)(hn:1048577<=n):Ya n d q=some (LL d q):=by
 rw [Ya,bN v.short v.few.1 v.few.2.2 hn,BJ]
 have hl:=Dy v.short v.few.1 v.few.2.2
 have:=FN (xs:=pls d) (L:=fun m s i=>Jv q (pls d) (fun l29 i33=>some l29) m s i) (k:=fun s=>some s) (fun i p=>if JO q p=true then [(i:Int)]else []) 1 0 (fun j p _=>by split<;>simp) (by omega) (by
  intro m i hi s hs
  simp only [Jv.eq_2,Ex hi,cT,Ac hi,BJ,wT i]
  rw [show((pls d)[i].b==q&& !(pls d)[i].d)=JO q (pls d)[i]from rfl]
  cases c:JO q (pls d)[i]with
  |true=>rw [cT,BE rfl,CC (by simp;omega) (by omega),BJ]
  |false=>rw [cF,BV (by simp),Eb]) (by
  intro m s
  simp only [Jv.eq_2,FS,cF]) n (by omega) [] (by simp)
 rw [this,CX];rfl
theorem Pr{d:Ae}{q:Int}:∀x∈LL d q,0<=x∧x<(pls d).length:=by
 refine FK (Q:=fun x:Int=>0<=x∧x<(pls d).length) _ 0 fun j hj y hy=>?_
 split at hy
 ·simp only [Bu,As]at hy;omega
 ·cases hy
theorem Eo.place{l:BT}{d:Ae}(v:Eo l d):∀p∈pls d,0<=p.c->∃x c pin,AL d.b p.c=some x∧AL l.b x.b=some c∧AL c.d p.f=some pin:=by
 intro p hp
 simp only [pls,BR]at hp
 rcases hp with hp|hp
 ·refine FK (Q:=fun p:Bi=>0<=p.c->∃x c pin,AL d.b p.c=some x∧AL l.b x.b=some c∧AL c.d p.f=some pin) d.b 0 (fun j hj y hy=>?_) p hp
  refine FK (Q:=fun p:Bi=>0<=p.c->∃x c pin,AL d.b p.c=some x∧AL l.b x.b=some c∧AL c.d p.f=some pin) _ 0 (fun k hk z hz=>?_) y hy
  have vi:=v.inst _ (AI hj)
  simp only [Bu,As]at hz
  subst hz
  intro _
  obtain⟨c,ec,_⟩:=Dx (xs:=l.b) vi.cell.1 (by have:=vi.cell.2;omega)
  have hc:=vi.pins c ec
  exact⟨_,c,_,Ac hj,ec,Ac (show k<c.d.length by omega)⟩
 ·refine FK (Q:=fun p:Bi=>0<=p.c->∃x c pin,AL d.b p.c=some x∧AL l.b x.b=some c∧AL c.d p.f=some pin) d.d 0 (fun j hj y hy=>?_) p hp
  simp only [Xk,As]at hy
  subst hy;intro h;exact absurd h (by show¬(0:Int)<= -1;decide)
theorem wW{n:Nat}{l:BT}{d:Ae}(v:Eo l d){p:Bi}(hp:p∈pls d):∃r,Yg n d l p=some r:=by
 rw [Yg]
 by_cases c:p.c<0
 ·rw [AX c,cT];exact⟨_,rfl⟩
 ·obtain⟨x,c',pin,e1,e2,e3⟩:=v.place p hp (by omega)
  rw [Aa c,cF,e1,BJ,e2,BJ,e3,BJ];exact⟨_,rfl⟩
theorem HR{t:List Int}{i:Int}(h0:0<=i)(h1:i<t.length):∃x,AL t i=some x:=⟨_,WM h0 h1⟩
theorem Ld2{n:Nat}{b:AJ}(v:DA b){i:Nat}(hi:i<b.c.length)(hn:1048577<=n):CO (fun r=>r.length=b.c[i].b.length) (oP n b (i:Int)):=by
 have vd:=v.design
 have vw:=v.wire i hi
 have hm:=vw.many
 have hP:=vw.cap
 have hl:=Dy vd.short vd.few.1 vd.few.2.2
 rw [oP,Ac hi,BJ,gW,CC (by simp;omega) (by omega),BJ,BJ,bN vd.short vd.few.1 vd.few.2.2 hn,BJ,zJ vd _ hn,BJ,CX]
 have hsl:(LL b.b (i:Int)).length=b.c[i].d.length:=by rw [Iu];have:=vw.sink;omega
 have hsn:snk b.b (i:Int)<=78:=Ar Cj hl
 have hsn2:=Iu (d:=b.b) (q:=(i:Int))
 refine Ii (L:=fun m j s=>OX n b b.c[i] (pls b.b) (LL b.b (i:Int)) _ m j s) (LL b.b (i:Int)).length (fun _ s=>s.length=b.c[i].b.length) ?_ ?_ n _ (by omega) hP
 ·intro m j s hj hs
  have hj2:j<b.c[i].d.length:=by omega
  have hk:=vw.sinks j hj2
  have hq:=Pr _ (AI hj)
  obtain⟨a,ea⟩:=HR (t:=s) hk.1 (by omega)
  obtain⟨p,ep,hp⟩:=Dx (xs:=pls b.b) hq.1 hq.2
  obtain⟨r,er⟩:=wW (n:=n) vd (CL hp)
  simp only [OX.eq_2,Ex hj,cT,Ac hj,gI hj2,BJ,ea,ep,er,wT j]
  exact⟨_,by simpa using hs,rfl⟩
 ·intro m s hs
  simp only [OX.eq_2,FS,cF]
  have wx:wrap .i64 ((s.length:Int)-1)=((s.length-1:Nat):Int):=by rw [BD (by omega) (by omega)];omega
  rw [wx]
  have key:∀(m k:Nat) (s:List Int),k<b.c[i].b.length->s.length=b.c[i].b.length->k<m->CO (fun r:List Int=>r.length=b.c[i].b.length) (Ol b.c[i] (fun i91 l93=>some l93) m (k:Int) s):=by
   intro m
   induction m with
   |zero=>intro k s _ _ h;omega
   |succ m ih=>
    intro k s hk hs hm
    by_cases c:0<k
    ·have hd:decide ((k:Int)>0)=true:=AX (by omega)
     have ht:=vw.tree k c hk
     obtain⟨a,ea⟩:=HR (t:=s) ht.1 (by omega)
     have wk:wrap .i64 ((k:Int)-1)=((k-1:Nat):Int):=by rw [BD (by omega) (by omega)];omega
     simp only [Ol.eq_2,hd,cT,gI hk,BJ,ea,gI (show k<s.length by omega),wk]
     exact ih (k-1) _ (by omega) (by simpa using hs) (by omega)
    ·have hd:decide ((k:Int)>0)=false:=Aa (by omega)
     simp only [Ol.eq_2,hd,cF]
     exact⟨s,rfl,hs⟩
  exact key n (s.length-1) s (by omega) hs (by omega)
theorem Dl2{n:Nat}{b:AJ}(v:DA b){i:Nat}(hi:i<b.c.length)(hn:1048577<=n):CO (fun r=>r.length=b.c[i].b.length) (Zd n b (i:Int)):=by
 have vw:=v.wire i hi
 have hm:=vw.many
 have hR:=vw.res
 rw [Zd,Ac hi,BJ]
 refine(Ld2 v hi hn).bind fun r e hr=>?_
 rw [IH (by omega) (by omega),BJ]
 refine Sl (L:=fun m j s=>MA b.c[i] r _ m j s) 1 b.c[i].b.length (fun _ s=>s.length=b.c[i].b.length) ?_ ?_ n _ (by omega) (by omega) (by simpa using hr)
 ·intro m j s h1 hj hs
  have ht:=vw.tree j (by omega) hj
  obtain⟨a,ea⟩:=HR (t:=s) ht.1 (by omega)
  simp only [MA.eq_2,Ex (show j<s.length by omega),cT,gI hj,gI (show j<b.c[i].f.length by omega),gI (show j<r.length by omega),gI (show j<s.length by omega),BJ,ea,wT j]
  exact⟨_,by simpa using hs,rfl⟩
 ·intro m s hs
  rw [←hs]
  simp only [MA.eq_2,FS,cF]
  exact⟨s,rfl,rfl⟩
theorem Ex2{n:Nat}{b:AJ}(v:DA b){i:Nat}(hi:i<b.c.length)(hn:1048577<=n):CO (fun _=>True) (Zc n b (i:Int)):=by
 have vw:=v.wire i hi
 have vd:=v.design
 have hl:=Dy vd.short vd.few.1 vd.few.2.2
 have hsn:snk b.b (i:Int)<=78:=Ar Cj hl
 have hsk:=vw.sink
 rw [Zc]
 refine(Dl2 v hi hn).bind fun r e hr=>?_
 rw [Ac hi,BJ]
 refine Ii (L:=fun m j s=>MF r b.c[i] _ m s j) b.c[i].d.length (fun j s=>s.length=j) ?_ ?_ n _ (by omega) rfl
 ·intro m j s hj hs
  have hk:=vw.sinks j hj
  obtain⟨a,ea⟩:=HR (t:=r) hk.1 (by omega)
  refine⟨s++[a],by simp;omega,?_⟩
  simp only [MF.eq_2,Ex hj,cT,gI hj,BJ,ea,wT j]
  rw [CC (by simp;omega) (by omega),BJ]
 ·intro m s hs
  simp only [MF.eq_2,FS,cF]
  exact⟨s,rfl,trivial⟩
theorem Tr2{n:Nat}(a:CJ):CO (fun r:List ET=>r.length<=4) (ZD n a):=by
 rw [ZD]
 repeat' refine BU (fun _=>?_) (fun _=>?_)
 all_goals exact Af (by simp)
theorem Ce2{n:Nat}{b:AJ}(v:DA b){x:BI}(hx:x∈b.b.b)(q:Int)(hn:1048577<=n):CO (fun r:List Ad=>r.length<=32) (pD n b x q):=by
 have vi:=v.design.inst x hx
 obtain⟨c,ec,hc⟩:=Dx (xs:=b.d.b) vi.cell.1 (by have:=vi.cell.2;omega)
 obtain⟨h1,h2⟩:=AK.1 hc
 have few:=(v.design.lib.cells _ h1).few
 rw [h2]at few
 rw [pD,ec,BJ]
 refine Ii (L:=fun m j s=>Kk n q c _ m s j) c.c.length (fun j s=>s.length<=4*j) ?_ ?_ n _ (by omega) (by simp)
 ·intro m j s hj hs
  obtain⟨r,er,hr⟩:=Tr2 (n:=n) c.c[j]
  have key:∃s',s'.length<=4*(j+1)∧NM q (j:Int) c.c[j] r (fun l88 i92=>Kk n q c (fun l46 i50=>some l46) m l88 (wrap .i64 ((j:Int)+1))) n s 0=Kk n q c (fun l46 i50=>some l46) m s' (wrap .i64 ((j:Int)+1)):=by
   refine loop (L:=fun m k s=>NM q (j:Int) c.c[j] r _ m s k) r.length (fun k s=>s.length<=4*j+k) (fun o=>∃s':List Ad,s'.length<=4*(j+1)∧o=Kk n q c (fun l46 i50=>some l46) m s' (wrap .i64 ((j:Int)+1))) ?_ ?_ n 0 s (by omega) (by omega) (by omega)
   ·intro m k s hk hs
    simp only [NM.eq_2,Ex hk,cT,Ac hk,BJ,wT k]
    rw [CC (by simp;omega) (by omega),BJ]
    exact .inl ⟨_,by simp;omega,rfl⟩
   ·intro m s hs
    simp only [NM.eq_2,FS,cF]
    exact⟨s,by omega,rfl⟩
  obtain⟨s',hs',e'⟩:=key
  refine⟨s',hs',?_⟩
  simp only [Kk.eq_2,Ex hj,cT,Ac hj,BJ,er]
  rw [e',wT j]
 ·intro m s hs
  simp only [Kk.eq_2,FS,cF]
  exact⟨s,rfl,by omega⟩
theorem Vw2{n:Nat}{b:AJ}(v:DA b)(hn:1048577<=n):CO (fun r:Cu=>r.c=pls b.b) (tD n b):=by
 have vd:=v.design
 have f1:=vd.few.1;have f2:=vd.few.2.1
 have hl:=Dy vd.short vd.few.1 vd.few.2.2
 have hW:=v.many
 rw [tD,bN vd.short vd.few.1 vd.few.2.2 hn,BJ]
 refine Ii (L:=fun m j (s:Int×List Ad)=>Ox n b _ m s.1 j s.2) b.b.b.length (fun j s=>s.2.length<=32*j) ?_ ?_ n ((0:Int),[]) (by omega) (by simp)
 ·intro m j s hj hs
  obtain⟨r,er,hr⟩:=Ce2 (n:=n) v (AI hj) s.1 hn
  simp only [Ox.eq_2,Ex hj,cT,Ac hj,BJ,er,RM,wT j]
  rw [CC (by omega) (by omega),BJ]
  exact⟨(_,_),by simp;omega,rfl⟩
 ·intro m s hs
  simp only [Ox.eq_2,FS,cF]
  rw [IH (by omega) (by omega),BJ,IH (by omega) (by omega),BJ]
  refine Ii (L:=fun m j (s:List Int×List (List Int))=>Mg (pls b.b) _ m j s.1 s.2) (pls b.b).length (fun j s=>(s.1.length=b.c.length∧s.2.length=b.c.length)∧∀x∈s.2,x.length<=j) ?_ ?_ n (List.replicate b.c.length 0,List.replicate b.c.length []) (by omega) (by simp)
  ·intro m j s hj ⟨⟨h1,h2⟩,h3⟩
   have hp:=vd.net _ (AI hj)
   obtain⟨a,ea⟩:=HR (t:=s.1) hp.1 (by omega)
   obtain⟨y,ey,hy⟩:=Dx (xs:=s.2) hp.1 (by omega)
   have hyl:=h3 y (CL hy)
   simp only [Mg.eq_2,Ex hj,cT,Ac hj,BJ,ea,ey,wT j]
   cases(pls b.b)[j].d with
   |true=>
    rw [cT]
    exact⟨(s.1.set (pls b.b)[j].b.toNat (j:Int),s.2),⟨⟨by simpa using h1,h2⟩,fun x hx=>by have:=h3 x hx;omega⟩,rfl⟩
   |false=>
    rw [cF,CC (by simp;omega) (by omega),BJ]
    refine⟨(s.1,s.2.set (pls b.b)[j].b.toNat (y++[(j:Int)])),⟨⟨h1,by simpa using h2⟩,fun x hx=>?_⟩,rfl⟩
    rcases List.mem_or_eq_of_mem_set hx with h|h
    ·have:=h3 x h;omega
    ·subst h;simp;omega
  ·intro m t ⟨⟨h1,h2⟩,h3⟩
   simp only [Mg.eq_2,FS,cF]
   refine Ii (L:=fun m j (s:(List Ad×List Int)×List Unit)=>Jg n b t.1 t.2 _ m j s.1.1 s.1.2 s.2) b.c.length (fun j u=>(u.1.1.length<=448+156*j∧u.1.2.length=j)∧u.2.length=j) ?_ ?_ n ((s.2,[]),[]) (by omega) (by simp;omega)
   ·intro m j u hj ⟨⟨g1,g2⟩,g3⟩
    obtain⟨r,er,hr⟩:=Ld2 (n:=n) v hj hn
    obtain⟨z,ez,_⟩:=Ex2 (n:=n) v hj hn
    have hm:=(v.wire j hj).many
    have e0:AL r 0=some (gd r 0):=gI (i:=0) (by omega)
    have hj2:j<t.2.length:=by omega
    have hx:=h3 _ (AI hj2)
    simp only [Jg.eq_2,Ex hj,cT,BJ,er,e0,ez,Ac hj2]
    rw [CC (by simp;omega) (by omega),BJ,CC (by simp;omega) (by omega),BJ]
    have key:∃s',s'.length<=448+156*(j+1)∧Mp n t.1 (j:Int) t.2[j] (fun i418 l421=>Jg n b t.1 t.2 (fun i115 l118 l125 l132=>some (Cu.mk b (pls b.b) l118 l125 l132 [])) m (wrap .i64 ((j:Int)+1)) l421 (u.1.2++[gd r 0]) (u.2++List.map (fun _=>()) [z])) n 0 u.1.1=Jg n b t.1 t.2 (fun i115 l118 l125 l132=>some (Cu.mk b (pls b.b) l118 l125 l132 [])) m (wrap .i64 ((j:Int)+1)) s' (u.1.2++[gd r 0]) (u.2++List.map (fun _=>()) [z]):=by
     refine loop (L:=fun m' k s=>Mp n t.1 (j:Int) t.2[j] (fun i418 l421=>Jg n b t.1 t.2 (fun i115 l118 l125 l132=>some (Cu.mk b (pls b.b) l118 l125 l132 [])) m (wrap .i64 ((j:Int)+1)) l421 (u.1.2++[gd r 0]) (u.2++List.map (fun _=>()) [z])) m' k s) t.2[j].length (fun k s=>s.length<=448+156*j+2*k) (fun o=>∃s':List Ad,s'.length<=448+156*(j+1)∧o=Jg n b t.1 t.2 (fun i115 l118 l125 l132=>some (Cu.mk b (pls b.b) l118 l125 l132 [])) m (wrap .i64 ((j:Int)+1)) s' (u.1.2++[gd r 0]) (u.2++List.map (fun _=>()) [z])) ?_ ?_ n 0 u.1.1 (by omega) (by omega) (by omega)
     ·intro m k s hk hs
      refine .inl ?_
      have a1:=gI (l:=t.1) (i:=j) (by omega)
      simp only [Mp.eq_2,Ex hk,cT,gI hk,BJ,wT k]
      obtain⟨n',rfl⟩:∃n',n=n'+3:=⟨n-3,by omega⟩
      have w1:wrap .i64 ((0:Int)+1)=1:=by decide
      have w2:wrap .i64 ((1:Int)+1)=2:=by decide
      rw [Oj.eq_2,show decide ((0:Int)<2)=true from rfl,cT,a1,BJ,CC (by simp;omega) (by omega),BJ,w1,Oj.eq_2,show decide ((1:Int)<2)=true from rfl,cT,a1,BJ,CC (by simp;omega) (by omega),BJ,w2,Oj.eq_2,show decide ((2:Int)<2)=false from rfl,cF]
      exact⟨_,by simp;omega,rfl⟩
     ·intro m s hs
      simp only [Mp.eq_2,FS,cF]
      exact⟨s,by omega,rfl⟩
    obtain⟨s',q1,q2⟩:=key
    rw [q2,wT j]
    exact⟨((_,_),_),⟨⟨q1,by simp;omega⟩,by simp;omega⟩,rfl⟩
   ·intro m u _
    simp only [Jg.eq_2,FS,cF]
    exact⟨_,rfl,rfl⟩
def Em(b:AJ):Int:=2*((pls b.b).length:Int)
theorem US{n:Nat}{b:AJ}(v:DA b)(hn:1048577<=n):SJ n b=some (Em b):=by
 have hl:=Dy v.design.short v.design.few.1 v.design.few.2.2
 rw [SJ,Tn v.design.short v.design.few.1 v.design.few.2.2 hn,BJ,CH,BD (by omega) (by omega)];rfl
theorem yG{n:Nat}{b:AJ}{r:Cu}(v:DA b)(e:r.c=pls b.b):ZT n r=some (Em b):=by
 have hl:=Dy v.design.short v.design.few.1 v.design.few.2.2
 rw [ZT,dV,e,BJ,BD (by omega) (by omega)];rfl
def YH(xs:List Aj)(i:Nat):Int:=gd (xs.map fun t:Aj=>t.c) i
theorem WW{xs:List Aj}{i:Nat}(h:i<xs.length):YH xs i=xs[i].c:=by
 unfold YH;rw [PA (v:=xs[i].c) (by simp [h])]
theorem sN{xs:List Aj}{i:Nat}(hi:i<xs.length)(c:Int)(hl:xs.length<=1048576):(cond (decide ((i:Int)>0)) (Option.bind (AL xs (wrap .i64 ((i:Int)-1))) fun x=>some (decide (x.c>=c))) (some false))=some (decide (0<i∧c<=YH xs (i-1))):=by
 by_cases h:0<i
 ·have hd:decide ((i:Int)>0)=true:=AX (by omega)
  have wk:wrap .i64 ((i:Int)-1)=((i-1:Nat):Int):=by rw [BD (by omega) (by omega)];omega
  rw [hd,cT,wk,Ac (show i-1<xs.length by omega),BJ,WW (show i-1<xs.length by omega)]
  simp [h]
 ·have hd:decide ((i:Int)>0)=false:=Aa (by omega)
  rw [hd,cF];simp [h]
structure uQ(b:AJ)(xs:List Aj)(i:Nat)(t:Aj):Prop where
 node:0<=t.c∧t.c<=Em b-1
 up:¬(0<i∧t.c<=YH xs (i-1))
 early:-1000000000<=t.b.c∧t.b.c<=1000000000
 late:-1000000000<=t.b.b∧t.b.b<=1000000000
theorem Tg1{n:Nat}{b:AJ}{xs:List Aj}(v:DA b)(hl:xs.length<=1048576)(hn:1048577<=n):Ch (∀i (h:i<xs.length),uQ b xs i xs[i]) (Za n b xs):=by
 have hp:=Dy v.design.short v.design.few.1 v.design.few.2.2
 have wN:wrap .i64 (Em b-1)=Em b-1:=BD (by unfold Em;omega) (by unfold Em;omega)
 rw [Za,US v hn,BJ]
 refine(HV (L:=fun m i=>Ln n xs (Em b) _ m i) (Q:=True) xs.length 0 (fun i=>∀(hi:i<xs.length),uQ b xs i xs[i]) ?_ ?_ n 0 (by omega) (by omega) (by omega) (fun j _ h=>by omega)).iff ⟨fun a i hi=>a.1 i (by omega) hi hi,fun a=>⟨fun i _ _ hi=>a i hi,trivial⟩⟩
 ·intro m i _ hi
  simp only [Ln.eq_2,Ex hi,cT,Ac hi,BJ,JA,dO,wN,sN hi _ hl,HY,Do,wT i]
  cases e:((!(decide (xs[i].c>=0)&&decide (xs[i].c<=Em b-1))||decide (0<i∧xs[i].c<=YH xs (i-1)))|| !((decide (xs[i].b.c>= -1000000000)&&decide (xs[i].b.c<=1000000000))&&(decide (xs[i].b.b>= -1000000000)&&decide (xs[i].b.b<=1000000000))))with
  |true=>
   rw [cT]
   refine .inr ⟨fun g=>?_,rfl⟩
   obtain⟨g1,g2,g3,g4⟩:=g hi
   simp only [CN,BY,Av,AQ,AP]at e
   rcases e with (e|e)|e
   ·omega
   ·exact g2 e
   ·omega
  |false=>
   rw [cF]
   simp only [BB,Bw,AD,AQ,AP]at e
   exact .inl ⟨fun _=>⟨by omega,e.1.2,by omega,by omega⟩,rfl⟩
 ·intro m i h1 h2 _
  obtain rfl:i=xs.length:=by omega
  simp only [Ln.eq_2,FS,cF]
  exact FJ trivial
def Tk(s:BF):Bool:=(decide (s.c>= -1000000000)&&decide (s.c<=1000000000))&&(decide (s.b>= -1000000000)&&decide (s.b<=1000000000))
def PT(s:BF):Bool:=Tk s&&decide (s.c<=s.b)
def Ss(s:BF):Bool:=(decide (s.c>=0)&&decide (s.c<=s.b))&&decide (s.b<=1000000)
theorem yN{n:Nat}{s:BF}:UP n s=some (PT s):=by
 simp only [UP,JA,BJ,Do];rfl
theorem sp2{n:Nat}{s:BF}:XK n s=some (PT s):=by
 simp only [XK,Qj,Ld,BJ,Do];rfl
theorem sl1{n:Nat}{s:BF}:Xj n s=some (Ss s):=rfl
theorem sl2{n:Nat}{s:BF}:ZN n s=some (Ss s):=by
 simp only [ZN,sp2,ZR,Ld,BJ,Do]
 congr 1
 rw [Bool.eq_iff_iff]
 simp only [PT,Tk,Ss,AD,AP]
 omega
def UQ(r:Bool)(a s:BF):Bool:=!((!PT a|| !Ss s)||(!r&&(!(a.c==0&&a.b==0)|| !(s.c==0&&s.b==0))))
structure Tl(b:AJ)(x:Au):Prop where
 reached:(x.c.length:Int)=Em b
 arr:(x.b.length:Int)=Em b
 slew:(x.f.length:Int)=Em b
 each:∀i (h:i<x.c.length) (h2:i<x.b.length) (h3:i<x.f.length),UQ x.c[i] x.b[i] x.f[i]=true
theorem Tm1{n:Nat}{b:AJ}{x:Au}(hl:x.c.length<=1048576)(hn:1048577<=n):Ch (Tl b x) (Zt n (Em b) x):=by
 rw [Zt]
 refine IZ (fun c=>Cb fun v=>?_) (fun c=>?_)
 ·have:=v.reached;have:=v.arr;have:=v.slew
  simp only [CN,Cp,ne_eq]at c;omega
 ·simp only [BB,BG]at c
  refine(HV (L:=fun m i=>Lb n x _ m i) (Q:=True) x.c.length 0 (fun i=>∀(h:i<x.c.length) (h2:i<x.b.length) (h3:i<x.f.length),UQ x.c[i] x.b[i] x.f[i]=true) ?_ ?_ n 0 (by omega) (by omega) (by omega) (fun j _ h=>by omega)).iff ⟨fun a=>⟨c.1.1,c.1.2,c.2,fun i h h2 h3=>a.1 i (by omega) h h h2 h3⟩,fun a=>⟨fun i _ _ h h2 h3=>a.each i h h2 h3,trivial⟩⟩
  ·intro m i _ hi
   have hi2:i<x.b.length:=by omega
   have hi3:i<x.f.length:=by omega
   simp only [Lb.eq_2,Ex hi,cT,Ac hi,Ac hi2,Ac hi3,BJ,yN,sl1,HY,Do,wT i]
   cases e:((!PT x.b[i]|| !Ss x.f[i])||(!x.c[i]&&(!(x.b[i].c==0&&x.b[i].b==0)|| !(x.f[i].c==0&&x.f[i].b==0))))with
   |true=>rw [cT];exact .inr ⟨fun g=>(by have:=g hi hi2 hi3;unfold UQ at this;rw [e]at this;cases this),rfl⟩
   |false=>rw [cF];exact .inl ⟨fun _ _ _=>(by unfold UQ;rw [e];rfl),rfl⟩
  ·intro m i h1 h2 _
   obtain rfl:i=x.c.length:=by omega
   simp only [Lb.eq_2,FS,cF]
   exact FJ trivial
theorem Tm2{n:Nat}{b:AJ}{r:Cu}{x:Au}(v:DA b)(hr:r.c=pls b.b)(hl:x.c.length<=1048576)(hn:1048577<=n):Ch (Tl b x) (ZY n r x):=by
 rw [ZY]
 simp only [dY,ZC,yG v hr,BJ,HY]
 refine IZ (fun c=>Cb fun v=>?_) (fun c=>?_)
 ·have:=v.reached;have:=v.arr;have:=v.slew
  simp only [CN,Cp,ne_eq]at c;omega
 ·simp only [BB,BG]at c
  refine(HV (L:=fun m i=>LR n x _ m i) (Q:=True) x.c.length 0 (fun i=>∀(h:i<x.c.length) (h2:i<x.b.length) (h3:i<x.f.length),UQ x.c[i] x.b[i] x.f[i]=true) ?_ ?_ n 0 (by omega) (by omega) (by omega) (fun j _ h=>by omega)).iff ⟨fun a=>⟨c.1.1,c.1.2,c.2,fun i h h2 h3=>a.1 i (by omega) h h h2 h3⟩,fun a=>⟨fun i _ _ h h2 h3=>a.each i h h2 h3,trivial⟩⟩
  ·intro m i _ hi
   have hi2:i<x.b.length:=by omega
   have hi3:i<x.f.length:=by omega
   simp only [LR.eq_2,Ex hi,cT,Ac hi,Ac hi2,Ac hi3,BJ,sp2,sl2,HY,Do,wT i]
   cases e:((!PT x.b[i]|| !Ss x.f[i])||(!x.c[i]&&(!(x.b[i].c==0&&x.b[i].b==0)|| !(x.f[i].c==0&&x.f[i].b==0))))with
   |true=>rw [cT];exact .inr ⟨fun g=>(by have:=g hi hi2 hi3;unfold UQ at this;rw [e]at this;cases this),rfl⟩
   |false=>rw [cF];exact .inl ⟨fun _ _ _=>(by unfold UQ;rw [e];rfl),rfl⟩
  ·intro m i h1 h2 _
   obtain rfl:i=x.c.length:=by omega
   simp only [LR.eq_2,FS,cF]
   exact FJ trivial
theorem iW{σ τ R R':Type}{L:Nat->Int->σ->Option R}{M:Nat->Int->τ->Option R'}(N:Nat)(I:Nat->σ->τ->Prop)(Post:Option R->Option R'->Prop)
 (hs:∀(m i:Nat) (s:σ) (t:τ),i<N->I i s t->∃s' t',I (i+1) s' t'∧L (m+1) (i:Int) s=L m ((i+1:Nat):Int) s'∧M (m+1) (i:Int) t=M m ((i+1:Nat):Int) t')
 (he:∀(m:Nat) (s:σ) (t:τ),I N s t->Post (L (m+1) (N:Int) s) (M (m+1) (N:Int) t)):∀(m i:Nat) (s:σ) (t:τ),i<=N->N-i<m->I i s t->Post (L m (i:Int) s) (M m (i:Int) t)
 |0,i,_,_,_,hm,_=>by omega
 |m+1,i,s,t,hi,hm,h=>by
  by_cases hlt:i<N
  ·obtain⟨s',t',h1,h2,h3⟩:=hs m i s t hlt h
   rw [h2,h3];exact iW N I Post hs he m (i+1) s' t' (by omega) (by omega) h1
  ·obtain rfl:i=N:=by omega
   exact he m s t h
theorem Uv{α β:Type}(h:Nat->α->β):∀(xs:List α) (s j:Nat),(HX (fun j q=>[h j q]) s xs)[j]? =(xs[j]?).map (h (s+j))
 |[],s,j=>by simp [HX]
 |x::xs,s,0=>by simp [HX]
 |x::xs,s,j+1=>by
  have:=Uv h xs (s+1) j
  simp only [HX,List.singleton_append,List.getElem?_cons_succ,this]
  rw [show s+1+j=s+(j+1) by omega]
structure TT{α:Type}(f:α->Bool)(ys:List α)(k:Nat):Prop where
 hit:∃y,ys[k]? =some y∧f y=true
 miss:∀j y,j<k->ys[j]? =some y->f y=false
theorem TT.lt{α:Type}{f:α->Bool}{ys:List α}{k:Nat}(h:TT f ys k):k<ys.length:=by
 obtain⟨y,e,_⟩:=h.hit
 exact(AK.1 e).1
def JS(d:Ae)(i:Nat):Nat:=(HX QS 0 (d.b.take i)).length
def Vd(i q:Int)(p:Bi):Bool:=(p.c==i)&&(p.f==q)
theorem fW{d:Ae}{i:Nat}(hi:i<d.b.length):∃C,pls d=HX QS 0 (d.b.take i)++(QS i d.b[i]++C):=by
 refine⟨HX QS (i+1) (d.b.drop (i+1))++HX Xk 0 d.d,?_⟩
 have e:d.b=d.b.take i++(d.b[i]::d.b.drop (i+1)):=by
  rw [←DB hi,Cw]
 have e2:HX QS 0 d.b=HX QS 0 (d.b.take i)++(QS i d.b[i]++HX QS (i+1) (d.b.drop (i+1))):=by
  conv=>lhs;rw [e]
  rw [Oh]
  simp [HX,Fx (Nat.le_of_lt hi)]
 unfold pls
 rw [e2];simp
theorem IX{d:Ae}{i q:Nat}(hi:i<d.b.length)(hq:q<d.b[i].c.length):TT (Vd i q) (pls d) (JS d i+q):=by
 obtain⟨C,e⟩:=fW hi
 have hp:∀j:Nat,(QS i d.b[i])[j]? =(d.b[i].c[j]?).map fun x=>Bi.mk i j x ((j:Int)==(d.b[i].c.length:Int)-1):=by
  intro j
  have:=Uv (fun j q=>Bi.mk i j q ((j:Int)==(d.b[i].c.length:Int)-1)) d.b[i].c 0 j
  rw [Bu]at this
  exact this
 have hl:(QS i d.b[i]).length=d.b[i].c.length:=by
  apply Nat.le_antisymm
  ·apply Nat.le_of_not_lt
   intro h
   have:=hp d.b[i].c.length
   rw [AH h]at this
   simp at this
  ·apply Nat.le_of_not_lt
   intro h
   have:=hp (QS i d.b[i]).length
   rw [AH h]at this
   simp at this
 have hA:∀y∈HX QS 0 (d.b.take i),y.c<(i:Int):=by
  refine FK (Q:=fun p:Bi=>p.c<(i:Int)) _ 0 (fun j hj y hy=>?_)
  have hji:j<i:=by simp at hj;omega
  refine FK (Q:=fun p:Bi=>p.c<(i:Int)) _ 0 (fun k hk z hz=>?_) y hy
  simp only [As]at hz
  subst hz
  show((0+j:Nat):Int)<i
  omega
 refine⟨⟨Bi.mk i q d.b[i].c[q] ((q:Int)==(d.b[i].c.length:Int)-1),?_,by simp [Vd]⟩,?_⟩
 ·rw [e,JS,Ap (by omega),En,Ao (by omega),hp,AH hq];rfl
 ·intro j y hj hy
  rw [e]at hy
  by_cases c:j<(HX QS 0 (d.b.take i)).length
  ·rw [Ao c]at hy
   have:=hA y (CL hy)
   simp only [Vd,Av,AG];left;omega
  ·unfold JS at hj
   rw [Ap (by omega),Ao (by omega),hp]at hy
   obtain⟨x,_,rfl⟩:=Ag.1 hy
   simp only [Vd,Av,AG];right
   show((j-(HX QS 0 (d.b.take i)).length:Nat):Int)≠q
   omega
theorem dQ{n:Nat}{l:BT}{d:Ae}(v:Eo l d){i q:Nat}(hi:i<d.b.length)(hq:q<d.b[i].c.length)(hn:1048577<=n):Ud n d (i:Int) (q:Int)=some ((JS d i+q:Nat):Int):=by
 have f:=IX hi hq
 have hl:=Dy v.short v.few.1 v.few.2.2
 have fl:=f.lt
 rw [Ud,Tn v.short v.few.1 v.few.2.2 hn,BJ]
 refine loop (L:=fun m j (_:Unit)=>Jz (i:Int) (q:Int) ((pls d).map Je) (fun i26=>(some (-1))) m j) (JS d i+q+1) (fun j _=>j<=JS d i+q) (fun o=>o=some ((JS d i+q:Nat):Int)) ?_ ?_ n 0 () (by omega) (by omega) (by omega)
 ·intro m j _ hj hI
  have hjl:j<(pls d).length:=by omega
  have hjm:j<((pls d).map Je).length:=by simpa using hjl
  have hg:AL ((pls d).map Je) (j:Int)=some (Je (pls d)[j]):=by rw [Ac hjm];simp
  have hb:(Option.bind (cond ((Je (pls d)[j]).c==(i:Int)) (some ((Je (pls d)[j]).f==(q:Int))) (some false)) fun c35=>(cond c35 (some (j:Int)) (Jz (i:Int) (q:Int) ((pls d).map Je) (fun i26=>(some (-1))) m (wrap .i64 ((j:Int)+1)))))=(cond (Vd i q (pls d)[j]) (some (j:Int)) (Jz (i:Int) (q:Int) ((pls d).map Je) (fun i26=>(some (-1))) m ((j+1:Nat):Int))):=by
   rw [wT j,Do,BJ];rfl
  simp only [Jz.eq_2,Ex hjm,cT,hg,BJ]
  rw [hb]
  by_cases c:j=JS d i+q
  ·obtain⟨y,e,hy⟩:=f.hit
   rw [←c,AH hjl]at e
   obtain rfl:=AM e
   rw [hy,cT,←c];exact .inr rfl
  ·have:=f.miss j _ (by omega) (AH hjl)
   rw [this,cF];exact .inl ⟨(),by omega,rfl⟩
 ·intro m _ hI
  omega
theorem AcB{n:Nat}{l:BT}{d:Ae}(v:Eo l d){i q:Nat}(hi:i<d.b.length)(hq:q<d.b[i].c.length)(hn:1048577<=n):Wx n d (i:Int) (q:Int)=some ((JS d i+q:Nat):Int):=by
 have f:=IX hi hq
 have hl:=Dy v.short v.few.1 v.few.2.2
 have fl:=f.lt
 rw [Wx,bN v.short v.few.1 v.few.2.2 hn,BJ,fJ]
 obtain⟨r,e,hr,h⟩:=Mz (xs:=pls d) (L:=fun m j=>LM n (pls d) (i:Int) (q:Int) (fun i7=>(some (-1))) m j) (f:=fun p=>some (Vd i q p)) (P:=fun p=>Vd i q p=true) (fun x _=>⟨_,rfl,Iff.rfl⟩) (by
  intro m j hj
  simp only [LM.eq_2,Ex hj,cT,Ac hj,BJ,eU,wT j]
  rfl) (by
  intro m
  simp only [LM.eq_2,FS,cF]) n (by omega)
 rw [e,BJ]
 obtain⟨y,ey,hy⟩:=f.hit
 obtain⟨k1,k2⟩:=AK.1 ey
 rcases h with h|⟨j,rfl,hj,h1,h2⟩
 ·subst h
  have:=hr.2 ⟨y,CL ey,hy⟩
  omega
 ·have a:¬j<JS d i+q:=fun c=>by
   have:=f.miss j _ c (AH hj)
   rw [this]at h1;cases h1
  have b:¬JS d i+q<j:=fun c=>h2 _ k1 c (by rw [k2];exact hy)
  rw [show j=JS d i+q by omega]
def lD(r:BS):Bool:=((decide (r.c>= -1000000000)&&decide (r.c<=1000000000))&&(decide (r.d>= -1000000000)&&decide (r.d<=1000000000)))&&(decide (r.b>=0)&&decide (r.b<=1000000000))
theorem rl1{n:Nat}{r:BS}:aU n r=some (lD r):=by
 simp only [aU,JA,BJ,Do];rfl
theorem rl2{n:Nat}{r:BS}:XH n r=some (lD r):=by
 simp only [XH,Qj,Ld,BJ,Do];rfl
theorem Eo.inst_at{l:BT}{d:Ae}(v:Eo l d){i:Nat}(hi:i<d.b.length):∃k,∃h:k<l.b.length,d.b[i].b=(k:Int)∧AL l.b d.b[i].b=some l.b[k]∧d.b[i].c.length=l.b[k].d.length∧Pm l.b[k]:=by
 have x:=v.inst _ (AI hi)
 obtain⟨k,hk⟩:=Ax x.cell.1
 have hk:d.b[i].b=(k:Int):=hk
 have h:k<l.b.length:=by have:=x.cell.2;omega
 have g:AL l.b d.b[i].b=some l.b[k]:=by rw [hk];exact Ac h
 exact⟨k,h,hk,g,x.pins _ g,v.lib.cells k h⟩
theorem AbB:∀a:Nat,a<5->∀b:Nat,b<5->wrap .i64 (Nz .u64 (IntKind.wrap IntKind.u64 (wrap .i64 ((a:Int)+(b:Int)))) 1)=(((a+b)/2:Nat):Int):=by decide
theorem WX.mono{l:List Int}(h:WX l):∀(d i:Nat),i+d+1<l.length->gd l i<gd l (i+d+1)
 |0,i,hi=>by have:=h.2.2 (i+0+1) hi (by omega);simpa using this
 |d+1,i,hi=>by
  have a:=WX.mono h d i (by omega)
  have b:=h.2.2 (i+(d+1)+1) hi (by omega)
  rw [show i+(d+1)+1-1=i+d+1 by omega]at b
  omega
theorem WX.lt{l:List Int}(h:WX l){i j:Nat}(hij:i<j)(hj:j<l.length):gd l i<gd l j:=by
 have:=h.mono (j-i-1) i (by omega)
 rwa [show i+(j-i-1)+1=j by omega]at this
theorem vQ{n:Nat}{l:List Int}(h:WX l){c:Int}{K:Int->Int->Option (Int×Bool)}:∀(m i j:Nat),i<=j->j<=l.length->j-i<m->(∀k,k<i->gd l k<c)->(∀k,j<=k->k<l.length->c<=gd l k)->
 ∃p:Nat,p<=l.length∧(∀k,k<p->gd l k<c)∧(∀k,p<=k->k<l.length->c<=gd l k)∧Lj n l c K m (i:Int) (j:Int)=K (p:Int) (p:Int)
 |0,i,j,_,_,hm,_,_=>by omega
 |m+1,i,j,hij,hj,hm,h1,h2=>by
  have few:=h.1.2
  rw [Lj.eq_2]
  by_cases c0:i<j
  ·have d0:decide ((i:Int)<(j:Int))=true:=AX (by omega)
   have hq:(i+j)/2<l.length:=by omega
   simp only [d0,cT,AbB i (by omega) j (by omega),gI hq,BJ,gE,UD,CP,cF,DG]
   by_cases c1:gd l ((i+j)/2)<c
   ·rw [AX c1,cT,wS (show(i+j)/2<4611686018427387904 by omega)]
    refine vQ h m ((i+j)/2+1) j (by omega) hj (by omega) (fun k hk=>?_) h2
    by_cases e:k=(i+j)/2
    ·rw [e];exact c1
    ·have:=h.lt (show k<(i+j)/2 by omega) hq;omega
   ·rw [Aa c1,cF]
    refine vQ h m i ((i+j)/2) (by omega) (by omega) (by omega) h1 (fun k hk hk2=>?_)
    by_cases e:k=(i+j)/2
    ·rw [e];omega
    ·have:=h.lt (show(i+j)/2<k by omega) hk2;omega
  ·obtain rfl:i=j:=by omega
   have d0:decide ((i:Int)<(i:Int))=false:=Aa (by omega)
   rw [d0,cF]
   exact⟨i,hj,h1,h2,rfl⟩
def EH(l:List Int)(x:Int):Int:=min (max x (gd l 0)) (gd l (l.length-1))
theorem UL{l:List Int}(h:WX l)(x:Int):gd l 0<=EH l x∧EH l x<=gd l (l.length-1):=by
 have h1:=h.1.1
 have:gd l 0<=gd l (l.length-1):=by
  by_cases c:l.length=1
  ·rw [c];exact ED _
  ·have:=h.lt (show 0<l.length-1 by omega) (by omega);omega
 unfold EH;omega
theorem WtS{l:List Int}(h:WX l){x:Int}{q:Nat}{R:Int×Int×Int}(hq:q<l.length)(hk:∀k,q<k->k<l.length->EH l x<gd l k)
 (hR:∀m,JF l x (gd l 0) (gd l (l.length-1)) (fun i21=>(some (0,1,0))) (m+1) (q:Int)=some R):
 ∀(m i:Nat),q<=i->i<l.length->i-q<m->JF l x (gd l 0) (gd l (l.length-1)) (fun i21=>(some (0,1,0))) m (i:Int)=some R
 |0,i,_,_,hm=>by omega
 |m+1,i,hi,hil,hm=>by
  by_cases e:i=q
  ·rw [e];exact hR m
  ·have a:=hk i (by omega) hil
   have a:min (max x (gd l 0)) (gd l (l.length-1))<gd l i:=a
   have d0:decide ((i:Int)>=0)=true:=AX (by omega)
   have d1:(min (max x (gd l 0)) (gd l (l.length-1))==gd l i)=false:=by rw [AG];omega
   have d2:decide (min (max x (gd l 0)) (gd l (l.length-1))>gd l i)=false:=Aa (by omega)
   have w:wrap .i64 ((i:Int)-1)=((i-1:Nat):Int):=by rw [BD (by omega) (by have:=h.1.2;omega)];omega
   simp only [JF.eq_2,d0,cT,gI hil,BJ,d1,d2,cF,w]
   exact WtS h hq hk hR m (i-1) (by omega) (by omega) (by omega)
theorem Wt{n:Nat}{l:List Int}(h:WX l)(x:Int)(hn:1048577<=n):∃(i:Nat) (a b:Int),eH n l x=some ((i:Int),a,b)∧
 ((i<l.length∧a=1∧b=0∧Un n l x=some ([⟨(i:Int),1⟩],1))∨(i+1<l.length∧(1<=a∧a<=100000)∧(1<=b∧b<=100000)∧Un n l x=some ([⟨(i:Int),a⟩,⟨((i+1:Nat):Int),b⟩],a+b))):=by
 have h1:=h.1
 have ci:=UL h x
 have w1:wrap .i64 ((l.length:Int)-1)=((l.length-1:Nat):Int):=by rw [BD (by omega) (by omega)];omega
 have g0:AL l 0=some (gd l 0):=gI (l:=l) (i:=0) (by omega)
 have gL:AL l ((l.length-1:Nat):Int)=some (gd l (l.length-1)):=gI (by omega)
 obtain⟨p,p1,p2,p3,p4⟩:=vQ (n:=n) h (c:=EH l x) (K:=fun i5 i6=>(Option.bind (cond (decide (i5<(l.length:Int))) (Option.bind (AL l i5) fun x7=>(Option.bind (cond (x7==EH l x) (some true) (Option.bind (AL l i5) fun x15=>(Option.bind (VW n x15) fun r23=>(Option.bind (cond r23 (Option.bind (VW n (EH l x)) fun r29=>(some r29)) (some false)) fun c29=>(some c29))))) fun c15=>(some c15))) (some false)) fun c7=>(some (i5,c7)))) n 0 l.length (by omega) (by omega) (by omega) (fun k hk=>by omega) (fun k hk hk2=>by omega)
 have pl:p<l.length:=by
  apply Nat.lt_of_not_le
  intro c
  have:=p2 (l.length-1) (by omega);omega
 have hb:XN n l (EH l x)=some ((p:Int),gd l p==EH l x):=by
  rw [XN]
  refine p4.trans ?_
  simp only [Ex pl,cT,gI pl,BJ,VW,CP,cF]
  cases(gd l p==EH l x)<;>rfl
 have hi:Un n l x=(Option.bind (XN n l (EH l x)) fun r23=>(cond r23.2 (some ([(Dn.mk r23.1 1)],1)) (Option.bind (AL l r23.1) fun x41=>(Option.bind (AL l (wrap .i64 (r23.1-1))) fun x49=>(Option.bind (AL l r23.1) fun x69=>(Option.bind (AL l (wrap .i64 (r23.1-1))) fun x77=>(some ([(Dn.mk (wrap .i64 (r23.1-1)) (wrap .i64 (x41-(EH l x)))),(Dn.mk r23.1 (wrap .i64 ((EH l x)-x49)))],wrap .i64 (x69-x77))))))))):=by
  rw [Un,g0,w1,BJ,gL,BJ];rfl
 have hsp:eH n l x=JF l x (gd l 0) (gd l (l.length-1)) (fun i21=>(some (0,1,0))) n ((l.length-1:Nat):Int):=by
  rw [eH,g0,w1,BJ,gL,BJ]
 have cp:=p3 p (BN _) pl
 by_cases c:gd l p=EH l x
 ·refine⟨p,1,0,?_,.inl ⟨pl,rfl,rfl,?_⟩⟩
  ·rw [hsp]
   refine WtS h pl (fun k hk hk2=>by have:=h.lt hk hk2;omega) (fun m=>?_) n _ (by omega) (by omega) (by omega)
   have d0:decide ((p:Int)>=0)=true:=AX (by omega)
   have d1:(min (max x (gd l 0)) (gd l (l.length-1))==gd l p)=true:=by rw [Ai];exact c.symm
   simp only [JF.eq_2,d0,cT,gI pl,BJ,d1]
  ·rw [hi,hb,BJ,show(gd l p==EH l x)=true from by rw [Ai];exact c];rfl
 ·have p0:0<p:=by
   apply Nat.pos_of_ne_zero
   intro e;subst e;omega
  have b1:=p2 (p-1) (by omega)
  have r1:=h.2.1 p pl
  have r2:=h.2.1 (p-1) (by omega)
  have wp:wrap .i64 ((p:Int)-1)=((p-1:Nat):Int):=by rw [BD (by omega) (by omega)];omega
  have wq:wrap .i64 (((p-1:Nat):Int)+1)=(p:Int):=by rw [BD (by omega) (by omega)];omega
  have e1:wrap .i64 (gd l p-EH l x)=gd l p-EH l x:=BD (by omega) (by omega)
  have e2:wrap .i64 (EH l x-gd l (p-1))=EH l x-gd l (p-1):=BD (by omega) (by omega)
  have e3:wrap .i64 (gd l p-gd l (p-1))=gd l p-EH l x+(EH l x-gd l (p-1)):=by rw [BD (by omega) (by omega)];omega
  refine⟨p-1,gd l p-EH l x,EH l x-gd l (p-1),?_,.inr ⟨by omega,by omega,by omega,?_⟩⟩
  ·rw [hsp]
   refine WtS h (show p-1<l.length by omega) (fun k hk hk2=>?_) (fun m=>?_) n _ (by omega) (by omega) (by omega)
   ·by_cases e:k=p
    ·rw [e];omega
    ·have:=h.lt (show p<k by omega) hk2;omega
   ·have d0:decide (((p-1:Nat):Int)>=0)=true:=AX (by omega)
    have d1:(min (max x (gd l 0)) (gd l (l.length-1))==gd l (p-1))=false:=by rw [AG];show EH l x≠_;omega
    have d2:decide (min (max x (gd l 0)) (gd l (l.length-1))>gd l (p-1))=true:=AX (show EH l x>_ by omega)
    simp only [JF.eq_2,d0,cT,gI (show p-1<l.length by omega),BJ,d1,d2,cF,wq,gI pl]
    show some (((p-1:Nat):Int),wrap .i64 (gd l p-EH l x),wrap .i64 (EH l x-gd l (p-1)))=_
    rw [e1,e2]
  ·rw [hi,hb,BJ,show(gd l p==EH l x)=false from by rw [AG];exact c]
   simp only [cF,wp,gI pl,gI (show p-1<l.length by omega),BJ,e1,e2,e3]
   rw [show p-1+1=p by omega]
theorem Dv{n:Nat}{s D mode:Int}(h:D≠0):∃r,Px n s D mode=some r∧Xh n s D mode=some r:=by
 have hz:(D==0)=false:=by rw [AG];exact h
 rw [Px,Xh,hz]
 simp only [cF]
 rw [Bool.and_comm,Bool.and_comm (decide (Int.tmod s D>0))]
 cases(mode==0)&&decide (Int.tmod s D<0)<;>cases(mode==1)&&decide (Int.tmod s D>0)<;>exact⟨_,rfl,rfl⟩
theorem eW{V a c:Int}(hV:-1000000<=V∧V<=1000000)(ha:1<=a∧a<=100000)(hc:1<=c∧c<=100000):wrap .i64 (wrap .i64 (a*c)*V)=wrap .i64 (wrap .i64 (V*a)*c)∧decide (wrap .i64 (a*c)>0)=true:=by
 have h1:0<a*c:=Int.mul_pos (by omega) (by omega)
 have h2:a*c<=100000*c:=Dp ha.2 (by omega)
 have h3:V*a<=1000000*a:=Dp hV.2 (by omega)
 have h4:-1000000*a<=V*a:=Dp hV.1 (by omega)
 rw [BD (x:=a*c) (by omega) (by omega),BD (x:=V*a) (by omega) (by omega)]
 refine⟨by rw [Int.mul_comm (V*a) c,Int.mul_comm a c,Int.mul_assoc,Int.mul_comm a V],AX h1⟩
theorem mw{a c:Int}(ha:0<=a∧a<=200000)(hc:0<=c∧c<=200000):wrap .i64 (a*c)=a*c:=by
 have h1:0<=a*c:=Int.mul_nonneg ha.1 hc.1
 have h2:a*c<=200000*c:=Dp ha.2 hc.1
 exact BD (by omega) (by omega)
theorem gF{i L k:Nat}(hi:i<=4)(hL:L<=4)(hk:k<=4):wrap .i64 (wrap .i64 ((i:Int)*(L:Int))+(k:Int))=((i*L+k:Nat):Int):=by
 have:i*L<=4*4:=EQ hi hL
 rw [dJ hi hL,BD (by omega) (by omega)];omega
theorem pQ{i L k u v:Nat}(hi:i+u<=4)(hL:L<=4)(hk:k<=4)(hv:v<=1):wrap .i64 (wrap .i64 (wrap .i64 (wrap .i64 ((i:Int)+(u:Int))*(L:Int))+(k:Int))+(v:Int))=(((i+u)*L+(k+v):Nat):Int):=by
 have:(i+u)*L<=4*4:=EQ hi hL
 rw [BD (x:=(i:Int)+(u:Int)) (by omega) (by omega),show(i:Int)+(u:Int)=((i+u:Nat):Int) by omega,dJ hi hL,BD (x:=(((i+u)*L:Nat):Int)+(k:Int)) (by omega) (by omega),BD (by omega) (by omega)];omega
theorem dH{S L i k:Nat}(hi:i<S)(hk:k<L):i*L+k<S*L:=by
 have:(i+1)*L<=S*L:=Bh L hi
 rw [CT]at this;omega
theorem vH{n:Nat}{s D mode:Int}(h:D≠0):∃r,(Option.bind (Px n s D mode) fun r=>some r)=some r∧(Option.bind (Xh n s D mode) fun r=>some r)=some r:=by
 obtain⟨r,a,b⟩:=Dv (n:=n) (s:=s) (mode:=mode) h
 exact⟨r,by rw [a];rfl,by rw [b];rfl⟩
set_option maxHeartbeats 4000000 in
theorem Lk{n:Nat}{t:Bm}(v:VT t)(x y mode:Int)(hn:1048577<=n):∃r,eK n t x y mode=some r∧tR n t x y mode=some r:=by
 obtain⟨i,a,b,s1,e1⟩:=Wt (n:=n) v.1.1 x hn
 obtain⟨k,c,d,s2,e2⟩:=Wt (n:=n) v.1.2 y hn
 have S4:=v.1.1.1.2
 have L4:=v.1.2.1.2
 have hV:=v.2.2
 have hlen:=v.2.1
 obtain⟨m,rfl⟩:∃m,n=m+3:=⟨n-3,by omega⟩
 rw [eK];(try simp only [jn]);rw [tR,s1,s2]
 have w01:wrap .i64 (0+1)=1:=rfl
 have w12:wrap .i64 (1+1)=2:=rfl
 have l02:decide ((0:Int)<2)=true:=rfl
 have l12:decide ((1:Int)<2)=true:=rfl
 have l22:decide ((2:Int)<2)=false:=rfl
 have l01:decide ((0:Int)<1)=true:=rfl
 have l11:decide ((1:Int)<1)=false:=rfl
 have b01:((0:Int)==1)=false:=rfl
 have b11:((1:Int)==1)=true:=rfl
 have b00:((0:Int)==0)=true:=rfl
 have b10:((1:Int)==0)=false:=rfl
 have z00:wrap .i64 0=0:=rfl
 have z01:decide ((0:Int)>0)=false:=rfl
 have o10:wrap .i64 (1+0)=1:=rfl
 have g10:∀w:Dn,AL [w] 0=some w:=fun _=>rfl
 have g20:∀w z:Dn,AL [w,z] 0=some w:=fun _ _=>rfl
 have g21:∀w z:Dn,AL [w,z] 1=some z:=fun _ _=>rfl
 have n1:∀w:Dn,(([w]:List Dn).length:Int)=1:=fun _=>rfl
 have n2:∀w z:Dn,(([w,z]:List Dn).length:Int)=2:=fun _ _=>rfl
 have i00:=pQ (i:=i) (u:=0) (k:=k) (v:=0) (L:=t.c.length)
 have i01:=pQ (i:=i) (u:=0) (k:=k) (v:=1) (L:=t.c.length)
 have i10:=pQ (i:=i) (u:=1) (k:=k) (v:=0) (L:=t.c.length)
 have i11:=pQ (i:=i) (u:=1) (k:=k) (v:=1) (L:=t.c.length)
 simp only [Int.natCast_zero,Int.natCast_one,Fe]at i00 i01 i10 i11
 rcases e1 with ⟨hi,ha,hb,e1⟩|⟨hi,ha,hb,e1⟩<;>rcases e2 with ⟨hk,hc,hd,e2⟩|⟨hk,hc,hd,e2⟩<;>rw [e1,e2]
 ·subst ha hb
  subst hc hd
  have q00:=dH (S:=t.d.length) (L:=t.c.length) (i:=i) (k:=k) (by omega) (by omega)
  have t00:=eW (V:=gd t.b (i*t.c.length+k)) (a:=1) (c:=1) (hV _ (by omega)) (by omega) (by omega)
  have j00:=i00 (by omega) (by omega) (by omega) (by omega)
  have p00:=gF (i:=i) (k:=k) (L:=t.c.length) (by omega) (by omega) (by omega)
  have v00:=gI (l:=t.b) (i:=i*t.c.length+k) (by omega)
  simp only [BJ,Ji.eq_2,Hn.eq_2,NP.eq_2,Ml.eq_2,n1,n2,g10,g20,g21,w01,w12,l02,l12,l22,l01,l11,cT,cF,b01,b11,b00,b10,Int.zero_mul,Int.mul_zero,z00,z01,o10,j00,p00,v00,t00.1,t00.2,jn]
  refine vH ?_
  exact(by decide:wrap .i64 (1*1)≠0)
 ·subst ha hb
  have q00:=dH (S:=t.d.length) (L:=t.c.length) (i:=i) (k:=k) (by omega) (by omega)
  have t00:=eW (V:=gd t.b (i*t.c.length+k)) (a:=1) (c:=c) (hV _ (by omega)) (by omega) (by omega)
  have j00:=i00 (by omega) (by omega) (by omega) (by omega)
  have p00:=gF (i:=i) (k:=k) (L:=t.c.length) (by omega) (by omega) (by omega)
  have v00:=gI (l:=t.b) (i:=i*t.c.length+k) (by omega)
  have q01:=dH (S:=t.d.length) (L:=t.c.length) (i:=i) (k:=(k+1)) (by omega) (by omega)
  have t01:=eW (V:=gd t.b (i*t.c.length+(k+1))) (a:=1) (c:=d) (hV _ (by omega)) (by omega) (by omega)
  have j01:=i01 (by omega) (by omega) (by omega) (by omega)
  have p01:=gF (i:=i) (k:=(k+1)) (L:=t.c.length) (by omega) (by omega) (by omega)
  have v01:=gI (l:=t.b) (i:=i*t.c.length+(k+1)) (by omega)
  have sB:wrap .i64 (c+d)=c+d:=BD (by omega) (by omega)
  simp only [BJ,Ji.eq_2,Hn.eq_2,NP.eq_2,Ml.eq_2,n1,n2,g10,g20,g21,w01,w12,l02,l12,l22,l01,l11,cT,cF,b01,b11,b00,b10,Int.zero_mul,Int.mul_zero,z00,z01,o10,j00,p00,v00,t00.1,t00.2,j01,p01,v01,t01.1,t01.2,sB,jn]
  refine vH ?_
  rw [mw (by omega) (by omega)]
  have:=Int.mul_pos (show 0<(1:Int) by omega) (show 0<(c+d) by omega)
  omega
 ·subst hc hd
  have q00:=dH (S:=t.d.length) (L:=t.c.length) (i:=i) (k:=k) (by omega) (by omega)
  have t00:=eW (V:=gd t.b (i*t.c.length+k)) (a:=a) (c:=1) (hV _ (by omega)) (by omega) (by omega)
  have j00:=i00 (by omega) (by omega) (by omega) (by omega)
  have p00:=gF (i:=i) (k:=k) (L:=t.c.length) (by omega) (by omega) (by omega)
  have v00:=gI (l:=t.b) (i:=i*t.c.length+k) (by omega)
  have q10:=dH (S:=t.d.length) (L:=t.c.length) (i:=(i+1)) (k:=k) (by omega) (by omega)
  have t10:=eW (V:=gd t.b ((i+1)*t.c.length+k)) (a:=b) (c:=1) (hV _ (by omega)) (by omega) (by omega)
  have j10:=i10 (by omega) (by omega) (by omega) (by omega)
  have p10:=gF (i:=(i+1)) (k:=k) (L:=t.c.length) (by omega) (by omega) (by omega)
  have v10:=gI (l:=t.b) (i:=(i+1)*t.c.length+k) (by omega)
  have sA:wrap .i64 (a+b)=a+b:=BD (by omega) (by omega)
  simp only [BJ,Ji.eq_2,Hn.eq_2,NP.eq_2,Ml.eq_2,n1,n2,g10,g20,g21,w01,w12,l02,l12,l22,l01,l11,cT,cF,b01,b11,b00,b10,Int.zero_mul,Int.mul_zero,z00,z01,o10,j00,p00,v00,t00.1,t00.2,j10,p10,v10,t10.1,t10.2,sA,jn]
  refine vH ?_
  rw [mw (by omega) (by omega)]
  have:=Int.mul_pos (show 0<(a+b) by omega) (show 0<(1:Int) by omega)
  omega
 ·have q00:=dH (S:=t.d.length) (L:=t.c.length) (i:=i) (k:=k) (by omega) (by omega)
  have t00:=eW (V:=gd t.b (i*t.c.length+k)) (a:=a) (c:=c) (hV _ (by omega)) (by omega) (by omega)
  have j00:=i00 (by omega) (by omega) (by omega) (by omega)
  have p00:=gF (i:=i) (k:=k) (L:=t.c.length) (by omega) (by omega) (by omega)
  have v00:=gI (l:=t.b) (i:=i*t.c.length+k) (by omega)
  have q01:=dH (S:=t.d.length) (L:=t.c.length) (i:=i) (k:=(k+1)) (by omega) (by omega)
  have t01:=eW (V:=gd t.b (i*t.c.length+(k+1))) (a:=a) (c:=d) (hV _ (by omega)) (by omega) (by omega)
  have j01:=i01 (by omega) (by omega) (by omega) (by omega)
  have p01:=gF (i:=i) (k:=(k+1)) (L:=t.c.length) (by omega) (by omega) (by omega)
  have v01:=gI (l:=t.b) (i:=i*t.c.length+(k+1)) (by omega)
  have q10:=dH (S:=t.d.length) (L:=t.c.length) (i:=(i+1)) (k:=k) (by omega) (by omega)
  have t10:=eW (V:=gd t.b ((i+1)*t.c.length+k)) (a:=b) (c:=c) (hV _ (by omega)) (by omega) (by omega)
  have j10:=i10 (by omega) (by omega) (by omega) (by omega)
  have p10:=gF (i:=(i+1)) (k:=k) (L:=t.c.length) (by omega) (by omega) (by omega)
  have v10:=gI (l:=t.b) (i:=(i+1)*t.c.length+k) (by omega)
  have q11:=dH (S:=t.d.length) (L:=t.c.length) (i:=(i+1)) (k:=(k+1)) (by omega) (by omega)
  have t11:=eW (V:=gd t.b ((i+1)*t.c.length+(k+1))) (a:=b) (c:=d) (hV _ (by omega)) (by omega) (by omega)
  have j11:=i11 (by omega) (by omega) (by omega) (by omega)
  have p11:=gF (i:=(i+1)) (k:=(k+1)) (L:=t.c.length) (by omega) (by omega) (by omega)
  have v11:=gI (l:=t.b) (i:=(i+1)*t.c.length+(k+1)) (by omega)
  have sA:wrap .i64 (a+b)=a+b:=BD (by omega) (by omega)
  have sB:wrap .i64 (c+d)=c+d:=BD (by omega) (by omega)
  simp only [BJ,Ji.eq_2,Hn.eq_2,NP.eq_2,Ml.eq_2,n1,n2,g10,g20,g21,w01,w12,l02,l12,l22,l01,l11,cT,cF,b01,b11,b00,b10,Int.zero_mul,Int.mul_zero,z00,z01,o10,j00,p00,v00,t00.1,t00.2,j01,p01,v01,t01.1,t01.2,j10,p10,v10,t10.1,t10.2,j11,p11,v11,t11.1,t11.2,sA,sB,jn]
  refine vH ?_
  rw [mw (by omega) (by omega)]
  have:=Int.mul_pos (show 0<(a+b) by omega) (show 0<(c+d) by omega)
  omega
theorem dU{l:List DZ}{i:Int}(h:LB l i=true):0<cnt l:=by
 unfold LB at h
 cases e:l[i.toNat]? with
 |none=>rw [e]at h;cases h
 |some p=>
  rw [e]at h
  have h:p.d=true:=h
  exact List.countP_pos_iff.2 ⟨p,CL e,h⟩
theorem AbE{n:Nat}{c:BL}(v:Pm c)(hn:1048577<=n):∃q,ZJ n c=some q∧YM n c=some q∧(c.b≠1->q=0∨q=1):=by
 have hal:=v.few
 obtain⟨b2,e3,h3⟩:=Hs (n:=n) (c:=c) (by omega) 2 hn
 simp only [ZJ,YM,e3,BJ]
 rcases v.kind with ⟨k,_⟩|⟨k,_,_,_,x⟩|⟨k,_⟩
 ·rw [k];exact⟨_,rfl,rfl,fun h=>absurd rfl h⟩
 ·rw [k]
  simp only [show((2:Int)==3)=false from rfl,show((2:Int)==2)=true from rfl,show((2:Int)==1)=false from rfl,cT,cF]
  have key:∃q,KF c (fun i19=>(some 0)) n 0=some q∧(q=0∧¬HP c.c 3∨q=1∧HP c.c 3):=by
   refine loop (L:=fun m i (_:Unit)=>KF c (fun i19=>(some 0)) m i) c.c.length (fun i _=>∀j (hj:j<c.c.length),j<i->c.c[j].b≠3) (fun o=>∃q,o=some q∧(q=0∧¬HP c.c 3∨q=1∧HP c.c 3)) ?_ ?_ n 0 () (by omega) (by omega) (fun j _ hj=>by omega)
   ·intro m i _ hi hI
    simp only [KF.eq_2,Ex hi,cT,Ac hi,BJ,wT i]
    by_cases q:c.c[i].b=3
    ·have:(c.c[i].b==3)=true:=by rw [Ai];exact q
     simp only [this,cT]
     exact .inr ⟨1,rfl,.inr ⟨rfl,_,AI hi,q⟩⟩
    ·have:(c.c[i].b==3)=false:=by rw [AG];exact q
     simp only [this,cF]
     refine .inl ⟨(),fun j hj hji=>?_,by trivial⟩
     by_cases ej:j=i
     ·subst ej;exact q
     ·exact hI j hj (by omega)
   ·intro m _ hI
    simp only [KF.eq_2,FS,cF]
    refine⟨0,rfl,.inl ⟨rfl,fun⟨a,ha,e⟩=>?_⟩⟩
    obtain⟨j,hj,rfl⟩:=Bs ha
    exact hI j hj hj e
  obtain⟨q,e4,hq⟩:=key
  rw [e4]
  refine⟨q,rfl,?_,fun _=>by omega⟩
  cases b2 with
  |true=>
   have:¬HP c.c 3:=fun g=>x ⟨fun _=>g,fun _=>h3.1 rfl⟩
   rcases hq with hq|hq
   ·rw [hq.1];rfl
   ·exact absurd hq.2 this
  |false=>
   have n2:¬HP c.c 2:=fun g=>by have:=h3.2 g;cases this
   have:HP c.c 3:=Dl fun g=>x ⟨fun a=>absurd a n2,fun a=>absurd a g⟩
   rcases hq with hq|hq
   ·exact absurd this hq.2
   ·rw [hq.1];rfl
 ·rw [k];exact⟨_,rfl,rfl,fun _=>.inr rfl⟩
structure OL(b:AJ)(inst arc:Int)(a:CJ)(i j:Nat)(c:BL):Prop where
 ei:inst=(i:Int)
 ej:arc=(j:Int)
 hi:i<b.b.b.length
 gc:AL b.d.b b.b.b[i].b=some c
 vc:Pm c
 nets:b.b.b[i].c.length=c.d.length
 hj:j<c.c.length
 ea:c.c[j]=a
 kind:a.b=4∨a.b=5
theorem tA{n:Nat}{b:AJ}(v:DA b)(inst arc:Int):∃x:CJ×Bool,Wu n b inst arc=some x∧RU n b inst arc=some x∧(x.2=true->∃i j c,OL b inst arc x.1 i j c):=by
 have fw:=v.design.few
 have wI:wrap .i64 ((b.b.b.length:Int)-1)=(b.b.b.length:Int)-1:=BD (by omega) (by omega)
 rw [Wu,RU]
 simp only [JA,YK,Ld,YY,BJ,wI]
 cases di:(decide (inst>=0)&&decide (inst<=(b.b.b.length:Int)-1))with
 |false=>exact⟨_,rfl,rfl,fun h=>by cases h⟩
 |true=>
  simp only [AD,AP]at di
  obtain⟨i,hi⟩:=Ax di.1
  have hi:inst=(i:Int):=hi
  subst hi
  have hil:i<b.b.b.length:=by omega
  obtain⟨k,hk,hc,gc,hnl,vc⟩:=v.design.inst_at hil
  have few:=vc.few
  have wA:wrap .i64 ((b.d.b[k].c.length:Int)-1)=(b.d.b[k].c.length:Int)-1:=BD (by omega) (by omega)
  simp only [Al,cF,Ac hil,gc,BJ,wA]
  cases dj:(decide (arc>=0)&&decide (arc<=(b.d.b[k].c.length:Int)-1))with
  |false=>exact⟨_,rfl,rfl,fun h=>by cases h⟩
  |true=>
   simp only [AD,AP]at dj
   obtain⟨j,hj⟩:=Ax dj.1
   have hj:arc=(j:Int):=hj
   subst hj
   have hjl:j<b.d.b[k].c.length:=by omega
   simp only [Al,cF,Ac hjl,BJ,TR]
   by_cases k4:b.d.b[k].c[j].b=4
   ·rw [k4];exact⟨_,rfl,rfl,fun _=>⟨i,j,_,rfl,rfl,hil,gc,vc,hnl,hjl,rfl,.inl k4⟩⟩
   ·by_cases k5:b.d.b[k].c[j].b=5
    ·rw [k5];exact⟨_,rfl,rfl,fun _=>⟨i,j,_,rfl,rfl,hil,gc,vc,hnl,hjl,rfl,.inr k5⟩⟩
    ·have b4:(b.d.b[k].c[j].b==4)=false:=by rw [AG];exact k4
     have b5:(b.d.b[k].c[j].b==5)=false:=by rw [AG];exact k5
     have c4:(b.d.b[k].c[j].b !=4)=true:=by rw [Cp];exact k4
     have c5:(b.d.b[k].c[j].b !=5)=true:=by rw [Cp];exact k5
     rw [b4,b5,c4,c5]
     exact⟨_,rfl,rfl,fun h=>by cases h⟩
theorem NB{n:Nat}{b:AJ}{r:Cu}{inst arc tr s:Int}{a:CJ}{i j:Nat}{c:BL}(v:DA b)(hr:r.b=b)(h:OL b inst arc a i j c)(ht:tr=0∨tr=1)(hn:1048577<=n):
 ∃D C:Nat,Ty n b [inst,arc,tr]=some ((D:Int),(C:Int))∧SP n r ⟨inst,arc,tr,s⟩=some ((D:Int),(C:Int))∧(D:Int)<Em b∧(C:Int)<Em b:=by
 obtain⟨rfl,rfl,hi,gc,vc,nets,hj,rfl,kind⟩:=h
 have ar:=(vc.arcs j hj).1
 unfold OS at ar
 have k1:¬c.c[j].b=1:=by omega
 have k2:¬(c.c[j].b=2∨c.c[j].b=3):=by omega
 rw [BV k1,BV k2,BE kind]at ar
 obtain⟨⟨hF,hT⟩,gH,hT2,_⟩:=ar
 have kg:c.b≠1:=fun e=>by
  rcases vc.kind with ⟨_,z,_⟩|⟨z,_⟩|⟨z,_⟩
  ·have:=dU gH;omega
  ·omega
  ·omega
 obtain⟨q,e1,e2,hq⟩:=AbE (n:=n) vc hn
 have hq:=hq kg
 obtain⟨F,eF⟩:=Ax hF.1
 have eF:c.c[j].d=(F:Int):=eF
 obtain⟨T,eT⟩:=Ax hT.1
 have eT:c.c[j].c=(T:Int):=eT
 have hp:=Dy v.design.short v.design.few.1 v.design.few.2.2
 have b1:=(IX (d:=b.b) (q:=T) hi (by omega)).lt
 have b2:=(IX (d:=b.b) (q:=F) hi (by omega)).lt
 have p1:=dQ (n:=n) v.design (q:=T) hi (by omega) hn
 have p2:=dQ (n:=n) v.design (q:=F) hi (by omega) hn
 have p3:Wx n b.b (i:Int) 0=some ((JS b.b i+0:Nat):Int):=AcB (n:=n) v.design (q:=0) hi (by omega) hn
 obtain⟨O,hO⟩:∃O:Nat,O=JS b.b i:=⟨_,rfl⟩
 rw [←hO]at p1 p2 p3 b1 b2
 have nd:Em b=2*((pls b.b).length:Int):=rfl
 refine⟨2*(O+T)+tr.toNat,2*(O+F)+q.toNat,?_,?_,by omega,by omega⟩
 ·have g0:AL [(i:Int),(j:Int),tr] 0=some (i:Int):=rfl
  have g1:AL [(i:Int),(j:Int),tr] 1=some (j:Int):=rfl
  have g2:AL [(i:Int),(j:Int),tr] 2=some tr:=rfl
  rw [Ty]
  simp only [g0,g1,g2,BJ,Ac hi,gc,Ac hj,eF,eT,p1,p2,e1]
  rw [BD (x:=2*((O+T:Nat):Int)) (by omega) (by omega),BD (x:=2*((O+F:Nat):Int)) (by omega) (by omega),BD (by omega) (by omega),BD (by omega) (by omega)]
  congr 2<;>omega
 ·rw [SP]
  simp only [hr,BJ,Ac hi,gc,Ac hj,eF,eT,p3,e2]
  rw [BD (x:=((O+0:Nat):Int)+(T:Int)) (by omega) (by omega),BD (x:=((O+0:Nat):Int)+(F:Int)) (by omega) (by omega),BD (x:=2*(((O+0:Nat):Int)+(T:Int))) (by omega) (by omega),BD (x:=2*(((O+0:Nat):Int)+(F:Int))) (by omega) (by omega),BD (by omega) (by omega),BD (by omega) (by omega)]
  congr 2<;>omega
theorem UI{b:AJ}{inst arc tr:Int}{a:CJ}{i j:Nat}{c:BL}(h:OL b inst arc a i j c)(ht:tr=0∨tr=1):∃t,AL a.h tr=some t∧VT t:=by
 obtain⟨rfl,rfl,hi,gc,vc,nets,hj,rfl,kind⟩:=h
 have ar:=(vc.arcs j hj).1
 unfold OS at ar
 have k1:¬c.c[j].b=1:=by omega
 have k2:¬(c.c[j].b=2∨c.c[j].b=3):=by omega
 rw [BV k1,BV k2,BE kind]at ar
 obtain⟨_,_,_,_,_,hd,_⟩:=ar
 obtain⟨t,e,he⟩:=Dx (xs:=c.c[j].h) (i:=tr) (by omega) (by have:=hd.1;omega)
 exact⟨t,e,(hd.2 t (CL he)).1⟩
theorem wk{k:Int}(h0:0<=k)(h1:k<=2305843009213693952):wrap .i64 (k+1)=k+1:=BD (by omega) (by omega)
def TN(a:CJ):Bool:=a.b==4||a.b==5
def HW(b:AJ)(x:BI):List CJ:=match AL b.d.b x.b with
 |some c=>c.c
 |none=>[]
def PJ(i j:Nat)(a:CJ):List (Int×Int×Int):=if TN a=true then [((i:Int),(j:Int),0),((i:Int),(j:Int),1)]else []
def PW(b:AJ)(i:Nat)(x:BI):List (Int×Int×Int):=HX (PJ i) 0 (HW b x)
def Dt(b:AJ):List (Int×Int×Int):=HX (PW b) 0 b.b.b
def cZ(p:Int×Int×Int):List Int:=[p.1,p.2.1,p.2.2]
def TD(p:Int×Int×Int):BP:=⟨p.1,p.2.1,p.2.2,0⟩
theorem QH(i j:Nat)(a:CJ):(PJ i j a).length<=2:=by unfold PJ;split<;>simp
theorem QK{b:AJ}(v:DA b)(i:Nat){x:BI}(hx:x∈b.b.b):(PW b i x).length<=16:=by
 obtain⟨j,hj,rfl⟩:=Bs hx
 obtain⟨k,hk,_,gc,_,vc⟩:=v.design.inst_at hj
 have:=HF (c:=2) (g:=PJ i) (HW b b.b.b[j]) 0 fun j a _=>QH i j a
 have few:=vc.few
 unfold PW
 unfold HW at this ⊢
 rw [gc]at this ⊢
 simp only at this ⊢
 omega
theorem Rs{b:AJ}(v:DA b):(Dt b).length<=224:=by
 have:=HF (c:=16) (g:=PW b) b.b.b 0 fun j x hx=>QK v j hx
 have:=v.design.few.1
 unfold Dt;omega
theorem mH{n:Nat}{b:AJ}(v:DA b)(hn:1048577<=n):oX n b=some ((Dt b).map cZ):=by
 have few:=v.design.few.1
 rw [oX]
 rw [FN (xs:=b.b.b) (L:=fun m s i=>NH n b (fun l32 i36=>(some l32)) m s i) (k:=fun s=>some s) (fun i x=>(PW b i x).map cZ) 16 0 (fun j x hx=>by rw [CH];exact QK v j hx) (by omega) (by
  intro m i hi s hs
  obtain⟨k,hk,_,gc,_,vc⟩:=v.design.inst_at hi
  have fa:=vc.few
  simp only [NH.eq_2,Ex hi,cT,Ac hi,gc,BJ,wT i]
  have ea:HW b b.b.b[i]=b.d.b[k].c:=by unfold HW;rw [gc]
  rw [PW,ea,LO]
  refine FN (xs:=b.d.b[k].c) (L:=fun m s j=>NQ (i:Int) b.d.b[k] _ m s j) (k:=fun s=>NH n b (fun l32 i36=>(some l32)) m s ((i+1:Nat):Int)) (fun j a=>(PJ i j a).map cZ) 2 s.length (fun j a _=>by rw [CH];exact QH i j a) (by omega) ?_ ?_ n (by omega) s (by omega)
  ·intro m j hj s hs
   simp only [NQ.eq_2,Ex hj,cT,Ac hj,BJ,wT j]
   have eb:(Option.bind (cond (b.d.b[k].c[j].b==4) (some true) (some (b.d.b[k].c[j].b==5))) fun c92=>(some c92))=some (TN b.d.b[k].c[j]):=by
    unfold TN;cases(b.d.b[k].c[j].b==4)<;>rfl
   have eb2:(cond (b.d.b[k].c[j].b==4) (some true) (some (b.d.b[k].c[j].b==5)))=some (TN b.d.b[k].c[j]):=by
    unfold TN;cases(b.d.b[k].c[j].b==4)<;>rfl
   rw [eb2,BJ]
   unfold PJ
   cases TN b.d.b[k].c[j]with
   |true=>rw [cT,CC (by simp;omega) (by omega),BJ];rfl
   |false=>simp
  ·intro m s
   simp only [NQ.eq_2,FS,cF]) (by
  intro m s
  simp only [NH.eq_2,FS,cF]) n (by omega) [] (by simp)]
 rw [CX,Dt,LO]
theorem Zi{n:Nat}{b:AJ}(v:DA b)(hn:1048577<=n):sI n b=some ((Dt b).map TD):=by
 have few:=v.design.few.1
 rw [sI]
 rw [FN (xs:=b.b.b) (L:=fun m s i=>Mm n b (fun l23 i27=>(some l23)) m s i) (k:=fun s=>some s) (fun i x=>(PW b i x).map TD) 16 0 (fun j x hx=>by rw [CH];exact QK v j hx) (by omega) (by
  intro m i hi s hs
  obtain⟨k,hk,_,gc,_,vc⟩:=v.design.inst_at hi
  have fa:=vc.few
  simp only [Mm.eq_2,Ex hi,cT,Ac hi,gc,BJ,wT i]
  have ea:HW b b.b.b[i]=b.d.b[k].c:=by unfold HW;rw [gc]
  rw [PW,ea,LO]
  refine FN (xs:=b.d.b[k].c) (L:=fun m s j=>Na n (i:Int) b.d.b[k] _ m s j) (k:=fun s=>Mm n b (fun l23 i27=>(some l23)) m s ((i+1:Nat):Int)) (fun j a=>(PJ i j a).map TD) 2 s.length (fun j a _=>by rw [CH];exact QH i j a) (by omega) ?_ ?_ n (by omega) s (by omega)
  ·intro m j hj s hs
   simp only [Na.eq_2,Ex hj,cT,Ac hj,BJ,TR,wT j]
   have eb:(b.d.b[k].c[j].b==4||b.d.b[k].c[j].b==5)=TN b.d.b[k].c[j]:=rfl
   rw [eb]
   unfold PJ
   cases TN b.d.b[k].c[j]with
   |true=>rw [cT,CC (by simp;omega) (by omega),BJ];rfl
   |false=>simp
  ·intro m s
   simp only [Na.eq_2,FS,cF]) (by
  intro m s
  simp only [Mm.eq_2,FS,cF]) n (by omega) [] (by simp)]
 rw [CX,Dt,LO]
theorem Og{b:AJ}(v:DA b):∀p∈Dt b,(p.2.2=0∨p.2.2=1)∧∃a i j c,OL b p.1 p.2.1 a i j c:=by
 refine FK (Q:=fun p:Int×Int×Int=>(p.2.2=0∨p.2.2=1)∧∃a i j c,OL b p.1 p.2.1 a i j c) b.b.b 0 (fun i hi y hy=>?_)
 rw [Bu]at hy
 obtain⟨k,hk,_,gc,hnl,vc⟩:=v.design.inst_at hi
 have ea:HW b b.b.b[i]=b.d.b[k].c:=by unfold HW;rw [gc]
 rw [PW,ea]at hy
 refine FK (Q:=fun p:Int×Int×Int=>(p.2.2=0∨p.2.2=1)∧∃a i j c,OL b p.1 p.2.1 a i j c) _ 0 (fun j hj z hz=>?_) y hy
 rw [Bu]at hz
 unfold PJ at hz
 split at hz
 ·rename_i hc
  have kd:b.d.b[k].c[j].b=4∨b.d.b[k].c[j].b=5:=by
   simpa [TN] using hc
  simp only [CS,DX,GM]at hz
  rcases hz with rfl|rfl
  ·exact⟨.inl rfl,_,i,j,_,rfl,rfl,hi,gc,vc,hnl,hj,rfl,kd⟩
  ·exact⟨.inr rfl,_,i,j,_,rfl,rfl,hi,gc,vc,hnl,hj,rfl,kd⟩
 ·simp at hz
theorem Tf{n:Nat}{b:AJ}(v:DA b){inst arc:Int}{a:CJ}{i j:Nat}{c:BL}(h:OL b inst arc a i j c):RU n b inst arc=some (a,true):=by
 obtain⟨rfl,rfl,hi,gc,vc,nets,hj,rfl,kind⟩:=h
 have fw:=v.design.few
 have fa:=vc.few
 have wI:wrap .i64 ((b.b.b.length:Int)-1)=(b.b.b.length:Int)-1:=BD (by omega) (by omega)
 have wA:wrap .i64 ((c.c.length:Int)-1)=(c.c.length:Int)-1:=BD (by omega) (by omega)
 have d1:(decide ((i:Int)>=0)&&decide ((i:Int)<=(b.b.b.length:Int)-1))=true:=by simp only [AD,AP];omega
 have d2:(decide ((j:Int)>=0)&&decide ((j:Int)<=(c.c.length:Int)-1))=true:=by simp only [AD,AP];omega
 have d3:(c.c[j].b==4||c.c[j].b==5)=true:=by simpa using kind
 rw [RU]
 simp only [YK,Ld,YY,BJ,wI,d1,Al,cF,Ac hi,gc,wA,d2,Ac hj,TR,d3]
theorem XP{b:AJ}{s:List BP}{i j k z:Int}(h:∀x∈s,(x.c,x.d,x.f)∈Dt b)(hm:(i,j,k)∈Dt b):∀x∈s++[BP.mk i j k z],(x.c,x.d,x.f)∈Dt b:=fun x hx=>by
 rcases BR.1 hx with hx|hx
 ·exact h x hx
 ·obtain rfl:=As.1 hx;exact hm
theorem yV{n:Nat}{b:AJ}{t:Au}{rel:BS}{w:Cu}(v:DA b)(vt:Tl b t)(hn:1048577<=n):
 ∃g:List BP,g.length<=1048576∧(∀x∈g,(x.c,x.d,x.f)∈Dt b)∧ZV n b t rel=some g∧UT n ⟨b,w.c,w.d,w.f,w.g,w.h⟩ t rel=some g:=by
 have hl:=Rs v
 rw [ZV,UT,mH v hn,Zi v hn,BJ,BJ]
 refine iW (L:=fun m i (s:List BP)=>KB n b t rel ((Dt b).map cZ) (fun l62 i66=>(some l62)) m s i) (M:=fun m i (s:List BP)=>Hj n ⟨b,w.c,w.d,w.f,w.g,w.h⟩ t rel ((Dt b).map TD) (fun l57 i61=>(some l57)) m s i) (Dt b).length
  (fun i s s'=>s=s'∧s.length<=i∧∀x∈s,(x.c,x.d,x.f)∈Dt b) (fun o o'=>∃g:List BP,g.length<=1048576∧(∀x∈g,(x.c,x.d,x.f)∈Dt b)∧o=some g∧o'=some g) ?_ ?_ n 0 [] [] (by omega) (by omega) ⟨rfl,by simp,by simp⟩
 ·intro m i s s' hi hr
  obtain⟨rfl,hs,hq⟩:=hr
  have l1:i<((Dt b).map cZ).length:=by simpa using hi
  have l2:i<((Dt b).map TD).length:=by simpa using hi
  have e1:AL ((Dt b).map cZ) (i:Int)=some (cZ (Dt b)[i]):=by rw [Ac l1];simp
  have e2:AL ((Dt b).map TD) (i:Int)=some (TD (Dt b)[i]):=by rw [Ac l2];simp
  obtain⟨htr,a,i',j',c,ck⟩:=Og v _ (AI hi)
  have hm:=AI hi
  generalize (Dt b)[i]=p at htr ck e1 e2 hm
  obtain⟨inst,arc,tr⟩:=p
  have htr:tr=0∨tr=1:=htr
  have ck:OL b inst arc a i' j' c:=ck
  have g0:AL [inst,arc,tr] 0=some inst:=rfl
  have g1:AL [inst,arc,tr] 1=some arc:=rfl
  have g2:AL [inst,arc,tr] 2=some tr:=rfl
  have e1:AL ((Dt b).map cZ) (i:Int)=some [inst,arc,tr]:=e1
  have e2:AL ((Dt b).map TD) (i:Int)=some ⟨inst,arc,tr,0⟩:=e2
  obtain⟨D,C,n1,n2,hD,hC⟩:=NB (n:=n) (r:=⟨b,w.c,w.d,w.f,w.g,w.h⟩) (s:=0) v rfl ck htr hn
  obtain⟨tb,q1,vtb⟩:=UI ck htr
  have z1:=vt.reached;have z2:=vt.arr;have z3:=vt.slew
  obtain⟨r1,k1,_⟩:=Dx (xs:=t.c) (i:=(D:Int)) (by omega) (by omega)
  obtain⟨r2,k2,_⟩:=Dx (xs:=t.c) (i:=(C:Int)) (by omega) (by omega)
  obtain⟨y1,k3,_⟩:=Dx (xs:=t.b) (i:=(D:Int)) (by omega) (by omega)
  obtain⟨y2,k4,_⟩:=Dx (xs:=t.b) (i:=(C:Int)) (by omega) (by omega)
  obtain⟨s1,k5,_⟩:=Dx (xs:=t.f) (i:=(D:Int)) (by omega) (by omega)
  obtain⟨s2,k6,_⟩:=Dx (xs:=t.f) (i:=(C:Int)) (by omega) (by omega)
  obtain⟨R,k7,k8⟩:=Lk (n:=n) vtb s1.b s2.b 1 hn
  have gi:AL b.b.b inst=some (b.b.b[i']'ck.hi):=(congrArg (AL b.b.b) ck.ei).trans (Ac ck.hi)
  have ga:AL c.c arc=some a:=by rw [ck.ej,Ac ck.hj,ck.ea]
  have ca:=Tf (n:=n) v ck
  have dl:decide ((i:Int)<(((Dt b).map cZ).length:Int))=true:=AX (by omega)
  have dm:decide ((i:Int)<(((Dt b).map TD).length:Int))=true:=AX (by omega)
  simp only [KB.eq_2,Hj.eq_2,dl,dm,cT,e1,e2,BJ,fR,gR,QO,n1,n2,g0,g1,g2,k1,k2,k3,k4,k5,k6,gi,ck.gc,ga,q1,k7,k8,ca,wT i]
  cases r1 with
  |false=>exact⟨s,s,⟨rfl,by omega,hq⟩,rfl,rfl⟩
  |true=>
   cases r2 with
   |false=>exact⟨s,s,⟨rfl,by omega,hq⟩,rfl,rfl⟩
   |true=>
    cases(a.b==4)<;>simp only [Al,cT,cF,BJ]<;>rw [CC (by simp;omega) (by omega)]<;>exact⟨_,_,⟨rfl,by simp;omega,XP hq hm⟩,rfl,rfl⟩
 ·intro m s s' hr
  obtain⟨rfl,hs,hq⟩:=hr
  have dl:decide (((Dt b).length:Int)<(((Dt b).map cZ).length:Int))=false:=Aa (by simp)
  have dm:decide (((Dt b).length:Int)<(((Dt b).map TD).length:Int))=false:=Aa (by simp)
  simp only [KB.eq_2,Hj.eq_2,dl,dm,cF]
  exact⟨s,by omega,hq,rfl,rfl⟩
theorem lY{n:Nat}{b:AJ}{t:Au}{rel:BS}(hb:Tj b)(ht:t.c.length<=1048576)(hn:1048577<=n):
 (XF n b t rel=some 0∧(DA b∧Tl b t)∧∃w:Cu,VG n b t rel=some (some w,0))∨(∃c:Int,(c !=0)=true∧XF n b t rel=some c∧VG n b t rel=some (none,c)):=by
 obtain⟨c,e1,hc⟩:=nU hb hn
 obtain⟨c2,e2,hc2⟩:=Bk2 hb hn
 obtain rfl:c=c2:=by rw [Bool.eq_iff_iff,hc,hc2]
 rw [XF,VG,hE,e1,e2,rl1]
 simp only [BJ]
 cases c with
 |false=>exact .inr ⟨1,rfl,rfl,rfl⟩
 |true=>
  have v:=hc.1 rfl
  obtain⟨w,ew,hw⟩:=Vw2 (n:=n) v hn
  obtain⟨p,f1,hp⟩:=Tm1 (b:=b) ht hn
  obtain⟨p2,f2,hp2⟩:=Tm2 (r:=⟨b,w.c,w.d,w.f,w.g,w.h⟩) v hw ht hn
  obtain rfl:p=p2:=by rw [Bool.eq_iff_iff,hp,hp2]
  simp only [Al,cF,US v hn,BJ,f1,ew,f2]
  cases p with
  |false=>exact .inr ⟨1,rfl,rfl,rfl⟩
  |true=>
   simp only [Al,cF,BJ,OQ,CP,rl2]
   cases lD rel with
   |false=>exact .inr ⟨2,rfl,rfl,rfl⟩
   |true=>exact .inl ⟨rfl,⟨v,hp.1 rfl⟩,_,rfl⟩
def Hv(q:Int)(p:Bi):Bool:=p.b==q&&p.d
theorem WG(i:Nat)(q L:Int):∀(xs:List Int) (s:Nat),xs≠[]->L=((s+xs.length:Nat):Int)-1->((HX (fun j n=>[Bi.mk i j n ((j:Int)==L)]) s xs).countP (Hv q):Int)=if gd xs (xs.length-1)=q then 1 else 0
 |[],_,h,_=>absurd rfl h
 |[x],s,_,hL=>by
  have e:((s:Int)==L)=true:=by rw [Ai,hL];simp
  simp only [HX,Eb,e]
  by_cases c:x=q
  ·subst c;simp [Hv,gd]
  ·have:(x==q)=false:=by rw [AG];exact c
   simp [Hv,gd,this,c]
 |x::y::zs,s,_,hL=>by
  have ih:=WG i q L (y::zs) (s+1) (by simp) (by rw [hL];simp only [CM];omega)
  have e:((s:Int)==L)=false:=by rw [AG,hL];simp only [CM];omega
  rw [HX,DV]
  have h0:List.countP (Hv q) [Bi.mk i s x ((s:Int)==L)]=0:=by simp [Hv,e]
  rw [h0,Bu,ih]
  simp [gd]
theorem Zl{q:Nat}{N:Nat}(hq:q<N):∀(xs:List BI) (t:List Int) (s:Nat),t.length=N->(∀x∈xs,x.c≠[]∧0<=NE x∧NE x<N)->gd (xs.foldl cI t) q=gd t q+((HX QS s xs).countP (Hv q):Int)∧(xs.foldl cI t).length=N
 |[],t,s,ht,_=>by simp [HX,ht]
 |x::xs,t,s,ht,hx=>by
  obtain⟨x1,x2,x3⟩:=hx x (by simp)
  obtain⟨h1,h2⟩:=Zl hq xs (cI t x) (s+1) (by unfold cI Kv;simpa using ht) fun y hy=>hx y (by simp [hy])
  refine⟨?_,h2⟩
  rw [EE,h1,HX,DV]
  have hc:=WG s q ((x.c.length:Int)-1) x.c 0 x1 (by simp)
  have hc:((QS s x).countP (Hv q):Int)=if gd x.c (x.c.length-1)=q then 1 else 0:=hc
  have hb:gd (cI t x) q=gd t q+if gd x.c (x.c.length-1)=q then 1 else 0:=by
   have hl:NE x=gd x.c (x.c.length-1):=rfl
   unfold cI Kv
   rw [RK (by omega),←hl]
   by_cases c:NE x=q
   ·rw [BE (by omega),BE c];have:(NE x).toNat=q:=by omega
    rw [this]
   ·rw [BV (by omega),BV c];omega
  rw [hb];push_cast;omega
theorem YD{q:Nat}{N:Nat}(hq:q<N):∀(xs:List DK) (t:List Int) (s:Nat),t.length=N->(∀x∈xs,0<=x.c∧x.c<N)->gd (xs.foldl cP t) q=gd t q+((HX Xk s xs).countP (Hv q):Int)
 |[],t,s,ht,_=>by simp [HX]
 |x::xs,t,s,ht,hx=>by
  obtain⟨x2,x3⟩:=hx x (by simp)
  have h1:=YD hq xs (cP t x) (s+1) (by unfold cP Kv;split<;>simpa using ht) fun y hy=>hx y (by simp [hy])
  rw [EE,h1,HX,DV]
  have hb:gd (cP t x) q=gd t q+((Xk s x).countP (Hv q):Int):=by
   unfold cP Xk
   by_cases d:x.b=1
   ·have:(x.b==1)=true:=by rw [Ai];exact d
    rw [BE d];unfold Kv
    rw [RK (by omega)]
    by_cases c:x.c=q
    ·have e:(x.c==(q:Int))=true:=by rw [Ai];exact c
     have e2:x.c.toNat=q:=by omega
     rw [BE e2,e2];simp [Hv,this,e]
    ·have e:(x.c==(q:Int))=false:=by rw [AG];exact c
     rw [BV (by omega)];simp [Hv,this,e]
   ·have:(x.b==1)=false:=by rw [AG];exact d
    rw [BV d];simp [Hv,this]
  rw [hb];push_cast;omega
theorem gT{l:BT}{d:Ae}(v:Eo l d){q:Nat}(hq:q<d.c.length):(pls d).countP (Hv q)=1:=by
 obtain⟨h1,h2⟩:=Zl (N:=d.c.length) hq d.b (List.replicate d.c.length 0) 0 (by simp) fun x hx=>by
  have a:=(v.inst x hx).long v.lib
  have b:=(v.inst x hx).last v.lib
  exact⟨fun e=>by rw [e]at a;simp at a,b⟩
 have h3:=YD (N:=d.c.length) hq d.d _ 0 h2 fun x hx=>by have:=(v.port x hx).net;omega
 have h4:=v.one q hq
 unfold drv at h4
 rw [h3,h1,Rg]at h4
 unfold pls
 rw [DV];omega
theorem St{α:Type}(f:α->Bool):∀(xs:List α),xs.countP f=1->∃k,∃h:k<xs.length,f xs[k]=true∧∀j (h:j<xs.length),f xs[j]=true->j=k
 |[],h=>by simp at h
 |x::xs,h=>by
  rw [List.countP_cons]at h
  by_cases c:f x=true
  ·have h0:xs.countP f=0:=by simpa [c] using h
   refine⟨0,by simp,c,fun j hj hf=>?_⟩
   cases j with
   |zero=>rfl
   |succ j=>
    have hf:f (xs[j]'(by simpa using hj))=true:=hf
    rw [List.countP_eq_zero]at h0
    exact absurd hf (h0 _ (AI _))
  ·have h0:xs.countP f=1:=by simpa [c] using h
   obtain⟨k,hk,a,b⟩:=St f xs h0
   refine⟨k+1,by simpa using hk,by simpa using a,fun j hj hf=>?_⟩
   cases j with
   |zero=>exact absurd hf c
   |succ j=>rw [b j (by simpa using hj) (by simpa using hf)]
def Oi(d:Ae)(q:Nat):Nat:=(pls d).findIdx (Hv q)
structure uT(d:Ae)(q k:Nat):Prop where
 lt:k<(pls d).length
 hit:Hv q (pls d)[k]=true
 only:∀j (h:j<(pls d).length),Hv q (pls d)[j]=true->j=k
theorem Tb{l:BT}{d:Ae}(v:Eo l d){q:Nat}(hq:q<d.c.length):uT d q (Oi d q):=by
 obtain⟨k,hk,a,b⟩:=St _ _ (gT v hq)
 have:Oi d q=k:=by
  unfold Oi
  rw [List.findIdx_eq hk]
  refine⟨a,fun j hj=>?_⟩
  cases c:Hv q ((pls d)[j]'(by omega))with
  |false=>rfl
  |true=>have:=b j (by omega) c;omega
 rw [this];exact⟨hk,a,b⟩
theorem wE{n:Nat}{l:BT}{d:Ae}(v:Eo l d){q:Nat}(hq:q<d.c.length)(hn:1048577<=n):cD n d (q:Int)=some (Oi d q:Int):=by
 have hd:=Tb v hq
 have hl:=Dy v.short v.few.1 v.few.2.2
 rw [cD,Tn v.short v.few.1 v.few.2.2 hn,BJ]
 have hk:=hd.lt
 refine loop (L:=fun m i (_:Unit)=>Nv (q:Int) ((pls d).map Je) (fun i26=>some (-1)) m i) ((pls d).map Je).length (fun i _=>i<=Oi d q) (fun o=>o=some (Oi d q:Int)) ?_ ?_ n 0 () (by omega) (by simp;omega) (by omega)
 ·intro m i _ hi hI
  have hi2:i<(pls d).length:=by simpa using hi
  have e:((pls d).map Je)[i]=Je (pls d)[i]:=by simp
  simp only [Nv.eq_2,Ex hi,cT,Ac hi,BJ,Do,e,wT i]
  have e2:((Je (pls d)[i]).b==(q:Int)&&(Je (pls d)[i]).d)=Hv q (pls d)[i]:=rfl
  rw [e2]
  cases c:Hv q (pls d)[i]with
  |true=>rw [hd.only i hi2 c];exact .inr rfl
  |false=>
   refine .inl ⟨(),?_,rfl⟩
   rcases Nat.lt_or_ge i (Oi d q)with h|h
   ·omega
   ·obtain rfl:i=Oi d q:=by omega
    rw [hd.hit]at c;cases c
 ·intro m _ hI
  have:((pls d).map Je).length=(pls d).length:=by simp
  omega
def VV(a:CJ)(p:Int×Int):Bool:=cond (a.b==1) ((a.g==3)||((a.g==1)==(p.1==p.2))) (cond (a.b==2) (p.1==0) (cond (a.b==3) (p.1==1) false))
def oL(a:CJ):List (Int×Int):=[(0,0),(0,1),(1,0),(1,1)].filter (VV a)
def kX(o k:Nat)(a:CJ):List Ad:=(oL a).map fun t=>⟨2*((o:Int)+a.d)+t.1,2*((o:Int)+a.c)+t.2,1,(k:Int)⟩
def cY(b:AJ)(i:Nat)(x:BI):List Ad:=HX (kX (JS b.b i)) 0 (HW b x)
def jG(r:Int)(j:Nat)(s:Int):List Ad:=[⟨2*r,2*s,2,(j:Int)⟩,⟨2*r+1,2*s+1,2,(j:Int)⟩]
def tK(d:Ae)(q:Nat):List Ad:=HX (jG (Oi d q:Int)) 0 (LL d (q:Int))
def QV(b:AJ):List Ad:=HX (cY b) 0 b.b.b++HX (fun q (_:ByteArray)=>tK b.b q) 0 b.b.c
theorem fA(a:CJ):(oL a).length<=4:=Ar (List.length_filter_le _ _) (by simp)
theorem WY(o k:Nat)(a:CJ):(kX o k a).length<=4:=by unfold kX;rw [CH];exact fA a
theorem TY{b:AJ}(v:DA b)(i:Nat){x:BI}(hx:x∈b.b.b):(cY b i x).length<=32:=by
 obtain⟨j,hj,rfl⟩:=Bs hx
 obtain⟨k,hk,_,gc,_,vc⟩:=v.design.inst_at hj
 have:=HF (c:=4) (g:=kX (JS b.b i)) (HW b b.b.b[j]) 0 fun j a _=>WY _ _ a
 have few:=vc.few
 unfold cY
 unfold HW at this ⊢
 rw [gc]at this ⊢
 simp only at this ⊢
 omega
theorem We{l:BT}{d:Ae}(v:Eo l d)(q:Nat):(tK d q).length<=156:=by
 have h1:=HF (c:=2) (g:=jG (Oi d q:Int)) (LL d (q:Int)) 0 fun j s _=>by simp [jG]
 have h2:=Iu (d:=d) (q:=(q:Int))
 have hl:=Dy v.short v.few.1 v.few.2.2
 have h3:snk d (q:Int)<=78:=Ar Cj hl
 unfold tK;omega
theorem MI{b:AJ}(v:DA b):(QV b).length<=5128:=by
 have h1:=HF (c:=32) (g:=cY b) b.b.b 0 fun j x hx=>TY v j hx
 have h2:=HF (c:=156) (g:=fun q (_:ByteArray)=>tK b.b q) b.b.c 0 fun j x _=>We v.design j
 have:=v.design.few
 unfold QV;rw [Bk];omega
theorem jN{n:Nat}{l:List Ad}{f t a b kd k:Int}(hl:l.length<=10000000)(hf:0<=f∧f<=100000)(ht:0<=t∧t<=100000)(ha:0<=a∧a<=1)(hb:0<=b∧b<=1):TW n l f t a b kd k=some (l++[⟨2*f+a,2*t+b,kd,k⟩]):=by
 rw [TW,BD (x:=2*f) (by omega) (by omega),BD (x:=2*t) (by omega) (by omega),BD (by omega) (by omega),BD (by omega) (by omega),CC (by simp;omega) (by omega),BJ]
theorem jA{n:Nat}{a:CJ}{f t k i:Int}{k2:List Ad->Int->Option (List Ad)}(hf:0<=f∧f<=100000)(ht:0<=t∧t<=100000)(hi:0<=i∧i<=1){l:List Ad}(hl:l.length<=9000000)(m:Nat):
 Hl n a f t k i k2 (m+3) l 0=k2 (l++([(i,0),(i,1)].filter (VV a)).map fun p=>⟨2*f+p.1,2*t+p.2,1,k⟩) 2:=by
 have w1:wrap .i64 ((0:Int)+1)=1:=by decide
 have w2:wrap .i64 ((1:Int)+1)=2:=by decide
 have step:∀(m:Nat) (l:List Ad) (j:Int),l.length<=9500000->0<=j->j<=1->Hl n a f t k i k2 (m+1) l j=Hl n a f t k i k2 m (l++([(i,j)].filter (VV a)).map fun p=>⟨2*f+p.1,2*t+p.2,1,k⟩) (wrap .i64 (j+1)):=by
  intro m l j hl2 h0 h1
  have hp:=jN (n:=n) (l:=l) (f:=f) (t:=t) (a:=i) (b:=j) (kd:=1) (k:=k) (by omega) hf ht hi ⟨h0,h1⟩
  have dj:decide (j<=1)=true:=AX h1
  simp only [Hl.eq_2,dj,cT,hp,BJ,List.filter_cons,List.filter_nil,VV]
  by_cases k1:a.b=1
  ·have e1:(a.b==1)=true:=by rw [Ai];exact k1
   simp only [e1,cT]
   by_cases c:((a.g==3)||((a.g==1)==(i==j)))=true
   ·rw [c];simp
   ·have c:((a.g==3)||((a.g==1)==(i==j)))=false:=by simpa using c
    rw [c];simp
  ·have e1:(a.b==1)=false:=by rw [AG];exact k1
   simp only [e1,cF]
   by_cases k2:a.b=2
   ·have e2:(a.b==2)=true:=by rw [Ai];exact k2
    simp only [e2,cT]
    by_cases c:i=0
    ·subst c;simp
    ·have c:(i==0)=false:=by rw [AG];exact c
     rw [c];simp
   ·have e2:(a.b==2)=false:=by rw [AG];exact k2
    simp only [e2,cF]
    by_cases k3:a.b=3
    ·have e3:(a.b==3)=true:=by rw [Ai];exact k3
     simp only [e3,cT]
     by_cases c:i=1
     ·subst c;simp
     ·have c:(i==1)=false:=by rw [AG];exact c
      rw [c];simp
    ·have e3:(a.b==3)=false:=by rw [AG];exact k3
     simp only [e3,cF];simp
 have hl3:∀j:Int,(([(i,j)].filter (VV a)).map fun p:Int×Int=>(⟨2*f+p.1,2*t+p.2,1,k⟩:Ad)).length<=1:=fun j=>by rw [CH];exact Ar (List.length_filter_le _ _) (by simp)
 rw [step (m+2) l 0 (by omega) (by omega) (by omega),w1,step (m+1) _ 1 (by have:=hl3 0;rw [Bk];omega) (by omega) (by omega),w2,Hl.eq_2]
 have d2:decide ((2:Int)<=1)=false:=by decide
 rw [d2,cF,Bl,←FG,←List.filter_append]
 rfl
theorem AcE{n:Nat}{a:CJ}{f t k:Int}(hf:0<=f∧f<=100000)(ht:0<=t∧t<=100000){l:List Ad}(hl:l.length<=8000000)(hn:1048577<=n):
 qP n l a f t k=some (l++(oL a).map fun p=>⟨2*f+p.1,2*t+p.2,1,k⟩):=by
 obtain⟨m,rfl⟩:∃m,n=m+3:=⟨n-3,by omega⟩
 have w1:wrap .i64 ((0:Int)+1)=1:=by decide
 have w2:wrap .i64 ((1:Int)+1)=2:=by decide
 have d0:decide ((0:Int)<=1)=true:=by decide
 have d1:decide ((1:Int)<=1)=true:=by decide
 have d2:decide ((2:Int)<=1)=false:=by decide
 have hl3:(([((0:Int),(0:Int)),(0,1)].filter (VV a)).map fun p:Int×Int=>(⟨2*f+p.1,2*t+p.2,1,k⟩:Ad)).length<=2:=by rw [CH];exact Ar (List.length_filter_le _ _) (by simp)
 rw [qP,On.eq_2,d0,cT,jA hf ht (by omega) (by omega),w1,On.eq_2,d1,cT,jA hf ht (by omega) (by rw [Bk];omega),w2,On.eq_2,d2,cF,Bl,←FG,←List.filter_append]
 rfl
theorem WR{c:BL}(vc:Pm c){j:Nat}(hj:j<c.c.length):(0<=c.c[j].d∧c.c[j].d<c.d.length)∧(0<=c.c[j].c∧c.c[j].c<c.d.length)∧(c.c[j].b=1∧(1<=c.c[j].g∧c.c[j].g<=3)∨c.c[j].b=2∨c.c[j].b=3∨c.c[j].b=4∨c.c[j].b=5):=by
 have ar:=(vc.arcs j hj).1
 unfold OS at ar
 refine⟨by omega,by omega,?_⟩
 obtain⟨_,ar⟩:=ar
 by_cases k1:c.c[j].b=1
 ·rw [BE k1]at ar;exact .inl ⟨k1,ar.2.2.1⟩
 ·rw [BV k1]at ar
  by_cases k2:c.c[j].b=2∨c.c[j].b=3
  ·rcases k2 with k|k
   ·exact .inr (.inl k)
   ·exact .inr (.inr (.inl k))
  ·rw [BV k2]at ar
   by_cases k4:c.c[j].b=4∨c.c[j].b=5
   ·rcases k4 with k|k
    ·exact .inr (.inr (.inr (.inl k)))
    ·exact .inr (.inr (.inr (.inr k)))
   ·rw [BV k4]at ar;exact ar.elim
theorem UX{a:CJ}(h:3<a.b):oL a=[]:=by
 have e1:(a.b==1)=false:=by rw [AG];omega
 have e2:(a.b==2)=false:=by rw [AG];omega
 have e3:(a.b==3)=false:=by rw [AG];omega
 simp [oL,VV,e1,e2,e3]
theorem Yx{n:Nat}{b:AJ}(v:DA b)(hn:1048577<=n):eX n b=some (QV b):=by
 have vd:=v.design
 have few:=vd.few
 have hl:=Dy vd.short vd.few.1 vd.few.2.2
 have hI:=HF (c:=32) (g:=cY b) b.b.b 0 fun j x hx=>TY v j hx
 rw [eX]
 rw [FN (xs:=b.b.b) (L:=fun m s i=>Mr n b (fun l44 i48=>(Jb n b (fun l55 i59=>(some l55)) n l44 0)) m s i) (k:=fun s=>Jb n b (fun l55 i59=>some l55) n s 0) (cY b) 32 0 (fun j x hx=>TY v j hx) (by omega) (by
  intro m i hi s hs
  obtain⟨k,hk,_,gc,hnl,vc⟩:=v.design.inst_at hi
  have fa:=vc.few
  have fp:=vc.pins.few
  have hoff:=(IX (d:=b.b) (q:=0) hi (by have:=(vd.inst _ (AI hi)).long vd.lib;omega)).lt
  simp only [Mr.eq_2,Ex hi,cT,Ac hi,gc,BJ,wT i]
  have ea:HW b b.b.b[i]=b.d.b[k].c:=by unfold HW;rw [gc]
  rw [cY,ea]
  refine FN (xs:=b.d.b[k].c) (L:=fun m s j=>NY n b (i:Int) b.d.b[k] _ m s j) (k:=fun s=>Mr n b (fun l44 i48=>(Jb n b (fun l55 i59=>(some l55)) n l44 0)) m s ((i+1:Nat):Int)) (kX (JS b.b i)) 4 s.length (fun j a _=>WY _ _ a) (by omega) ?_ ?_ n (by omega) s (by omega)
  ·intro m j hj s2 hs2
   obtain⟨⟨f0,f1⟩,⟨t0,t1⟩,kd⟩:=WR vc hj
   simp only [NY.eq_2,Ex hj,cT,Ac hj,BJ,wT j]
   by_cases c:b.d.b[k].c[j].b<=3
   ·rw [AX c,cT]
    obtain⟨F,eF⟩:=Ax f0
    have eF:b.d.b[k].c[j].d=(F:Int):=eF
    obtain⟨T,eT⟩:=Ax t0
    have eT:b.d.b[k].c[j].c=(T:Int):=eT
    have p1:=dQ (n:=n) vd (q:=F) hi (by omega) hn
    have p2:=dQ (n:=n) vd (q:=T) hi (by omega) hn
    rw [eF,eT,p1,BJ,p2,BJ,AcE (by omega) (by omega) (by omega) hn,BJ]
    congr 2
    unfold kX
    rw [eF,eT]
    simp
   ·rw [Aa c,cF]
    unfold kX
    rw [UX (by omega),List.map_nil,Eb]
  ·intro m s
   simp only [NY.eq_2,FS,cF]) (by
  intro m s
  simp only [Mr.eq_2,FS,cF]) n (by omega) [] (by simp)]
 rw [CX]
 rw [FN (xs:=b.b.c) (L:=fun m s i=>Jb n b (fun l55 i59=>(some l55)) m s i) (k:=fun s=>some s) (fun q _=>tK b.b q) 156 (HX (cY b) 0 b.b.b).length (fun j x _=>We vd j) (by omega) (by
  intro m i hi s hs
  have hd:=(Tb vd hi).lt
  have hsl:(LL b.b (i:Int)).length<=78:=by
   rw [Iu];exact Ar Cj hl
  simp only [Jb.eq_2,Ex hi,cT,wE vd hi hn,kT vd (i:Int) hn,BJ,wT i]
  refine FN (xs:=LL b.b (i:Int)) (L:=fun m s j=>OW n (Oi b.b i:Int) (LL b.b (i:Int)) _ m s j) (k:=fun s=>Jb n b (fun l55 i59=>(some l55)) m s ((i+1:Nat):Int)) (jG (Oi b.b i:Int)) 2 s.length (fun j a _=>by simp [jG]) (by omega) ?_ ?_ n (by omega) s (by omega)
  ·intro m j hj s2 hs2
   have hq:=Pr _ (AI hj)
   simp only [OW.eq_2,Ex hj,cT,Ac hj,BJ,wT j]
   rw [jN (by omega) (by omega) (by omega) (by omega) (by omega),BJ,jN (by simp;omega) (by omega) (by omega) (by omega) (by omega),BJ]
   rw [Bl]
   congr 2
   simp [jG]
  ·intro m s
   simp only [OW.eq_2,FS,cF]) (by
  intro m s
  simp only [Jb.eq_2,FS,cF]) n (by omega) _ (BN _)]
 rfl
theorem NN{α β:Type}(h:Nat->α->β):∀(xs:List α) (s:Nat),(HX (fun j q=>[h j q]) s xs).length=xs.length
 |[],_=>rfl
 |x::xs,s=>by simp [HX,NN h xs (s+1)]
theorem fX{a:CJ}:∀p∈oL a,(0<=p.1∧p.1<=1)∧0<=p.2∧p.2<=1:=fun p hp=>by
 have:=(List.mem_filter.1 hp).1
 simp only [CS,DX,GM]at this
 rcases this with rfl|rfl|rfl|rfl<;>simp
def AcM(N:Int)(br:List Int):Prop:=∀i,i<br.length->(0<=gd br i∧gd br i<=N-1)∧(0<i->gd br (i-1)<gd br i)
theorem Rs1{n:Nat}{br:List Int}{N:Int}(h:br.length<=1048576)(hN:0<=N∧N<=1048576)(hn:1048577<=n):Ch (AcM N br) (Xw n br N):=by
 rw [Xw]
 refine(HV (L:=fun m i=>MO n br N _ m i) (Q:=True) br.length 0 (fun i=>(0<=gd br i∧gd br i<=N-1)∧(0<i->gd br (i-1)<gd br i)) ?_ ?_ n 0 (by omega) (by omega) (by omega) (fun j _ h=>by omega)).iff ?_
 ·intro m i _ hi
  simp only [MO.eq_2,Ex hi,cT,gI hi,BJ,JA,wT i,BD (x:=N-1) (by omega) (by omega)]
  by_cases c:0<=gd br i∧gd br i<=N-1
  ·have e:(decide (gd br i>=0)&&decide (gd br i<=N-1))=true:=Qg.2 c
   rw [e]
   simp only [Al,cF]
   by_cases c0:0<i
   ·have w1:wrap .i64 ((i:Int)-1)=((i-1:Nat):Int):=by rw [BD (by omega) (by omega)];omega
    simp only [AX (show(i:Int)>0 by omega),cT,w1,gI (show i-1<br.length by omega),BJ]
    by_cases c1:gd br (i-1)<gd br i
    ·rw [Aa (show¬gd br (i-1)>=gd br i by omega),cF];exact .inl ⟨⟨c,fun _=>c1⟩,rfl⟩
    ·rw [AX (show gd br (i-1)>=gd br i by omega),cT];exact .inr ⟨fun h=>c1 (h.2 c0),rfl⟩
   ·simp only [Aa (show¬(i:Int)>0 by omega),cF,BJ]
    exact .inl ⟨⟨c,fun h=>absurd h c0⟩,by trivial⟩
  ·have e:(decide (gd br i>=0)&&decide (gd br i<=N-1))=false:=by
    cases q:(decide (gd br i>=0)&&decide (gd br i<=N-1))with
    |false=>rfl
    |true=>exact absurd (Qg.1 q) c
   rw [e]
   simp only [BM,cT,BJ]
   exact .inr ⟨fun h=>c h.1,by trivial⟩
 ·intro m i h1 h2 _
  obtain rfl:i=br.length:=by omega
  simp only [MO.eq_2,FS,cF]
  exact⟨true,rfl,by simp⟩
 ·exact⟨fun h i hi=>h.1 i (Nat.zero_le _) hi,fun h=>⟨fun i _ hi=>h i hi,trivial⟩⟩
theorem pA{n:Nat}{br:List Int}{x:Int}(h:br.length<=1048576)(hn:1048577<=n):Vr n br x=some (br.any fun y=>y==x):=by
 rw [Vr]
 refine loop (L:=fun m i (_:Unit)=>Lf br x (fun i5=>some false) m i) br.length (fun i _=>(br.any fun y=>y==x)=((br.drop i).any fun y=>y==x)) (fun o=>o=some (br.any fun y=>y==x)) ?_ ?_ n 0 () (by omega) (by omega) (by simp)
 ·intro m i _ hi hI
  simp only [Lf.eq_2,Ex hi,cT,Ac hi,BJ,wT i]
  rw [DB hi,List.any_cons]at hI
  cases c:(br[i]==x)with
  |true=>rw [c,Fb]at hI;rw [hI];exact .inr rfl
  |false=>rw [c,DG]at hI;exact .inl ⟨(),hI,rfl⟩
 ·intro m _ hI
  rw [Fj]at hI
  simp only [Lf.eq_2,FS,cF,hI,List.any_nil]
structure XL(b:AJ)(x:Ad):Prop where
 from_:0<=x.d∧x.d<Em b
 to_:0<=x.c∧x.c<Em b
 arc:x.b=1->∃p y c a,AL (pls b.b) (wrap .i64 (Int.tdiv x.c 2))=some p∧p∈pls b.b∧AL b.b.b p.c=some y∧AL b.d.b y.b=some c∧AL c.c x.f=some a∧(a.b=1∨a.b=2∨a.b=3)
theorem Ts{b:AJ}(v:DA b):∀x∈QV b,XL b x:=by
 have vd:=v.design
 have hl:=Dy vd.short vd.few.1 vd.few.2.2
 have nd:Em b=2*((pls b.b).length:Int):=rfl
 intro x hx
 simp only [QV,BR]at hx
 rcases hx with hx|hx
 ·refine FK (Q:=XL b) b.b.b 0 (fun i hi y hy=>?_) x hx
  rw [Bu]at hy
  obtain⟨k,hk,_,gc,hnl,vc⟩:=vd.inst_at hi
  have ea:HW b b.b.b[i]=b.d.b[k].c:=by unfold HW;rw [gc]
  rw [cY,ea]at hy
  refine FK (Q:=XL b) _ 0 (fun j hj z hz=>?_) y hy
  rw [Bu]at hz
  obtain⟨⟨f0,f1⟩,⟨t0,t1⟩,kd⟩:=WR vc hj
  obtain⟨t,ht,rfl⟩:=Dm.1 hz
  have tr:=fX t ht
  obtain⟨F,eF⟩:=Ax f0
  have eF:b.d.b[k].c[j].d=(F:Int):=eF
  obtain⟨T,eT⟩:=Ax t0
  have eT:b.d.b[k].c[j].c=(T:Int):=eT
  have b1:=(IX (d:=b.b) (q:=F) hi (by omega)).lt
  have pf:=IX (d:=b.b) (q:=T) hi (by omega)
  have b2:=pf.lt
  obtain⟨p,ep,hp⟩:=pf.hit
  have hp:(p.c==(i:Int)&&p.f==(T:Int))=true:=hp
  simp only [AD,Ai]at hp
  have k3:¬3<b.d.b[k].c[j].b:=fun h=>by rw [UX h]at ht;cases ht
  refine⟨?_,?_,fun _=>⟨p,b.b.b[i],b.d.b[k],b.d.b[k].c[j],?_,CL ep,?_,gc,?_,by omega⟩⟩
  ·have h1:0<=2*((JS b.b i:Int)+b.d.b[k].c[j].d)+t.1∧2*((JS b.b i:Int)+b.d.b[k].c[j].d)+t.1<Em b:=by rw [eF];omega
   exact h1
  ·have h1:0<=2*((JS b.b i:Int)+b.d.b[k].c[j].c)+t.2∧2*((JS b.b i:Int)+b.d.b[k].c[j].c)+t.2<Em b:=by rw [eT];omega
   exact h1
  ·show AL (pls b.b) (wrap .i64 (Int.tdiv (2*((JS b.b i:Int)+b.d.b[k].c[j].c)+t.2) 2))=some p
   rw [eT]
   have e1:Int.tdiv (2*((JS b.b i:Int)+(T:Int))+t.2) 2=((JS b.b i+T:Nat):Int):=by
    rw [ES (by omega)];omega
   rw [e1,BD (by omega) (by omega),IK];exact ep
  ·rw [hp.1];exact Ac hi
  ·exact Ac hj
 ·refine FK (Q:=XL b) b.b.c 0 (fun q hq y hy=>?_) x hx
  rw [Bu]at hy
  have hd:=(Tb vd hq).lt
  refine FK (Q:=XL b) _ 0 (fun j hj z hz=>?_) y hy
  have hs:=Pr _ (AI hj)
  simp only [jG,CS,DX,GM]at hz
  rcases hz with rfl|rfl
  ·exact⟨⟨by show(0:Int)<=2*_;omega,by show(2:Int)*_<_;omega⟩,⟨by show(0:Int)<=2*_;omega,by show(2:Int)*_<_;omega⟩,fun h=>by have h:(2:Int)=1:=h;omega⟩
  ·exact⟨⟨by show(0:Int)<=2*_+1;omega,by show(2:Int)*_+1<_;omega⟩,⟨by show(0:Int)<=2*_+1;omega,by show(2:Int)*_+1<_;omega⟩,fun h=>by have h:(2:Int)=1:=h;omega⟩
theorem xK{n:Nat}{l:BT}{d:Ae}(v:Eo l d){p:Bi}(hp:p∈pls d):∃r,Zs n l d (Je p)=some r:=by
 rw [Zs]
 by_cases c:p.c<0
 ·rw [AX (show(Je p).c<0 from c),cT];exact⟨_,rfl⟩
 ·obtain⟨x,c',pin,e1,e2,e3⟩:=v.place p hp (by omega)
  have e1:AL d.b (Je p).c=some x:=e1
  have e3:AL c'.d (Je p).f=some pin:=e3
  rw [Aa (show¬(Je p).c<0 from c),cF,e1,BJ,e2,BJ,e3,BJ];exact⟨_,rfl⟩
theorem Ld1{n:Nat}{b:AJ}(v:DA b){i:Nat}(hi:i<b.c.length)(hn:1048577<=n):CO (fun r=>r.length=b.c[i].b.length) (oJ n b (i:Int)):=by
 have vd:=v.design
 have vw:=v.wire i hi
 have hm:=vw.many
 have hP:=vw.cap
 have hl:=Dy vd.short vd.few.1 vd.few.2.2
 have hsl:(LL b.b (i:Int)).length=b.c[i].d.length:=by rw [Iu];have:=vw.sink;omega
 have hsn:snk b.b (i:Int)<=78:=Ar Cj hl
 have hsn2:=Iu (d:=b.b) (q:=(i:Int))
 rw [oJ,Ac hi,BJ,SQ,CC (by simp;omega) (by omega),BJ,BJ,Tn vd.short vd.few.1 vd.few.2.2 hn,BJ,kT vd (i:Int) hn,BJ]
 refine Ii (L:=fun m j s=>OV n b b.c[i] ((pls b.b).map Je) (LL b.b (i:Int)) _ m j s) (LL b.b (i:Int)).length (fun _ s=>s.length=b.c[i].b.length) ?_ ?_ n _ (by omega) (by simp;omega)
 ·intro m j s hj hs
  have hj2:j<b.c[i].d.length:=by omega
  have hk:=vw.sinks j hj2
  have hq:=Pr _ (AI hj)
  obtain⟨a,ea⟩:=HR (t:=s) hk.1 (by omega)
  obtain⟨p,ep,hp⟩:=Dx (xs:=pls b.b) hq.1 hq.2
  obtain⟨r,er⟩:=xK (n:=n) vd (CL hp)
  have ep2:AL ((pls b.b).map Je) (LL b.b (i:Int))[j]=some (Je p):=by
   obtain⟨N,hN⟩:=Ax hq.1
   have hN:(LL b.b (i:Int))[j]=(N:Int):=hN
   rw [hN]at hp ⊢
   rw [IK,FO]
   rw [DF]at hp
   rw [hp];rfl
  simp only [OV.eq_2,Ex hj,cT,Ac hj,gI hj2,BJ,ea,ep2,er,wT j]
  exact⟨_,by simpa using hs,rfl⟩
 ·intro m s hs
  simp only [OV.eq_2,FS,cF]
  have wx:wrap .i64 ((s.length:Int)-1)=((s.length-1:Nat):Int):=by rw [BD (by omega) (by omega)];omega
  rw [wx]
  have key:∀(m k:Nat) (s:List Int),k<b.c[i].b.length->s.length=b.c[i].b.length->k<m->CO (fun r:List Int=>r.length=b.c[i].b.length) (OR b.c[i] (fun i92 l94=>(some l94)) m (k:Int) s):=by
   intro m
   induction m with
   |zero=>intro k s _ _ h;omega
   |succ m ih=>
    intro k s hk hs hm
    by_cases c:0<k
    ·have hd:decide ((k:Int)>0)=true:=AX (by omega)
     have ht:=vw.tree k c hk
     obtain⟨a,ea⟩:=HR (t:=s) ht.1 (by omega)
     have wk:wrap .i64 ((k:Int)-1)=((k-1:Nat):Int):=by rw [BD (by omega) (by omega)];omega
     simp only [OR.eq_2,hd,cT,gI hk,BJ,ea,gI (show k<s.length by omega),wk]
     exact ih (k-1) _ (by omega) (by simpa using hs) (by omega)
    ·have hd:decide ((k:Int)>0)=false:=Aa (by omega)
     simp only [OR.eq_2,hd,cF]
     exact⟨s,rfl,hs⟩
  exact key n (s.length-1) s (by omega) hs (by omega)
end Go.Proofs.YtejmafeocaidlabGreatDoor
