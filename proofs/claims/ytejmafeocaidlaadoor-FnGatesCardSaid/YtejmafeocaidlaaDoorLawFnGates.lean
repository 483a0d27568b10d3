/- The plain law behind FnGates: the plain function answers true; no condition. -/
import Derived.Test.YtejmafeocaidlaaDoorWalkFnGates
set_option linter.all false
set_option maxHeartbeats 4000000
namespace Go.Proofs.YtejmafeocaidlaaDoor
open Go Go.RowKit Go.Eng
open Go.IntKind (wrap)
theorem Dv{b c:Bool}:(cond b (some true) (some c))=some (b||c):=by cases b<;>rfl
theorem Bw{b c:Bool}:(cond b (some c) (some false))=some (b&&c):=by cases b<;>rfl
theorem EI{i N:Nat}(h:i<N):decide ((i:Int)<(N:Int))=true:=decide_eq_true (by omega)
theorem FH(N:Nat):decide ((N:Int)<(N:Int))=false:=decide_eq_false (by omega)
theorem wS{i:Nat}(h:i<4611686018427387904):wrap .i64 ((i:Int)+1)=((i+1:Nat):Int):=by rw [Ai (by omega) (by omega)];simp
theorem BI{α:Type}{xs:List α}{i:Nat}(h:i<xs.length):AS xs (i:Int)=some xs[i]:=by rw [GQ];exact List.getElem?_eq_getElem h
theorem Fs{α:Type}{xs:List α}{i:Int}(h0:0<=i)(h1:i<xs.length):∃x,AS xs i=some x∧xs[i.toNat]? =some x:=by
 obtain⟨x,hx,_⟩:=JT h0 h1
 exact⟨x,hx,(Cz hx).2.2⟩
theorem loop{σ R:Type}{L:Nat->Int->σ->Option R}(N:Nat)(I:Nat->σ->Prop)(Post:Option R->Prop)
 (hs:∀(m i:Nat) (st:σ),i<N->I i st->(∃st',I (i+1) st'∧L (m+1) (i:Int) st=L m ((i+1:Nat):Int) st')∨Post (L (m+1) (i:Int) st))
 (he:∀(m:Nat) (st:σ),I N st->Post (L (m+1) (N:Int) st)):∀(m i:Nat) (st:σ),i<=N->N-i<m->I i st->Post (L m (i:Int) st)
 |0,i,st,_,hm,_=>by omega
 |m+1,i,st,hi,hm,h=>by
  by_cases hlt:i<N
  ·rcases hs m i st hlt h with ⟨st',h1,h2⟩|h1
   ·rw [h2];exact loop N I Post hs he m (i+1) st' (by omega) (by omega) h1
   ·exact h1
  ·obtain rfl:i=N:=by omega
   exact he m st h
theorem ON{α σ R:Type}{xs:List α}{L:Nat->Int->σ->Option R}{k:σ->Option R}(f:σ->α->σ)(I:Nat->σ->Prop)
 (hs:∀(m i:Nat) (h:i<xs.length) (st:σ),I i st->L (m+1) (i:Int) st=L m ((i+1:Nat):Int) (f st xs[i])∧I (i+1) (f st xs[i]))
 (he:∀(m:Nat) (st:σ),I xs.length st->L (m+1) (xs.length:Int) st=k st) (m:Nat) (st:σ) (h:I 0 st) (hm:xs.length<m):L m 0 st=k (xs.foldl f st)∧I xs.length (xs.foldl f st):=by
 refine loop xs.length (fun i s=>I i s∧(xs.drop i).foldl f s=xs.foldl f st) (fun o=>o=k (xs.foldl f st)∧I xs.length (xs.foldl f st)) ?_ ?_ m 0 st (by omega) (by omega) ⟨h,by simp⟩
 ·intro m i s hi ⟨h1,h2⟩
  obtain⟨e,h3⟩:=hs m i hi s h1
  exact .inl ⟨_,⟨h3,by rw [List.drop_eq_getElem_cons hi]at h2;exact h2⟩,e⟩
 ·intro m s ⟨h1,h2⟩
  rw [List.drop_length]at h2
  have h2:s=xs.foldl f st:=h2
  rw [←h2]
  exact⟨he m s h1,h1⟩
theorem Be{α:Type}{xs ys:List α}{b:Nat}(h:xs.length+ys.length<=16777216)(hb:b<=1048576):Cf xs ys b=some (xs++ys):=by
 unfold Cf
 have:(xs.length+ys.length)*b<=16777216*1048576:=Nat.mul_le_mul h hb
 rw [if_pos ⟨by omega,by omega⟩]
theorem JP{σ R:Type}{L:Nat->Int->σ->Option R}(N:Nat)(I:Nat->σ->Prop)(Post:Option R->Prop)
 (hs:∀(m i:Nat) (st:σ),i<N->I i st->(∀st',I (i+1) st'->Post (L m ((i+1:Nat):Int) st'))->Post (L (m+1) (i:Int) st))
 (he:∀(m:Nat) (st:σ),I N st->Post (L (m+1) (N:Int) st)):∀(m i:Nat) (st:σ),i<=N->N-i<m->I i st->Post (L m (i:Int) st)
 |0,i,st,_,hm,_=>by omega
 |m+1,i,st,hi,hm,h=>by
  by_cases hlt:i<N
  ·exact hs m i st hlt h fun st' h'=>JP N I Post hs he m (i+1) st' (by omega) (by omega) h'
  ·obtain rfl:i=N:=by omega
   exact he m st h
def BC{α:Type}(Q:α->Prop)(o:Option α):Prop:=∃v,o=some v∧Q v
theorem Ao{α:Type}{Q:α->Prop}{v:α}(h:Q v):BC Q (some v):=⟨v,rfl,h⟩
theorem BC.bind{α β:Type}{A:α->Prop}{Q:β->Prop}{o:Option α}{f:α->Option β}(h:BC A o)(k:∀v,o=Option.some v->A v->BC Q (f v)):BC Q (Option.bind o f):=by
 obtain⟨v,e,hv⟩:=h
 rw [e];exact k v e hv
theorem BN{α:Type}{Q:α->Prop}{c:Bool}{x y:Option α}(h1:c=true->BC Q x)(h2:c=false->BC Q y):BC Q (cond c x y):=by
 cases c
 ·exact h2 rfl
 ·exact h1 rfl
theorem BC.weaken{α:Type}{Q Q':α->Prop}{o:Option α}(h:BC Q o)(hq:∀v,Q v->Q' v):BC Q' o:=by
 obtain⟨v,e,hv⟩:=h
 exact⟨v,e,hq v hv⟩
theorem BC.get{α:Type}{Q:α->Prop}{xs:List α}{i:Int}(h0:0<=i)(h1:i<xs.length)(h:∀x∈xs,Q x):BC Q (AS xs i):=by
 obtain⟨x,hx,hm⟩:=JT h0 h1
 exact⟨x,hx,h x hm⟩
theorem Cr{α:Type}{xs:List α}{i:Int}(h0:0<=i)(h1:i<xs.length):BC (fun x=>x∈xs) (AS xs i):=BC.get h0 h1 fun _ h=>h
theorem ID{α:Type}{xs:List α}{L:Nat->Int->Option Int}(p:α->Bool)(hs:∀(m i:Nat) (h:i<xs.length),L (m+1) (i:Int)=cond (p xs[i]) (some (i:Int)) (L m ((i+1:Nat):Int)))
 (he:∀m:Nat,L (m+1) (xs.length:Int)=some (-1)) (m:Nat) (hm:xs.length<m):∃r,L m 0=some r∧decide (r>=0)=xs.any p:=by
 refine loop (L:=fun m i (_:Unit)=>L m i) xs.length (fun i _=>xs.any p=(xs.drop i).any p) (fun o=>∃r,o=some r∧decide (r>=0)=xs.any p) ?_ ?_ m 0 () (by omega) (by omega) (by simp)
 ·intro m i _ hi h
  rw [List.drop_eq_getElem_cons hi,List.any_cons]at h
  cases hp:p xs[i]with
  |false=>refine .inl ⟨(),by rw [h,hp];simp,?_⟩;simp only [hs m i hi,hp,cF]
  |true=>refine .inr ⟨(i:Int),?_,?_⟩
         ·simp only [hs m i hi,hp,cT]
         ·rw [h,hp];simp
 ·intro m _ h
  rw [List.drop_length]at h
  exact⟨-1,he m,by rw [h];rfl⟩
structure CO(c:List Int)(s:AA):Prop where
 code:s.code_=c
 at0:0<=s.at_∧s.at_<=c.length
 sd:0<=s.seed_∧s.seed_<2147483647
def FF(c:List Int):Prop:=c.length<=4096∧∀x∈c,0<=x∧x<=255
theorem CE{a b:Int}(ha:0<=a)(hb:0<b):0<=Int.tmod a b∧Int.tmod a b<b:=⟨Int.tmod_nonneg _ ha,Int.tmod_lt_of_pos _ hb⟩
theorem Nx{n:Nat}{c:List Int}(hc:FF c){s:AA}(h:CO c s)(k:Int):BC (fun r=>CO c r.2∧0<=r.1∧(r.1<k∨r.1=0∧k<=1)) (Bs n s k):=by
 obtain⟨h1,h2,h3⟩:=h
 have hl:=hc.1
 rw [Bs]
 refine BN (fun hk=>Ao ⟨⟨h1,h2,h3⟩,Int.le_refl _,.inr ⟨rfl,of_decide_eq_true hk⟩⟩) fun hk=>?_
 have hk:=of_decide_eq_false hk
 have hk0:(k==0)=false:=by rw [beq_eq_false_iff_ne];omega
 refine BN (fun ha=>?_) fun ha=>?_
 ·have ha:=of_decide_eq_true ha
  rw [h1]at ha ⊢
  refine BC.bind (BC.get h2.1 ha hc.2) fun x _ hx=>?_
  have wx:wrap .i64 x=x:=Ai (by omega) (by omega)
  have wa:wrap .i64 (s.at_+1)=s.at_+1:=Ai (by omega) (by omega)
  have wm:wrap .i64 (s.seed_*48271)=s.seed_*48271:=Ai (by omega) (by omega)
  simp only [hk0,cF,wx,wa,wm,Ai (x:=s.seed_*48271+x) (by omega) (by omega),Ai (x:=s.seed_*48271+x+1) (by omega) (by omega)]
  have m1:=CE (a:=s.seed_*48271+x+1) (b:=2147483647) (by omega) (by omega)
  refine BN (fun _=>Ao ⟨⟨rfl,⟨?_,?_⟩,h3⟩,?_⟩) fun _=>Ao ⟨⟨rfl,⟨?_,?_⟩,m1⟩,?_⟩
  ·show 0<=s.at_+1;omega
  ·show s.at_+1<=_;omega
  ·exact⟨(CE hx.1 (by omega)).1,.inl (CE hx.1 (by omega)).2⟩
  ·show 0<=s.at_+1;omega
  ·show s.at_+1<=_;omega
  ·exact⟨(CE m1.1 (by omega)).1,.inl (CE m1.1 (by omega)).2⟩
 ·have wm:wrap .i64 (s.seed_*48271)=s.seed_*48271:=Ai (by omega) (by omega)
  have m1:=CE (a:=s.seed_*48271+11) (b:=2147483647) (by omega) (by omega)
  simp only [hk0,cF,wm,Ai (x:=s.seed_*48271+11) (by omega) (by omega)]
  generalize Int.tmod (s.seed_*48271+11) 2147483647=q at*
  have d0:0<=Int.tdiv q 7:=Int.tdiv_nonneg m1.1 (by omega)
  have d1:Int.tdiv q 7<=q:=Int.tdiv_le_self _ m1.1
  rw [Ai (x:=Int.tdiv q 7) (by omega) (by omega)]
  exact Ao ⟨⟨h1,h2,m1⟩,(CE d0 (by omega)).1,.inl (CE d0 (by omega)).2⟩
theorem CO.mk2{c d:List Int}{s:AA}(h:CO c s)(e:d=c):CO c (AA.mk d s.at_ s.seed_):=⟨e,h.at0,h.sd⟩
theorem Fr{n:Nat}{c:List Int}(hc:FF c)(hn:1048577<=n):BC (fun r=>CO c r) (PT n c):=by
 have hl:=hc.1
 rw [PT]
 refine JP (L:=fun m i (p:Int×Int)=>EZ c (fun i12 i14 i15=>(some ((AA.mk c i14 i15)))) m i p.1 p.2) (min c.length 64) (fun _ p=>p.1=0∧0<=p.2∧p.2<2147483647) _ ?_ ?_ n 0 (0,12345) (by omega) (by omega) ⟨rfl,by omega,by omega⟩
 ·intro m i ⟨a,sd⟩ hi ⟨h1,h2⟩ ih
  dsimp only at h1 h2 ⊢
  have hi1:i<c.length:=by omega
  have hx:=hc.2 _ (List.getElem_mem hi1)
  simp only [EZ.eq_2,EI hi1,EI (show i<64 by omega),Bool.and_self,cT,BI hi1,BJ,show((64:Int))=((64:Nat):Int)from rfl,wT i]
  generalize c[i]=x at*
  rw [Ai (x:=sd*31) (by omega) (by omega),Ai (x:=x) (by omega) (by omega),Ai (x:=sd*31+x) (by omega) (by omega)]
  have m1:=CE (a:=sd*31+x) (b:=2147483647) (by omega) (by omega)
  exact ih (a,_) ⟨h1,m1⟩
 ·intro m ⟨a,sd⟩ ⟨h1,h2⟩
  dsimp only at h1 h2 ⊢
  have:(decide (((min c.length 64:Nat):Int)<(c.length:Int))&&decide (((min c.length 64:Nat):Int)<64))=false:=by
   rw [Bool.and_eq_false_iff,decide_eq_false_iff_not,decide_eq_false_iff_not];omega
  simp only [EZ.eq_2,this,cF]
  exact Ao ⟨rfl,⟨by subst h1;exact Int.le_refl _,by subst h1;exact Int.natCast_nonneg _⟩,h2⟩
theorem FF.of{code:List Int}(hR:code.length<=9223372036854775807∧∀x∈code,OO .u8 x)(h:¬(code.length:Int)>4096):FF code:=⟨by omega,fun x hx=>hR.2 x hx⟩
def gd(t:List Int)(j:Nat):Int:=t.getD j 0
theorem Ij{t:List Int}{j:Nat}{v:Int}(h:t[j]? =some v):gd t j=v:=by simp [gd,h]
theorem Nu{t:List Int}{j:Nat}(h:j<t.length):t[j]? =some (gd t j):=by simp [gd,h]
theorem Dl{t:List Int}{i j:Nat}{v:Int}(h:i<t.length):gd (t.set i v) j=if i=j then v else gd t j:=by
 unfold gd
 rw [List.getD_eq_getElem?_getD,List.getD_eq_getElem?_getD,List.getElem?_set]
 by_cases e:i=j
 ·subst e;simp [h]
 ·simp [e]
def gb(t:List Bool)(j:Nat):Bool:=t.getD j false
theorem MS(m:Int):0<=EN .u64 m 16777215∧EN .u64 m 16777215<=16777215:=by
 unfold EN
 have h:(BitVec.ofInt IntKind.u64.bits m&&&BitVec.ofInt IntKind.u64.bits 16777215).toNat<=16777215:=by
  rw [BitVec.toNat_and]
  refine Nat.le_trans Nat.and_le_right ?_
  decide
 generalize (BitVec.ofInt IntKind.u64.bits m&&&BitVec.ofInt IntKind.u64.bits 16777215).toNat=q at h
 have:IntKind.wrap IntKind.u64 (q:Int)=q:=by
  have e:IntKind.wrap IntKind.u64 (q:Int)=(q:Int)%18446744073709551616:=rfl
  rw [e];omega
 rw [this];omega
structure NZ(c:List Int)(d:Bh):Prop where
 b:d.b_=c
 i0:0<=d.i_∧d.i_<=c.length
theorem TT{n:Nat}{c:List Int}(hc:FF c)(hn:1048577<=n)(seed:Int):BC (fun d=>NZ c d) (PO n c seed):=by
 have hl:=hc.1
 rw [PO]
 generalize IntKind.wrap IntKind.u64 _=h0
 refine JP (L:=fun m i (p:Int×Int)=>EV c (fun i12 i14 i15=>(some ((Bh.mk c i14 i15)))) m i p.1 p.2) c.length (fun _ p=>p.1=0) _ ?_ ?_ n 0 (0,h0) (by omega) (by omega) rfl
 ·intro m i ⟨a,h⟩ hi h1 ih
  dsimp only at h1 ⊢
  simp only [EV.eq_2,EI hi,cT,BI hi,BJ,wT i]
  exact ih (a,_) h1
 ·intro m ⟨a,h⟩ h1
  dsimp only at h1 ⊢
  subst h1
  simp only [EV.eq_2,FH,cF]
  exact Ao ⟨rfl,by show(0:Int)<=0∧(0:Int)<=c.length;omega⟩
theorem Sx{n:Nat}{c:List Int}(hc:FF c){d:Bh}(hd:NZ c d){k:Int}(hk:1<=k):BC (fun r=>(0<=r.1∧r.1<k)∧NZ c r.2) (KX n d k):=by
 have hl:=hc.1
 have h0:=hd.i0
 rw [KX]
 have hk0:(k==0)=false:=by rw [beq_eq_false_iff_ne];omega
 simp only [hk0,cF,hd.b]
 obtain⟨q0,q1⟩:=MS (Fz .u64 (IntKind.wrap IntKind.u64 ((IntKind.wrap IntKind.u64 (d.h_*6364136223846793005))+1442695040888963407)) 33)
 generalize EN .u64 (Fz .u64 (IntKind.wrap IntKind.u64 ((IntKind.wrap IntKind.u64 (d.h_*6364136223846793005))+1442695040888963407)) 33) 16777215=q at*
 rw [Ai (x:=q) (by omega) (by omega)]
 refine BN (fun hi=>?_) fun hi=>?_
 ·have hi:=of_decide_eq_true hi
  refine BC.bind (BC.get h0.1 hi hc.2) fun x _ hx=>?_
  rw [Ai (x:=x) (by omega) (by omega),Ai (x:=q+x) (by omega) (by omega),Ai (x:=d.i_+1) (by omega) (by omega)]
  exact Ao ⟨CE (by omega) (by omega),rfl,by show 0<=d.i_+1∧d.i_+1<=_;omega⟩
 ·exact Ao ⟨CE (by omega) (by omega),rfl,h0⟩
theorem NZ.mk2{c d:List Int}{x:Bh}(h:NZ c x)(e:d=c):NZ c (Bh.mk d x.i_ x.h_):=⟨e,h.i0⟩
def EK(b:UInt8):Bool:=decide ((b.toNat:Int)>=97)&&decide ((b.toNat:Int)<=122)
def Hb(b:UInt8):Bool:=decide ((b.toNat:Int)>=48)&&decide ((b.toNat:Int)<=57)
def Bx(s:ByteArray):Bool:=(decide ((s.size:Int)>=1)&&decide ((s.size:Int)<=8))&&(s.data.toList.all fun b=>EK b||Hb b)&&(s.data.toList.take 1).all EK
theorem FR(s:ByteArray):s.size=s.data.toList.length:=by rw [Array.length_toList];rfl
theorem Iy{s:ByteArray}{i:Nat}(h:i<s.data.toList.length):HN s (i:Int)=some ((s.data.toList[i].toNat:Nat):Int):=by
 unfold HN
 rw [if_pos (by omega),Int.toNat_natCast]
 have:s[i]? =some s.data.toList[i]:=by
  have hs:i<s.size:=by rw [FR];exact h
  rw [show s[i]? =some s[i]from getElem?_pos s i hs]
  rfl
 rw [this];rfl
theorem Kr(p q:UInt8->Bool)(h:(List.range 256).all (fun i=>p (UInt8.ofNat i)==q (UInt8.ofNat i))=true)(b:UInt8):p b=q b:=by
 have:=List.all_eq_true.1 h b.toNat (List.mem_range.2 b.toNat_lt)
 rw [UInt8.ofNat_toNat]at this
 exact eq_of_beq this
def lettersL:List UInt8:=[97,98,99,100,101,102,103,104,105,106,107,108,109,110,111,112,113,114,115,116,117,118,119,120,121,122]
def nameL:List UInt8:=[97,98,99,100,101,102,103,104,105,106,107,108,109,110,111,112,113,114,115,116,117,118,119,120,121,122,48,49,50,51,52,53,54,55,56,57]
theorem LO(b:UInt8):nameL.contains b=(EK b||Hb b):=Kr (fun b=>nameL.contains b) (fun b=>EK b||Hb b) (by decide+kernel) b
theorem IB(b:UInt8):lettersL.contains b=EK b:=Kr (fun b=>lettersL.contains b) (fun b=>EK b) (by decide+kernel) b
theorem FL{p:UInt8->Bool}:∀{l:List UInt8} (h:0<l.length),(l.take 1).all p=p l[0]
 |[],h=>by simp at h
 |a::r,_=>by simp
theorem CY{p:UInt8->Bool}:∀(l:List UInt8),(l.dropWhile p=[])↔l.all p=true
 |[]=>by simp
 |a::l=>by
  rw [List.dropWhile_cons,List.all_cons]
  cases h:p a with
  |true=>simpa using CY l
  |false=>simp
theorem Dq{p:UInt8->Bool}:∀{l:List UInt8} {a:UInt8} {r:List UInt8},l.dropWhile p=a::r->p a=false
 |b::l,a,r,h=>by
  rw [List.dropWhile_cons]at h
  split at h
  ·exact Dq h
  ·next q=>simp only [List.cons.injEq]at h;rw [←h.1];simpa using q
theorem KP(l cs:List UInt8):(Lib.trimS l cs==[])=l.all (cs.contains ·):=by
 rw [Bool.eq_iff_iff,beq_iff_eq]
 unfold Lib.trimS Lib.trimLeftS Lib.trimRightS
 rw [CY,List.all_reverse]
 rw [show l.all (cs.contains ·)=l.reverse.all (cs.contains ·) by rw [List.all_reverse]]
 constructor
 ·intro h
  cases hd:l.reverse.dropWhile (cs.contains ·)with
  |nil=>exact(CY _).1 hd
  |cons a r=>
   have h1:=Dq hd
   rw [hd,List.all_cons,h1]at h
   cases h
 ·intro h
  rw [(CY _).2 h];rfl
theorem Ey:∀(l:List UInt8) (c:UInt8),decide (Lib.indexByte l c>=0)=l.contains c∧Lib.indexByte l c>= -1
 |[],c=>by simp [Lib.indexByte]
 |b::l,c=>by
  obtain⟨h1,h2⟩:=Ey l c
  rw [Lib.indexByte,List.contains_cons]
  by_cases e:b=c
  ·subst e;simp
  ·have e1:(b==c)=false:=beq_eq_false_iff_ne.2 e
   have e2:(c==b)=false:=beq_eq_false_iff_ne.2 fun q=>e q.symm
   rw [e1,e2,Bool.false_or,←h1]
   by_cases h:Lib.indexByte l c= -1
   ·rw [h];simp
   ·have:(Lib.indexByte l c== -1)=false:=beq_eq_false_iff_ne.2 h
    rw [this]
    have hge:Lib.indexByte l c>=0:=by omega
    rw [decide_eq_true hge]
    simp only [Bool.false_eq_true,if_false]
    exact⟨decide_eq_true (by omega),by omega⟩
theorem Sd{n:Nat}{s:ByteArray}(hs:s.size<=1048576)(hn:1048577<=n):Jz n s=some (Bx s):=by
 rw [Jz,HV,BJ]
 unfold Bx
 cases hw:(decide ((s.size:Int)>=1)&&decide ((s.size:Int)<=8))with
 |false=>simp
 |true=>
  have hsz:1<=s.size:=by simp only [Bool.and_eq_true,decide_eq_true_eq]at hw;omega
  have ht:Kh n s ((ByteArray.mk #[97,98,99,100,101,102,103,104,105,106,107,108,109,110,111,112,113,114,115,116,117,118,119,120,121,122,48,49,50,51,52,53,54,55,56,57]))=some ⟨(Lib.trimS s.data.toList nameL).toArray⟩:=by
   unfold Kh
   rw [if_pos ⟨by omega,by decide,by decide⟩];rfl
  simp only [cT,ht,BJ,Bool.true_and]
  have hb:((⟨(Lib.trimS s.data.toList nameL).toArray⟩:ByteArray).toList==((ByteArray.mk #[])).toList)=(s.data.toList.all fun b=>EK b||Hb b):=by
   rw [Lib.toList_data,Lib.toList_data]
   show((Lib.trimS s.data.toList nameL)==[])=_
   rw [KP]
   congr 1
   funext b;exact LO b
  rw [hb]
  cases(s.data.toList.all fun b=>EK b||Hb b)with
  |false=>simp
  |true=>
   rw [FR]at hsz
   have hg:=Iy (s:=s) (i:=0) (by omega)
   simp only [cT,show((0:Int))=((0:Nat):Int)from rfl,hg,BJ,Nv,Bool.true_and]
   have h1:=(Ey lettersL (s.data.toList[0])).1
   rw [IB]at h1
   have e1:(((s.data.toList[0].toNat:Nat):Int).toNat.toUInt8)=s.data.toList[0]:=by rw [Int.toNat_natCast];exact UInt8.ofNat_toNat
   rw [e1]
   have e2:(s.data.toList.take 1).all EK=EK s.data.toList[0]:=FL (by omega)
   rw [e2,←h1];rfl
theorem SW{n:Nat}{s:ByteArray}(hs:s.size<=1048576)(hn:1048577<=n):OF n s=some (Bx s):=by
 rw [OF]
 have hl:=FR s
 refine loop (L:=fun m i (_:Unit)=>Cd s _ m i) s.data.toList.length (fun i _=>Bx s=((decide ((s.size:Int)>=1)&&decide ((s.size:Int)<=8))&&((s.data.toList.drop i).all fun b=>EK b||Hb b)&&((s.data.toList.take 1).drop i).all EK)) (fun r=>r=some (Bx s)) ?_ ?_ n 0 () (by omega) (by omega) (by simp [Bx])
 ·intro m i _ hi hI
  have g:=Iy hi
  have hd:decide ((i:Int)<(s.size:Int))=true:=decide_eq_true (by omega)
  have key:Cd s (fun i3=>(some (((decide ((s.size:Int)>=1))&&(decide ((s.size:Int)<=8)))))) (m+1) (i:Int)=cond (!EK s.data.toList[i]&& !(Hb s.data.toList[i]&&decide (0<i))) (some false) (Cd s (fun i3=>(some (((decide ((s.size:Int)>=1))&&(decide ((s.size:Int)<=8)))))) m ((i+1:Nat):Int)):=by
   have e0:decide ((i:Int)>0)=decide (0<i):=by by_cases h:0<i<;>simp [h]<;>omega
   simp only [Cd.eq_2,hd,cT,g,BJ,Bw,wT i,e0]
   rfl
  by_cases hc:(!EK s.data.toList[i]&& !(Hb s.data.toList[i]&&decide (0<i)))=true
  ·refine .inr ?_
   show Cd s _ (m+1) (i:Int)=_
   rw [key,hc,cT]
   have:Bx s=false:=by
    rw [hI,List.drop_eq_getElem_cons hi,List.all_cons]
    simp only [Bool.and_eq_true,Bool.not_eq_true',Bool.and_eq_false_iff,decide_eq_false_iff_not]at hc
    obtain⟨h1,h2⟩:=hc
    rw [h1]
    rcases h2 with h2|h2
    ·rw [h2];simp
    ·obtain rfl:i=0:=by omega
     rw [List.drop_zero,FL hi,h1];simp
   rw [this]
  ·refine .inl ⟨(),?_,?_⟩
   ·rw [hI,List.drop_eq_getElem_cons hi,List.all_cons]
    have hc:=Bool.eq_false_iff.2 hc
    simp only [Bool.and_eq_false_iff,Bool.not_eq_false',Bool.and_eq_true,decide_eq_true_eq]at hc
    by_cases h0:i=0
    ·subst h0
     have h1:EK s.data.toList[0]=true:=by
      rcases hc with h|h
      ·exact h
      ·omega
     have e2:(s.data.toList.take 1).drop (0+1)=[]:=List.drop_eq_nil_of_le (by simp;omega)
     rw [List.drop_zero,FL hi,e2,h1];simp
    ·have e1:(s.data.toList.take 1).drop i=[]:=List.drop_eq_nil_of_le (by simp;omega)
     have e2:(s.data.toList.take 1).drop (i+1)=[]:=List.drop_eq_nil_of_le (by simp;omega)
     rw [e1,e2]
     have:(EK s.data.toList[i]||Hb s.data.toList[i])=true:=by
      rcases hc with h|h
      ·rw [h];rfl
      ·rw [h.1];simp
     rw [this];simp
   ·show Cd s _ (m+1) (i:Int)=Cd s _ m ((i+1:Nat):Int)
    rw [key,Bool.eq_false_iff.2 hc,cF]
 ·intro m _ hI
  have hd:decide (((s.data.toList.length:Nat):Int)<(s.size:Int))=false:=decide_eq_false (by omega)
  simp only [Cd.eq_2,hd,cF]
  rw [hI,List.drop_length,List.drop_eq_nil_of_le (by simp;omega)]
  simp
def BA(P:Prop)(r:Option Bool):Prop:=∃b:Bool,r=some b∧(b=true↔P)
theorem Av{P:Prop}(h:¬P):BA P (some false):=⟨false,rfl,by simp [h]⟩
theorem CS{P:Prop}(h:P):BA P (some true):=⟨true,rfl,by simp [h]⟩
theorem TB{n:Nat}{xs:List ByteArray}{x:ByteArray}(h:xs.length<=1048576)(hn:1048577<=n):KW n xs x=some (xs.any fun y=>x.toList==y.toList):=by
 rw [KW,QZ]
 obtain⟨r,e1,e2⟩:=ID (xs:=xs) (L:=fun m i=>Dg xs x (fun i5=>(some (-1))) m i) (fun y=>x.toList==y.toList) (fun m i hi=>by
  simp only [Dg.eq_2,EI hi,cT,BI hi,BJ,wT i]) (fun m=>by
  simp only [Dg.eq_2,FH,cF]) n (by omega)
 have e1:Dg xs x (fun i5=>(some (-1))) n 0=some r:=e1
 rw [e1,BJ,e2]
theorem AN{n:Nat}{xs:List ByteArray}(h:xs.length<=1048576)(hs:∀x∈xs,x.size<=1048576)(hn:1048577<=n):BA (∀k (h:k<xs.length),Bx xs[k]=true∧∀i (hi:i<k),(xs[i].toList==xs[k].toList)=false) (PC n xs):=by
 rw [PC]
 refine loop (L:=fun m i (_:Unit)=>EX n xs _ m i) xs.length (fun i _=>∀k (h:k<xs.length),k<i->Bx xs[k]=true∧∀i (hi:i<k),(xs[i].toList==xs[k].toList)=false) _ ?_ ?_ n 0 () (by omega) (by omega) (fun k h hk=>by omega)
 ·intro m i _ hi hI
  have hsub:EL xs 0 (i:Int)=some (xs.take i):=by
   unfold EL
   rw [if_pos ⟨by omega,by omega,by omega⟩];simp
  have hct:=TB (n:=n) (xs:=xs.take i) (x:=xs[i]) (by simp;omega) hn
  simp only [EX.eq_2,EI hi,cT,BI hi,BJ,Sd (hs _ (List.getElem_mem hi)) hn,hsub,hct,Dv,wT i]
  cases hb:(!Bx xs[i]||(xs.take i).any fun y=>xs[i].toList==y.toList)with
  |true=>
   refine .inr (Av fun hv=>?_)
   obtain⟨h1,h2⟩:=hv i hi
   rw [h1,Bool.not_true,Bool.false_or,List.any_eq_true]at hb
   obtain⟨y,hy,he⟩:=hb
   obtain⟨j,hj,rfl⟩:=List.mem_iff_getElem.1 hy
   rw [List.length_take]at hj
   rw [List.getElem_take]at he
   have:=h2 j (by omega)
   rw [beq_eq_false_iff_ne]at this
   exact this (eq_of_beq he).symm
  |false=>
   simp only [Bool.or_eq_false_iff,Bool.not_eq_false']at hb
   refine .inl ⟨(),fun k h hk=>?_,rfl⟩
   by_cases e:k=i
   ·subst e
    refine⟨hb.1,fun j hj=>?_⟩
    rw [beq_eq_false_iff_ne]
    intro he
    have:=List.any_eq_false.1 hb.2 xs[j] (List.mem_iff_getElem.2 ⟨j,by rw [List.length_take];omega,by rw [List.getElem_take]⟩)
    exact this (by rw [he];simp)
   ·exact hI k h (by omega)
 ·intro m _ hI
  simp only [EX.eq_2,FH,cF]
  exact CS fun k h=>hI k h h
theorem AW{n:Nat}{ks:List Int}{lo hi:Int}(h:ks.length<=1048576)(hn:1048577<=n):HY n ks lo hi=some (ks.all fun k=>decide (k>=lo)&&decide (k<=hi)):=by
 rw [HY,Mf,QY]
 obtain⟨r,e1,e2⟩:=ID (xs:=ks) (L:=fun m i=>Dh n ks lo hi (fun i7=>(some (-1))) m i) (fun k=>!(decide (k>=lo)&&decide (k<=hi))) (fun m i hi=>by
  simp only [Dh.eq_2,EI hi,cT,BI hi,BJ,MW,HV,wT i]) (fun m=>by
  simp only [Dh.eq_2,FH,cF]) n (by omega)
 have e1:Dh n ks lo hi (fun i7=>(some (-1))) n 0=some r:=e1
 rw [e1,BJ,BJ,e2]
 congr 1
 rw [List.not_any_eq_all_not]
 congr 1
 funext k;rw [Bool.not_not]
theorem BA.iff{P Q:Prop}{o:Option Bool}(h:BA P o)(e:P↔Q):BA Q o:=by
 obtain⟨b,rfl,h⟩:=h;exact⟨b,rfl,h.trans e⟩
theorem Ag{P:Prop}{b:Bool}(h:b=true↔P):BA P (some b):=⟨b,rfl,h⟩
theorem BA.bind{P R:Prop}{o:Option Bool}{f:Bool->Option Bool}(h:BA P o)(h1:P->BA R (f true))(h0:¬P->BA R (f false)):BA R (Option.bind o f):=by
 obtain⟨b,rfl,h⟩:=h
 cases b with
 |true=>exact h1 (h.1 rfl)
 |false=>exact h0 fun p=>by have:=h.2 p;cases this
theorem Gm{R:Prop}{c:Bool}{x y:Option Bool}(h1:c=true->BA R x)(h0:c=false->BA R y):BA R (cond c x y):=by
 cases c
 ·exact h0 rfl
 ·exact h1 rfl
theorem FY{L:Nat->Int->Option Bool}{Q:Prop}(N s:Nat)(p:Nat->Prop)
 (hs:∀(m i:Nat),s<=i->i<N->(p i∧L (m+1) (i:Int)=L m ((i+1:Nat):Int))∨(¬p i∧L (m+1) (i:Int)=some false))
 (he:∀(m i:Nat),N<=i->i<=N+s->(∀j,s<=j->j<N->p j)->BA Q (L (m+1) (i:Int))):∀(m i:Nat),s<=i->i<=N+s->N-i<m->(∀j,s<=j->j<i->j<N->p j)->BA ((∀i,s<=i->i<N->p i)∧Q) (L m (i:Int))
 |0,i,_,_,hm,_=>by omega
 |m+1,i,hi,hi2,hm,hI=>by
  by_cases hlt:i<N
  ·rcases hs m i hi hlt with ⟨h1,h2⟩|⟨h1,h2⟩
   ·rw [h2]
    refine FY N s p hs he m (i+1) (by omega) (by omega) (by omega) fun j h3 h4 h5=>?_
    by_cases e:j=i
    ·subst e;exact h1
    ·exact hI j h3 (by omega) h5
   ·rw [h2];exact Av fun h=>h1 (h.1 i hi hlt)
  ·have ha:∀j,s<=j->j<N->p j:=fun j h3 h4=>hI j h3 (by omega) h4
   exact(he m i (by omega) hi2 ha).iff ⟨fun q=>⟨ha,q⟩,fun q=>q.2⟩
theorem FE{α:Type}{xs:List α}{L:Nat->Int->Option Int}{f:α->Option Bool}{P:α->Prop}(hf:∀x∈xs,BA (P x) (f x))(hs:∀(m i:Nat) (h:i<xs.length),L (m+1) (i:Int)=Option.bind (f xs[i]) fun r=>cond r (some (i:Int)) (L m ((i+1:Nat):Int)))
 (he:∀m:Nat,L (m+1) (xs.length:Int)=some (-1)) (m:Nat) (hm:xs.length<m):∃r,L m 0=some r∧(r>=0↔∃x∈xs,P x)∧(r= -1∨∃j:Nat,r=(j:Int)∧∃h:j<xs.length,P xs[j]∧∀i (hi:i<xs.length),i<j->¬P xs[i]):=by
 refine loop (L:=fun m i (_:Unit)=>L m i) xs.length (fun i _=>∀j (h:j<xs.length),j<i->¬P xs[j]) (fun o=>∃r,o=some r∧(r>=0↔∃x∈xs,P x)∧(r= -1∨∃j:Nat,r=(j:Int)∧∃h:j<xs.length,P xs[j]∧∀i (hi:i<xs.length),i<j->¬P xs[i])) ?_ ?_ m 0 () (by omega) (by omega) (fun j _ h=>by omega)
 ·intro m i _ hi hI
  obtain⟨b,e,hb⟩:=hf _ (List.getElem_mem hi)
  rw [hs m i hi,e,BJ]
  cases b with
  |true=>exact .inr ⟨(i:Int),rfl,⟨fun _=>⟨_,List.getElem_mem hi,hb.1 rfl⟩,fun _=>by omega⟩,.inr ⟨i,rfl,hi,hb.1 rfl,hI⟩⟩
  |false=>
   refine .inl ⟨(),fun j h hj=>?_,by trivial⟩
   by_cases ej:j=i
   ·subst ej;intro hp;have:=hb.2 hp;cases this
   ·exact hI j h (by omega)
 ·intro m _ hI
  refine⟨-1,he m,⟨fun h=>by omega,fun⟨x,hx,hp⟩=>?_⟩,.inl rfl⟩
  obtain⟨j,hj,rfl⟩:=List.getElem_of_mem hx
  exact absurd hp (hI j hj hj)
theorem gI{l:List Int}{i:Nat}(h:i<l.length):AS l (i:Int)=some (gd l i):=by rw [GQ];exact Nu h
def QS(l:List Int):Prop:=(1<=l.length∧l.length<=4)∧(∀i,i<l.length->0<=gd l i∧gd l i<=100000)∧∀i,i<l.length->0<i->gd l (i-1)<gd l i
def VT(t:AQ):Prop:=(QS t.Slews∧QS t.Loads)∧t.Values.length=t.Slews.length*t.Loads.length∧∀i,i<t.Values.length-> -1000000<=gd t.Values i∧gd t.Values i<=1000000
theorem LL{l:List Int}{lo hi:Int}:(l.all fun k=>decide (k>=lo)&&decide (k<=hi))=true↔∀i,i<l.length->lo<=gd l i∧gd l i<=hi:=by
 rw [List.all_eq_true]
 constructor
 ·intro h i hi
  have:=h _ (List.getElem_mem hi)
  simp only [Bool.and_eq_true,decide_eq_true_eq]at this
  rw [Ij (List.getElem?_eq_getElem hi)];omega
 ·intro h x hx
  obtain⟨j,hj,rfl⟩:=List.getElem_of_mem hx
  have:=h j hj
  rw [Ij (List.getElem?_eq_getElem hj)]at this
  simp only [Bool.and_eq_true,decide_eq_true_eq];omega
theorem SR{n:Nat}{l:List Int}(h:l.length<=1048576)(hn:1048577<=n):BA (QS l) (OD n l):=by
 rw [OD]
 refine(FY (L:=fun m i=>Em n l _ m i) (Q:=1<=l.length∧l.length<=4) l.length 0 (fun i=>(0<=gd l i∧gd l i<=100000)∧(0<i->gd l (i-1)<gd l i)) ?_ ?_ n 0 (by omega) (by omega) (by omega) (fun j _ h=>by omega)).iff ?_
 ·intro m i _ hi
  have w1:0<i->wrap .i64 ((i:Int)-1)=((i-1:Nat):Int):=fun h0=>by rw [Ai (by omega) (by omega)];omega
  simp only [Em.eq_2,EI hi,cT,gI hi,BJ,HE,wT i]
  by_cases c1:0<=gd l i∧gd l i<=100000
  ·have d1:(decide (gd l i>=0)&&decide (gd l i<=100000))=true:=by simp only [Bool.and_eq_true,decide_eq_true_eq];omega
   simp only [d1,Bool.not_true,cF]
   by_cases h0:0<i
   ·have d2:decide ((i:Int)>0)=true:=decide_eq_true (by omega)
    simp only [d2,cT,w1 h0,gI (show i-1<l.length by omega),BJ]
    by_cases c2:gd l (i-1)<gd l i
    ·have d3:decide (gd l (i-1)>=gd l i)=false:=decide_eq_false (by omega)
     simp only [d3,cF]
     exact .inl ⟨⟨c1,fun _=>c2⟩,by trivial⟩
    ·have d3:decide (gd l (i-1)>=gd l i)=true:=decide_eq_true (by omega)
     simp only [d3,cT]
     exact .inr ⟨fun h=>c2 (h.2 h0),by trivial⟩
   ·have d2:decide ((i:Int)>0)=false:=decide_eq_false (by omega)
    simp only [d2,cF,BJ]
    exact .inl ⟨⟨c1,fun h=>absurd h h0⟩,by trivial⟩
  ·have d1:(decide (gd l i>=0)&&decide (gd l i<=100000))=false:=by
    rw [Bool.and_eq_false_iff,decide_eq_false_iff_not,decide_eq_false_iff_not];omega
   simp only [d1,Bool.not_false,cT,BJ]
   exact .inr ⟨fun h=>c1 h.1,by trivial⟩
 ·intro m i h1 h2 _
  obtain rfl:i=l.length:=by omega
  simp only [Em.eq_2,FH,cF]
  exact Ag (by simp only [Bool.and_eq_true,decide_eq_true_eq];omega)
 ·exact⟨fun⟨a,b⟩=>⟨b,fun i hi=>(a i (by omega) hi).1,fun i hi h0=>(a i (by omega) hi).2 h0⟩,fun⟨a,b,c⟩=>⟨fun i _ hi=>⟨b i hi,c i hi⟩,a⟩⟩
theorem Sf{n:Nat}{l:List Int}(h:l.length<=1048576)(hn:1048577<=n):BA (∀i,i<l.length->0<i->gd l (i-1)<gd l i) (Ph n l):=by
 rw [Ph]
 refine(FY (L:=fun m i=>Ec l _ m i) (Q:=True) l.length 1 (fun i=>gd l (i-1)<gd l i) ?_ ?_ n 1 (by omega) (by omega) (by omega) (fun j _ h=>by omega)).iff ?_
 ·intro m i h0 hi
  have w1:wrap .i64 ((i:Int)-1)=((i-1:Nat):Int):=by rw [Ai (by omega) (by omega)];omega
  simp only [Ec.eq_2,EI hi,cT,w1,gI hi,gI (show i-1<l.length by omega),BJ,wT i]
  by_cases c2:gd l (i-1)<gd l i
  ·have d3:decide (gd l (i-1)>=gd l i)=false:=decide_eq_false (by omega)
   simp only [d3,cF]
   exact .inl ⟨c2,by trivial⟩
  ·have d3:decide (gd l (i-1)>=gd l i)=true:=decide_eq_true (by omega)
   simp only [d3,cT]
   exact .inr ⟨c2,by trivial⟩
 ·intro m i h1 h2 _
  have:decide ((i:Int)<(l.length:Int))=false:=decide_eq_false (by omega)
  simp only [Ec.eq_2,this,cF]
  exact CS trivial
 ·exact⟨fun a i hi h0=>a.1 i h0 hi,fun a=>⟨fun i h0 hi=>a i hi h0,trivial⟩⟩
theorem SN{n:Nat}{l:List Int}(h:l.length<=1048576)(hn:1048577<=n):BA (QS l) (Jn n l):=by
 obtain⟨b,e,hb⟩:=Sf (n:=n) h hn
 rw [Jn]
 simp only [Jw,HV,AW (n:=n) h hn,e,BJ,Bw]
 refine Ag ?_
 rw [Bool.and_eq_true,Bool.and_eq_true,LL,hb]
 simp only [Bool.and_eq_true,decide_eq_true_eq]
 exact⟨fun⟨⟨a,b⟩,c⟩=>⟨by omega,b,c⟩,fun⟨a,b,c⟩=>⟨⟨by omega,b⟩,c⟩⟩
theorem OS{a b:Nat}(ha:a<=4)(hb:b<=4):wrap .i64 ((a:Int)*(b:Int))=((a*b:Nat):Int):=by
 have:a*b<=4*4:=Nat.mul_le_mul ha hb
 have e:((a*b:Nat):Int)=(a:Int)*b:=by simp
 rw [←e,Ai (by omega) (by omega)]
def IZ(t:AQ):Prop:=t.Slews.length<=1048576∧t.Loads.length<=1048576∧t.Values.length<=1048576
theorem Sy{n:Nat}{t:AQ}(h:IZ t)(hn:1048577<=n):BA (VT t) (Ps n t):=by
 rw [Ps]
 refine BA.bind (SR h.1 hn) (fun v1=>?_) fun v1=>?_
 ·simp only [Bool.not_true,cF]
  obtain⟨b,e,hb⟩:=SR (n:=n) h.2.1 hn
  rw [e,BJ,BJ]
  cases b with
  |false=>
   simp only [Bool.not_false,Bool.true_or,cT]
   exact Av fun v=>by have:=hb.2 v.1.2;cases this
  |true=>
   have v2:=hb.1 rfl
   rw [OS v1.1.2 v2.1.2]
   simp only [Bool.not_true,Bool.false_or]
   refine Gm (fun c=>?_) fun c=>?_
   ·refine Av fun v=>?_
    rw [v.2.1]at c;simp at c
   ·have c:t.Values.length=t.Slews.length*t.Loads.length:=by
     rw [bne_eq_false_iff_eq]at c;omega
    have hv:=h.2.2
    refine(FY (L:=fun m i=>Eb n t _ m i) (Q:=True) t.Values.length 0 (fun i=>-1000000<=gd t.Values i∧gd t.Values i<=1000000) ?_ ?_ n 0 (by omega) (by omega) (by omega) (fun j _ h=>by omega)).iff ?_
    ·intro m i _ hi
     simp only [Eb.eq_2,EI hi,cT,gI hi,BJ,HE,wT i]
     by_cases c1:-1000000<=gd t.Values i∧gd t.Values i<=1000000
     ·have d1:(decide (gd t.Values i>= -1000000)&&decide (gd t.Values i<=1000000))=true:=by simp only [Bool.and_eq_true,decide_eq_true_eq];omega
      simp only [d1,Bool.not_true,cF]
      exact .inl ⟨c1,by trivial⟩
     ·have d1:(decide (gd t.Values i>= -1000000)&&decide (gd t.Values i<=1000000))=false:=by
       rw [Bool.and_eq_false_iff,decide_eq_false_iff_not,decide_eq_false_iff_not];omega
      simp only [d1,Bool.not_false,cT]
      exact .inr ⟨c1,by trivial⟩
    ·intro m i h1 h2 _
     obtain rfl:i=t.Values.length:=by omega
     simp only [Eb.eq_2,FH,cF]
     exact CS trivial
    ·exact⟨fun a=>⟨⟨v1,v2⟩,c,fun i hi=>a.1 i (by omega) hi⟩,fun a=>⟨fun i _ hi=>a.2.2 i hi,trivial⟩⟩
 ·simp only [Bool.not_false,cT,BJ,Bool.true_or]
  exact Av fun v=>v1 v.1.1
theorem Tb{n:Nat}{t:AQ}(h:IZ t)(hn:1048577<=n):BA (VT t) (Kp n t):=by
 rw [Kp]
 refine BA.bind (SN h.1 hn) (fun v1=>?_) fun v1=>?_
 ·simp only [cT]
  obtain⟨b,e,hb⟩:=SN (n:=n) h.2.1 hn
  rw [e,BJ,BJ]
  cases b with
  |false=>
   simp only [Bool.false_and,cF,BJ]
   exact Av fun v=>by have:=hb.2 v.1.2;cases this
  |true=>
   have v2:=hb.1 rfl
   rw [OS v1.1.2 v2.1.2,AW (n:=n) h.2.2 hn]
   simp only [Bool.true_and,BJ,Bw]
   refine Ag ?_
   rw [Bool.and_eq_true,LL,beq_iff_eq]
   exact⟨fun⟨a,b⟩=>⟨⟨v1,v2⟩,by omega,b⟩,fun a=>⟨by have:=a.2.1;omega,a.2.2⟩⟩
 ·simp only [cF,BJ,Bool.false_and]
  exact Av fun v=>v1 v.1.1
theorem VT.pos{t:AQ}(h:VT t):0<t.Values.length∧t.Values.length<=16:=by
 have a:=h.1.1.1
 have b:=h.1.2.1
 rw [h.2.1]
 exact⟨Nat.mul_pos (by omega) (by omega),(Nat.mul_le_mul a.2 b.2:_<=4*4)⟩
def VP(t:AQ):Prop:=∀j,j<t.Values.length->0<=gd t.Values j
theorem Sw{n:Nat}{t:AQ}(h:IZ t)(hn:1048577<=n):(¬VT t∧∃s:DE,OJ n t=some (s,1))∨(VT t∧∃s:DE,OJ n t=some (s,0)∧(s.Early<0↔¬VP t)):=by
 obtain⟨b,e,hb⟩:=Sy (n:=n) h hn
 rw [OJ,e,BJ]
 cases b with
 |false=>exact .inl ⟨fun v=>(by have:=hb.2 v;cases this),_,rfl⟩
 |true=>
  have v:=hb.1 rfl
  have hp:=v.pos
  have g0:AS t.Values 0=some (gd t.Values 0):=gI (i:=0) (by omega)
  refine .inr ⟨v,?_⟩
  simp only [Bool.not_true,cF,g0,BJ]
  refine loop (L:=fun m i (p:Int×Int)=>EW t (fun i93 i97 i98=>(some ((DE.mk i97 i98),0))) m i p.1 p.2) t.Values.length (fun i p=>(p.1<0↔¬∀j,j<i->0<=gd t.Values j)) (fun o=>∃s:DE,o=some (s,0)∧(s.Early<0↔¬VP t)) ?_ ?_ n 1 (gd t.Values 0,gd t.Values 0) (by omega) (by omega) ?_
  ·intro m i ⟨a,c⟩ hi hI
   dsimp only at hI ⊢
   refine .inl ⟨(min a (gd t.Values i),max c (gd t.Values i)),?_,?_⟩
   ·dsimp only
    constructor
    ·intro hm hall
     by_cases ha:a<0
     ·exact hI.1 ha fun j hj=>hall j (by omega)
     ·have:=hall i (by omega);omega
    ·intro hna
     by_cases ha:a<0
     ·omega
     ·have hall:∀j,j<i->0<=gd t.Values j:=fun j hj=>by
       by_cases q:0<=gd t.Values j
       ·exact q
       ·exact absurd (hI.2 fun hh=>q (hh j hj)) ha
      by_cases q:0<=gd t.Values i
      ·exfalso;apply hna;intro j hj
       by_cases ej:j=i
       ·subst ej;exact q
       ·exact hall j (by omega)
      ·omega
   ·simp only [EW.eq_2,EI hi,cT,gI hi,BJ,wT i]
  ·intro m ⟨a,c⟩ hI
   dsimp only at hI ⊢
   simp only [EW.eq_2,FH,cF]
   exact⟨_,rfl,hI⟩
  ·dsimp only
   constructor
   ·intro h0 hall;have:=hall 0 (by omega);omega
   ·intro h0
    by_cases q:gd t.Values 0<0
    ·exact q
    ·exfalso;apply h0;intro j hj;obtain rfl:j=0:=by omega
     omega
theorem Mn{n:Nat}{l:List Int}(h0:0<l.length)(h:l.length<=1048576)(hn:1048577<=n):∃r,Of n l=some r∧(r<0↔¬∀j,j<l.length->0<=gd l j):=by
 have g0:AS l 0=some (gd l 0):=gI (i:=0) (by omega)
 have d0:decide ((l.length:Int)<1)=false:=decide_eq_false (by omega)
 rw [Of,d0,cF,g0,BJ]
 refine loop (L:=fun m i (a:Int)=>Ek l (fun i15 i16=>(some i15)) m a i) l.length (fun i a=>(a<0↔¬∀j,j<i->0<=gd l j)) (fun o=>∃r,o=some r∧(r<0↔¬∀j,j<l.length->0<=gd l j)) ?_ ?_ n 1 (gd l 0) (by omega) (by omega) ?_
 ·intro m i a hi hI
  refine .inl ⟨min a (gd l i),?_,?_⟩
  ·constructor
   ·intro hm hall
    by_cases ha:a<0
    ·exact hI.1 ha fun j hj=>hall j (by omega)
    ·have:=hall i (by omega);omega
   ·intro hna
    by_cases ha:a<0
    ·omega
    ·have hall:∀j,j<i->0<=gd l j:=fun j hj=>by
      by_cases q:0<=gd l j
      ·exact q
      ·exact absurd (hI.2 fun hh=>q (hh j hj)) ha
     by_cases q:0<=gd l i
     ·exfalso;apply hna;intro j hj
      by_cases ej:j=i
      ·subst ej;exact q
      ·exact hall j (by omega)
     ·omega
  ·simp only [Ek.eq_2,EI hi,cT,gI hi,BJ,wT i]
 ·intro m a hI
  simp only [Ek.eq_2,FH,cF]
  exact⟨_,rfl,hI⟩
 ·constructor
  ·intro h0 hall;have:=hall 0 (by omega);omega
  ·intro h0
   by_cases q:gd l 0<0
   ·exact q
   ·exfalso;apply h0;intro j hj;obtain rfl:j=0:=by omega
    omega
def JC(l:List AQ)(pos:Bool):Prop:=l.length=2∧∀t∈l,VT t∧(pos=true->VP t)
theorem RH{n:Nat}{l:List AQ}{pos:Bool}(h:∀t∈l,IZ t)(hn:1048577<=n):BA (JC l pos) (MJ n l pos):=by
 rw [MJ]
 refine Gm (fun c=>?_) fun c=>?_
 ·refine Av fun v=>?_
  rw [v.1]at c;simp at c
 ·have c:l.length=2:=by rw [bne_eq_false_iff_eq]at c;omega
  refine(FY (L:=fun m i=>EY n l pos _ m i) (Q:=True) 2 0 (fun i=>∀t,l[i]? =some t->VT t∧(pos=true->VP t)) ?_ ?_ n 0 (by omega) (by omega) (by omega) (fun j _ h=>by omega)).iff ?_
  ·intro m i _ hi
   have hil:i<l.length:=by omega
   have g:=List.getElem?_eq_getElem hil
   have d1:decide ((i:Int)<2)=true:=decide_eq_true (by omega)
   simp only [EY.eq_2,d1,cT,BI hil,BJ,wT i,g]
   rcases Sw (n:=n) (h _ (List.getElem_mem hil)) hn with ⟨v,s,e⟩|⟨v,s,e,hs⟩
   ·rw [e]
    exact .inr ⟨fun q=>v (q _ rfl).1,by trivial⟩
   ·rw [e]
    simp only [BJ,bne_self_eq_false,Bool.false_or]
    by_cases hp:pos=true
    ·subst hp
     by_cases q:s.Early<0
     ·rw [decide_eq_true q]
      exact .inr ⟨fun r=>(hs.1 q) ((r _ rfl).2 rfl),by trivial⟩
     ·rw [decide_eq_false q]
      refine .inl ⟨fun t ht=>?_,by trivial⟩
      obtain rfl:=Option.some.inj ht
      exact⟨v,fun _=>Classical.byContradiction fun r=>q (hs.2 r)⟩
    ·have hp:pos=false:=by simpa using hp
     subst hp
     refine .inl ⟨fun t ht=>?_,by trivial⟩
     obtain rfl:=Option.some.inj ht
     exact⟨v,fun h=>by cases h⟩
  ·intro m i h1 h2 _
   obtain rfl:i=2:=by omega
   simp only [EY.eq_2,show decide (((2:Nat):Int)<2)=false from rfl,cF]
   exact CS trivial
  ·constructor
   ·rintro ⟨a,_⟩
    refine⟨c,fun t ht=>?_⟩
    obtain⟨j,hj⟩:=List.getElem?_of_mem ht
    have hjl:j<l.length:=(List.getElem?_eq_some_iff.1 hj).1
    exact a j (by omega) (by omega) t hj
   ·rintro ⟨_,a⟩
    exact⟨fun i _ _ t ht=>a t (List.mem_of_getElem? ht),trivial⟩
theorem RO{n:Nat}{l:List AQ}{pos:Bool}(h:∀t∈l,IZ t)(hl:l.length<=1048576)(hn:1048577<=n):BA (JC l pos) (In n l pos):=by
 rw [In]
 have hf:∀t∈l,BA (¬(VT t∧(pos=true->VP t))) (Je n t pos):=by
  intro t ht
  have hm:=h t ht
  rw [Je]
  refine BA.bind (Tb hm hn) (fun v=>?_) fun v=>?_
  ·simp only [Bool.not_true,cF]
   by_cases hp:pos=true
   ·subst hp
    obtain⟨r,e,hr⟩:=Mn (n:=n) v.pos.1 hm.2.2 hn
    simp only [cT,e,BJ]
    refine Ag ?_
    rw [decide_eq_true_eq,hr]
    exact⟨fun a b=>a (b.2 trivial),fun a b=>a ⟨v,fun _=>b⟩⟩
   ·have hp:pos=false:=by simpa using hp
    subst hp
    exact Av fun a=>a ⟨v,fun h=>by cases h⟩
  ·simp only [Bool.not_false,cT,BJ]
   exact CS fun a=>v a.1
 obtain⟨r,e,hr,_⟩:=FE (xs:=l) (L:=fun m i=>Df n l pos (fun i6=>(some (-1))) m i) (f:=fun t=>Je n t pos) hf (fun m i hi=>by
  simp only [Df.eq_2,EI hi,cT,BI hi,BJ,wT i]) (fun m=>by
  simp only [Df.eq_2,FH,cF]) n (by omega)
 have e:Df n l pos (fun i6=>(some (-1))) n 0=some r:=e
 rw [MT,QP,e]
 simp only [BJ]
 by_cases c:l.length=2
 ·have:((l.length:Int)==2)=true:=by simp;omega
  rw [this]
  simp only [cT,BJ]
  refine Ag ?_
  rw [Bool.not_eq_true',decide_eq_false_iff_not,hr]
  exact⟨fun a=>⟨c,fun t ht=>Classical.byContradiction fun q=>a ⟨t,ht,q⟩⟩,fun a ⟨t,ht,q⟩=>q (a.2 t ht)⟩
 ·have:((l.length:Int)==2)=false:=by rw [beq_eq_false_iff_ne];omega
  rw [this]
  exact Av fun v=>c v.1
def Hu(N i:Nat)(p:Ad):Prop:=(0<=p.Cap∧p.Cap<=500)∧(i+1=N->p.Dir=2∧p.Cap=0∧p.Clock=false)∧(i+1<N->p.Dir=1)
structure EQ(l:List Ad):Prop where
 few:2<=l.length∧l.length<=5
 pin:∀i (h:i<l.length),Hu l.length i l[i]
 nm:∀k (h:k<l.length),Bx l[k].Name=true∧∀i (hi:i<k),(l[i].Name.toList==l[k].Name.toList)=false
def cnt(l:List Ad):Nat:=l.countP (·.Clock)
def Kj(l:List Ad):Prop:=l.length<=1048576∧∀p∈l,p.Name.size<=1048576
theorem II{l:List Ad}{i:Nat}(h:i<l.length):cnt (l.take (i+1))=cnt (l.take i)+if l[i].Clock=true then 1 else 0:=by
 unfold cnt
 rw [List.take_succ_eq_append_getElem h,List.countP_append]
 congr 1
 by_cases e:l[i].Clock=true
 ·rw [if_pos e];simp [e]
 ·rw [if_neg e];simp [e]
theorem Sv{n:Nat}{c:AE}(h:Kj c.Pins)(hn:1048577<=n):∃r:Int×Bool,PL n c=some r∧(r.2=true↔EQ c.Pins)∧(r.2=true->r.1=cnt c.Pins):=by
 rw [PL]
 by_cases hl:2<=c.Pins.length∧c.Pins.length<=5
 ·have d:(decide ((c.Pins.length:Int)<2)||decide ((c.Pins.length:Int)>5))=false:=by
   simp only [Bool.or_eq_false_iff,decide_eq_false_iff_not];omega
  rw [d,cF]
  have wl:wrap .i64 ((c.Pins.length:Int)-1)=(c.Pins.length:Int)-1:=Ai (by omega) (by omega)
  refine loop (L:=fun m i (q:Int)=>Dt n c (fun i23 i24=>(some (i23,true))) m q i) c.Pins.length (fun i q=>q=cnt (c.Pins.take i)∧∀k (h:k<c.Pins.length),k<i->Hu c.Pins.length k c.Pins[k]∧Bx c.Pins[k].Name=true∧∀j (hj:j<k),(c.Pins[j].Name.toList==c.Pins[k].Name.toList)=false)
   (fun o=>∃r:Int×Bool,o=some r∧(r.2=true↔EQ c.Pins)∧(r.2=true->r.1=cnt c.Pins)) ?_ ?_ n 0 0 (by omega) (by omega) ⟨by simp [cnt],fun k _ hk=>by omega⟩
  ·intro m i q hi ⟨hq,hI⟩
   have no:∀o:Option (Int×Bool),o=some (0,false)->¬EQ c.Pins->∃r:Int×Bool,o=some r∧(r.2=true↔EQ c.Pins)∧(r.2=true->r.1=cnt c.Pins):=fun o e hv=>⟨_,e,by simp [hv],fun h=>by cases h⟩
   have wi:decide ((i:Int)<(c.Pins.length:Int))=true:=EI hi
   rw [Dt.eq_2]
   simp only [wi,cT,BI hi,BJ]
   have inner:∀k2:Int->Option (Int×Bool),(∀j (hj:j<i),(c.Pins[j].Name.toList==c.Pins[i].Name.toList)=false)∧DS c i c.Pins[i] k2 n 0=k2 i∨(¬∀j (hj:j<i),(c.Pins[j].Name.toList==c.Pins[i].Name.toList)=false)∧DS c i c.Pins[i] k2 n 0=some (0,false):=by
    intro k2
    refine loop (L:=fun m j (_:Unit)=>DS c i c.Pins[i] k2 m j) i (fun b _=>∀j (hj:j<i),j<b->(c.Pins[j].Name.toList==c.Pins[i].Name.toList)=false) (fun o=>(∀j (hj:j<i),(c.Pins[j].Name.toList==c.Pins[i].Name.toList)=false)∧o=k2 i∨(¬∀j (hj:j<i),(c.Pins[j].Name.toList==c.Pins[i].Name.toList)=false)∧o=some (0,false)) ?_ ?_ n 0 () (by omega) (by omega) (fun j _ hj=>by omega)
    ·intro m j _ hj hJ
     simp only [DS.eq_2,EI hj,cT,BI (show j<c.Pins.length by omega),BJ,wT j]
     cases e:(c.Pins[j].Name.toList==c.Pins[i].Name.toList)with
     |true=>exact .inr (.inr ⟨fun h=>(by rw [h j hj]at e;cases e),by trivial⟩)
     |false=>
      refine .inl ⟨(),fun a ha hb=>?_,by trivial⟩
      by_cases ea:a=j
      ·subst ea;exact e
      ·exact hJ a ha (by omega)
    ·intro m _ hJ
     simp only [DS.eq_2,FH,cF]
     exact .inl ⟨fun j hj=>hJ j hj hj,by trivial⟩
   rcases inner _ with ⟨g1,g2⟩|⟨g1,g2⟩
   ·rw [g2]
    have hsz:=h.2 _ (List.getElem_mem hi)
    simp only [SW hsz hn,BJ,HE,Dv,wl]
    cases hnm:Bx c.Pins[i].Name with
    |false=>
     simp only [Bool.not_false,Bool.true_or,cT]
     exact .inr (no _ rfl fun v=>by have:=(v.nm i hi).1;rw [hnm]at this;cases this)
    |true=>
     simp only [Bool.not_true,Bool.false_or]
     by_cases c1:0<=c.Pins[i].Cap∧c.Pins[i].Cap<=500
     ·have d1:(decide (c.Pins[i].Cap>=0)&&decide (c.Pins[i].Cap<=500))=true:=by simp only [Bool.and_eq_true,decide_eq_true_eq];omega
      simp only [d1,Bool.not_true,cF]
      have pI:Hu c.Pins.length i c.Pins[i]↔((((i:Int)==(c.Pins.length:Int)-1)&&((((c.Pins[i].Dir !=2))||((c.Pins[i].Cap !=0)))||c.Pins[i].Clock))||((decide ((i:Int)<(c.Pins.length:Int)-1))&&((c.Pins[i].Dir !=1))))=false:=by
       unfold Hu
       by_cases e1:i+1=c.Pins.length
       ·have t1:((i:Int)==(c.Pins.length:Int)-1)=true:=by rw [beq_iff_eq];omega
        have t2:decide ((i:Int)<(c.Pins.length:Int)-1)=false:=decide_eq_false (by omega)
        simp only [t1,t2,Bool.true_and,Bool.false_and,Bool.or_false,Bool.or_eq_false_iff,bne_eq_false_iff_eq]
        exact⟨fun⟨_,a,_⟩=>⟨⟨(a e1).1,(a e1).2.1⟩,(a e1).2.2⟩,fun⟨⟨a,b⟩,d⟩=>⟨c1,fun _=>⟨a,b,d⟩,fun h=>by omega⟩⟩
       ·have t1:((i:Int)==(c.Pins.length:Int)-1)=false:=by rw [beq_eq_false_iff_ne];omega
        have t2:decide ((i:Int)<(c.Pins.length:Int)-1)=true:=decide_eq_true (by omega)
        simp only [t1,t2,Bool.true_and,Bool.false_and,Bool.false_or,bne_eq_false_iff_eq]
        exact⟨fun⟨_,_,a⟩=>a (by omega),fun a=>⟨c1,fun h=>absurd h e1,fun _=>a⟩⟩
      cases hc:((((i:Int)==(c.Pins.length:Int)-1)&&((((c.Pins[i].Dir !=2))||((c.Pins[i].Cap !=0)))||c.Pins[i].Clock))||((decide ((i:Int)<(c.Pins.length:Int)-1))&&((c.Pins[i].Dir !=1))))with
      |true=>
       rw [hc]at pI
       simp only [cT]
       exact .inr (no _ rfl fun v=>by have:=pI.1 (v.pin i hi);cases this)
      |false=>
       have hp:=pI.2 hc
       simp only [cF]
       have hI':∀k (h:k<c.Pins.length),k<i+1->Hu c.Pins.length k c.Pins[k]∧Bx c.Pins[k].Name=true∧∀j (hj:j<k),(c.Pins[j].Name.toList==c.Pins[k].Name.toList)=false:=fun k hk hki=>by
        by_cases ek:k=i
        ·subst ek;exact⟨hp,hnm,g1⟩
        ·exact hI k hk (by omega)
       have ct:=II hi
       have cl:cnt (c.Pins.take i)<=5:=Nat.le_trans List.countP_le_length (by simp;omega)
       cases hk:c.Pins[i].Clock with
       |true=>
        rw [hk,if_pos rfl]at ct
        refine .inl ⟨q+1,⟨by rw [ct,hq];simp,hI'⟩,?_⟩
        simp only [cT,wT i,Ai (x:=q+1) (by omega) (by omega)]
       |false=>
        rw [hk]at ct
        refine .inl ⟨q,⟨by rw [ct,hq];simp,hI'⟩,?_⟩
        simp only [cF,wT i]
     ·have d1:(decide (c.Pins[i].Cap>=0)&&decide (c.Pins[i].Cap<=500))=false:=by
       rw [Bool.and_eq_false_iff,decide_eq_false_iff_not,decide_eq_false_iff_not];omega
      simp only [d1,Bool.not_false,cT]
      exact .inr (no _ rfl fun v=>c1 (v.pin i hi).1)
   ·rw [g2]
    exact .inr (no _ rfl fun v=>g1 (v.nm i hi).2)
  ·intro m q ⟨hq,hI⟩
   simp only [Dt.eq_2,FH,cF]
   rw [List.take_length]at hq
   exact⟨_,rfl,⟨fun _=>⟨hl,fun i h=>(hI i h h).1,fun k h=>(hI k h h).2⟩,fun _=>rfl⟩,fun _=>hq⟩
 ·have d:(decide ((c.Pins.length:Int)<2)||decide ((c.Pins.length:Int)>5))=true:=by
   rw [Bool.or_eq_true,decide_eq_true_eq,decide_eq_true_eq];omega
  rw [d,cT]
  exact⟨_,rfl,⟨fun h=>(by cases h),fun v=>absurd v.few hl⟩,fun h=>(by cases h)⟩
theorem TE{n:Nat}{l:List Ad}(h:Kj l)(hn:1048577<=n):BA (EQ l) (Ox n l):=by
 have hl:=h.1
 rw [Ox]
 have wl:0<l.length->wrap .i64 ((l.length:Int)-1)=(l.length:Int)-1:=fun h0=>Ai (by omega) (by omega)
 refine loop (L:=fun m i (q:List ByteArray)=>Dr n l _ m q i) l.length (fun i q=>q=(l.take i).map (·.Name)∧∀k (h:k<l.length),k<i->Hu l.length k l[k]) _ ?_ ?_ n 0 [] (by omega) (by omega) ⟨by simp,fun k _ hk=>by omega⟩
 ·intro m i q hi ⟨hq,hI⟩
  have hql:q.length<=1048576:=by rw [hq];simp;omega
  have ha:=Be (xs:=q) (ys:=[l[i].Name]) (b:=16) (by simp;omega) (by omega)
  have hq':q++[l[i].Name]=(l.take (i+1)).map (·.Name):=by rw [hq,List.take_succ_eq_append_getElem hi,List.map_append];rfl
  simp only [Dr.eq_2,EI hi,cT,BI hi,BJ,ha,wl (by omega),HV,wT i]
  have stepI:Hu l.length i l[i]->∀k (h:k<l.length),k<i+1->Hu l.length k l[k]:=fun hp k hk hki=>by
   by_cases ek:k=i
   ·subst ek;exact hp
   ·exact hI k hk (by omega)
  by_cases e1:i+1=l.length
  ·have t1:((i:Int)==(l.length:Int)-1)=true:=by rw [beq_iff_eq];omega
   simp only [t1,cT]
   cases hc:((((l[i].Dir !=2))||((l[i].Cap !=0)))||l[i].Clock)with
   |true=>
    refine .inr (Av fun v=>?_)
    have:=(v.pin i hi).2.1 e1
    rw [this.1,this.2.1,this.2.2]at hc;cases hc
   |false=>
    simp only [Bool.or_eq_false_iff,bne_eq_false_iff_eq]at hc
    exact .inl ⟨_,⟨hq',stepI ⟨by omega,fun _=>⟨hc.1.1,hc.1.2,hc.2⟩,fun h=>by omega⟩⟩,by trivial⟩
  ·have t1:((i:Int)==(l.length:Int)-1)=false:=by rw [beq_eq_false_iff_ne];omega
   simp only [t1,cF,Dv,BJ]
   by_cases c1:l[i].Dir=1∧0<=l[i].Cap∧l[i].Cap<=500
   ·have d1:((l[i].Dir !=1)|| !(decide (l[i].Cap>=0)&&decide (l[i].Cap<=500)))=false:=by
     simp only [Bool.or_eq_false_iff,bne_eq_false_iff_eq,Bool.not_eq_false',Bool.and_eq_true,decide_eq_true_eq];omega
    simp only [d1,cF]
    exact .inl ⟨_,⟨hq',stepI ⟨by omega,fun h=>absurd h e1,fun _=>c1.1⟩⟩,by trivial⟩
   ·have d1:((l[i].Dir !=1)|| !(decide (l[i].Cap>=0)&&decide (l[i].Cap<=500)))=true:=by
     simp only [Bool.or_eq_true,bne_iff_ne,Bool.not_eq_true',Bool.and_eq_false_iff,decide_eq_false_iff_not];omega
    simp only [d1,cT]
    exact .inr (Av fun v=>c1 ⟨(v.pin i hi).2.2 (by omega),(v.pin i hi).1⟩)
 ·intro m q ⟨hq,hI⟩
  rw [List.take_length]at hq
  obtain⟨b,e,hb⟩:=AN (n:=n) (xs:=q) (by rw [hq];simpa using hl) (by rw [hq];intro x hx;obtain⟨p,hp,rfl⟩:=List.mem_map.1 hx;exact h.2 p hp) hn
  simp only [Dr.eq_2,FH,cF,HQ,HV,e,BJ,Bw]
  refine Ag ?_
  rw [Bool.and_eq_true,hb,Bool.and_eq_true,decide_eq_true_eq,decide_eq_true_eq]
  subst hq
  simp only [List.length_map,List.getElem_map]
  exact⟨fun⟨a,b⟩=>⟨by omega,fun i hi=>hI i hi hi,b⟩,fun v=>⟨by have:=v.few;omega,v.nm⟩⟩
def Di(l:List Ad)(i:Int):Bool:=((l[i.toNat]?).map (·.Clock)).getD false
theorem Nr{l:List Ad}{i:Int}(h0:0<=i)(h1:i<l.length):∃x,AS l i=some x∧x.Clock=Di l i:=by
 obtain⟨x,e,h⟩:=Fs h0 h1
 exact⟨x,e,by simp [Di,h]⟩
theorem Ir{l:List Ad}{j:Nat}(h:j<l.length):Di l (j:Int)=l[j].Clock:=by simp [Di,h]
theorem JF{l:List Ad}(hc:cnt l<=1){i j:Nat}(hi:i<l.length)(hj:j<l.length)(h1:l[i].Clock=true)(h2:l[j].Clock=true):i=j:=by
 have key:∀i j:Nat,∀(hi:i<l.length) (hj:j<l.length),l[i].Clock=true->l[j].Clock=true->¬i<j:=by
  intro i j hi hj h1 h2 hlt
  have e:cnt l=cnt (l.take (i+1))+cnt (l.drop (i+1)):=by unfold cnt;rw [←List.countP_append,List.take_append_drop]
  have p1:0<cnt (l.take (i+1)):=List.countP_pos_iff.2 ⟨l[i],by rw [List.mem_take_iff_getElem];exact⟨i,by omega,rfl⟩,h1⟩
  have p2:0<cnt (l.drop (i+1)):=List.countP_pos_iff.2 ⟨l[j],by rw [List.mem_drop_iff_getElem];exact⟨j-(i+1),by omega,by congr 1;omega⟩,h2⟩
  omega
 have a:=key i j hi hj h1 h2
 have b:=key j i hj hi h2 h1
 omega
theorem Ck{n:Nat}{c:AE}(h:c.Pins.length<=1048576)(hn:1048577<=n):∃r,Ib n c=some r∧(r>=0↔∃x∈c.Pins,x.Clock=true)∧(r= -1∨∃j:Nat,r=(j:Int)∧∃h:j<c.Pins.length,c.Pins[j].Clock=true∧∀i (hi:i<c.Pins.length),i<j->¬c.Pins[i].Clock=true):=by
 obtain⟨r,e,hr⟩:=FE (xs:=c.Pins) (L:=fun m i=>Dm n c.Pins (fun i5=>(some (-1))) m i) (f:=fun p=>Ky n p) (P:=fun p=>p.Clock=true) (fun p _=>by rw [Ky];exact Ag Iff.rfl) (fun m i hi=>by
  simp only [Dm.eq_2,EI hi,cT,BI hi,BJ,wT i]) (fun m=>by
  simp only [Dm.eq_2,FH,cF]) n (by omega)
 have e:Dm n c.Pins (fun i5=>(some (-1))) n 0=some r:=e
 exact⟨r,by rw [Ib,QV,e];rfl,hr⟩
def IK(a:Ah):Prop:=(a.Delay.length<=1048576∧∀t∈a.Delay,IZ t)∧(a.Slew.length<=1048576∧∀t∈a.Slew,IZ t)
structure IM(c:AE):Prop where
 name:c.Name.size<=1048576
 pins:Kj c.Pins
 arcs:c.Arcs.length<=1048576∧∀a∈c.Arcs,IK a
 truth:c.Truth.length<=1048576
def GB(c:AE)(a:Ah):Prop:=((0<=a.From∧a.From+2<=c.Pins.length)∧(0<=a.To∧a.To+1<=c.Pins.length))∧
 if a.Kind=1 then Di c.Pins a.From=false∧a.To+1=c.Pins.length∧(1<=a.Sense∧a.Sense<=3)∧JC a.Delay true∧JC a.Slew true
 else if a.Kind=2∨a.Kind=3 then Di c.Pins a.From=true∧a.To+1=c.Pins.length∧a.Sense=0∧JC a.Delay true∧JC a.Slew true
 else if a.Kind=4∨a.Kind=5 then Di c.Pins a.From=true∧a.To+1<c.Pins.length∧Di c.Pins a.To=false∧a.Sense=0∧JC a.Delay false∧a.Slew.length=0
 else False
def Jo(c:AE)(a:Ah)(r:Int):Prop:=
 if a.Kind=4∨a.Kind=5 then a.Sense=0∧a.Slew.length=0∧JC a.Delay false∧a.From=r∧0<=a.From∧(0<=a.To∧a.To+2<=c.Pins.length)∧a.To≠a.From
 else JC a.Delay true∧JC a.Slew true∧a.To+1=c.Pins.length∧(0<=a.From∧a.From+2<=c.Pins.length)∧
  if a.Kind=1 then Di c.Pins a.From=false∧1<=a.Sense∧a.Sense<=3 else if a.Kind=2∨a.Kind=3 then Di c.Pins a.From=true∧a.Sense=0 else False
theorem My(k:Int):k=1∨k=2∨k=3∨k=4∨k=5∨(k≠1∧k≠2∧k≠3∧k≠4∧k≠5):=by omega
theorem FK{x lo hi:Int}:(decide (x>=lo)&&decide (x<=hi))=true↔lo<=x∧x<=hi:=by simp only [Bool.and_eq_true,decide_eq_true_eq,ge_iff_le]
theorem RW{n:Nat}{c:AE}{a:Ah}(hp:c.Pins.length<=5)(h2:2<=c.Pins.length)(h:IK a)(hn:1048577<=n):BA (GB c a) (Ku n c a):=by
 have w1:wrap .i64 ((c.Pins.length:Int)-1)=(c.Pins.length:Int)-1:=Ai (by omega) (by omega)
 have w2:wrap .i64 ((c.Pins.length:Int)-1-1)=(c.Pins.length:Int)-1-1:=Ai (by omega) (by omega)
 obtain⟨t1,e1,h1⟩:=RH (n:=n) (pos:=true) h.1.2 hn
 obtain⟨t2,e2,h2'⟩:=RH (n:=n) (pos:=true) h.2.2 hn
 obtain⟨t3,e3,h3⟩:=RH (n:=n) (pos:=false) h.1.2 hn
 rw [Ku];try simp only [jn]
 simp only [HE,BJ,w1,w2,Dv]
 by_cases c1:(0<=a.From∧a.From+2<=c.Pins.length)∧(0<=a.To∧a.To+1<=c.Pins.length)
 ·have d1:(decide (a.From>=0)&&decide (a.From<=(c.Pins.length:Int)-1-1))=true:=FK.2 (by omega)
  have d2:(decide (a.To>=0)&&decide (a.To<=(c.Pins.length:Int)-1))=true:=FK.2 (by omega)
  obtain⟨x,ex,hx⟩:=Nr (l:=c.Pins) c1.1.1 (by omega)
  obtain⟨y,ey,hy⟩:=Nr (l:=c.Pins) c1.2.1 (by omega)
  simp only [d1,d2,Bool.not_true,Bool.or_self,cF,ex,ey,BJ,hx,hy,e1,e2,e3,Bw]
  have to1:(a.To==(c.Pins.length:Int)-1)=true↔a.To+1=c.Pins.length:=by rw [beq_iff_eq];omega
  have to2:decide (a.To<(c.Pins.length:Int)-1)=true↔a.To+1<c.Pins.length:=by rw [decide_eq_true_eq];omega
  have sl:((a.Slew.length:Int)==0)=true↔a.Slew.length=0:=by rw [beq_iff_eq];omega
  have nb:∀b:Bool,(!b)=true↔b=false:=by simp
  rcases My a.Kind with k|k|k|k|k|k
  ·have:GB c a↔_:=Iff.rfl
   simp only [k,show((1:Int)==1)=true from rfl,cT]
   refine Ag ?_
   unfold GB
   simp only [k,if_true,Bool.and_eq_true,nb,to1,FK,h1,h2']
   exact⟨fun⟨⟨⟨⟨p,q⟩,s⟩,u⟩,v⟩=>⟨c1,p,q,by simpa using s,u,v⟩,fun⟨_,p,q,s,u,v⟩=>⟨⟨⟨⟨p,q⟩,by simpa using s⟩,u⟩,v⟩⟩
  ·simp only [k,show((2:Int)==1)=false from rfl,show((2:Int)==2)=true from rfl,cT,cF]
   refine Ag ?_
   unfold GB
   simp only [k,show¬((2:Int)=1) by omega,if_false,true_or,if_true,Bool.and_eq_true,beq_iff_eq,to1,h1,h2']
   exact⟨fun⟨⟨⟨⟨p,q⟩,s⟩,u⟩,v⟩=>⟨c1,p,by omega,s,u,v⟩,fun⟨_,p,q,s,u,v⟩=>⟨⟨⟨⟨p,by omega⟩,s⟩,u⟩,v⟩⟩
  ·simp only [k,show((3:Int)==1)=false from rfl,show((3:Int)==2)=false from rfl,show((3:Int)==3)=true from rfl,cT,cF]
   refine Ag ?_
   unfold GB
   simp only [k,show¬((3:Int)=1) by omega,if_false,or_true,if_true,Bool.and_eq_true,beq_iff_eq,to1,h1,h2']
   exact⟨fun⟨⟨⟨⟨p,q⟩,s⟩,u⟩,v⟩=>⟨c1,p,by omega,s,u,v⟩,fun⟨_,p,q,s,u,v⟩=>⟨⟨⟨⟨p,by omega⟩,s⟩,u⟩,v⟩⟩
  ·simp only [k,show((4:Int)==1)=false from rfl,show((4:Int)==2)=false from rfl,show((4:Int)==3)=false from rfl,show((4:Int)==4)=true from rfl,cT,cF]
   refine Ag ?_
   unfold GB
   simp only [k,show¬((4:Int)=1) by omega,show¬((4:Int)=2∨(4:Int)=3) by omega,if_false,true_or,if_true,Bool.and_eq_true,beq_iff_eq,nb,to2,sl,h3,true_and]
   exact⟨fun⟨⟨⟨⟨⟨p,q⟩,z⟩,s⟩,u⟩,v⟩=>⟨c1,p,q,z,s,u,by omega⟩,fun⟨_,p,q,z,s,u,v⟩=>⟨⟨⟨⟨⟨p,q⟩,z⟩,s⟩,u⟩,by omega⟩⟩
  ·simp only [k,show((5:Int)==1)=false from rfl,show((5:Int)==2)=false from rfl,show((5:Int)==3)=false from rfl,show((5:Int)==4)=false from rfl,show((5:Int)==5)=true from rfl,cT,cF]
   refine Ag ?_
   unfold GB
   simp only [k,show¬((5:Int)=1) by omega,show¬((5:Int)=2∨(5:Int)=3) by omega,if_false,or_true,if_true,Bool.and_eq_true,beq_iff_eq,nb,to2,sl,h3,true_and]
   exact⟨fun⟨⟨⟨⟨⟨p,q⟩,z⟩,s⟩,u⟩,v⟩=>⟨c1,p,q,z,s,u,by omega⟩,fun⟨_,p,q,z,s,u,v⟩=>⟨⟨⟨⟨⟨p,q⟩,z⟩,s⟩,u⟩,by omega⟩⟩
  ·obtain⟨k1,k2,k3,k4,k5⟩:=k
   simp only [beq_eq_false_iff_ne.2 k1,beq_eq_false_iff_ne.2 k2,beq_eq_false_iff_ne.2 k3,beq_eq_false_iff_ne.2 k4,beq_eq_false_iff_ne.2 k5,cF]
   refine Av fun v=>?_
   have:=v.2
   rw [if_neg k1,if_neg (by omega),if_neg (by omega)]at this
   exact this
 ·have d1:(!(decide (a.From>=0)&&decide (a.From<=(c.Pins.length:Int)-1-1))|| !(decide (a.To>=0)&&decide (a.To<=(c.Pins.length:Int)-1)))=true:=by
   rw [Bool.or_eq_true,Bool.not_eq_true',Bool.not_eq_true',Bool.and_eq_false_iff,Bool.and_eq_false_iff,decide_eq_false_iff_not,decide_eq_false_iff_not,decide_eq_false_iff_not,decide_eq_false_iff_not]
   omega
  simp only [d1,cT]
  exact Av fun v=>c1 v.1
theorem RZ{n:Nat}{c:AE}{a:Ah}{r:Int}(hp:c.Pins.length<=5)(h2:2<=c.Pins.length)(h:IK a)(hr:Ib n c=some r)(hn:1048577<=n):BA (Jo c a r) (LR n c a):=by
 have w1:wrap .i64 ((c.Pins.length:Int)-1)=(c.Pins.length:Int)-1:=Ai (by omega) (by omega)
 have w2:wrap .i64 ((c.Pins.length:Int)-1-1)=(c.Pins.length:Int)-1-1:=Ai (by omega) (by omega)
 obtain⟨t1,e1,h1⟩:=RO (n:=n) (pos:=true) h.1.2 h.1.1 hn
 obtain⟨t2,e2,h2'⟩:=RO (n:=n) (pos:=true) h.2.2 h.2.1 hn
 obtain⟨t3,e3,h3⟩:=RO (n:=n) (pos:=false) h.1.2 h.1.1 hn
 rw [LR]
 simp only [Mc,IF,Km,HQ,HV,BJ,w1,w2,e1,e2,e3,hr,Bw,Dv]
 unfold Jo
 by_cases k:a.Kind=4∨a.Kind=5
 ·have kb:((a.Kind==4)||(a.Kind==5))=true:=by rw [Bool.or_eq_true,beq_iff_eq,beq_iff_eq];exact k
  simp only [kb,cT,if_pos k]
  refine Ag ?_
  simp only [Bool.and_eq_true,beq_iff_eq,bne_iff_ne,decide_eq_true_eq,h3]
  exact⟨fun⟨⟨⟨⟨⟨⟨p,q⟩,s⟩,t⟩,u⟩,v⟩,x⟩=>⟨p,by omega,s,t,by omega,by omega,x⟩,fun⟨p,q,s,t,u,v,x⟩=>⟨⟨⟨⟨⟨⟨p,by omega⟩,s⟩,t⟩,by omega⟩,by omega⟩,x⟩⟩
 ·have kb:((a.Kind==4)||(a.Kind==5))=false:=by rw [Bool.or_eq_false_iff,beq_eq_false_iff_ne,beq_eq_false_iff_ne];omega
  simp only [kb,cF,if_neg k]
  by_cases g:(JC a.Delay true∧JC a.Slew true)∧a.To+1=c.Pins.length∧(0<=a.From∧a.From+2<=c.Pins.length)
  ·have gb:(((!t1|| !t2)||(a.To !=(c.Pins.length:Int)-1))|| !(decide (a.From>=0)&&decide (a.From<=(c.Pins.length:Int)-1-1)))=false:=by
    rw [h1.2 g.1.1,h2'.2 g.1.2]
    simp only [Bool.not_true,Bool.or_self,Bool.false_or,Bool.or_eq_false_iff,bne_eq_false_iff_eq,Bool.not_eq_false',FK];omega
   obtain⟨x,ex,hx⟩:=Nr (l:=c.Pins) g.2.2.1 (by omega)
   simp only [gb,cF,ex,BJ,hx]
   have nb:∀b:Bool,(!b)=true↔b=false:=by simp
   have red:∀R:Prop,(JC a.Delay true∧JC a.Slew true∧a.To+1=c.Pins.length∧(0<=a.From∧a.From+2<=c.Pins.length)∧R)↔R:=fun R=>⟨fun q=>q.2.2.2.2,fun q=>⟨g.1.1,g.1.2,g.2.1,g.2.2,q⟩⟩
   rw [red]
   by_cases k1:a.Kind=1
   ·simp only [k1,show((1:Int)==1)=true from rfl,cT,if_true]
    refine Ag ?_
    simp only [Bool.and_eq_true,nb,decide_eq_true_eq]
   ·simp only [beq_eq_false_iff_ne.2 k1,cF,if_neg k1]
    by_cases k2:a.Kind=2
    ·simp only [k2,show((2:Int)==2)=true from rfl,cT,true_or,if_true]
     refine Ag ?_
     simp only [Bool.and_eq_true,beq_iff_eq]
    ·simp only [beq_eq_false_iff_ne.2 k2,cF]
     by_cases k3:a.Kind=3
     ·simp only [k3,show((3:Int)==3)=true from rfl,cT,or_true,if_true]
      refine Ag ?_
      simp only [Bool.and_eq_true,beq_iff_eq]
     ·simp only [beq_eq_false_iff_ne.2 k3,cF]
      rw [if_neg (by omega)]
      exact Av fun v=>v
  ·have gb:(((!t1|| !t2)||(a.To !=(c.Pins.length:Int)-1))|| !(decide (a.From>=0)&&decide (a.From<=(c.Pins.length:Int)-1-1)))=true:=by
    cases hq:(((!t1|| !t2)||(a.To !=(c.Pins.length:Int)-1))|| !(decide (a.From>=0)&&decide (a.From<=(c.Pins.length:Int)-1-1)))with
    |true=>rfl
    |false=>
     exfalso;apply g
     simp only [Bool.or_eq_false_iff,Bool.not_eq_false',bne_eq_false_iff_eq,FK]at hq
     exact⟨⟨h1.1 hq.1.1.1,h2'.1 hq.1.1.2⟩,by omega,by omega⟩
   simp only [gb,cT]
   exact Av fun v=>g ⟨⟨v.1,v.2.1⟩,v.2.2.1,v.2.2.2.1⟩
theorem JV{c:AE}{a:Ah}{r:Int}(hv:EQ c.Pins)(hc:cnt c.Pins<=1)(hr:r= -1∨∃j:Nat,r=(j:Int)∧∃h:j<c.Pins.length,c.Pins[j].Clock=true∧∀i (hi:i<c.Pins.length),i<j->¬c.Pins[i].Clock=true)(hr0:r>=0↔∃x∈c.Pins,x.Clock=true):GB c a↔Jo c a r:=by
 have few:=hv.few
 unfold GB Jo
 by_cases k:a.Kind=4∨a.Kind=5
 ·rw [if_neg (by omega),if_neg (by omega),if_pos k,if_pos k]
  constructor
  ·rintro ⟨⟨⟨a1,a2⟩,a3,a4⟩,b1,b2,b3,b4,b5,b6⟩
   obtain⟨f,hf⟩:=Int.eq_ofNat_of_zero_le a1
   have hf:a.From=(f:Int):=hf
   have hfl:f<c.Pins.length:=by omega
   have cf:c.Pins[f].Clock=true:=by rw [hf,Ir hfl]at b1;exact b1
   have hge:r>=0:=hr0.2 ⟨_,List.getElem_mem hfl,cf⟩
   rcases hr with hr|⟨j,rfl,hj,hj1,_⟩
   ·omega
   ·have:=JF hc hfl hj cf hj1
    subst this
    refine⟨b4,b6,b5,hf,a1,by omega,fun e=>?_⟩
    rw [e,b1]at b3;cases b3
  ·rintro ⟨b1,b2,b3,b4,b5,⟨b6,b7⟩,b8⟩
   rcases hr with hr|⟨j,hj0,hj,hj1,_⟩
   ·omega
   ·have cf:Di c.Pins a.From=true:=by rw [b4,hj0,Ir hj];exact hj1
    have hjl:j+1<c.Pins.length:=by
     by_cases q:j+1<c.Pins.length
     ·exact q
     ·have:=(hv.pin j hj).2.1 (by omega)
      rw [this.2.2]at hj1;cases hj1
    obtain⟨t,ht⟩:=Int.eq_ofNat_of_zero_le b6
    have ht:a.To=(t:Int):=ht
    have htl:t<c.Pins.length:=by omega
    refine⟨⟨⟨by omega,by omega⟩,by omega,by omega⟩,cf,by omega,?_,b1,b3,b2⟩
    rw [ht,Ir htl]
    cases hq:c.Pins[t].Clock with
    |false=>rfl
    |true=>have:=JF hc htl hj hq hj1;omega
 ·rw [if_neg k,if_neg k]
  by_cases k1:a.Kind=1
  ·rw [if_pos k1,if_pos k1]
   exact⟨fun⟨p,q,s,t,u,v⟩=>⟨u,v,s,p.1,q,t⟩,fun⟨u,v,s,p,q,t⟩=>⟨⟨p,by omega,by omega⟩,q,s,t,u,v⟩⟩
  ·rw [if_neg k1,if_neg k1]
   by_cases k2:a.Kind=2∨a.Kind=3
   ·rw [if_pos k2,if_pos k2]
    exact⟨fun⟨p,q,s,t,u,v⟩=>⟨u,v,s,p.1,q,t⟩,fun⟨u,v,s,p,q,t⟩=>⟨⟨p,by omega,by omega⟩,q,s,t,u,v⟩⟩
   ·rw [if_neg k2,if_neg k2]
    exact⟨fun h=>h.2.elim,fun h=>h.2.2.2.2.elim⟩
def DJ(a b:Ah):Prop:=(a.Kind=b.Kind∧a.From=b.From)∧a.To=b.To
def CR(l:List Ah)(k:Int):Prop:=∃a∈l,a.Kind=k
def Co(c:AE):Prop:=
 (c.Kind=1∧cnt c.Pins=0∧c.Truth.length=2^(c.Pins.length-1)∧∀i,i<c.Truth.length->0<=gd c.Truth i∧gd c.Truth i<=1)∨
 (c.Kind=2∧cnt c.Pins=1∧c.Truth.length=0∧¬CR c.Arcs 1∧¬(CR c.Arcs 2↔CR c.Arcs 3))∨
 (c.Kind=3∧cnt c.Pins=1∧c.Truth.length=0∧CR c.Arcs 1∧CR c.Arcs 2∧¬CR c.Arcs 3)
def Kv(A:Ah->Prop)(l:List Ah):Prop:=∀i (h:i<l.length),A l[i]∧∀j (hj:j<i),¬DJ l[j] l[i]
structure Hx(c:AE):Prop where
 name:Bx c.Name=true
 pins:EQ c.Pins
 few:c.Arcs.length<=8
 leak:0<=c.Leak∧c.Leak<=100000
 energy:0<=c.Energy∧c.Energy<=100000
 arcs:Kv (GB c) c.Arcs
 kind:Co c
theorem Co.cnt{c:AE}(h:Co c):cnt c.Pins<=1:=by
 rcases h with h|h|h<;>omega
theorem Kd{n:Nat}{c:AE}(hl:c.Arcs.length<=1048576)(hk:∀a∈c.Arcs,0<=a.Kind∧a.Kind<6)(hn:1048577<=n):∃l,PI n c=some l∧l.length=6∧∀k:Nat,k<6->0<=gd l k∧(gd l k>0↔CR c.Arcs k):=by
 have m6:Nq 6 8=some 6:=Nf (n:=6) (by omega) (by omega)
 rw [PI,m6,BJ]
 refine loop (L:=fun m i (l:List Int)=>Ea c (fun i31 l33=>(some l33)) m i l) c.Arcs.length (fun i l=>l.length=6∧∀k:Nat,k<6->(0<=gd l k∧gd l k<=i)∧(gd l k>0↔CR (c.Arcs.take i) k)) (fun o=>∃l,o=some l∧l.length=6∧∀k:Nat,k<6->0<=gd l k∧(gd l k>0↔CR c.Arcs k)) ?_ ?_ n 0 (List.replicate 6 0) (by omega) (by omega) ⟨by simp,fun k hk=>?_⟩
 ·intro m i l hi ⟨hll,hI⟩
  have hx:=hk _ (List.getElem_mem hi)
  obtain⟨q,hq⟩:=Int.eq_ofNat_of_zero_le hx.1
  have hq:c.Arcs[i].Kind=(q:Int):=hq
  have hq6:q<6:=by omega
  have hg:AS l c.Arcs[i].Kind=some (gd l q):=by rw [hq];exact gI (by omega)
  have hb:=(hI q hq6).1
  refine .inl ⟨l.set q (gd l q+1),⟨by simpa using hll,fun k hk6=>?_⟩,?_⟩
  ·have h1:=hI k hk6
   rw [Dl (by omega)]
   have hs:CR (c.Arcs.take (i+1)) k↔CR (c.Arcs.take i) k∨c.Arcs[i].Kind=(k:Int):=by
    rw [List.take_succ_eq_append_getElem hi]
    unfold CR
    constructor
    ·rintro ⟨a,ha,e⟩
     rcases List.mem_append.1 ha with ha|ha
     ·exact .inl ⟨a,ha,e⟩
     ·obtain rfl:=List.mem_singleton.1 ha;exact .inr e
    ·rintro (⟨a,ha,e⟩|e)
     ·exact⟨a,List.mem_append.2 (.inl ha),e⟩
     ·exact⟨_,List.mem_append.2 (.inr (List.mem_singleton.2 rfl)),e⟩
   rw [hs]
   by_cases e:q=k
   ·subst e
    rw [if_pos rfl]
    exact⟨⟨by omega,by omega⟩,⟨fun _=>.inr hq,fun _=>by omega⟩⟩
   ·rw [if_neg e]
    refine⟨⟨by omega,by omega⟩,h1.2.trans ⟨.inl,fun h=>h.resolve_right fun h=>e (by omega)⟩⟩
  ·simp only [Ea.eq_2,EI hi,cT,BI hi,BJ,hg,wT i,Ai (x:=gd l q+1) (by omega) (by omega)]
   rw [hq,Int.toNat_natCast]
 ·intro m l ⟨hll,hI⟩
  simp only [Ea.eq_2,FH,cF]
  refine⟨l,rfl,hll,fun k hk6=>?_⟩
  have:=hI k hk6
  rw [List.take_length]at this
  exact⟨this.1.1,this.2⟩
 ·have:gd (List.replicate 6 0) k=0:=by simp only [gd,List.getD_eq_getElem?_getD,List.getElem?_replicate];split<;>rfl
  rw [this]
  refine⟨by omega,⟨fun h=>by omega,fun⟨a,ha,_⟩=>by simp at ha⟩⟩
theorem Hs{n:Nat}{c:AE}(hl:c.Arcs.length<=1048576)(k:Int)(hn:1048577<=n):BA (CR c.Arcs k) (IQ n c k):=by
 obtain⟨r,e,hr,_⟩:=FE (xs:=c.Arcs) (L:=fun m i=>Dn n c.Arcs k (fun i6=>(some (-1))) m i) (f:=fun a=>LY n a k) (P:=fun a=>a.Kind=k) (fun p _=>by rw [LY];exact Ag beq_iff_eq) (fun m i hi=>by
  simp only [Dn.eq_2,EI hi,cT,BI hi,BJ,wT i]) (fun m=>by
  simp only [Dn.eq_2,FH,cF]) n (by omega)
 have e:Dn n c.Arcs k (fun i6=>(some (-1))) n 0=some r:=e
 rw [IQ,MX,Qc,e]
 exact Ag (by rw [decide_eq_true_eq];exact hr)
theorem LF{L:Nat}(h1:2<=L)(h2:L<=5):Cj .i64 1 ((L:Int)-1)=((2^(L-1):Nat):Int)∧Cj .i64 1 (IntKind.wrap IntKind.u64 ((L:Int)-1))=((2^(L-1):Nat):Int)∧decide (IntKind.wrap IntKind.u64 ((L:Int)-1)<0)=false:=by
 have:L=2∨L=3∨L=4∨L=5:=by omega
 rcases this with rfl|rfl|rfl|rfl<;>decide
theorem Tn{n:Nat}{c:AE}{o:Option Bool}{Q:Prop}(h:c.Truth.length<=1048576)(hn:1048577<=n)(hQ:BA Q o):BA ((∀i,i<c.Truth.length->0<=gd c.Truth i∧gd c.Truth i<=1)∧Q) (Dz n c (fun _=>o) n 0):=by
 refine(FY (L:=fun m i=>Dz n c (fun _=>o) m i) (Q:=Q) c.Truth.length 0 (fun i=>0<=gd c.Truth i∧gd c.Truth i<=1) ?_ ?_ n 0 (by omega) (by omega) (by omega) (fun j _ h=>by omega)).iff ⟨fun a=>⟨fun i hi=>a.1 i (by omega) hi,a.2⟩,fun a=>⟨fun i _ hi=>a.1 i hi,a.2⟩⟩
 ·intro m i _ hi
  simp only [Dz.eq_2,EI hi,cT,gI hi,BJ,HE,wT i]
  by_cases c1:0<=gd c.Truth i∧gd c.Truth i<=1
  ·have d1:(decide (gd c.Truth i>=0)&&decide (gd c.Truth i<=1))=true:=FK.2 c1
   simp only [d1,Bool.not_true,cF]
   exact .inl ⟨c1,by trivial⟩
  ·have d1:(decide (gd c.Truth i>=0)&&decide (gd c.Truth i<=1))=false:=by
    rw [Bool.and_eq_false_iff,decide_eq_false_iff_not,decide_eq_false_iff_not];omega
   simp only [d1,Bool.not_false,cT]
   exact .inr ⟨c1,by trivial⟩
 ·intro m i h1 h2 _
  obtain rfl:i=c.Truth.length:=by omega
  simp only [Dz.eq_2,FH,cF]
  exact hQ
theorem Te{n:Nat}{c:AE}{i:Nat}(hi:i<c.Arcs.length)(hl:c.Arcs.length<=1048576)(hn:1048577<=n)(k2:Int->Option Bool):(∀j (hj:j<i),¬DJ c.Arcs[j] c.Arcs[i])∧DV c i c.Arcs[i] k2 n 0=k2 i∨(¬∀j (hj:j<i),¬DJ c.Arcs[j] c.Arcs[i])∧DV c i c.Arcs[i] k2 n 0=some false:=by
 refine loop (L:=fun m j (_:Unit)=>DV c i c.Arcs[i] k2 m j) i (fun b _=>∀j (hj:j<i),j<b->¬DJ c.Arcs[j] c.Arcs[i]) (fun o=>(∀j (hj:j<i),¬DJ c.Arcs[j] c.Arcs[i])∧o=k2 i∨(¬∀j (hj:j<i),¬DJ c.Arcs[j] c.Arcs[i])∧o=some false) ?_ ?_ n 0 () (by omega) (by omega) (fun j _ hj=>by omega)
 ·intro m j _ hj hJ
  have e1:DJ c.Arcs[j] c.Arcs[i]↔(((c.Arcs[j].Kind==c.Arcs[i].Kind)&&(c.Arcs[j].From==c.Arcs[i].From))&&(c.Arcs[j].To==c.Arcs[i].To))=true:=by
   unfold DJ;simp only [Bool.and_eq_true,beq_iff_eq]
  simp only [DV.eq_2,EI hj,cT,BI (show j<c.Arcs.length by omega),BJ,Bw,wT j]
  cases e:(((c.Arcs[j].Kind==c.Arcs[i].Kind)&&(c.Arcs[j].From==c.Arcs[i].From))&&(c.Arcs[j].To==c.Arcs[i].To))with
  |true=>exact .inr (.inr ⟨fun h=>h j hj (e1.2 e),by trivial⟩)
  |false=>
   refine .inl ⟨(),fun a ha hb=>?_,by trivial⟩
   by_cases ea:a=j
   ·subst ea;intro hs;rw [e1.1 hs]at e;cases e
   ·exact hJ a ha (by omega)
 ·intro m _ hJ
  simp only [DV.eq_2,FH,cF]
  exact .inl ⟨fun j hj=>hJ j hj hj,by trivial⟩
theorem SA{n:Nat}{c:AE}(h:IM c)(hn:1048577<=n):BA (Hx c) (QD n c):=by
 obtain⟨r,e,hr,hc⟩:=Sv (n:=n) h.pins hn
 rw [QD,e]
 simp only [BJ,SW h.name hn,HE,Dv]
 by_cases g:(EQ c.Pins∧Bx c.Name=true)∧c.Arcs.length<=8∧(0<=c.Leak∧c.Leak<=100000)∧(0<=c.Energy∧c.Energy<=100000)
 ·have rt:r.2=true:=hr.2 g.1.1
  have gb:((((!r.2|| !Bx c.Name)||decide ((c.Arcs.length:Int)>8))|| !(decide (c.Leak>=0)&&decide (c.Leak<=100000)))|| !(decide (c.Energy>=0)&&decide (c.Energy<=100000)))=false:=by
   rw [rt,g.1.2]
   simp only [Bool.not_true,Bool.or_self,Bool.false_or,Bool.or_eq_false_iff,decide_eq_false_iff_not,Bool.not_eq_false',FK];omega
  simp only [gb,cF]
  have few:=g.1.1.few
  have hal:=h.arcs.1
  have hcnt:=hc rt
  refine(FY (L:=fun m i=>Dw n c _ m i) (Q:=Co c) c.Arcs.length 0 (fun i=>∀(hi:i<c.Arcs.length),GB c c.Arcs[i]∧∀j (hj:j<i),¬DJ c.Arcs[j] c.Arcs[i]) ?_ ?_ n 0 (by omega) (by omega) (by omega) (fun j _ h=>by omega)).iff ?_
  ·intro m i _ hi
   obtain⟨b,e,hb⟩:=RW (n:=n) (c:=c) few.2 few.1 (h.arcs.2 _ (List.getElem_mem hi)) hn
   simp only [Dw.eq_2,EI hi,cT,BI hi,BJ,e]
   cases b with
   |false=>exact .inr ⟨fun q=>(by have:=hb.2 (q hi).1;cases this),by trivial⟩
   |true=>
    simp only [Bool.not_true,cF,wT i]
    rcases Te (n:=n) hi hal hn (fun _=>Dw n c _ m ((i+1:Nat):Int))with ⟨q1,q2⟩|⟨q1,q2⟩
    ·exact .inl ⟨fun _=>⟨hb.1 rfl,q1⟩,q2⟩
    ·exact .inr ⟨fun q=>q1 (q hi).2,q2⟩
  ·intro m i h1 h2 hA
   obtain rfl:i=c.Arcs.length:=by omega
   simp only [Dw.eq_2,FH,cF]
   obtain⟨l,e,hl6,hl⟩:=Kd (n:=n) hal (fun a ha=>by
    obtain⟨j,hj,rfl⟩:=List.getElem_of_mem ha
    have:=(hA j (by omega) hj hj).1.2
    rcases My c.Arcs[j].Kind with k|k|k|k|k|k<;>first|omega|skip
    obtain⟨k1,k2,k3,k4,k5⟩:=k
    rw [if_neg k1,if_neg (by omega),if_neg (by omega)]at this
    exact this.elim) hn
   have g1:AS l 1=some (gd l 1):=gI (i:=1) (by omega)
   have g2:AS l 2=some (gd l 2):=gI (i:=2) (by omega)
   have g3:AS l 3=some (gd l 3):=gI (i:=3) (by omega)
   have k1:0<=gd l 1∧(gd l 1>0↔CR c.Arcs 1):=hl 1 (by omega)
   have k2:0<=gd l 2∧(gd l 2>0↔CR c.Arcs 2):=hl 2 (by omega)
   have k3:0<=gd l 3∧(gd l 3>0↔CR c.Arcs 3):=hl 3 (by omega)
   have wl:wrap .i64 ((c.Pins.length:Int)-1)=(c.Pins.length:Int)-1:=Ai (by omega) (by omega)
   obtain⟨s1,s2,s3⟩:=LF few.1 few.2
   rw [e,BJ]
   simp only [g1,g2,g3,BJ,wl,s2,s3,cF,Bw]
   have tl:((c.Truth.length:Int)==0)=true↔c.Truth.length=0:=by rw [beq_iff_eq];omega
   have tw:((c.Truth.length:Int)==((2^(c.Pins.length-1):Nat):Int))=true↔c.Truth.length=2^(c.Pins.length-1):=by rw [beq_iff_eq];omega
   have c0:(r.1==0)=true↔cnt c.Pins=0:=by rw [beq_iff_eq,hcnt];omega
   have c1:(r.1==1)=true↔cnt c.Pins=1:=by rw [beq_iff_eq,hcnt];omega
   have kk1:(gd l 1==0)=true↔¬CR c.Arcs 1:=by rw [beq_iff_eq,←k1.2];omega
   have kk3:(gd l 3==0)=true↔¬CR c.Arcs 3:=by rw [beq_iff_eq,←k3.2];omega
   have p1:decide (gd l 1>0)=true↔CR c.Arcs 1:=by rw [decide_eq_true_eq];exact k1.2
   have p2:decide (gd l 2>0)=true↔CR c.Arcs 2:=by rw [decide_eq_true_eq];exact k2.2
   have p3:decide (gd l 3>0)=true↔CR c.Arcs 3:=by rw [decide_eq_true_eq];exact k3.2
   have x23:(decide (gd l 2>0) !=decide (gd l 3>0))=true↔¬(CR c.Arcs 2↔CR c.Arcs 3):=by
    rw [←p2,←p3];cases decide (gd l 2>0)<;>cases decide (gd l 3>0)<;>simp
   by_cases q1:c.Kind=1
   ·simp only [q1,show((1:Int)==1)=true from rfl,cT]
    refine(Tn (c:=c) (o:=some ((r.1==0)&&((c.Truth.length:Int)==((2^(c.Pins.length-1):Nat):Int)))) (Q:=cnt c.Pins=0∧c.Truth.length=2^(c.Pins.length-1)) h.truth hn (Ag (by rw [Bool.and_eq_true,c0,tw]))).iff ?_
    unfold Co
    constructor
    ·rintro ⟨a,b,d⟩;exact .inl ⟨q1,b,d,a⟩
    ·rintro (⟨_,b,d,a⟩|⟨a,_⟩|⟨a,_⟩)
     ·exact⟨a,b,d⟩
     ·omega
     ·omega
   ·simp only [beq_eq_false_iff_ne.2 q1,cF]
    by_cases q2:c.Kind=2
    ·simp only [q2,show((2:Int)==2)=true from rfl,cT]
     refine Ag ?_
     rw [Bool.and_eq_true,Bool.and_eq_true,Bool.and_eq_true,c1,kk1,x23,tl]
     unfold Co
     constructor
     ·rintro ⟨⟨⟨a,b⟩,d⟩,f⟩;exact .inr (.inl ⟨q2,a,f,b,d⟩)
     ·rintro (⟨a,_⟩|⟨_,a,f,b,d⟩|⟨a,_⟩)
      ·omega
      ·exact⟨⟨⟨a,b⟩,d⟩,f⟩
      ·omega
    ·simp only [beq_eq_false_iff_ne.2 q2,cF]
     by_cases q3:c.Kind=3
     ·simp only [q3,show((3:Int)==3)=true from rfl,cT]
      refine Ag ?_
      simp only [Bool.and_eq_true,true_and,c1,p1,p2,kk3,tl]
      unfold Co
      constructor
      ·rintro ⟨⟨⟨⟨a,b⟩,d⟩,x⟩,f⟩;exact .inr (.inr ⟨q3,a,f,b,d,x⟩)
      ·rintro (⟨a,_⟩|⟨a,_⟩|⟨_,a,f,b,d,x⟩)
       ·omega
       ·omega
       ·exact⟨⟨⟨⟨a,b⟩,d⟩,x⟩,f⟩
     ·simp only [beq_eq_false_iff_ne.2 q3,cF]
      refine Av ?_
      rintro (⟨a,_⟩|⟨a,_⟩|⟨a,_⟩)
      ·exact q1 a
      ·exact q2 a
      ·exact q3 a
  ·constructor
   ·rintro ⟨a,b⟩
    exact⟨g.1.2,g.1.1,g.2.1,g.2.2.1,g.2.2.2,fun i hi=>a i (by omega) hi hi,b⟩
   ·rintro v
    exact⟨fun i _ _ hi=>v.arcs i hi,v.kind⟩
 ·have gb:((((!r.2|| !Bx c.Name)||decide ((c.Arcs.length:Int)>8))|| !(decide (c.Leak>=0)&&decide (c.Leak<=100000)))|| !(decide (c.Energy>=0)&&decide (c.Energy<=100000)))=true:=by
   cases hq:((((!r.2|| !Bx c.Name)||decide ((c.Arcs.length:Int)>8))|| !(decide (c.Leak>=0)&&decide (c.Leak<=100000)))|| !(decide (c.Energy>=0)&&decide (c.Energy<=100000)))with
   |true=>rfl
   |false=>
    exfalso;apply g
    simp only [Bool.or_eq_false_iff,Bool.not_eq_false',decide_eq_false_iff_not,FK]at hq
    exact⟨⟨hr.1 hq.1.1.1.1,hq.1.1.1.2⟩,by omega,by simpa using hq.1.2,by simpa using hq.2⟩
  simp only [gb,cT]
  exact Av fun v=>g ⟨⟨v.pins,v.name⟩,v.few,v.leak,v.energy⟩
theorem Cn{n:Nat}{l:List Ad}{K:Int->Option Bool}{c:AE}(hc:c.Pins=l)(hl:l.length<=1048576)(hn:1048577<=n):DH c (fun i _=>K i) n 0 0=K (cnt l):=by
 subst hc
 refine loop (L:=fun m i (q:Int)=>DH c (fun i _=>K i) m q i) c.Pins.length (fun i q=>q=cnt (c.Pins.take i)) (fun o=>o=K (cnt c.Pins)) ?_ ?_ n 0 0 (by omega) (by omega) (by simp [cnt])
 ·intro m i q hi hq
  have ct:=II hi
  have cl:cnt (c.Pins.take i)<=1048576:=Nat.le_trans List.countP_le_length (by simp;omega)
  cases hk:c.Pins[i].Clock with
  |true=>
   rw [hk,if_pos rfl]at ct
   refine .inl ⟨q+1,by rw [ct,hq];simp,?_⟩
   simp only [DH.eq_2,EI hi,cT,BI hi,BJ,hk,wT i,Ai (x:=q+1) (by omega) (by omega)]
  |false=>
   rw [hk]at ct
   refine .inl ⟨q,by rw [ct,hq];simp,?_⟩
   simp only [DH.eq_2,EI hi,cT,BI hi,BJ,hk,cF,wT i]
 ·intro m q hq
  rw [List.take_length]at hq
  simp only [DH.eq_2,FH,cF,hq]
theorem Sh{n:Nat}{c:AE}(h:IM c)(hv:EQ c.Pins)(hn:1048577<=n):BA (Co c) (On n c):=by
 have few:=hv.few
 obtain⟨b1,e1,h1⟩:=Hs (n:=n) h.arcs.1 1 hn
 obtain⟨b2,e2,h2⟩:=Hs (n:=n) h.arcs.1 2 hn
 obtain⟨b3,e3,h3⟩:=Hs (n:=n) h.arcs.1 3 hn
 have wl:wrap .i64 ((c.Pins.length:Int)-1)=(c.Pins.length:Int)-1:=Ai (by omega) (by omega)
 have o:=(Cn (n:=n) (c:=c) (l:=c.Pins) (K:=fun i16=>(cond (c.Kind==1) (Option.bind (cond (i16==0) (Option.bind (Km n c) fun r20=>(cond (decide (r20<0)) none (some ((((c.Truth.length:Int))==(Cj .i64 1 r20)))))) (some false)) fun c20=>(Option.bind (cond c20 (Option.bind (HY n c.Truth 0 1) fun r26=>(some r26)) (some false)) fun c26=>(some c26))) (cond (c.Kind==2) (Option.bind (cond (((i16==1))&&((((c.Truth.length:Int))==0))) (Option.bind (IQ n c 1) fun r38=>(some (!r38))) (some false)) fun c38=>(Option.bind (cond c38 (Option.bind (IQ n c 2) fun r43=>(Option.bind (IQ n c 3) fun r45=>(some ((r43 !=r45))))) (some false)) fun c43=>(some c43))) (cond (c.Kind==3) (Option.bind (cond (((i16==1))&&((((c.Truth.length:Int))==0))) (Option.bind (IQ n c 1) fun r61=>(some r61)) (some false)) fun c61=>(Option.bind (cond c61 (Option.bind (IQ n c 2) fun r74=>(some r74)) (some false)) fun c74=>(Option.bind (cond c74 (Option.bind (IQ n c 3) fun r87=>(some (!r87))) (some false)) fun c87=>(some c87)))) (some false))))) rfl h.pins.1 hn)
 have o2:On n c=_:=o
 rw [o2]
 obtain⟨s1,s2,s3⟩:=LF few.1 few.2
 have d0:decide ((c.Pins.length:Int)-1<0)=false:=decide_eq_false (by omega)
 simp only [Km,HQ,BJ,wl,d0,cF,s1,AW (n:=n) h.truth hn,e1,e2,e3,Bw]
 have tl:((c.Truth.length:Int)==0)=true↔c.Truth.length=0:=by rw [beq_iff_eq];omega
 have tw:((c.Truth.length:Int)==((2^(c.Pins.length-1):Nat):Int))=true↔c.Truth.length=2^(c.Pins.length-1):=by rw [beq_iff_eq];omega
 have c0:((cnt c.Pins:Int)==0)=true↔cnt c.Pins=0:=by rw [beq_iff_eq];omega
 have c1:((cnt c.Pins:Int)==1)=true↔cnt c.Pins=1:=by rw [beq_iff_eq];omega
 have n1:(!b1)=true↔¬CR c.Arcs 1:=by rw [←h1];cases b1<;>simp
 have n3:(!b3)=true↔¬CR c.Arcs 3:=by rw [←h3];cases b3<;>simp
 have x23:(b2 !=b3)=true↔¬(CR c.Arcs 2↔CR c.Arcs 3):=by rw [←h2,←h3];cases b2<;>cases b3<;>simp
 by_cases q1:c.Kind=1
 ·simp only [q1,show((1:Int)==1)=true from rfl,cT]
  refine Ag ?_
  rw [Bool.and_eq_true,Bool.and_eq_true,c0,tw,LL]
  unfold Co
  constructor
  ·rintro ⟨⟨a,b⟩,d⟩;exact .inl ⟨q1,a,b,d⟩
  ·rintro (⟨_,a,b,d⟩|⟨a,_⟩|⟨a,_⟩)
   ·exact⟨⟨a,b⟩,d⟩
   ·omega
   ·omega
 ·simp only [beq_eq_false_iff_ne.2 q1,cF]
  by_cases q2:c.Kind=2
  ·simp only [q2,show((2:Int)==2)=true from rfl,cT]
   refine Ag ?_
   simp only [Bool.and_eq_true,c1,tl,n1,x23]
   unfold Co
   constructor
   ·rintro ⟨⟨⟨a,b⟩,d⟩,f⟩;exact .inr (.inl ⟨q2,a,b,d,f⟩)
   ·rintro (⟨a,_⟩|⟨_,a,b,d,f⟩|⟨a,_⟩)
    ·omega
    ·exact⟨⟨⟨a,b⟩,d⟩,f⟩
    ·omega
  ·simp only [beq_eq_false_iff_ne.2 q2,cF]
   by_cases q3:c.Kind=3
   ·simp only [q3,show((3:Int)==3)=true from rfl,cT]
    refine Ag ?_
    simp only [Bool.and_eq_true,true_and,c1,tl,h1,h2,n3]
    unfold Co
    constructor
    ·rintro ⟨⟨⟨⟨a,b⟩,d⟩,x⟩,f⟩;exact .inr (.inr ⟨q3,a,b,d,x,f⟩)
    ·rintro (⟨a,_⟩|⟨a,_⟩|⟨_,a,b,d,x,f⟩)
     ·omega
     ·omega
     ·exact⟨⟨⟨⟨a,b⟩,d⟩,x⟩,f⟩
   ·simp only [beq_eq_false_iff_ne.2 q3,cF]
    refine Av ?_
    rintro (⟨a,_⟩|⟨a,_⟩|⟨a,_⟩)
    ·exact q1 a
    ·exact q2 a
    ·exact q3 a
theorem TZ{n:Nat}{c:AE}{r:Int}(h:IM c)(hv:EQ c.Pins)(hr:Ib n c=some r)(hn:1048577<=n):BA (Kv (fun a=>Jo c a r) c.Arcs∧c.Arcs.length<=8) (Oa n c):=by
 have few:=hv.few
 have hal:=h.arcs.1
 rw [Oa];try simp only [jn]
 refine(FY (L:=fun m i=>Ee n c _ m i) (Q:=c.Arcs.length<=8) c.Arcs.length 0 (fun i=>∀(hi:i<c.Arcs.length),Jo c c.Arcs[i] r∧∀j (hj:j<i),¬DJ c.Arcs[j] c.Arcs[i]) ?_ ?_ n 0 (by omega) (by omega) (by omega) (fun j _ h=>by omega)).iff ⟨fun a=>⟨fun i hi=>a.1 i (by omega) hi hi,a.2⟩,fun a=>⟨fun i _ _ hi=>a.1 i hi,a.2⟩⟩
 ·intro m i _ hi
  obtain⟨b,e,hb⟩:=RZ (n:=n) (c:=c) few.2 few.1 (h.arcs.2 _ (List.getElem_mem hi)) hr hn
  have hsub:EL c.Arcs 0 (i:Int)=some (c.Arcs.take i):=by
   unfold EL
   rw [if_pos ⟨by omega,by omega,by omega⟩];simp
  obtain⟨q,e2,hq,_⟩:=FE (xs:=c.Arcs.take i) (L:=fun m j=>Do n (c.Arcs.take i) c.Arcs[i] (fun i6=>(some (-1))) m j) (f:=fun a=>KV n a c.Arcs[i]) (P:=fun a=>DJ a c.Arcs[i]) (fun p _=>by rw [KV];exact Ag (by unfold DJ;simp only [Bool.and_eq_true,beq_iff_eq])) (fun m j hj=>by
   simp only [Do.eq_2,EI hj,cT,BI hj,BJ,wS (show j<4611686018427387904 by have:=hj;simp at this;omega)]) (fun m=>by
   simp only [Do.eq_2,FH,cF]) n (by simp;omega)
  have e2:Do n (c.Arcs.take i) c.Arcs[i] (fun i6=>(some (-1))) n 0=some q:=e2
  simp only [Ee.eq_2,EI hi,cT,BI hi,BJ,e,hsub,MG,QX,e2,Dv,wT i,jn]
  have hd:(decide (q>=0))=true↔¬∀j (hj:j<i),¬DJ c.Arcs[j] c.Arcs[i]:=by
   rw [decide_eq_true_eq,hq]
   constructor
   ·rintro ⟨x,hx,hs⟩ hall
    obtain⟨j,hj,rfl⟩:=List.mem_take_iff_getElem.1 hx
    exact hall j (by omega) hs
   ·intro hna
    refine Classical.byContradiction fun hne=>hna fun j hj hs=>hne ⟨c.Arcs[j],List.mem_take_iff_getElem.2 ⟨j,by omega,rfl⟩,hs⟩
  cases hc:(!b||decide (q>=0))with
  |true=>
   refine .inr ⟨fun g=>?_,by trivial⟩
   have:=g hi
   rw [Bool.or_eq_true]at hc
   rcases hc with hc|hc
   ·rw [hb.2 this.1]at hc;cases hc
   ·exact hd.1 hc this.2
  |false=>
   rw [Bool.or_eq_false_iff]at hc
   refine .inl ⟨fun _=>⟨hb.1 (by simpa using hc.1),Classical.byContradiction fun g=>?_⟩,by trivial⟩
   have:=hd.2 g
   rw [hc.2]at this;cases this
 ·intro m i h1 h2 _
  obtain rfl:i=c.Arcs.length:=by omega
  simp only [Ee.eq_2,FH,cF,jn]
  exact Ag (by rw [decide_eq_true_eq];omega)
theorem Pp{n:Nat}{c:AE}(h:IM c)(hn:1048577<=n):BA (Hx c) (Jm n c):=by
 obtain⟨r,hr,hr0,hr1⟩:=Ck (n:=n) h.pins.1 hn
 rw [Jm,Sd h.name hn,BJ]
 cases hnm:Bx c.Name with
 |false=>
  simp only [cF,BJ]
  exact Av fun v=>(by have:=v.name;rw [hnm]at this;cases this)
 |true=>
  obtain⟨b,e,hb⟩:=TE (n:=n) h.pins hn
  simp only [cT,e,BJ]
  cases b with
  |false=>
   simp only [cF,BJ]
   exact Av fun v=>(by have:=hb.2 v.pins;cases this)
  |true=>
   have hv:=hb.1 rfl
   obtain⟨b1,e1,h1⟩:=TZ (n:=n) h hv hr hn
   obtain⟨b2,e2,h2⟩:=Sh (n:=n) h hv hn
   simp only [cT,e1,e2,HV,BJ,Bw]
   refine Ag ?_
   rw [Bool.and_eq_true,Bool.and_eq_true,Bool.and_eq_true,h1,h2,FK,FK]
   constructor
   ·rintro ⟨⟨⟨⟨a,a8⟩,b⟩,d⟩,f⟩
    exact⟨hnm,hv,a8,b,d,fun i hi=>⟨(JV hv f.cnt hr1 hr0).2 (a i hi).1,(a i hi).2⟩,f⟩
   ·rintro v
    exact⟨⟨⟨⟨fun i hi=>⟨(JV hv v.kind.cnt hr1 hr0).1 (v.arcs i hi).1,(v.arcs i hi).2⟩,v.few⟩,v.leak⟩,v.energy⟩,v.kind⟩
def bt(i b:Nat):Nat:=i/2^b%2
def Eo(i b:Nat):Nat:=if bt i b=0 then i+2^b else i-2^b
theorem He:∀i:Nat,i<16->∀b:Nat,b<4->EN .i64 (Fz .i64 (i:Int) (b:Int)) 1=(bt i b:Int)∧EN .i64 (Fz .i64 (i:Int) (IntKind.wrap IntKind.u64 (b:Int))) 1=(bt i b:Int)∧Lw .i64 (i:Int) (Cj .i64 1 (b:Int))=(Eo i b:Int)∧wrap .i64 ((i:Int)+Cj .i64 1 (IntKind.wrap IntKind.u64 (b:Int)))=((i+2^b:Nat):Int)∧decide (IntKind.wrap IntKind.u64 (b:Int)<0)=false:=by decide+kernel
theorem QC:∀i:Nat,i<16->∀b:Nat,b<4->Eo (Eo i b) b=i∧(bt i b=0->i+2^b=Eo i b)∧(bt i b≠0->bt (Eo i b) b=0):=by decide+kernel
theorem Py:∀i:Nat,i<16->∀b:Nat,b<4->∀a:Nat,a<4->a≠b->bt (Eo i b) a=bt i a:=by decide+kernel
theorem QI:∀i:Nat,i<16->∀b:Nat,b<4->∀k:Nat,k<5->b<k->i<2^k->Eo i b<2^k:=by decide+kernel
theorem LM(k:Nat)(hk:k<5)(b:Nat)(hb:b<k)(i:Nat)(hi:i<2^k):Eo i b<2^k∧Eo (Eo i b) b=i∧(bt i b=0->i+2^b=Eo i b)∧(bt i b≠0->bt (Eo i b) b=0)∧∀a,a<k->a≠b->bt (Eo i b) a=bt i a:=by
 have h16:2^k<=2^4:=Nat.pow_le_pow_right (by omega) (by omega)
 have hi':i<16:=by omega
 have b0:=QC i hi' b (by omega)
 exact⟨QI i hi' b (by omega) k hk hb hi,b0.1,b0.2.1,b0.2.2,fun a ha hne=>Py i hi' b (by omega) a (by omega) hne⟩
def OI(t:List Int)(p q l:Nat):Prop:=∃i,i<t.length∧bt i p=l∧gd t i≠gd t (Eo i q)
theorem SO{n:Nat}{c:AE}{p q l k:Nat}(hk:k<5)(ht:c.Truth.length=2^k)(hp:p<k)(hq:q<k)(hpq:p≠q)(hn:1048577<=n):BA (OI c.Truth p q l) (NI n c p q l):=by
 have h16:2^k<=2^4:=Nat.pow_le_pow_right (by omega) (by omega)
 have h16':c.Truth.length<=16:=by rw [ht];exact h16
 rw [NI]
 have B:=LM k hk q hq
 refine loop (L:=fun m i (_:Unit)=>El c p q l _ m i) c.Truth.length (fun i _=>∀j,j<c.Truth.length->j<i->¬(bt j p=l∧bt j q=0∧gd c.Truth j≠gd c.Truth (Eo j q))) _ ?_ ?_ n 0 () (by omega) (by omega) (fun j _ hj=>by omega)
 ·intro m i _ hi hI
  obtain⟨_,r2,_,_,r5⟩:=He i (by omega) p (by omega)
  obtain⟨_,s2,_,s4,s5⟩:=He i (by omega) q (by omega)
  have hb:=B i (by omega)
  simp only [El.eq_2,EI hi,cT,r2,r5,s2,s4,s5,cF,Bw,BJ,gI hi,wT i]
  by_cases c1:bt i p=l∧bt i q=0
  ·have d1:(((bt i p:Int)==(l:Int))&&((bt i q:Int)==0))=true:=by simp only [Bool.and_eq_true,beq_iff_eq];omega
   have e1:=hb.2.2.1 c1.2
   simp only [d1,cT,e1,gI (show Eo i q<c.Truth.length by omega),BJ]
   by_cases c2:gd c.Truth i=gd c.Truth (Eo i q)
   ·simp only [c2,bne_self_eq_false,cF]
    refine .inl ⟨(),fun j hj hji=>?_,by trivial⟩
    by_cases ej:j=i
    ·subst ej;exact fun h=>h.2.2 c2
    ·exact hI j hj (by omega)
   ·have:(gd c.Truth i !=gd c.Truth (Eo i q))=true:=by rw [bne_iff_ne];exact c2
    simp only [this,cT]
    exact .inr (CS ⟨i,hi,c1.1,c2⟩)
  ·have d1:(((bt i p:Int)==(l:Int))&&((bt i q:Int)==0))=false:=by
    rw [Bool.and_eq_false_iff,beq_eq_false_iff_ne,beq_eq_false_iff_ne];omega
   simp only [d1,cF,BJ]
   refine .inl ⟨(),fun j hj hji=>?_,by trivial⟩
   by_cases ej:j=i
   ·subst ej;exact fun h=>c1 ⟨h.1,h.2.1⟩
   ·exact hI j hj (by omega)
 ·intro m _ hI
  simp only [El.eq_2,FH,cF]
  refine Av ?_
  rintro ⟨i,hi,h1,h2⟩
  have hb:=B i (by omega)
  by_cases h0:bt i q=0
  ·exact hI i hi hi ⟨h1,h0,h2⟩
  ·have hf:Eo i q<c.Truth.length:=by omega
   refine hI (Eo i q) hf hf ⟨by rw [hb.2.2.2.2 p hp hpq];exact h1,hb.2.2.2.1 h0,?_⟩
   rw [hb.2.1];exact fun e=>h2 e.symm
theorem SZ{n:Nat}{c:AE}{p q l k:Nat}(hk:k<5)(ht:c.Truth.length=2^k)(hp:p<k)(hq:q<k)(hn:1048577<=n):BA (OI c.Truth p q l) (NP n c p q l):=by
 have h16:2^k<=2^4:=Nat.pow_le_pow_right (by omega) (by omega)
 have h16':c.Truth.length<=16:=by rw [ht];exact h16
 rw [NP]
 have B:=LM k hk q hq
 have d0:decide ((p:Int)<0)=false:=decide_eq_false (by omega)
 have d0':decide ((q:Int)<0)=false:=decide_eq_false (by omega)
 refine loop (L:=fun m i (_:Unit)=>Ej c p q l _ m i) c.Truth.length (fun i _=>∀j,j<c.Truth.length->j<i->¬(bt j p=l∧gd c.Truth j≠gd c.Truth (Eo j q))) _ ?_ ?_ n 0 () (by omega) (by omega) (fun j _ hj=>by omega)
 ·intro m i _ hi hI
  obtain⟨r1,_⟩:=He i (by omega) p (by omega)
  obtain⟨_,_,s3,_⟩:=He i (by omega) q (by omega)
  have hb:=B i (by omega)
  simp only [Ej.eq_2,EI hi,cT,gI hi,d0,d0',r1,s3,cF,BJ,wT i]
  by_cases c1:bt i p=l
  ·have d1:(((bt i p:Int)==(l:Int)))=true:=by rw [beq_iff_eq];omega
   simp only [d1,cT,gI (show Eo i q<c.Truth.length by omega),BJ]
   by_cases c2:gd c.Truth i=gd c.Truth (Eo i q)
   ·simp only [c2,bne_self_eq_false,cF]
    refine .inl ⟨(),fun j hj hji=>?_,by trivial⟩
    by_cases ej:j=i
    ·subst ej;exact fun h=>h.2 c2
    ·exact hI j hj (by omega)
   ·have:(gd c.Truth i !=gd c.Truth (Eo i q))=true:=by rw [bne_iff_ne];exact c2
    simp only [this,cT]
    exact .inr (CS ⟨i,hi,c1,c2⟩)
  ·have d1:(((bt i p:Int)==(l:Int)))=false:=by rw [beq_eq_false_iff_ne];omega
   simp only [d1,cF,BJ]
   refine .inl ⟨(),fun j hj hji=>?_,by trivial⟩
   by_cases ej:j=i
   ·subst ej;exact fun h=>c1 h.1
   ·exact hI j hj (by omega)
 ·intro m _ hI
  simp only [Ej.eq_2,FH,cF]
  exact Av fun⟨i,hi,h1,h2⟩=>hI i hi hi ⟨h1,h2⟩
theorem Al{n:Nat}{c:AE}{p q:Int}(h:IM c)(hn:1048577<=n):∃r,Ih n c p q=some r∧KQ n c p q=some r∧(-1<=r->∃k a b:Nat,Hx c∧c.Kind=1∧k+1=c.Pins.length∧k<5∧c.Truth.length=2^k∧p=(a:Int)∧q=(b:Int)∧a<k∧b<k∧a≠b∧((r= -1∨r=0)->¬OI c.Truth a b 1)∧((r= -1∨r=1)->¬OI c.Truth a b 0)):=by
 obtain⟨b,e1,h1⟩:=SA (n:=n) h hn
 obtain⟨b',e2,h2⟩:=Pp (n:=n) h hn
 obtain rfl:b=b':=Bool.eq_iff_iff.2 (h1.trans h2.symm)
 rw [Ih,KQ,e1,e2]
 simp only [BJ]
 cases b with
 |false=>exact⟨-2,rfl,rfl,fun h=>by omega⟩
 |true=>
  have v:=h1.1 rfl
  have few:=v.pins.few
  have w1:wrap .i64 ((c.Pins.length:Int)-1)=(c.Pins.length:Int)-1:=Ai (by omega) (by omega)
  have w2:wrap .i64 ((c.Pins.length:Int)-1-1)=(c.Pins.length:Int)-1-1:=Ai (by omega) (by omega)
  have w3:wrap .i64 ((c.Pins.length:Int)-2)=(c.Pins.length:Int)-1-1:=by rw [Ai (by omega) (by omega)];omega
  simp only [Bool.not_true,cF,Bool.false_or,MN,HE,IF,Km,HQ,HV,BJ,w1,w2,w3,Bw,Dv]
  by_cases g:c.Kind=1∧(0<=p∧p+2<=c.Pins.length)∧(0<=q∧q+2<=c.Pins.length)∧p≠q
  ·have d1:(decide (p>=0)&&decide (p<=(c.Pins.length:Int)-1-1))=true:=FK.2 (by omega)
   have d2:(decide (q>=0)&&decide (q<=(c.Pins.length:Int)-1-1))=true:=FK.2 (by omega)
   have d3:(c.Kind==1)=true:=by rw [beq_iff_eq];exact g.1
   have d4:(c.Kind !=1)=false:=by rw [bne_eq_false_iff_eq];exact g.1
   have d5:(p !=q)=true:=by rw [bne_iff_ne];exact g.2.2.2
   have d6:(p==q)=false:=by rw [beq_eq_false_iff_ne];exact g.2.2.2
   simp only [d1,d2,d3,d4,d5,d6,Bool.and_self,Bool.not_true,Bool.or_self,cF]
   obtain⟨a,ha⟩:=Int.eq_ofNat_of_zero_le g.2.1.1
   obtain⟨b,hb⟩:=Int.eq_ofNat_of_zero_le g.2.2.1.1
   have ha:p=(a:Int):=ha
   have hb:q=(b:Int):=hb
   have ht:c.Truth.length=2^(c.Pins.length-1):=by
    rcases v.kind with k|k|k
    ·exact k.2.2.1
    ·omega
    ·omega
   subst ha;subst hb
   obtain⟨x0,f0,y0⟩:=SO (n:=n) (c:=c) (p:=a) (q:=b) (l:=0) (k:=c.Pins.length-1) (by omega) ht (by omega) (by omega) (by omega) hn
   obtain⟨x1,f1,y1⟩:=SO (n:=n) (c:=c) (p:=a) (q:=b) (l:=1) (k:=c.Pins.length-1) (by omega) ht (by omega) (by omega) (by omega) hn
   obtain⟨z0,i0,u0⟩:=SZ (n:=n) (c:=c) (p:=a) (q:=b) (l:=0) (k:=c.Pins.length-1) (by omega) ht (by omega) (by omega) hn
   obtain⟨z1,i1,u1⟩:=SZ (n:=n) (c:=c) (p:=a) (q:=b) (l:=1) (k:=c.Pins.length-1) (by omega) ht (by omega) (by omega) hn
   obtain rfl:x0=z0:=Bool.eq_iff_iff.2 (y0.trans u0.symm)
   obtain rfl:x1=z1:=Bool.eq_iff_iff.2 (y1.trans u1.symm)
   have f0:NI n c a b 0=some x0:=f0
   have f1:NI n c a b 1=some x1:=f1
   have i0:NP n c a b 0=some x0:=i0
   have i1:NP n c a b 1=some x1:=i1
   simp only [LK,Ls,f0,f1,i0,i1,BJ]
   have fin:∀r:Int,((r= -1∨r=0)->x1=false)->((r= -1∨r=1)->x0=false)->(-1<=r->∃k a' b':Nat,Hx c∧c.Kind=1∧k+1=c.Pins.length∧k<5∧c.Truth.length=2^k∧(a:Int)=(a':Int)∧(b:Int)=(b':Int)∧a'<k∧b'<k∧a'≠b'∧((r= -1∨r=0)->¬OI c.Truth a' b' 1)∧((r= -1∨r=1)->¬OI c.Truth a' b' 0)):=fun r r1 r2 _=>
    ⟨c.Pins.length-1,a,b,v,g.1,by omega,by omega,ht,rfl,rfl,by omega,by omega,by omega,fun e=>fun hp=>(by have:=y1.2 hp;rw [r1 e]at this;cases this),fun e=>fun hp=>(by have:=y0.2 hp;rw [r2 e]at this;cases this)⟩
   cases x0<;>cases x1
   ·exact⟨-1,rfl,rfl,fin _ (fun _=>rfl) (fun _=>rfl)⟩
   ·exact⟨1,rfl,rfl,fin _ (fun h=>by omega) (fun _=>rfl)⟩
   ·exact⟨0,rfl,rfl,fin _ (fun _=>rfl) (fun h=>by omega)⟩
   ·exact⟨2,rfl,rfl,fin _ (fun h=>by omega) (fun h=>by omega)⟩
  ·have s1:(!(((c.Kind==1)&&(decide (p>=0)&&decide (p<=(c.Pins.length:Int)-1-1)))&&(decide (q>=0)&&decide (q<=(c.Pins.length:Int)-1-1))&&(p !=q)))=true:=by
    rw [Bool.not_eq_true']
    cases hq:(((c.Kind==1)&&(decide (p>=0)&&decide (p<=(c.Pins.length:Int)-1-1)))&&(decide (q>=0)&&decide (q<=(c.Pins.length:Int)-1-1))&&(p !=q))with
    |false=>rfl
    |true=>
     exfalso;apply g
     simp only [Bool.and_eq_true,beq_iff_eq,bne_iff_ne,decide_eq_true_eq]at hq
     omega
   have s2:(((c.Kind !=1)|| !(decide (p>=0)&&decide (p<=(c.Pins.length:Int)-1-1))|| !(decide (q>=0)&&decide (q<=(c.Pins.length:Int)-1-1)))||(p==q))=true:=by
    cases hq:(((c.Kind !=1)|| !(decide (p>=0)&&decide (p<=(c.Pins.length:Int)-1-1))|| !(decide (q>=0)&&decide (q<=(c.Pins.length:Int)-1-1)))||(p==q))with
    |true=>rfl
    |false=>
     exfalso;apply g
     simp only [Bool.or_eq_false_iff,Bool.not_eq_false',bne_eq_false_iff_eq,beq_eq_false_iff_ne,FK]at hq
     omega
   rw [s1,s2]
   exact⟨-2,rfl,rfl,fun h=>by omega⟩
theorem Gw{α:Type}{x:α}{xs:List α}:EL (x::xs) 1 ((x::xs).length:Int)=some xs:=by
 unfold EL
 rw [if_pos ⟨by omega,by simp only [List.length_cons];omega,Int.le_refl _⟩]
 simp
theorem PW{n:Nat}{c:List Int}(hc:FF c){s0:AA}(e0:s0.code_=c)(st:Int):∀(m k:Nat) (l:List Int) (x a d:Int),k<m->l.length+k<=3->CO c (AA.mk s0.code_ a d)->
 BC (fun r=>r.1.length=l.length+k∧CO c r.2) (ET n s0 st (fun l38 i42 i43 i45 i46=>(some (l38,(AA.mk s0.code_ i45 i46)))) m l x (k:Int) a d)
 |0,k,l,x,a,d,hm,_,_=>by omega
 |m+1,0,l,x,a,d,hm,hl,hs=>by
  rw [ET.eq_2]
  exact Ao ⟨rfl,hs⟩
 |m+1,k+1,l,x,a,d,hm,hl,hs=>by
  have hp:decide (((k+1:Nat):Int)>0)=true:=decide_eq_true (by omega)
  have w:wrap .i64 (((k+1:Nat):Int)-1)=(k:Int):=by rw [Ai (by omega) (by omega)];omega
  rw [ET.eq_2,hp,cT,Be (by simp;omega) (by omega),BJ]
  refine BC.bind (Nx hc hs st) fun r _ ⟨h1,_⟩=>?_
  rw [w]
  exact(PW hc e0 st m k (l++[x]) _ _ _ (by omega) (by simp;omega) (h1.mk2 e0)).weaken fun r ⟨q1,q2⟩=>⟨by rw [q1];simp;omega,q2⟩
theorem QO{n:Nat}{c:List Int}(hc:FF c){s:AA}(hs:CO c s)(st:Int)(hn:1048577<=n):BC (fun r=>(1<=r.1.length∧r.1.length<=3)∧CO c r.2) (OG n s st):=by
 rw [OG]
 refine BC.bind (Nx hc hs st) fun r _ ⟨h1,_⟩=>BC.bind (Nx hc (h1.mk2 hs.code) 3) fun q _ ⟨k1,k2,k3⟩=>?_
 have w:wrap .i64 (1+q.1)=((1+q.1.toNat:Nat):Int):=by rw [Ai (by omega) (by omega)];omega
 rw [w]
 exact(PW hc hs.code st n _ [] _ _ _ (by omega) (by simp;omega) (k1.mk2 hs.code)).weaken fun r ⟨q1,q2⟩=>⟨⟨by rw [q1];simp,by rw [q1];simp;omega⟩,q2⟩
theorem OW{n:Nat}{c:List Int}(hc:FF c){s0:AA}(e0:s0.code_=c)(base:Int){r15 r26:List Int×AA}(h15:r15.1.length<=3)(h26:1<=r26.1.length∧r26.1.length<=3):∀(m i:Nat) (l:List Int) (a d:Int),r15.1.length*r26.1.length-i<m->i<=r15.1.length*r26.1.length->l.length=i->CO c (AA.mk s0.code_ a d)->
 BC (fun r=>IZ r.1∧CO c r.2) (DB n s0 base r15 r26 (fun l52 i56 i58 i59=>(some ((AQ.mk r15.1 r26.1 l52),(AA.mk s0.code_ i58 i59)))) m l (i:Int) a d)
 |0,i,l,a,d,hm,_,_,_=>by omega
 |m+1,i,l,a,d,hm,hi,hl,hs=>by
  have hprod:r15.1.length*r26.1.length<=3*3:=Nat.mul_le_mul h15 h26.2
  have wp:wrap .i64 ((r15.1.length:Int)*(r26.1.length:Int))=((r15.1.length*r26.1.length:Nat):Int):=by
   rw [←Int.natCast_mul,Ai (by omega) (by omega)]
  rw [DB.eq_2];try simp only [jn];rw [wp]
  by_cases c0:i<r15.1.length*r26.1.length
  ·rw [EI c0,cT]
   refine BC.bind (Nx hc hs 10) fun r _ ⟨h1,_⟩=>?_
   have hz:((r26.1.length:Int)==0)=false:=by rw [beq_eq_false_iff_ne];omega
   have tm:Int.tmod (i:Int) (r26.1.length:Int)=((i%r26.1.length:Nat):Int):=rfl
   have go1:∀(z:Int) (s':AA),CO c s'->BC (fun r=>IZ r.1∧CO c r.2) (Option.bind (Cf l [z] 8) fun z1=>DB n s0 base r15 r26 (fun l52 i56 i58 i59=>(some ((AQ.mk r15.1 r26.1 l52),(AA.mk s0.code_ i58 i59)))) m z1 (wrap .i64 ((i:Int)+1)) s'.at_ s'.seed_):=fun z s' h'=>by
    rw [Be (by simp;omega) (by omega),BJ,wS (by omega)]
    exact OW hc e0 base h15 h26 m (i+1) _ _ _ (by omega) (by omega) (by simp;omega) (h'.mk2 e0)
   have g2:(i:Int)>=(r26.1.length:Int)->∃x,AS l (wrap .i64 ((i:Int)-(r26.1.length:Int)))=some x:=fun h=>by
    rw [Ai (by omega) (by omega)]
    obtain⟨x,hx,_⟩:=Fs (xs:=l) (i:=(i:Int)-(r26.1.length:Int)) (by omega) (by omega)
    exact⟨x,hx⟩
   rw [hz,cF,tm]
   refine BN (fun q1=>?_) fun q1=>?_
   ·have q1:=of_decide_eq_true q1
    have hi0:0<i:=by
     rcases Nat.eq_zero_or_pos i with e|e
     ·subst e;simp at q1
     ·exact e
    have w1:wrap .i64 ((i:Int)-1)=((i-1:Nat):Int):=by rw [Ai (by omega) (by omega)];omega
    rw [w1,BI (show i-1<l.length by omega),BJ]
    refine BC.bind (Nx hc (h1.mk2 e0) 20) fun r2 _ ⟨h2,_⟩=>BN (fun q2=>?_) fun _=>go1 _ _ h2
    obtain⟨x,hx⟩:=g2 (of_decide_eq_true q2)
    rw [hx,BJ]
    exact BC.bind (Nx hc (h2.mk2 e0) 20) fun r3 _ ⟨h3,_⟩=>go1 _ _ h3
   ·refine BN (fun q2=>?_) fun _=>go1 _ _ h1
    obtain⟨x,hx⟩:=g2 (of_decide_eq_true q2)
    rw [hx,BJ]
    exact BC.bind (Nx hc (h1.mk2 e0) 20) fun r3 _ ⟨h3,_⟩=>go1 _ _ h3
  ·rw [show decide ((i:Int)<((r15.1.length*r26.1.length:Nat):Int))=false from decide_eq_false (by omega),cF]
   exact Ao ⟨⟨by show r15.1.length<=_;omega,by show r26.1.length<=_;omega,by show l.length<=_;omega⟩,hs⟩
theorem SV{n:Nat}{c:List Int}(hc:FF c){s:AA}(hs:CO c s)(base:Int)(hn:1048577<=n):BC (fun r=>IZ r.1∧CO c r.2) (Lj n s base):=by
 rw [Lj];try simp only [jn]
 refine BC.bind (QO hc hs 60 hn) fun r _ ⟨h1,h2⟩=>BC.bind (QO hc (h2.mk2 hs.code) 40 hn) fun q _ ⟨k1,k2⟩=>?_
 have:r.1.length*q.1.length<=3*3:=Nat.mul_le_mul h1.2 k1.2
 exact OW hc hs.code base h1.2 k1 n 0 [] _ _ (by omega) (by omega) rfl (k2.mk2 hs.code)
theorem QW{n:Nat}{c:List Int}(hc:FF c){s:AA}(hs:CO c s)(base:Int)(hn:1048577<=n):BC (fun r=>(r.1.length<=1048576∧∀t∈r.1,IZ t)∧CO c r.2) (Hc n s base):=by
 rw [Hc]
 refine BC.bind (SV hc hs base hn) fun r _ ⟨h1,h2⟩=>BC.bind (SV hc (h2.mk2 hs.code) base hn) fun q _ ⟨k1,k2⟩=>Ao ⟨⟨by simp,fun t ht=>?_⟩,k2.mk2 hs.code⟩
 rcases List.mem_cons.1 ht with e|ht
 ·rw [e];exact h1
 ·rw [List.mem_singleton.1 ht];exact k1
theorem TJ{n:Nat}{c:List Int}(hc:FF c){s:AA}(hs:CO c s)(kd f t z:Int)(hn:1048577<=n):BC (fun r=>IK r.1∧CO c r.2) (KG n s kd f t z):=by
 rw [KG]
 refine BN (fun _=>?_) fun _=>?_
 ·exact BC.bind (Nx hc hs 10) fun r _ ⟨h1,_⟩=>BC.bind (QW hc (h1.mk2 hs.code) _ hn) fun q _ ⟨k1,k2⟩=>Ao ⟨⟨k1,by simp⟩,k2.mk2 hs.code⟩
 ·exact BC.bind (Nx hc hs 20) fun r _ ⟨h1,_⟩=>BC.bind (QW hc (h1.mk2 hs.code) _ hn) fun q _ ⟨k1,k2⟩=>BC.bind (QW hc (k2.mk2 hs.code) 10 hn) fun p _ ⟨p1,p2⟩=>Ao ⟨⟨k1,p1⟩,p2.mk2 hs.code⟩
theorem SI:∀k:Nat,k<4->∀i:Nat,i<2^k->∀b:Nat,b<k->(EN .i64 (i:Int) (Cj .i64 1 (IntKind.wrap IntKind.u64 (b:Int))) !=0)=true∨(0<=wrap .i64 ((i:Int)+(Cj .i64 1 (IntKind.wrap IntKind.u64 (b:Int))))∧wrap .i64 ((i:Int)+(Cj .i64 1 (IntKind.wrap IntKind.u64 (b:Int))))<((2^k:Nat):Int)):=by decide+kernel
theorem Se{n:Nat}{cl:AE}{k b:Nat}(hk:k<4)(ht:cl.Truth.length=2^k)(hb:b<k)(hn:1048577<=n):BC (fun _=>True) (Mw n cl (b:Int)):=by
 have h16:2^k<=2^4:=Nat.pow_le_pow_right (by omega) (by omega)
 have wb:IntKind.wrap IntKind.u64 (b:Int)=(b:Int):=by
  have:∀b:Nat,b<4->IntKind.wrap IntKind.u64 (b:Int)=(b:Int):=by decide+kernel
  exact this b (by omega)
 rw [Mw,wb,decide_eq_false (by omega),cF]
 refine loop (L:=fun m i (p:Bool×Bool)=>EA cl (b:Int) _ m p.1 p.2 i) cl.Truth.length (fun _ _=>True) (fun o=>BC (fun _=>True) o) ?_ ?_ n 0 (false,false) (by omega) (by omega) trivial
 ·intro m i p hi _
  have h8:=SI k hk i (by omega) b hb
  simp only [EA.eq_2,EI hi,cT,wT i]
  rcases h8 with h8|h8
  ·simp only [h8,cT]
   exact .inl ⟨p,trivial,rfl⟩
  ·obtain⟨y,hy,_⟩:=Fs (xs:=cl.Truth) h8.1 (by rw [ht];exact h8.2)
   cases hx:(EN .i64 (i:Int) (Cj .i64 1 (IntKind.wrap IntKind.u64 (b:Int))) !=0)with
   |true=>simp only [cT];exact .inl ⟨p,trivial,rfl⟩
   |false=>
    simp only [cF,BI hi,hy,BJ]
    obtain⟨p1,p2⟩:=p
    cases p1<;>cases p2<;>exact .inl ⟨(_,_),trivial,rfl⟩
 ·intro m p _
  simp only [EA.eq_2,FH,cF]
  obtain⟨p1,p2⟩:=p
  cases p1<;>cases p2<;>exact Ao trivial
theorem TR{j:Nat}(h:j<4):∃x:ByteArray,AS ([(ByteArray.mk #[97]),(ByteArray.mk #[98]),(ByteArray.mk #[99]),(ByteArray.mk #[100])]) (j:Int)=some x∧x.size<=1048576:=by
 match j,h with
 |0,_=>exact⟨_,rfl,by decide⟩
 |1,_=>exact⟨_,rfl,by decide⟩
 |2,_=>exact⟨_,rfl,by decide⟩
 |3,_=>exact⟨_,rfl,by decide⟩
theorem Nw{n:Nat}{c:List Int}(hc:FF c){s0:AA}(e0:s0.code_=c){T:List Int}{k:Nat}(hk:k<4)(hT:T.length=2^k){Q:AE×AA->Prop}{k0:List Ad->Int->Int->Int->Option (AE×AA)}
 (h0:∀l i a d,l.length=k->Kj l->CO c (AA.mk s0.code_ a d)->BC Q (k0 l i a d)):∀(m j:Nat) (l:List Ad) (a d:Int),k-j<m->j<=k->l.length=j->Kj l->CO c (AA.mk s0.code_ a d)->
 BC Q (FN n s0 T k0 m l ((2^j:Nat):Int) a d)
 |0,j,l,a,d,hm,_,_,_,_=>by omega
 |m+1,j,l,a,d,hm,hj,hl,hp,hs=>by
  rw [FN.eq_2,hT]
  by_cases q:j<k
  ·have h2:2^j<2^k:=Nat.pow_lt_pow_right (by omega) q
   have h16:2^k<=2^4:=Nat.pow_le_pow_right (by omega) (by omega)
   have hw:wrap .i64 (2*((2^j:Nat):Int))=((2^(j+1):Nat):Int):=by
    rw [Nat.pow_succ]
    generalize 2^j=P at h2 ⊢
    rw [Ai (by omega) (by omega)];omega
   obtain⟨x,hx,hz⟩:=TR (j:=j) (by omega)
   rw [EI h2,cT,hl,hx,BJ,hw]
   refine BC.bind (Nx hc hs 9) fun r _ ⟨h1,_⟩=>?_
   rw [Be (by simp;omega) (by omega),BJ]
   refine Nw hc e0 hk hT h0 m (j+1) _ _ _ (by omega) (by omega) (by simp;omega) ⟨by simp;omega,fun p hp2=>?_⟩ (h1.mk2 e0)
   rcases List.mem_append.1 hp2 with h|h
   ·exact hp.2 p h
   ·rw [List.mem_singleton.1 h];exact hz
  ·obtain rfl:j=k:=by omega
   rw [FH,cF]
   exact h0 l _ a d hl hp hs
theorem Nk{n:Nat}(hn:1048577<=n){c:List Int}(hc:FF c){s0:AA}(e0:s0.code_=c){T:List Int}{k:Nat}(hk:k<4)(hT:T.length=2^k){nm:ByteArray}(hnm:nm.size<=1048576){r33 r41:Int×AA}{ps z:List Ad}(hps:ps.length=k)(hz:Kj z):∀(m i:Nat) (l:List Ah) (a d:Int),k-i<m->i<=k->l.length<=i->(∀x∈l,IK x)->CO c (AA.mk s0.code_ a d)->
 BC (fun r=>IM r.1∧CO c r.2) (Ce n s0 nm T r33 r41 ps z (fun l144 i148 i150 i151=>(some ((AE.mk nm 1 z l144 T r33.1 r41.1),(AA.mk s0.code_ i150 i151)))) m l (i:Int) a d)
 |0,i,l,a,d,hm,_,_,_,_=>by omega
 |m+1,i,l,a,d,hm,hi,hl,hA,hs=>by
  have h16:2^k<=2^4:=Nat.pow_le_pow_right (by omega) (by omega)
  rw [Ce.eq_2,hps]
  by_cases q:i<k
  ·rw [EI q,cT,wS (by omega)]
   refine BC.bind (Se (cl:=AE.mk nm 1 z [] T r33.1 r41.1) hk hT q hn) fun sn _ _=>BN (fun _=>?_) fun _=>Nk hn hc e0 hk hT hnm hps hz m (i+1) l a d (by omega) (by omega) (by omega) hA hs
   refine BC.bind (TJ hc hs 1 _ _ _ hn) fun r _ ⟨h1,h2⟩=>?_
   rw [Be (by simp;omega) (by omega),BJ]
   refine Nk hn hc e0 hk hT hnm hps hz m (i+1) _ _ _ (by omega) (by omega) (by simp;omega) (fun x hx=>?_) (h2.mk2 e0)
   rcases List.mem_append.1 hx with h|h
   ·exact hA x h
   ·rw [List.mem_singleton.1 h];exact h1
  ·obtain rfl:i=k:=by omega
   rw [FH,cF]
   exact Ao ⟨⟨hnm,hz,⟨by show l.length<=_;omega,hA⟩,by show T.length<=_;omega⟩,hs⟩
theorem St{n:Nat}{c:List Int}(hc:FF c){s:AA}(hs:CO c s){nm:ByteArray}(hnm:nm.size<=1048576){T:List Int}{k:Nat}(hk:k<4)(hT:T.length=2^k)(hn:1048577<=n):BC (fun r=>IM r.1∧CO c r.2) (KC n s nm T):=by
 rw [KC]
 refine BC.bind (Nx hc hs 50) fun r _ ⟨h1,_⟩=>BC.bind (Nx hc (h1.mk2 hs.code) 80) fun q _ ⟨h2,_⟩=>?_
 have:=Nw (n:=n) (s0:=s) (Q:=fun r=>IM r.1∧CO c r.2) hc hs.code hk hT (k0:=fun l75 i79 i81 i82=>(Option.bind (Cf l75 ([(Ad.mk ((ByteArray.mk #[121])) 2 0 false)]) 40) fun z106=>(Ce n s nm T r q l75 z106 (fun l144 i148 i150 i151=>(some ((AE.mk nm 1 z106 l144 T r.1 q.1),(AA.mk s.code_ i150 i151)))) n (([]:List Ah)) 0 i81 i82))) (fun l i a d hl hp hs2=>by
  rw [Be (by simp;omega) (by omega),BJ]
  refine Nk hn hc hs.code hk hT hnm hl ⟨by simp;omega,fun p hp2=>?_⟩ n 0 [] a d (by omega) (by omega) (by simp) (by simp) hs2
  rcases List.mem_append.1 hp2 with h|h
  ·exact hp.2 p h
  ·rw [List.mem_singleton.1 h];exact(by decide:(ByteArray.mk #[121]).size<=1048576)) n 0 [] q.2.at_ q.2.seed_ (by omega) (by omega) rfl ⟨by simp,by simp⟩ (h2.mk2 hs.code)
 exact this
theorem IM.re{cl:AE}(h:IM cl){T:List Int}(hT:T.length<=1048576):IM (AE.mk cl.Name cl.Kind cl.Pins cl.Arcs T cl.Leak cl.Energy):=⟨h.name,h.pins,h.arcs,hT⟩
theorem Db{α:Type}{A:α->Prop}{o:Option α}{f:α->Option Unit}(h:BC A o)(k:∀v,A v->f v=some ()):Option.bind o f=some ():=by
 obtain⟨v,e,hv⟩:=h
 rw [e];exact k v hv
theorem CM{b:Bool}{x y:Option Unit}(h1:b=true->x=some ())(h2:b=false->y=some ()):(cond b x y)=some ():=by
 cases b
 ·exact h2 rfl
 ·exact h1 rfl
def JY(l:List Int):Prop:=∀x∈l,x=0∨x=1
def GZ(l:List Int):Nat->Nat
 |0=>0
 |i+1=>GZ l i+(gd l i).toNat*2^i
theorem JY.at{l:List Int}(h:JY l)(j:Nat):gd l j=0∨gd l j=1:=by
 by_cases hj:j<l.length
 ·have:=h _ (List.getElem_mem hj)
  rwa [←Ij (List.getElem?_eq_getElem hj)]at this
 ·exact .inl (by simp [gd,List.getElem?_eq_none (Nat.le_of_not_lt hj)])
theorem GJ{l:List Int}(h:JY l):∀i,GZ l i<2^i
 |0=>by show(0:Nat)<1;omega
 |i+1=>by
  have h1:=GJ h i
  rw [GZ,Nat.pow_succ]
  rcases h.at i with e|e<;>rw [e]<;>simp<;>omega
theorem Td:∀i:Nat,i<5->∀r:Nat,r<2^i->∀x:Nat,x<2->∀j:Nat,j<i+1->bt (r+x*2^i) j=if j=i then x else bt r j:=by decide+kernel
theorem TD:∀i:Nat,i<5->∀r:Nat,r<2^i->∀x:Nat,x<2->Pq .i64 (r:Int) (Cj .i64 (x:Int) (i:Int))=((r+x*2^i:Nat):Int):=by decide+kernel
theorem JY.nat{l:List Int}(h:JY l)(j:Nat):(gd l j).toNat<2∧gd l j=((gd l j).toNat:Int):=by rcases h.at j with e|e<;>rw [e]<;>exact⟨by decide,rfl⟩
theorem Ik{l:List Int}(h:JY l):∀i,i<5->∀j,j<i->bt (GZ l i) j=(gd l j).toNat
 |0,_,j,hj=>by omega
 |i+1,hi,j,hj=>by
  rw [GZ,Td i (by omega) _ (GJ h i) _ (h.nat i).1 j hj]
  by_cases e:j=i
  ·rw [if_pos e,e]
  ·rw [if_neg e];exact Ik h i (by omega) j (by omega)
theorem Gt{l l':List Int}:∀i,(∀j,j<i->gd l j=gd l' j)->GZ l i=GZ l' i
 |0,_=>rfl
 |i+1,h=>by rw [GZ,GZ,Gt i (fun j hj=>h j (by omega)),h i (by omega)]
theorem JW{l:List Int}{b:Nat}(hb:b<l.length){v:Int}(hv:v=0∨v=1):∀i,b<i->GZ (l.set b v) i=GZ (l.set b 0) i+v.toNat*2^b
 |0,h=>by omega
 |i+1,h=>by
  rw [GZ,GZ,Dl hb,Dl hb]
  by_cases e:b=i
  ·subst e
   rw [if_pos rfl,if_pos rfl,Gt (l:=l.set b v) (l':=l.set b 0) b (fun j hj=>by rw [Dl hb,Dl hb,if_neg (by omega),if_neg (by omega)])]
   simp
  ·rw [if_neg e,if_neg e,JW hb hv i (by omega)];omega
theorem JY.set{l:List Int}(h:JY l)(b:Nat){v:Int}(hv:v=0∨v=1):JY (l.set b v):=fun x hx=>by
 rcases List.mem_or_eq_of_mem_set hx with q|q
 ·exact h x q
 ·rw [q];exact hv
theorem Nj{l:List Int}(h:JY l){b k:Nat}(hb:b<k)(hk:k<5)(hl:l.length=k):GZ (l.set b 1) k=Eo (GZ (l.set b 0) k) b∧GZ (l.set b 0) k<2^k:=by
 have h0:bt (GZ (l.set b 0) k) b=0:=by rw [Ik (h.set b (.inl rfl)) k hk b hb,Dl (by omega),if_pos rfl];rfl
 refine⟨?_,GJ (h.set b (.inl rfl)) k⟩
 rw [JW (by omega) (.inr rfl) k hb,Eo,if_pos h0];simp
theorem GV{n:Nat}{c:AE}{l:List Int}{k:Nat}(vc:Hx c)(hs:IM c)(kd:c.Kind=1)(kp:k+1=c.Pins.length)(kk:k<5)(tl:c.Truth.length=2^k)(hl:l.length=k)(hB:JY l)(hn:1048577<=n):Lg n c l=some (gd c.Truth (GZ l k),0):=by
 obtain⟨b,e,hb⟩:=Pp (n:=n) hs hn
 obtain rfl:b=true:=hb.2 vc
 have w1:wrap .i64 ((c.Pins.length:Int)-1)=(k:Int):=by rw [Ai (by omega) (by omega)];omega
 have hall:(l.all fun k=>decide (k>=0)&&decide (k<=1))=true:=by
  rw [List.all_eq_true];intro x hx
  rcases hB x hx with q|q<;>rw [q]<;>rfl
 have d1:(c.Kind !=1)=false:=by rw [bne_eq_false_iff_eq];exact kd
 have d2:(((l.length:Int)) !=(k:Int))=false:=by rw [bne_eq_false_iff_eq,hl]
 rw [Lg,e]
 simp only [BJ,Bool.not_true,cF,d1,Jw,Km,HQ,w1,d2,AW (n:=n) (ks:=l) (lo:=0) (hi:=1) (by omega) hn,hall]
 have:=loop (L:=fun m i (st:Int)=>EU l (fun i36 i37=>(Option.bind (AS c.Truth i36) fun x40=>(some (x40,0)))) m st i) l.length (fun i st=>st=(GZ l i:Int)) (fun o=>o=some (gd c.Truth (GZ l k),(0:Int))) (fun m i st hi hI=>by
  subst hI
  have d3:decide ((i:Int)<0)=false:=decide_eq_false (by omega)
  have hx:=hB.nat i
  refine .inl ⟨_,rfl,?_⟩
  simp only [EU.eq_2,EI hi,cT,gI hi,BJ,d3,cF,wT i]
  rw [hx.2,TD i (by omega) _ (GJ hB i) _ hx.1];rfl) (fun m st hI=>by
  subst hI
  simp only [EU.eq_2,FH,cF]
  rw [hl,gI (by rw [tl];exact GJ hB k),BJ]) n 0 0 (by omega) (by omega) rfl
 exact this
structure CX(c:AE):Prop where
 sm:IM c
 pins:1<=c.Pins.length
 arcs:1<=c.Arcs.length∧c.Arcs.length<=16
 truth:c.Truth.length<=16
 delay:∀a∈c.Arcs,a.Delay.length=2
structure XT(t:AQ):Prop where
 sm:IZ t
 sl:1<=t.Slews.length∧t.Slews.length<=3
 lo:1<=t.Loads.length∧t.Loads.length<=3
 va:t.Values.length=t.Slews.length*t.Loads.length
theorem PK{n:Nat}{c:List Int}(hc:FF c){s0:AA}(e0:s0.code_=c)(base:Int){r15 r26:List Int×AA}(h15:1<=r15.1.length∧r15.1.length<=3)(h26:1<=r26.1.length∧r26.1.length<=3):∀(m i:Nat) (l:List Int) (a d:Int),r15.1.length*r26.1.length-i<m->i<=r15.1.length*r26.1.length->l.length=i->CO c (AA.mk s0.code_ a d)->
 BC (fun r=>XT r.1∧CO c r.2) (DB n s0 base r15 r26 (fun l52 i56 i58 i59=>(some ((AQ.mk r15.1 r26.1 l52),(AA.mk s0.code_ i58 i59)))) m l (i:Int) a d)
 |0,i,l,a,d,hm,_,_,_=>by omega
 |m+1,i,l,a,d,hm,hi,hl,hs=>by
  have hprod:r15.1.length*r26.1.length<=3*3:=Nat.mul_le_mul h15.2 h26.2
  have wp:wrap .i64 ((r15.1.length:Int)*(r26.1.length:Int))=((r15.1.length*r26.1.length:Nat):Int):=by
   rw [←Int.natCast_mul,Ai (by omega) (by omega)]
  rw [DB.eq_2];try simp only [jn];rw [wp]
  by_cases c0:i<r15.1.length*r26.1.length
  ·rw [EI c0,cT]
   refine BC.bind (Nx hc hs 10) fun r _ ⟨h1,_⟩=>?_
   have hz:((r26.1.length:Int)==0)=false:=by rw [beq_eq_false_iff_ne];omega
   have tm:Int.tmod (i:Int) (r26.1.length:Int)=((i%r26.1.length:Nat):Int):=rfl
   have go1:∀(z:Int) (s':AA),CO c s'->BC (fun r=>XT r.1∧CO c r.2) (Option.bind (Cf l [z] 8) fun z1=>DB n s0 base r15 r26 (fun l52 i56 i58 i59=>(some ((AQ.mk r15.1 r26.1 l52),(AA.mk s0.code_ i58 i59)))) m z1 (wrap .i64 ((i:Int)+1)) s'.at_ s'.seed_):=fun z s' h'=>by
    rw [Be (by simp;omega) (by omega),BJ,wS (by omega)]
    exact PK hc e0 base h15 h26 m (i+1) _ _ _ (by omega) (by omega) (by simp;omega) (h'.mk2 e0)
   have g2:(i:Int)>=(r26.1.length:Int)->∃x,AS l (wrap .i64 ((i:Int)-(r26.1.length:Int)))=some x:=fun h=>by
    rw [Ai (by omega) (by omega)]
    obtain⟨x,hx,_⟩:=Fs (xs:=l) (i:=(i:Int)-(r26.1.length:Int)) (by omega) (by omega)
    exact⟨x,hx⟩
   rw [hz,cF,tm]
   refine BN (fun q1=>?_) fun q1=>?_
   ·have q1:=of_decide_eq_true q1
    have hi0:0<i:=by
     rcases Nat.eq_zero_or_pos i with e|e
     ·subst e;simp at q1
     ·exact e
    have w1:wrap .i64 ((i:Int)-1)=((i-1:Nat):Int):=by rw [Ai (by omega) (by omega)];omega
    rw [w1,BI (show i-1<l.length by omega),BJ]
    refine BC.bind (Nx hc (h1.mk2 e0) 20) fun r2 _ ⟨h2,_⟩=>BN (fun q2=>?_) fun _=>go1 _ _ h2
    obtain⟨x,hx⟩:=g2 (of_decide_eq_true q2)
    rw [hx,BJ]
    exact BC.bind (Nx hc (h2.mk2 e0) 20) fun r3 _ ⟨h3,_⟩=>go1 _ _ h3
   ·refine BN (fun q2=>?_) fun _=>go1 _ _ h1
    obtain⟨x,hx⟩:=g2 (of_decide_eq_true q2)
    rw [hx,BJ]
    exact BC.bind (Nx hc (h1.mk2 e0) 20) fun r3 _ ⟨h3,_⟩=>go1 _ _ h3
  ·rw [show decide ((i:Int)<((r15.1.length*r26.1.length:Nat):Int))=false from decide_eq_false (by omega),cF]
   exact Ao ⟨⟨⟨by show r15.1.length<=_;omega,by show r26.1.length<=_;omega,by show l.length<=_;omega⟩,h15,h26,by show l.length=r15.1.length*r26.1.length;omega⟩,hs⟩
theorem TF{n:Nat}{c:List Int}(hc:FF c){s:AA}(hs:CO c s)(base:Int)(hn:1048577<=n):BC (fun r=>XT r.1∧CO c r.2) (Lj n s base):=by
 rw [Lj];try simp only [jn]
 refine BC.bind (QO hc hs 60 hn) fun r _ ⟨h1,h2⟩=>BC.bind (QO hc (h2.mk2 hs.code) 40 hn) fun q _ ⟨k1,k2⟩=>?_
 have:r.1.length*q.1.length<=3*3:=Nat.mul_le_mul h1.2 k1.2
 exact PK hc hs.code base h1 k1 n 0 [] _ _ (by omega) (by omega) rfl (k2.mk2 hs.code)
theorem Rb{n:Nat}{c:List Int}(hc:FF c){s:AA}(hs:CO c s)(base:Int)(hn:1048577<=n):BC (fun r=>((r.1.length<=1048576∧∀t∈r.1,IZ t)∧r.1.length=2)∧CO c r.2) (Hc n s base):=by
 obtain⟨r,e,h,hs2⟩:=QW hc hs base hn
 refine⟨r,e,⟨h,?_⟩,hs2⟩
 rw [Hc]at e
 obtain⟨x,_,e⟩:=Option.bind_eq_some_iff.1 e
 obtain⟨y,_,e⟩:=Option.bind_eq_some_iff.1 e
 rw [←Option.some.inj e];rfl
theorem Og{n:Nat}{c:List Int}(hc:FF c){s:AA}(hs:CO c s)(kd f t z:Int)(hn:1048577<=n):BC (fun r=>(IK r.1∧r.1.Delay.length=2)∧CO c r.2) (KG n s kd f t z):=by
 rw [KG]
 refine BN (fun _=>?_) fun _=>?_
 ·exact BC.bind (Nx hc hs 10) fun r _ ⟨h1,_⟩=>BC.bind (Rb hc (h1.mk2 hs.code) _ hn) fun q _ ⟨⟨k1,k3⟩,k2⟩=>Ao ⟨⟨⟨k1,by simp⟩,k3⟩,k2.mk2 hs.code⟩
 ·exact BC.bind (Nx hc hs 20) fun r _ ⟨h1,_⟩=>BC.bind (Rb hc (h1.mk2 hs.code) _ hn) fun q _ ⟨⟨k1,k3⟩,k2⟩=>BC.bind (Rb hc (k2.mk2 hs.code) 10 hn) fun p _ ⟨⟨p1,_⟩,p2⟩=>Ao ⟨⟨⟨k1,p1⟩,k3⟩,p2.mk2 hs.code⟩
def Mq(n:Nat)(T:List Int):Prop:=∀cl:AE,cl.Truth=T->∃v:Int,Mw n cl 0=some v∧(v !=0)=true
theorem Np{n:Nat}(hn:1048577<=n){c:List Int}(hc:FF c){s0:AA}(e0:s0.code_=c){T:List Int}(hS:Mq n T){k:Nat}(hk:k<4)(hk1:1<=k)(hT:T.length=2^k){nm:ByteArray}(hnm:nm.size<=1048576){r33 r41:Int×AA}{ps z:List Ad}(hps:ps.length=k)(hz:Kj z)(hz1:1<=z.length):∀(m i:Nat) (l:List Ah) (a d:Int),k-i<m->i<=k->l.length<=i->(1<=i->1<=l.length)->(∀x∈l,IK x∧x.Delay.length=2)->CO c (AA.mk s0.code_ a d)->
 BC (fun r=>CX r.1∧CO c r.2) (Ce n s0 nm T r33 r41 ps z (fun l144 i148 i150 i151=>(some ((AE.mk nm 1 z l144 T r33.1 r41.1),(AA.mk s0.code_ i150 i151)))) m l (i:Int) a d)
 |0,i,l,a,d,hm,_,_,_,_,_=>by omega
 |m+1,i,l,a,d,hm,hi,hl,hl1,hA,hs=>by
  have h16:2^k<=2^4:=Nat.pow_le_pow_right (by omega) (by omega)
  rw [Ce.eq_2,hps]
  have app:∀sn:Int,i<k->BC (fun r=>CX r.1∧CO c r.2) (Option.bind (KG n ((AA.mk s0.code_ a d)) 1 (i:Int) ((k:Int)) sn) fun r171=>(Option.bind (Cf l [r171.1] 80) fun z201=>(Ce n s0 nm T r33 r41 ps z (fun l144 i148 i150 i151=>(some ((AE.mk nm 1 z l144 T r33.1 r41.1),(AA.mk s0.code_ i150 i151)))) m z201 (wrap .i64 ((i:Int)+1)) r171.2.at_ r171.2.seed_))):=fun sn q=>by
   refine BC.bind (Og hc hs 1 _ _ _ hn) fun r _ ⟨h1,h2⟩=>?_
   rw [Be (by simp;omega) (by omega),BJ,wS (by omega)]
   refine Np hn hc e0 hS hk hk1 hT hnm hps hz hz1 m (i+1) _ _ _ (by omega) (by omega) (by simp;omega) (by simp) (fun x hx=>?_) (h2.mk2 e0)
   rcases List.mem_append.1 hx with h|h
   ·exact hA x h
   ·rw [List.mem_singleton.1 h];exact h1
  by_cases q:i<k
  ·rw [EI q,cT]
   by_cases i0:i=0
   ·subst i0
    obtain⟨v,e,hv⟩:=hS (AE.mk nm 1 z [] T r33.1 r41.1) rfl
    have e:Mw n (AE.mk nm 1 z [] T r33.1 r41.1) ((0:Nat):Int)=some v:=e
    rw [e,BJ,hv,cT]
    exact app v q
   ·refine BC.bind (Se (cl:=AE.mk nm 1 z [] T r33.1 r41.1) hk hT q hn) fun sn _ _=>BN (fun _=>app sn q) fun _=>?_
    rw [wS (by omega)]
    exact Np hn hc e0 hS hk hk1 hT hnm hps hz hz1 m (i+1) l a d (by omega) (by omega) (by omega) (fun _=>hl1 (by omega)) hA hs
  ·obtain rfl:i=k:=by omega
   rw [FH,cF]
   exact Ao ⟨⟨⟨hnm,hz,⟨by show l.length<=_;omega,fun x hx=>(hA x hx).1⟩,by show T.length<=_;omega⟩,hz1,⟨hl1 hk1,by show l.length<=_;omega⟩,by show T.length<=_;omega,fun x hx=>(hA x hx).2⟩,hs⟩
theorem PN{n:Nat}{c:List Int}(hc:FF c){s:AA}(hs:CO c s){nm:ByteArray}(hnm:nm.size<=1048576){T:List Int}(hS:Mq n T){k:Nat}(hk:k<4)(hk1:1<=k)(hT:T.length=2^k)(hn:1048577<=n):BC (fun r=>CX r.1∧CO c r.2) (KC n s nm T):=by
 rw [KC]
 refine BC.bind (Nx hc hs 50) fun r _ ⟨h1,_⟩=>BC.bind (Nx hc (h1.mk2 hs.code) 80) fun q _ ⟨h2,_⟩=>?_
 have:=Nw (n:=n) (s0:=s) (Q:=fun r=>CX r.1∧CO c r.2) hc hs.code hk hT (k0:=fun l75 i79 i81 i82=>(Option.bind (Cf l75 ([(Ad.mk ((ByteArray.mk #[121])) 2 0 false)]) 40) fun z106=>(Ce n s nm T r q l75 z106 (fun l144 i148 i150 i151=>(some ((AE.mk nm 1 z106 l144 T r.1 q.1),(AA.mk s.code_ i150 i151)))) n (([]:List Ah)) 0 i81 i82))) (fun l i a d hl hp hs2=>by
  rw [Be (by simp;omega) (by omega),BJ]
  refine Np hn hc hs.code hS hk hk1 hT hnm hl ⟨by simp;omega,fun p hp2=>?_⟩ (by simp) n 0 [] a d (by omega) (by omega) (by simp) (by simp) (by simp) hs2
  rcases List.mem_append.1 hp2 with h|h
  ·exact hp.2 p h
  ·rw [List.mem_singleton.1 h];exact(by decide:(ByteArray.mk #[121]).size<=1048576)) n 0 [] q.2.at_ q.2.seed_ (by omega) (by omega) rfl ⟨by simp,by simp⟩ (h2.mk2 hs.code)
 exact this
theorem SE{n:Nat}{c:List Int}(hc:FF c){s:AA}(hs:CO c s){nm:ByteArray}(hnm:nm.size<=1048576)(kd ed:Int)(hn:1048577<=n):BC (fun r=>CX r.1∧CO c r.2) (Ie n s nm kd ed):=by
 have e:=hs.code
 have pins:∀x y:Int,Kj [(Ad.mk ((ByteArray.mk #[100])) 1 x false),(Ad.mk ((ByteArray.mk #[99,107])) 1 y true),(Ad.mk ((ByteArray.mk #[113])) 2 0 false)]:=fun x y=>⟨by simp,fun p hp=>by
  rcases List.mem_cons.1 hp with h|hp
  ·rw [h];exact(by decide:(ByteArray.mk #[100]).size<=1048576)
  ·rcases List.mem_cons.1 hp with h|hp
   ·rw [h];exact(by decide:(ByteArray.mk #[99,107]).size<=1048576)
   ·rw [List.mem_singleton.1 hp];exact(by decide:(ByteArray.mk #[113]).size<=1048576)⟩
 rw [Ie]
 refine BC.bind (Nx hc hs 50) fun r1 _ ⟨h1,_⟩=>BC.bind (Nx hc (h1.mk2 e) 80) fun r2 _ ⟨h2,_⟩=>BC.bind (Nx hc (h2.mk2 e) 9) fun r3 _ ⟨h3,_⟩=>BC.bind (Nx hc (h3.mk2 e) 9) fun r4 _ ⟨h4,_⟩=>BC.bind (Og hc (h4.mk2 e) _ _ _ _ hn) fun r5 _ ⟨a5,h5⟩=>BC.bind (Og hc (h5.mk2 e) _ _ _ _ hn) fun r6 _ ⟨a6,h6⟩=>BC.bind (Og hc (h6.mk2 e) _ _ _ _ hn) fun r7 _ ⟨a7,h7⟩=>BN (fun _=>?_) fun _=>?_
 ·refine BC.bind (Og hc (h7.mk2 e) _ _ _ _ hn) fun r8 _ ⟨a8,h8⟩=>?_
  rw [Be (by simp) (by omega),BJ]
  have al:∀x∈[r5.1,r6.1,r7.1]++[r8.1],IK x∧x.Delay.length=2:=fun x hx=>by
   simp only [List.cons_append,List.nil_append,List.mem_cons,List.not_mem_nil,or_false]at hx
   rcases hx with h|h|h|h<;>rw [h]<;>assumption
  exact Ao ⟨⟨⟨hnm,pins _ _,⟨by simp,fun x hx=>(al x hx).1⟩,by simp⟩,by simp,by simp,by simp,fun x hx=>(al x hx).2⟩,h8.mk2 e⟩
 ·have al:∀x∈[r5.1,r6.1,r7.1],IK x∧x.Delay.length=2:=fun x hx=>by
   simp only [List.mem_cons,List.not_mem_nil,or_false]at hx
   rcases hx with h|h|h<;>rw [h]<;>assumption
  exact Ao ⟨⟨⟨hnm,pins _ _,⟨by simp,fun x hx=>(al x hx).1⟩,by simp⟩,by simp,by simp,by simp,fun x hx=>(al x hx).2⟩,h7.mk2 e⟩
theorem CX.re{cl:AE}(h:CX cl){T:List Int}(hT:T.length<=16):CX (AE.mk cl.Name cl.Kind cl.Pins cl.Arcs T cl.Leak cl.Energy):=⟨h.sm.re (by omega),h.pins,h.arcs,hT,h.delay⟩
theorem IE{n:Nat}(hn:1048577<=n){T:List Int}(h:∀m nm kd ps ar lk en,∃v:Int,Mw (m+16) (AE.mk nm kd ps ar T lk en) 0=some v∧(v !=0)=true):Mq n T:=fun cl e=>by
 obtain⟨m,rfl⟩:∃m,n=m+16:=⟨n-16,by omega⟩
 obtain⟨nm,kd,ps,ar,t,lk,en⟩:=cl
 obtain rfl:t=T:=e
 exact h m nm kd ps ar lk en
theorem SM{n:Nat}{c:List Int}(hc:FF c){s:AA}(hs:CO c s)(hn:1048577<=n):BC (fun r=>(r.1.Cells.length=8∧∀c∈r.1.Cells,CX c)∧CO c r.2) (IY n s):=by
 have e:=hs.code
 have s1:Mq n [1,0]:=IE hn fun m nm kd ps ar lk en=>⟨2,rfl,rfl⟩
 have s2:Mq n [0,1]:=IE hn fun m nm kd ps ar lk en=>⟨1,rfl,rfl⟩
 have s3:Mq n [1,1,1,0]:=IE hn fun m nm kd ps ar lk en=>⟨2,rfl,rfl⟩
 have s4:Mq n [0,1,1,0]:=IE hn fun m nm kd ps ar lk en=>⟨3,rfl,rfl⟩
 have s5:Mq n [0,1,0,1,0,0,1,1]:=IE hn fun m nm kd ps ar lk en=>⟨1,rfl,rfl⟩
 rw [IY]
 refine BC.bind (PN hc hs (by decide) s1 (k:=1) (by decide) (by decide) (by decide) hn) fun r1 _ ⟨a1,h1⟩=>BC.bind (PN hc (h1.mk2 e) (by decide) s2 (k:=1) (by decide) (by decide) (by decide) hn) fun r2 _ ⟨a2,h2⟩=>BC.bind (PN hc (h2.mk2 e) (by decide) s3 (k:=2) (by decide) (by decide) (by decide) hn) fun r3 _ ⟨a3,h3⟩=>BC.bind (PN hc (h3.mk2 e) (by decide) s4 (k:=2) (by decide) (by decide) (by decide) hn) fun r4 _ ⟨a4,h4⟩=>BC.bind (PN hc (h4.mk2 e) (by decide) s5 (k:=3) (by decide) (by decide) (by decide) hn) fun r5 _ ⟨a5,h5⟩=>BC.bind (SE hc (h5.mk2 e) (by decide) _ _ hn) fun r6 _ ⟨a6,h6⟩=>BC.bind (SE hc (h6.mk2 e) (by decide) _ _ hn) fun r7 _ ⟨a7,h7⟩=>BC.bind (SE hc (h7.mk2 e) (by decide) _ _ hn) fun r8 _ ⟨a8,h8⟩=>?_
 have b1:=a1.re (T:=[1,0]) (by decide)
 have b2:=a2.re (T:=[0,1]) (by decide)
 have b3:=a3.re (T:=[1,1,1,0]) (by decide)
 have b4:=a4.re (T:=[0,1,1,0]) (by decide)
 have b5:=a5.re (T:=[0,1,0,1,0,0,1,1]) (by decide)
 refine Ao ⟨⟨rfl,fun c hx=>?_⟩,h8.mk2 e⟩
 simp only [List.mem_cons,List.not_mem_nil,or_false]at hx
 rcases hx with h|h|h|h|h|h|h|h<;>rw [h]<;>assumption
theorem TP{n:Nat}{c:List Int}(hc:FF c){s:AA}(hs:CO c s)(hn:1048577<=n):BC (fun r=>IZ r.1∧CO c r.2) (LI n s):=by
 have e:=hs.code
 rw [LI]
 refine BC.bind (Nx hc hs 100) fun r _ ⟨h1,_⟩=>BC.bind (TF hc (h1.mk2 e) _ hn) fun t _ ⟨xt,h2⟩=>?_
 have st:=xt.sm;have l1:=xt.sl;have l2:=xt.lo
 have l4:1<=t.1.Values.length:=by rw [xt.va];exact Nat.mul_pos l1.1 l2.1
 refine BC.bind (Nx hc (h2.mk2 e) _) fun k _ ⟨h3,k0,k1⟩=>BC.bind (Nx hc (h3.mk2 e) 16) fun w _ ⟨h4,_⟩=>?_
 have gk:BC (fun x=>x∈t.1.Values) (AS t.1.Values k.1):=Cr k0 (by omega)
 have se:∀x:Int,IZ (AQ.mk t.1.Slews t.1.Loads (t.1.Values.set k.1.toNat x)):=fun x=>⟨st.1,st.2.1,by show(t.1.Values.set _ _).length<=_;rw [List.length_set];exact st.2.2⟩
 refine BN (fun _=>?_) fun _=>BN (fun _=>?_) fun _=>BN (fun _=>?_) fun _=>BN (fun _=>?_) fun _=>BN (fun q=>?_) fun _=>BN (fun _=>?_) fun _=>?_
 ·exact BC.bind (Nx hc (h4.mk2 e) 4) fun y _ ⟨h5,y0,y1⟩=>BC.bind (Cr y0 (by simp;omega)) fun x _ _=>BC.bind gk fun z _ _=>Ao ⟨se x,h5.mk2 e⟩
 ·exact BC.bind (Nx hc (h4.mk2 e) 3) fun y _ ⟨h5,y0,y1⟩=>BC.bind (Cr y0 (by simp;omega)) fun x _ _=>BC.bind (Cr (Int.le_refl 0) (by omega)) fun z _ _=>Ao ⟨⟨by show(t.1.Slews.set _ _).length<=_;rw [List.length_set];exact st.1,st.2⟩,h5.mk2 e⟩
 ·refine BC.bind (Cr (Int.le_refl 0) (by omega)) fun z _ _=>?_
  rw [Be (by simp;omega) (by omega),BJ]
  exact Ao ⟨⟨st.1,by show(t.1.Loads++[z]).length<=_;simp;omega,st.2.2⟩,h4.mk2 e⟩
 ·cases hv:t.1.Values with
  |nil=>rw [hv]at l4;simp at l4
  |cons v vs=>
   rw [Gw,BJ]
   exact Ao ⟨⟨st.1,st.2.1,by have:=st.2.2;rw [hv]at this;show vs.length<=_;simp at this;omega⟩,h4.mk2 e⟩
 ·rw [q,cT]
  exact BC.bind gk fun x _ _=>BC.bind gk fun y _ _=>Ao ⟨se _,h4.mk2 e⟩
 ·exact BC.bind gk fun x _ _=>BC.bind gk fun y _ _=>Ao ⟨se _,h4.mk2 e⟩
 ·exact Ao ⟨st,h4.mk2 e⟩
theorem Sr(i:Int):∀x∈([(ByteArray.mk #[]),(ByteArray.mk #[65]),(ByteArray.mk #[49,97]),(ByteArray.mk #[97,98,99,100,101,102,103,104]),(ByteArray.mk #[97,98,99,100,101,102,103,104,105])]),x.size<=1048576:=by
 intro x hx
 simp only [List.mem_cons,List.not_mem_nil,or_false]at hx
 rcases hx with h|h|h|h|h<;>rw [h]<;>decide
theorem Kj.set{l:List Ad}(h:Kj l)(i:Nat){p:Ad}(hp:p.Name.size<=1048576):Kj (l.set i p):=⟨by rw [List.length_set];exact h.1,fun q hq=>by
 rcases List.mem_or_eq_of_mem_set hq with k|k
 ·exact h.2 q k
 ·rw [k];exact hp⟩
theorem IK.set{l:List Ah}(h:l.length<=1048576∧∀a∈l,IK a)(i:Nat){p:Ah}(hp:IK p):(l.set i p).length<=1048576∧∀a∈l.set i p,IK a:=⟨by rw [List.length_set];exact h.1,fun q hq=>by
 rcases List.mem_or_eq_of_mem_set hq with k|k
 ·exact h.2 q k
 ·rw [k];exact hp⟩
theorem Pk{n:Nat}(hn:1048577<=n){c:List Int}(hc:FF c){s:AA}(hs:CO c s){O:KI}{g:AE×AA->Option Unit}(hg:∀cl s',IM cl->CO c s'->g (cl,s')=some ()):IW n O s g=some ():=by
 have e:=hs.code
 rw [IW]
 refine Db (SM hc hs hn) fun l ⟨⟨hl,hx⟩,h1⟩=>Db (Nx hc (h1.mk2 e) 8) fun i ⟨h2,i0,i1⟩=>Db (BC.get i0 (by omega) hx) fun cl X=>Db (Nx hc (h2.mk2 e) _) fun k ⟨h3,k0,k1⟩=>Db (Nx hc (h3.mk2 e) 24) fun w ⟨h4,_⟩=>?_
 have S:=X.sm
 have ga:BC (fun x=>IK x∧x.Delay.length=2) (AS cl.Arcs k.1):=BC.get k0 (by have:=X.arcs;omega) fun x hx=>⟨S.arcs.2 x hx,X.delay x hx⟩
 have gp:BC (fun x:Ad=>x.Name.size<=1048576) (AS cl.Pins 0):=BC.get (Int.le_refl 0) (by have:=X.pins;omega) S.pins.2
 refine CM (fun _=>?_) fun _=>CM (fun _=>?_) fun _=>CM (fun _=>?_) fun _=>CM (fun _=>?_) fun _=>CM (fun _=>?_) fun _=>CM (fun _=>?_) fun _=>CM (fun _=>?_) fun _=>CM (fun _=>?_) fun _=>CM (fun _=>?_) fun _=>CM (fun _=>?_) fun _=>CM (fun _=>?_) fun _=>CM (fun _=>?_) fun _=>?_
 ·exact Db (Nx hc (h4.mk2 e) 5) fun y ⟨h5,y0,y1⟩=>Db (BC.get y0 (by simp;omega) (Sr 0)) fun x hx=>hg _ _ ⟨hx,S.pins,S.arcs,S.truth⟩ (h5.mk2 e)
 ·exact Db gp fun x hx=>hg _ _ ⟨S.name,S.pins.set _ (show(ByteArray.mk #[121]).size<=1048576 from by decide),S.arcs,S.truth⟩ (h4.mk2 e)
 ·exact Db (Nx hc (h4.mk2 e) 3) fun y ⟨h5,y0,y1⟩=>Db (Cr y0 (by simp;omega)) fun x _=>Db gp fun p hp=>hg _ _ ⟨S.name,S.pins.set _ hp,S.arcs,S.truth⟩ (h5.mk2 e)
 ·exact Db (Nx hc (h4.mk2 e) 7) fun y ⟨h5,_⟩=>Db ga fun x hx=>hg _ _ ⟨S.name,S.pins,IK.set S.arcs _ hx.1,S.truth⟩ (h5.mk2 e)
 ·exact Db (Nx hc (h4.mk2 e) 5) fun y ⟨h5,_⟩=>Db ga fun x hx=>hg _ _ ⟨S.name,S.pins,IK.set S.arcs _ hx.1,S.truth⟩ (h5.mk2 e)
 ·refine Db ga fun x hx=>?_
  have:=X.arcs
  rw [Be (by simp;omega) (by omega),BJ]
  refine hg _ _ ⟨S.name,S.pins,⟨by show(cl.Arcs++[x]).length<=_;simp;omega,fun a ha=>?_⟩,S.truth⟩ (h4.mk2 e)
  rcases List.mem_append.1 ha with q|q
  ·exact S.arcs.2 a q
  ·rw [List.mem_singleton.1 q];exact hx.1
 ·have:=X.arcs
  have ar:=S.arcs
  cases hv:cl.Arcs with
  |nil=>rw [hv]at this;simp at this
  |cons v vs=>
   rw [hv]at ar
   rw [Gw,BJ]
   exact hg _ _ ⟨S.name,S.pins,⟨by have:=ar.1;show vs.length<=_;simp at this;omega,fun a ha=>ar.2 a (List.mem_cons_of_mem _ ha)⟩,S.truth⟩ (h4.mk2 e)
 ·exact Db (Nx hc (h4.mk2 e) 5) fun y ⟨h5,_⟩=>hg _ _ ⟨S.name,S.pins,S.arcs,S.truth⟩ (h5.mk2 e)
 ·have:=X.truth
  rw [Be (by simp;omega) (by omega),BJ]
  exact hg _ _ ⟨S.name,S.pins,S.arcs,by show(cl.Truth++[1]).length<=_;simp;omega⟩ (h4.mk2 e)
 ·exact Db gp fun x _=>Db gp fun p hp=>hg _ _ ⟨S.name,S.pins.set _ hp,S.arcs,S.truth⟩ (h4.mk2 e)
 ·exact Db ga fun x hx=>Db (TP hc (h4.mk2 e) hn) fun t ⟨ht,h5⟩=>Db (Cr (Int.le_refl 0) (by have:=hx.2;omega)) fun y _=>O.inn fun ys hy=>hg _ _ ⟨S.name,S.pins,hy ht S.arcs,S.truth⟩ (h5.mk2 e)
 ·exact hg _ _ ⟨S.name,S.pins,S.arcs,S.truth⟩ (h4.mk2 e)
 ·exact hg _ _ S (h4.mk2 e)
theorem RK{n:Nat}{c:List Int}(hc:FF c){k0:List Int->Int->Int->Int->Option Unit}{N:Nat}(hN:N<=8)(h0:∀l a d,l.length=N->CO c (AA.mk c a d)->k0 l 0 a d=some ()):∀(m t:Nat) (l:List Int) (a d:Int),t<m->l.length+t=N->CO c (AA.mk c a d)->FM n c k0 m l (t:Int) a d=some ()
 |0,t,l,a,d,hm,_,_=>by omega
 |m+1,t,l,a,d,hm,hl,hs=>by
  rw [FM.eq_2]
  rcases Nat.eq_zero_or_pos t with q|q
  ·subst q
   exact h0 l a d (by omega) hs
  ·rw [decide_eq_true (by omega),cT]
   refine Db (Nx hc hs 2) fun r ⟨h1,_⟩=>?_
   have w:wrap .i64 ((t:Int)-1)=((t-1:Nat):Int):=by rw [Ai (by omega) (by omega)];omega
   rw [Be (by simp;omega) (by omega),BJ,w]
   exact RK hc hN h0 m (t-1) _ _ _ (by omega) (by simp;omega) (h1.mk2 rfl)
theorem TQ{n:Nat}(hn:1048577<=n){c:List Int}(hc:FF c){O:KI}{g:(AE×Int×Int)->Option Unit}(hg:∀cl p q,IM cl->g (cl,p,q)=some ()):Pg n O c g=some ():=by
 rw [Pg]
 refine Db (Fr hc hn) fun s hs=>Db (SM hc (hs.mk2 rfl) hn) fun l ⟨⟨hl,hx⟩,h1⟩=>Db (Nx hc (h1.mk2 rfl) 8) fun i ⟨h2,i0,i1⟩=>Db (BC.get i0 (by omega) hx) fun cl X=>Db (Nx hc (h2.mk2 rfl) 4) fun r ⟨h3,_⟩=>?_
 have four:∀(cl:AE) (s:AA),IM cl->CO c s->(Option.bind (Bs n ((AA.mk c s.at_ s.seed_)) 4) fun r179=>(Option.bind (Bs n ((AA.mk c r179.2.at_ r179.2.seed_)) 16) fun r191=>(Option.bind (Bs n ((AA.mk c r191.2.at_ r191.2.seed_)) 4) fun r203=>(Option.bind (Bs n ((AA.mk c r203.2.at_ r203.2.seed_)) 16) fun r215=>(g (cl,wrap .i64 (r179.1-(wrap .i64 (Int.tdiv r191.1 15))),wrap .i64 (r203.1-(wrap .i64 (Int.tdiv r215.1 15)))))))))=some ():=fun cl s hcl hs=>
  Db (Nx hc (hs.mk2 rfl) 4) fun r1 ⟨q1,_⟩=>Db (Nx hc (q1.mk2 rfl) 16) fun r2 ⟨q2,_⟩=>Db (Nx hc (q2.mk2 rfl) 4) fun r3 ⟨q3,_⟩=>Db (Nx hc (q3.mk2 rfl) 16) fun r4 ⟨q4,_⟩=>hg _ _ _ hcl
 refine CM (fun _=>?_) fun _=>?_
 ·refine Db (Nx hc (h3.mk2 rfl) 2) fun j ⟨h4,j0,j1⟩=>?_
  have gt:∀(k:Nat),k<4->2^k<=8->∀(l:List Int) (i a d:Int),l.length=2^k->CO c (AA.mk c a d)->(Option.bind (KC n ((AA.mk c a d)) ((ByteArray.mk #[103])) l) fun r117=>(Option.bind (Bs n ((AA.mk c r117.2.at_ r117.2.seed_)) 12) fun r144=>(cond (r144.1==0) (IW n O ((AA.mk c r144.2.at_ r144.2.seed_)) fun r154=>(Option.bind (Bs n ((AA.mk c r154.2.at_ r154.2.seed_)) 4) fun r179=>(Option.bind (Bs n ((AA.mk c r179.2.at_ r179.2.seed_)) 16) fun r191=>(Option.bind (Bs n ((AA.mk c r191.2.at_ r191.2.seed_)) 4) fun r203=>(Option.bind (Bs n ((AA.mk c r203.2.at_ r203.2.seed_)) 16) fun r215=>(g (r154.1,wrap .i64 (r179.1-(wrap .i64 (Int.tdiv r191.1 15))),wrap .i64 (r203.1-(wrap .i64 (Int.tdiv r215.1 15)))))))))) (Option.bind (Bs n ((AA.mk c r144.2.at_ r144.2.seed_)) 4) fun r287=>(Option.bind (Bs n ((AA.mk c r287.2.at_ r287.2.seed_)) 16) fun r297=>(Option.bind (Bs n ((AA.mk c r297.2.at_ r297.2.seed_)) 4) fun r307=>(Option.bind (Bs n ((AA.mk c r307.2.at_ r307.2.seed_)) 16) fun r317=>(g ((AE.mk r117.1.Name r117.1.Kind r117.1.Pins r117.1.Arcs l r117.1.Leak r117.1.Energy),wrap .i64 (r287.1-(wrap .i64 (Int.tdiv r297.1 15))),wrap .i64 (r307.1-(wrap .i64 (Int.tdiv r317.1 15))))))))))))=some ():=fun k hk h8 l i a d hl hs5=>
   Db (St hc hs5 (by decide) hk hl hn) fun gt ⟨sm,h5⟩=>Db (Nx hc (h5.mk2 rfl) 12) fun w ⟨h6,_⟩=>CM (fun _=>Pk hn hc (h6.mk2 rfl) fun cl s' hcl hs'=>four cl s' hcl hs') fun _=>four _ _ (sm.re (by omega)) h6
  have hj:j.1=0∨j.1=1:=by omega
  rcases hj with hj|hj
  ·rw [hj]
   exact RK hc (N:=4) (by decide) (fun l a d hl hs5=>gt 2 (by decide) (by decide) l 0 a d hl hs5) n 4 [] _ _ (by omega) rfl (h4.mk2 rfl)
  ·rw [hj]
   exact RK hc (N:=8) (by decide) (fun l a d hl hs5=>gt 3 (by decide) (by decide) l 0 a d hl hs5) n 8 [] _ _ (by omega) rfl (h4.mk2 rfl)
 ·exact Db (Nx hc (h3.mk2 rfl) 12) fun w ⟨h6,_⟩=>CM (fun _=>Pk hn hc (h6.mk2 rfl) fun cl s' hcl hs'=>four cl s' hcl hs') fun _=>four _ _ X.sm h6
theorem Ng{n:Nat}{c:AE}{p q r:Int}(h:Ih n c p q=some r):r<=2:=by
 rw [Ih]at h
 obtain⟨b,_,h⟩:=Option.bind_eq_some_iff.1 h
 obtain⟨d,_,h⟩:=Option.bind_eq_some_iff.1 h
 cases d with
 |true=>rw [cT]at h;have:=Option.some.inj h;omega
 |false=>
  rw [cF]at h
  obtain⟨x,h1,h⟩:=Option.bind_eq_some_iff.1 h
  obtain rfl:=Option.some.inj h
  rw [LK]at h1
  obtain⟨u,_,h1⟩:=Option.bind_eq_some_iff.1 h1
  obtain⟨v,_,h1⟩:=Option.bind_eq_some_iff.1 h1
  cases u<;>cases v<;>(have:=Option.some.inj h1;omega)
theorem Oe{code:List Int}(hR:code.length<=9223372036854775807∧∀x∈code,OO .u8 x):∃n O,Ly n O code (fun r=>cond r (some ()) none)=some ():=by
 obtain⟨n,hn⟩:∃n,1048577<=n:=⟨_,Nat.le_refl _⟩
 obtain⟨O⟩:=KI.is
 refine⟨n,O,?_⟩
 rw [Ly,Lv,BJ]
 refine CM (fun _=>rfl) fun hbg=>?_
 have hc:=FF.of hR (of_decide_eq_false hbg)
 refine Db (TT hc hn 6106) fun d hd=>TQ hn hc fun cl p q hs=>?_
 obtain⟨r,e1,e2,hr⟩:=Al (n:=n) (p:=p) (q:=q) hs hn
 simp only [e1,e2,BJ,bne_self_eq_false,cF]
 refine CM (fun _=>rfl) fun hq=>?_
 rw [Bool.or_eq_false_iff]at hq
 have r1:=of_decide_eq_false hq.1
 have r2:r≠2:=by have:=hq.2;rw [beq_eq_false_iff_ne]at this;exact this
 have r4:=Ng e1
 have r3:r= -1∨r=0∨r=1:=by clear hr;omega
 obtain⟨k,a,b,vc,kd,kp,kk,tl,rfl,rfl,ha,hb,hab,n1,n0⟩:=hr (by clear hr;omega)
 clear hr
 refine JP (L:=fun m i (st:List Int×Int×Int)=>DR n code (cl,(a:Int),(b:Int)) _ m st.1 i st.2.1 st.2.2) k (fun i st=>(st.1.length=i∧JY st.1)∧NZ code (Bh.mk code st.2.1 st.2.2)) (fun o=>o=some ()) ?_ ?_ n 0 ([],d.i_,d.h_) (by omega) (by omega) ⟨⟨rfl,fun x hx=>by cases hx⟩,hd.mk2 rfl⟩
 ·intro m i ⟨l,x,y⟩ hi ⟨⟨hl,hB⟩,hd2⟩ ih
  dsimp only at hl hB hd2 ⊢
  rw [DR.eq_2,wT i]
  rw [show decide (((i+1:Nat):Int)<(cl.Pins.length:Int))=true from decide_eq_true (by omega),cT]
  refine Db (Sx hc hd2 (k:=2) (by omega)) fun v ⟨⟨v0,v1⟩,hd3⟩=>?_
  rw [Be (by simp;omega) (by omega),BJ]
  refine ih (l++[v.1],v.2.i_,v.2.h_) ⟨⟨by simp;omega,fun z hz=>?_⟩,hd3.mk2 rfl⟩
  rcases List.mem_append.1 hz with h|h
  ·exact hB z h
  ·rw [List.mem_singleton.1 h];omega
 ·intro m ⟨l,x,y⟩ ⟨⟨hl,hB⟩,hd2⟩
  dsimp only at hl hB hd2 ⊢
  rw [DR.eq_2,wT k]
  rw [show decide (((k+1:Nat):Int)<(cl.Pins.length:Int))=false from decide_eq_false (by omega),cF]
  have fin:∀l:List Int,l.length=k->JY l->(∀i,i<cl.Truth.length->bt i a=(gd l a).toNat->gd cl.Truth i=gd cl.Truth (Eo i b))->gd cl.Truth (GZ (l.set b 0) k)=gd cl.Truth (GZ (l.set b 1) k):=fun l hl hB h=>by
   obtain⟨f1,f2⟩:=Nj hB hb kk hl
   rw [f1]
   refine h _ (by rw [tl];exact f2) ?_
   rw [Ik (hB.set b (.inl rfl)) k kk a ha,Dl (by omega),if_neg (by omega)]
  have go:∀l:List Int,l.length=k->JY l->(∀i,i<cl.Truth.length->bt i a=(gd l a).toNat->gd cl.Truth i=gd cl.Truth (Eo i b))->
   (Option.bind (AS l (b:Int)) fun x136=>(Option.bind (Lg n cl ((l.set (b:Int).toNat 0))) fun r148=>(Option.bind (AS ((l.set (b:Int).toNat 0)) (b:Int)) fun x154=>(Option.bind (Lg n cl ((((l.set (b:Int).toNat 0)).set (b:Int).toNat 1))) fun r166=>(cond (((((r148.2==0))&&((r166.2==0))))&&((r148.1==r166.1))) (some ()) none)))))=some ():=fun l hl hB h=>by
   have h1:=fin l hl hB h
   rw [gI (by omega),BJ,Int.toNat_natCast,GV vc hs kd kp kk tl (by rw [List.length_set];exact hl) (hB.set b (.inl rfl)) hn,BJ,gI (by rw [List.length_set];omega),BJ,List.set_set,GV vc hs kd kp kk tl (by rw [List.length_set];exact hl) (hB.set b (.inr rfl)) hn,BJ,h1]
   simp
  refine CM (fun hr0=>?_) fun hr0=>?_
  ·have hr0:=of_decide_eq_true hr0
   have w:wrap .i64 (1-r)=1-r:=Ai (by omega) (by omega)
   rw [gI (by omega),BJ,Int.toNat_natCast,w]
   refine go (l.set a (1-r)) (by rw [List.length_set];exact hl) (hB.set a (by omega)) fun i hi hbt=>?_
   rw [Dl (by omega),if_pos rfl]at hbt
   by_cases e:gd cl.Truth i=gd cl.Truth (Eo i b)
   ·exact e
   ·exfalso
    rcases r3 with h|h|h
    ·omega
    ·subst h;exact n1 (.inr rfl) ⟨i,hi,hbt,e⟩
    ·subst h;exact n0 (.inr rfl) ⟨i,hi,hbt,e⟩
  ·have hr0:=of_decide_eq_false hr0
   obtain rfl:r= -1:=by omega
   refine go l hl hB fun i hi hbt=>?_
   by_cases e:gd cl.Truth i=gd cl.Truth (Eo i b)
   ·exact e
   ·exfalso
    rcases hB.at a with h|h<;>rw [h]at hbt
    ·exact n0 (.inl rfl) ⟨i,hi,hbt,e⟩
    ·exact n1 (.inl rfl) ⟨i,hi,hbt,e⟩
end Go.Proofs.YtejmafeocaidlaaDoor
