/- The plain law behind FnSkews: the plain function answers true; no condition. -/
import Derived.Test.YtkjldnhpnbhogaaGreatDoorWalkFnSkews
set_option linter.all false
set_option maxHeartbeats 4000000
namespace Go.Proofs.YtkjldnhpnbhogaaGreatDoor
open Go Go.RowKit Go.Eng
open Go.IntKind (wrap)
theorem Ez{b c:Bool}:(cond b (some true) (some c))=some (b||c):=by cases b<;>rfl
theorem CV{b c:Bool}:(cond b (some c) (some false))=some (b&&c):=by cases b<;>rfl
theorem DA{i N:Nat}(h:i<N):decide ((i:Int)<(N:Int))=true:=decide_eq_true (by omega)
theorem DS(N:Nat):decide ((N:Int)<(N:Int))=false:=decide_eq_false (by omega)
theorem wS{i:Nat}(h:i<4611686018427387904):wrap .i64 ((i:Int)+1)=((i+1:Nat):Int):=by rw [Aw (by omega) (by omega)];simp
theorem Ab{α:Type}{xs:List α}{i:Nat}(h:i<xs.length):AL xs (i:Int)=some xs[i]:=by rw [Hy];exact List.getElem?_eq_getElem h
theorem EX{α:Type}{xs:List α}{i:Int}(h0:0<=i)(h1:i<xs.length):∃x,AL xs i=some x∧xs[i.toNat]? =some x:=by
 obtain⟨x,hx,_⟩:=Ea h0 h1
 exact⟨x,hx,(EZ hx).2.2⟩
theorem loop{σ R:Type}{L:Nat->Int->σ->Option R}(N:Nat)(I:Nat->σ->Prop)(Post:Option R->Prop)
 (hs:∀(m i:Nat) (st:σ),i<N->I i st->(∃st',I (i+1) st'∧L (m+1) (i:Int) st=L m ((i+1:Nat):Int) st')∨Post (L (m+1) (i:Int) st))
 (he:∀(m:Nat) (st:σ),I N st->Post (L (m+1) (N:Int) st)):∀(m i:Nat) (st:σ),i<=N->N-i<m->I i st->Post (L m (i:Int) st)
 |0,i,st,_,hm,_=>by omega
 |m+1,i,st,hi,hm,h=>by
  by_cases hlt:i<N
  ·rcases hs m i st hlt h with ⟨st',h1,h2⟩|h1
   ·rw [h2];exact loop N I Post hs he m (i+1) st' (by omega) (by omega) h1
   ·exact h1
  ·obtain rfl:i=N:=by omega
   exact he m st h
theorem OH{α σ R:Type}{xs:List α}{L:Nat->Int->σ->Option R}{k:σ->Option R}(f:σ->α->σ)(I:Nat->σ->Prop)
 (hs:∀(m i:Nat) (h:i<xs.length) (st:σ),I i st->L (m+1) (i:Int) st=L m ((i+1:Nat):Int) (f st xs[i])∧I (i+1) (f st xs[i]))
 (he:∀(m:Nat) (st:σ),I xs.length st->L (m+1) (xs.length:Int) st=k st) (m:Nat) (st:σ) (h:I 0 st) (hm:xs.length<m):L m 0 st=k (xs.foldl f st)∧I xs.length (xs.foldl f st):=by
 refine loop xs.length (fun i s=>I i s∧(xs.drop i).foldl f s=xs.foldl f st) (fun o=>o=k (xs.foldl f st)∧I xs.length (xs.foldl f st)) ?_ ?_ m 0 st (by omega) (by omega) ⟨h,by simp⟩
 ·intro m i s hi ⟨h1,h2⟩
  obtain⟨e,h3⟩:=hs m i hi s h1
  exact .inl ⟨_,⟨h3,by rw [List.drop_eq_getElem_cons hi]at h2;exact h2⟩,e⟩
 ·intro m s ⟨h1,h2⟩
  rw [List.drop_length]at h2
  have h2:s=xs.foldl f st:=h2
  rw [←h2]
  exact⟨he m s h1,h1⟩
theorem BO{α:Type}{xs ys:List α}{b:Nat}(h:xs.length+ys.length<=16777216)(hb:b<=1048576):Bk xs ys b=some (xs++ys):=by
 unfold Bk
 have:(xs.length+ys.length)*b<=16777216*1048576:=Nat.mul_le_mul h hb
 rw [if_pos ⟨by omega,by omega⟩]
theorem Nd{α R:Type}{xs:List α}{L:Nat->Int->Option R}{k no:Option R}(p:α->Bool)(hs:∀(m i:Nat) (h:i<xs.length),L (m+1) (i:Int)=cond (p xs[i]) (L m ((i+1:Nat):Int)) no)
 (he:∀m:Nat,L (m+1) (xs.length:Int)=k) (m:Nat) (hm:xs.length<m):L m 0=cond (xs.all p) k no:=by
 refine loop (L:=fun m i (_:Unit)=>L m i) xs.length (fun i _=>xs.all p=(xs.drop i).all p) (fun o=>o=cond (xs.all p) k no) ?_ ?_ m 0 () (by omega) (by omega) (by simp)
 ·intro m i _ hi h
  rw [List.drop_eq_getElem_cons hi,List.all_cons]at h
  cases hp:p xs[i]with
  |false=>refine .inr ?_;rw [h,hp];simp only [hs m i hi,hp,cF,Bool.false_and]
  |true=>refine .inl ⟨(),by rw [h,hp];simp,?_⟩;simp only [hs m i hi,hp,cT]
 ·intro m _ h
  rw [List.drop_length]at h
  rw [h];simp [he m]
theorem Qz{σ R:Type}{L:Nat->σ->Option R}(μ:σ->Nat)(I:σ->Prop)(Post:Option R->Prop)
 (hs:∀(m:Nat) (st:σ),I st->(∀st',I st'->μ st'<μ st->Post (L m st'))->Post (L (m+1) st)):∀(m:Nat) (st:σ),μ st<m->I st->Post (L m st)
 |0,st,h,_=>by omega
 |m+1,st,h,hI=>hs m st hI fun st' h1 h2=>Qz μ I Post hs m st' (by omega) h1
theorem FY{σ R:Type}{L:Nat->Int->σ->Option R}(N:Nat)(I:Nat->σ->Prop)(Post:Option R->Prop)
 (hs:∀(m i:Nat) (st:σ),i<N->I i st->(∀st',I (i+1) st'->Post (L m ((i+1:Nat):Int) st'))->Post (L (m+1) (i:Int) st))
 (he:∀(m:Nat) (st:σ),I N st->Post (L (m+1) (N:Int) st)):∀(m i:Nat) (st:σ),i<=N->N-i<m->I i st->Post (L m (i:Int) st)
 |0,i,st,_,hm,_=>by omega
 |m+1,i,st,hi,hm,h=>by
  by_cases hlt:i<N
  ·exact hs m i st hlt h fun st' h'=>FY N I Post hs he m (i+1) st' (by omega) (by omega) h'
  ·obtain rfl:i=N:=by omega
   exact he m st h
def Cm{α:Type}(Q:α->Prop)(o:Option α):Prop:=∃v,o=some v∧Q v
theorem AQ{α:Type}{Q:α->Prop}{v:α}(h:Q v):Cm Q (some v):=⟨v,rfl,h⟩
theorem AH{α β:Type}{A:α->Prop}{Q:β->Prop}{o:Option α}{f:α->Option β}(h:Cm A o)(k:∀v,o=Option.some v->A v->Cm Q (f v)):Cm Q (Option.bind o f):=by
 obtain⟨v,e,hv⟩:=h
 rw [e];exact k v e hv
theorem Cm.bind{α β:Type}{A:α->Prop}{Q:β->Prop}{o:Option α}{f:α->Option β}(h:Cm A o)(k:∀v,o=Option.some v->A v->Cm Q (f v)):Cm Q (Option.bind o f):=AH h k
theorem Ao{α:Type}{Q:α->Prop}{c:Bool}{x y:Option α}(h1:c=true->Cm Q x)(h2:c=false->Cm Q y):Cm Q (cond c x y):=by
 cases c
 ·exact h2 rfl
 ·exact h1 rfl
theorem Cm.weaken{α:Type}{Q Q':α->Prop}{o:Option α}(h:Cm Q o)(hq:∀v,Q v->Q' v):Cm Q' o:=by
 obtain⟨v,e,hv⟩:=h
 exact⟨v,e,hq v hv⟩
theorem Cm.get{α:Type}{Q:α->Prop}{xs:List α}{i:Int}(h0:0<=i)(h1:i<xs.length)(h:∀x∈xs,Q x):Cm Q (AL xs i):=by
 obtain⟨x,hx,hm⟩:=Ea h0 h1
 exact⟨x,hx,h x hm⟩
theorem CP{α:Type}{xs:List α}{i:Int}(h0:0<=i)(h1:i<xs.length):Cm (fun x=>x∈xs) (AL xs i):=Cm.get h0 h1 fun _ h=>h
theorem Jg{α:Type}{xs:List α}{L:Nat->Int->Option Int}(p:α->Bool)(hs:∀(m i:Nat) (h:i<xs.length),L (m+1) (i:Int)=cond (p xs[i]) (some (i:Int)) (L m ((i+1:Nat):Int)))
 (he:∀m:Nat,L (m+1) (xs.length:Int)=some (-1)) (m:Nat) (hm:xs.length<m):∃r,L m 0=some r∧decide (r>=0)=xs.any p:=by
 refine loop (L:=fun m i (_:Unit)=>L m i) xs.length (fun i _=>xs.any p=(xs.drop i).any p) (fun o=>∃r,o=some r∧decide (r>=0)=xs.any p) ?_ ?_ m 0 () (by omega) (by omega) (by simp)
 ·intro m i _ hi h
  rw [List.drop_eq_getElem_cons hi,List.any_cons]at h
  cases hp:p xs[i]with
  |false=>refine .inl ⟨(),by rw [h,hp];simp,?_⟩;simp only [hs m i hi,hp,cF]
  |true=>refine .inr ⟨(i:Int),?_,?_⟩
         ·simp only [hs m i hi,hp,cT]
         ·rw [h,hp];simp
 ·intro m _ h
  rw [List.drop_length]at h
  exact⟨-1,he m,by rw [h];rfl⟩
structure Dh(c:List Int)(s:AA):Prop where
 code:s.code_=c
 at0:0<=s.at_∧s.at_<=c.length
 sd:0<=s.seed_∧s.seed_<2147483647
def JM(c:List Int):Prop:=c.length<=4096∧∀x∈c,0<=x∧x<=255
theorem Fp{a b:Int}(ha:0<=a)(hb:0<b):0<=Int.tmod a b∧Int.tmod a b<b:=⟨Int.tmod_nonneg _ ha,Int.tmod_lt_of_pos _ hb⟩
theorem Nx{n:Nat}{c:List Int}(hc:JM c){s:AA}(h:Dh c s)(k:Int):Cm (fun r=>Dh c r.2∧0<=r.1∧(r.1<k∨r.1=0∧k<=1)) (DO n s k):=by
 obtain⟨h1,h2,h3⟩:=h
 have hl:=hc.1
 rw [DO]
 refine Ao (fun hk=>AQ ⟨⟨h1,h2,h3⟩,Int.le_refl _,.inr ⟨rfl,of_decide_eq_true hk⟩⟩) fun hk=>?_
 have hk:=of_decide_eq_false hk
 have hk0:(k==0)=false:=by rw [beq_eq_false_iff_ne];omega
 refine Ao (fun ha=>?_) fun ha=>?_
 ·have ha:=of_decide_eq_true ha
  rw [h1]at ha ⊢
  refine AH (Cm.get h2.1 ha hc.2) fun x _ hx=>?_
  have wx:wrap .i64 x=x:=Aw (by omega) (by omega)
  have wa:wrap .i64 (s.at_+1)=s.at_+1:=Aw (by omega) (by omega)
  have wm:wrap .i64 (s.seed_*48271)=s.seed_*48271:=Aw (by omega) (by omega)
  simp only [hk0,cF,wx,wa,wm,Aw (x:=s.seed_*48271+x) (by omega) (by omega),Aw (x:=s.seed_*48271+x+1) (by omega) (by omega)]
  have m1:=Fp (a:=s.seed_*48271+x+1) (b:=2147483647) (by omega) (by omega)
  refine Ao (fun _=>AQ ⟨⟨rfl,⟨?_,?_⟩,h3⟩,?_⟩) fun _=>AQ ⟨⟨rfl,⟨?_,?_⟩,m1⟩,?_⟩
  ·show 0<=s.at_+1;omega
  ·show s.at_+1<=_;omega
  ·exact⟨(Fp hx.1 (by omega)).1,.inl (Fp hx.1 (by omega)).2⟩
  ·show 0<=s.at_+1;omega
  ·show s.at_+1<=_;omega
  ·exact⟨(Fp m1.1 (by omega)).1,.inl (Fp m1.1 (by omega)).2⟩
 ·have wm:wrap .i64 (s.seed_*48271)=s.seed_*48271:=Aw (by omega) (by omega)
  have m1:=Fp (a:=s.seed_*48271+11) (b:=2147483647) (by omega) (by omega)
  simp only [hk0,cF,wm,Aw (x:=s.seed_*48271+11) (by omega) (by omega)]
  generalize Int.tmod (s.seed_*48271+11) 2147483647=q at*
  have d0:0<=Int.tdiv q 7:=Int.tdiv_nonneg m1.1 (by omega)
  have d1:Int.tdiv q 7<=q:=Int.tdiv_le_self _ m1.1
  rw [Aw (x:=Int.tdiv q 7) (by omega) (by omega)]
  exact AQ ⟨⟨h1,h2,m1⟩,(Fp d0 (by omega)).1,.inl (Fp d0 (by omega)).2⟩
theorem Dh.mk2{c d:List Int}{s:AA}(h:Dh c s)(e:d=c):Dh c (AA.mk d s.at_ s.seed_):=⟨e,h.at0,h.sd⟩
theorem Fr{n:Nat}{c:List Int}(hc:JM c)(hn:1048577<=n):Cm (fun r=>Dh c r) (SR n c):=by
 have hl:=hc.1
 rw [SR]
 refine FY (L:=fun m i (p:Int×Int)=>Iw c (fun i12 i14 i15=>(some ((AA.mk c i14 i15)))) m i p.1 p.2) (min c.length 64) (fun _ p=>p.1=0∧0<=p.2∧p.2<2147483647) _ ?_ ?_ n 0 (0,12345) (by omega) (by omega) ⟨rfl,by omega,by omega⟩
 ·intro m i ⟨a,sd⟩ hi ⟨h1,h2⟩ ih
  dsimp only at h1 h2 ⊢
  have hi1:i<c.length:=by omega
  have hx:=hc.2 _ (List.getElem_mem hi1)
  simp only [Iw.eq_2,DA hi1,DA (show i<64 by omega),Bool.and_self,cT,Ab hi1,Av,show((64:Int))=((64:Nat):Int)from rfl,wT i]
  generalize c[i]=x at*
  rw [Aw (x:=sd*31) (by omega) (by omega),Aw (x:=x) (by omega) (by omega),Aw (x:=sd*31+x) (by omega) (by omega)]
  have m1:=Fp (a:=sd*31+x) (b:=2147483647) (by omega) (by omega)
  exact ih (a,_) ⟨h1,m1⟩
 ·intro m ⟨a,sd⟩ ⟨h1,h2⟩
  dsimp only at h1 h2 ⊢
  have:(decide (((min c.length 64:Nat):Int)<(c.length:Int))&&decide (((min c.length 64:Nat):Int)<64))=false:=by
   rw [Bool.and_eq_false_iff,decide_eq_false_iff_not,decide_eq_false_iff_not];omega
  simp only [Iw.eq_2,this,cF]
  exact AQ ⟨rfl,⟨by subst h1;exact Int.le_refl _,by subst h1;exact Int.natCast_nonneg _⟩,h2⟩
theorem JM.of{code:List Int}(hR:code.length<=9223372036854775807∧∀x∈code,Zo .u8 x)(h:¬(code.length:Int)>4096):JM code:=⟨by omega,fun x hx=>hR.2 x hx⟩
def gd(t:List Int)(j:Nat):Int:=t.getD j 0
theorem LC{t:List Int}{j:Nat}{v:Int}(h:t[j]? =some v):gd t j=v:=by simp [gd,h]
theorem ZN{t:List Int}{j:Nat}(h:j<t.length):t[j]? =some (gd t j):=by simp [gd,h]
theorem NC{t:List Int}{i j:Nat}{v:Int}(h:i<t.length):gd (t.set i v) j=if i=j then v else gd t j:=by
 unfold gd
 rw [List.getD_eq_getElem?_getD,List.getD_eq_getElem?_getD,List.getElem?_set]
 by_cases e:i=j
 ·subst e;simp [h]
 ·simp [e]
theorem RN{t:List Int}{i:Int}(h0:0<=i)(h1:i<t.length):AL t i=some (gd t i.toNat):=by
 obtain⟨x,hx,h⟩:=EX h0 h1
 rw [hx,LC h]
def gb(t:List Bool)(j:Nat):Bool:=t.getD j false
theorem Mx{t:List Bool}{i j:Nat}{v:Bool}(h:i<t.length):gb (t.set i v) j=if i=j then v else gb t j:=by
 unfold gb
 rw [List.getD_eq_getElem?_getD,List.getD_eq_getElem?_getD,List.getElem?_set]
 by_cases e:i=j
 ·subst e;simp [h]
 ·simp [e]
theorem NB{n j:Nat}:gd (List.replicate n 0) j=0:=by
 simp only [gd,List.getD_eq_getElem?_getD,List.getElem?_replicate];split<;>rfl
def KQ(b:UInt8):Bool:=decide ((b.toNat:Int)>=97)&&decide ((b.toNat:Int)<=122)
def OZ(b:UInt8):Bool:=decide ((b.toNat:Int)>=48)&&decide ((b.toNat:Int)<=57)
def ES(s:ByteArray):Bool:=(decide ((s.size:Int)>=1)&&decide ((s.size:Int)<=8))&&(s.data.toList.all fun b=>KQ b||OZ b)&&(s.data.toList.take 1).all KQ
theorem Lz(s:ByteArray):s.size=s.data.toList.length:=by rw [Array.length_toList];rfl
theorem RP{s:ByteArray}{i:Nat}(h:i<s.data.toList.length):OQ s (i:Int)=some ((s.data.toList[i].toNat:Nat):Int):=by
 unfold OQ
 rw [if_pos (by omega),Int.toNat_natCast]
 have:s[i]? =some s.data.toList[i]:=by
  have hs:i<s.size:=by rw [Lz];exact h
  rw [show s[i]? =some s[i]from getElem?_pos s i hs]
  rfl
 rw [this];rfl
theorem Ut(p q:UInt8->Bool)(h:(List.range 256).all (fun i=>p (UInt8.ofNat i)==q (UInt8.ofNat i))=true)(b:UInt8):p b=q b:=by
 have:=List.all_eq_true.1 h b.toNat (List.mem_range.2 b.toNat_lt)
 rw [UInt8.ofNat_toNat]at this
 exact eq_of_beq this
def lettersL:List UInt8:=[97,98,99,100,101,102,103,104,105,106,107,108,109,110,111,112,113,114,115,116,117,118,119,120,121,122]
def nameL:List UInt8:=[97,98,99,100,101,102,103,104,105,106,107,108,109,110,111,112,113,114,115,116,117,118,119,120,121,122,48,49,50,51,52,53,54,55,56,57]
theorem TK(b:UInt8):nameL.contains b=(KQ b||OZ b):=Ut (fun b=>nameL.contains b) (fun b=>KQ b||OZ b) (by decide+kernel) b
theorem Pd(b:UInt8):lettersL.contains b=KQ b:=Ut (fun b=>lettersL.contains b) (fun b=>KQ b) (by decide+kernel) b
theorem Lr{p:UInt8->Bool}:∀{l:List UInt8} (h:0<l.length),(l.take 1).all p=p l[0]
 |[],h=>by simp at h
 |a::r,_=>by simp
theorem Fl{p:UInt8->Bool}:∀(l:List UInt8),(l.dropWhile p=[])↔l.all p=true
 |[]=>by simp
 |a::l=>by
  rw [List.dropWhile_cons,List.all_cons]
  cases h:p a with
  |true=>simpa using Fl l
  |false=>simp
theorem Jb{p:UInt8->Bool}:∀{l:List UInt8} {a:UInt8} {r:List UInt8},l.dropWhile p=a::r->p a=false
 |b::l,a,r,h=>by
  rw [List.dropWhile_cons]at h
  split at h
  ·exact Jb h
  ·next q=>simp only [List.cons.injEq]at h;rw [←h.1];simpa using q
theorem SV(l cs:List UInt8):(Lib.trimS l cs==[])=l.all (cs.contains ·):=by
 rw [Bool.eq_iff_iff,beq_iff_eq]
 unfold Lib.trimS Lib.trimLeftS Lib.trimRightS
 rw [Fl,List.all_reverse]
 rw [show l.all (cs.contains ·)=l.reverse.all (cs.contains ·) by rw [List.all_reverse]]
 constructor
 ·intro h
  cases hd:l.reverse.dropWhile (cs.contains ·)with
  |nil=>exact(Fl _).1 hd
  |cons a r=>
   have h1:=Jb hd
   rw [hd,List.all_cons,h1]at h
   cases h
 ·intro h
  rw [(Fl _).2 h];rfl
theorem LQ:∀(l:List UInt8) (c:UInt8),decide (Lib.indexByte l c>=0)=l.contains c∧Lib.indexByte l c>= -1
 |[],c=>by simp [Lib.indexByte]
 |b::l,c=>by
  obtain⟨h1,h2⟩:=LQ l c
  rw [Lib.indexByte,List.contains_cons]
  by_cases e:b=c
  ·subst e;simp
  ·have e1:(b==c)=false:=beq_eq_false_iff_ne.2 e
   have e2:(c==b)=false:=beq_eq_false_iff_ne.2 fun q=>e q.symm
   rw [e1,e2,Bool.false_or,←h1]
   by_cases h:Lib.indexByte l c= -1
   ·rw [h];simp
   ·have:(Lib.indexByte l c== -1)=false:=beq_eq_false_iff_ne.2 h
    rw [this]
    have hge:Lib.indexByte l c>=0:=by omega
    rw [decide_eq_true hge]
    simp only [Bool.false_eq_true,if_false]
    exact⟨decide_eq_true (by omega),by omega⟩
theorem lD{n:Nat}{s:ByteArray}(hs:s.size<=1048576)(hn:1048577<=n):Ra n s=some (ES s):=by
 rw [Ra,KT,Av]
 unfold ES
 cases hw:(decide ((s.size:Int)>=1)&&decide ((s.size:Int)<=8))with
 |false=>simp
 |true=>
  have hsz:1<=s.size:=by simp only [Bool.and_eq_true,decide_eq_true_eq]at hw;omega
  have ht:Sg n s ((ByteArray.mk #[97,98,99,100,101,102,103,104,105,106,107,108,109,110,111,112,113,114,115,116,117,118,119,120,121,122,48,49,50,51,52,53,54,55,56,57]))=some ⟨(Lib.trimS s.data.toList nameL).toArray⟩:=by
   unfold Sg
   rw [if_pos ⟨by omega,by decide,by decide⟩];rfl
  simp only [cT,ht,Av,Bool.true_and]
  have hb:((⟨(Lib.trimS s.data.toList nameL).toArray⟩:ByteArray).toList==((ByteArray.mk #[])).toList)=(s.data.toList.all fun b=>KQ b||OZ b):=by
   rw [Lib.toList_data,Lib.toList_data]
   show((Lib.trimS s.data.toList nameL)==[])=_
   rw [SV]
   congr 1
   funext b;exact TK b
  rw [hb]
  cases(s.data.toList.all fun b=>KQ b||OZ b)with
  |false=>simp
  |true=>
   rw [Lz]at hsz
   have hg:=RP (s:=s) (i:=0) (by omega)
   simp only [cT,show((0:Int))=((0:Nat):Int)from rfl,hg,Av,XO,Bool.true_and]
   have h1:=(LQ lettersL (s.data.toList[0])).1
   rw [Pd]at h1
   have e1:(((s.data.toList[0].toNat:Nat):Int).toNat.toUInt8)=s.data.toList[0]:=by rw [Int.toNat_natCast];exact UInt8.ofNat_toNat
   rw [e1]
   have e2:(s.data.toList.take 1).all KQ=KQ s.data.toList[0]:=Lr (by omega)
   rw [e2,←h1];rfl
theorem eG{n:Nat}{s:ByteArray}(hs:s.size<=1048576)(hn:1048577<=n):VN n s=some (ES s):=by
 rw [VN]
 have hl:=Lz s
 refine loop (L:=fun m i (_:Unit)=>GG s _ m i) s.data.toList.length (fun i _=>ES s=((decide ((s.size:Int)>=1)&&decide ((s.size:Int)<=8))&&((s.data.toList.drop i).all fun b=>KQ b||OZ b)&&((s.data.toList.take 1).drop i).all KQ)) (fun r=>r=some (ES s)) ?_ ?_ n 0 () (by omega) (by omega) (by simp [ES])
 ·intro m i _ hi hI
  have g:=RP hi
  have hd:decide ((i:Int)<(s.size:Int))=true:=decide_eq_true (by omega)
  have key:GG s (fun i3=>(some (((decide ((s.size:Int)>=1))&&(decide ((s.size:Int)<=8)))))) (m+1) (i:Int)=cond (!KQ s.data.toList[i]&& !(OZ s.data.toList[i]&&decide (0<i))) (some false) (GG s (fun i3=>(some (((decide ((s.size:Int)>=1))&&(decide ((s.size:Int)<=8)))))) m ((i+1:Nat):Int)):=by
   have e0:decide ((i:Int)>0)=decide (0<i):=by by_cases h:0<i<;>simp [h]<;>omega
   simp only [GG.eq_2,hd,cT,g,Av,CV,wT i,e0]
   rfl
  by_cases hc:(!KQ s.data.toList[i]&& !(OZ s.data.toList[i]&&decide (0<i)))=true
  ·refine .inr ?_
   show GG s _ (m+1) (i:Int)=_
   rw [key,hc,cT]
   have:ES s=false:=by
    rw [hI,List.drop_eq_getElem_cons hi,List.all_cons]
    simp only [Bool.and_eq_true,Bool.not_eq_true',Bool.and_eq_false_iff,decide_eq_false_iff_not]at hc
    obtain⟨h1,h2⟩:=hc
    rw [h1]
    rcases h2 with h2|h2
    ·rw [h2];simp
    ·obtain rfl:i=0:=by omega
     rw [List.drop_zero,Lr hi,h1];simp
   rw [this]
  ·refine .inl ⟨(),?_,?_⟩
   ·rw [hI,List.drop_eq_getElem_cons hi,List.all_cons]
    have hc:=Bool.eq_false_iff.2 hc
    simp only [Bool.and_eq_false_iff,Bool.not_eq_false',Bool.and_eq_true,decide_eq_true_eq]at hc
    by_cases h0:i=0
    ·subst h0
     have h1:KQ s.data.toList[0]=true:=by
      rcases hc with h|h
      ·exact h
      ·omega
     have e2:(s.data.toList.take 1).drop (0+1)=[]:=List.drop_eq_nil_of_le (by simp;omega)
     rw [List.drop_zero,Lr hi,e2,h1];simp
    ·have e1:(s.data.toList.take 1).drop i=[]:=List.drop_eq_nil_of_le (by simp;omega)
     have e2:(s.data.toList.take 1).drop (i+1)=[]:=List.drop_eq_nil_of_le (by simp;omega)
     rw [e1,e2]
     have:(KQ s.data.toList[i]||OZ s.data.toList[i])=true:=by
      rcases hc with h|h
      ·rw [h];rfl
      ·rw [h.1];simp
     rw [this];simp
   ·show GG s _ (m+1) (i:Int)=GG s _ m ((i+1:Nat):Int)
    rw [key,Bool.eq_false_iff.2 hc,cF]
 ·intro m _ hI
  have hd:decide (((s.data.toList.length:Nat):Int)<(s.size:Int))=false:=decide_eq_false (by omega)
  simp only [GG.eq_2,hd,cF]
  rw [hI,List.drop_length,List.drop_eq_nil_of_le (by simp;omega)]
  simp
def BY(P:Prop)(r:Option Bool):Prop:=∃b:Bool,r=some b∧(b=true↔P)
theorem BS{P:Prop}(h:¬P):BY P (some false):=⟨false,rfl,by simp [h]⟩
theorem DF{P:Prop}(h:P):BY P (some true):=⟨true,rfl,by simp [h]⟩
theorem mK{n:Nat}{xs:List ByteArray}{x:ByteArray}(h:xs.length<=1048576)(hn:1048577<=n):Sd n xs x=some (xs.any fun y=>x.toList==y.toList):=by
 rw [Sd,Wl]
 obtain⟨r,e1,e2⟩:=Jg (xs:=xs) (L:=fun m i=>Gz xs x (fun i5=>(some (-1))) m i) (fun y=>x.toList==y.toList) (fun m i hi=>by
  simp only [Gz.eq_2,DA hi,cT,Ab hi,Av,wT i]) (fun m=>by
  simp only [Gz.eq_2,DS,cF]) n (by omega)
 have e1:Gz xs x (fun i5=>(some (-1))) n 0=some r:=e1
 rw [e1,Av,e2]
theorem AN{n:Nat}{xs:List ByteArray}(h:xs.length<=1048576)(hs:∀x∈xs,x.size<=1048576)(hn:1048577<=n):BY (∀k (h:k<xs.length),ES xs[k]=true∧∀i (hi:i<k),(xs[i].toList==xs[k].toList)=false) (Ox n xs):=by
 rw [Ox]
 refine loop (L:=fun m i (_:Unit)=>LF n xs _ m i) xs.length (fun i _=>∀k (h:k<xs.length),k<i->ES xs[k]=true∧∀i (hi:i<k),(xs[i].toList==xs[k].toList)=false) _ ?_ ?_ n 0 () (by omega) (by omega) (fun k h hk=>by omega)
 ·intro m i _ hi hI
  have hsub:Hd xs 0 (i:Int)=some (xs.take i):=by
   unfold Hd
   rw [if_pos ⟨by omega,by omega,by omega⟩];simp
  have hct:=mK (n:=n) (xs:=xs.take i) (x:=xs[i]) (by simp;omega) hn
  simp only [LF.eq_2,DA hi,cT,Ab hi,Av,lD (hs _ (List.getElem_mem hi)) hn,hsub,hct,Ez,wT i]
  cases hb:(!ES xs[i]||(xs.take i).any fun y=>xs[i].toList==y.toList)with
  |true=>
   refine .inr (BS fun hv=>?_)
   obtain⟨h1,h2⟩:=hv i hi
   rw [h1,Bool.not_true,Bool.false_or,List.any_eq_true]at hb
   obtain⟨y,hy,he⟩:=hb
   obtain⟨j,hj,rfl⟩:=List.mem_iff_getElem.1 hy
   rw [List.length_take]at hj
   rw [List.getElem_take]at he
   have:=h2 j (by omega)
   rw [beq_eq_false_iff_ne]at this
   exact this (eq_of_beq he).symm
  |false=>
   simp only [Bool.or_eq_false_iff,Bool.not_eq_false']at hb
   refine .inl ⟨(),fun k h hk=>?_,rfl⟩
   by_cases e:k=i
   ·subst e
    refine⟨hb.1,fun j hj=>?_⟩
    rw [beq_eq_false_iff_ne]
    intro he
    have:=List.any_eq_false.1 hb.2 xs[j] (List.mem_iff_getElem.2 ⟨j,by rw [List.length_take];omega,by rw [List.getElem_take]⟩)
    exact this (by rw [he];simp)
   ·exact hI k h (by omega)
 ·intro m _ hI
  simp only [LF.eq_2,DS,cF]
  exact DF fun k h=>hI k h h
theorem AW{n:Nat}{ks:List Int}{lo hi:Int}(h:ks.length<=1048576)(hn:1048577<=n):Kv n ks lo hi=some (ks.all fun k=>decide (k>=lo)&&decide (k<=hi)):=by
 rw [Kv,TR,UM]
 obtain⟨r,e1,e2⟩:=Jg (xs:=ks) (L:=fun m i=>FO n ks lo hi (fun i7=>(some (-1))) m i) (fun k=>!(decide (k>=lo)&&decide (k<=hi))) (fun m i hi=>by
  simp only [FO.eq_2,DA hi,cT,Ab hi,Av,SY,KT,wT i]) (fun m=>by
  simp only [FO.eq_2,DS,cF]) n (by omega)
 have e1:FO n ks lo hi (fun i7=>(some (-1))) n 0=some r:=e1
 rw [e1,Av,Av,e2]
 congr 1
 rw [List.not_any_eq_all_not]
 congr 1
 funext k;rw [Bool.not_not]
theorem Nb{n0:Nat}:∀(j n:Nat) (k:Int),0<=k->k<(10:Int)^(j+1)->k<=1000000000000000000->j<n->j<=100->Cm (fun t=>t.size<=j+1) (MR n k)
 |j,0,k,_,_,_,h,_=>by omega
 |j,n+1,k,k0,k1,k2,h,hj=>by
  rw [cA,decide_eq_false (show¬k<0 by omega),cF]
  by_cases hk:k<10
  ·rw [decide_eq_true hk,cT]
   exact AQ (by rw [Lp];simp)
  ·rw [decide_eq_false hk,cF]
   match j,k1 with
   |0,k1=>simp at k1;omega
   |j+1,k1=>
    have e:wrap .i64 (Int.tdiv k 10)=k/10:=by rw [Int.tdiv_eq_ediv_of_nonneg k0];exact Aw (by omega) (by omega)
    rw [e]
    rw [Int.pow_succ]at k1
    refine AH (Nb (n0:=n0) j n (k/10) (by omega) (by omega) (by omega) (by omega) (by omega)) fun r _ hr=>?_
    rw [Ma (by rw [Lp];simp;omega)]
    exact AQ (by rw [ByteArray.size_append,Lp];simp;omega)
theorem kX{n:Nat}{k:Nat}(hk:k<=1000)(hn:1048577<=n):Cm (fun t=>t.size<=4) (MR n (k:Int)):=
 (Nb (n0:=0) 3 n k (by omega) (by show _<(10000:Int);omega) (by omega) (by omega) (by omega))
theorem BY.iff{P Q:Prop}{o:Option Bool}(h:BY P o)(e:P↔Q):BY Q o:=by
 obtain⟨b,rfl,h⟩:=h;exact⟨b,rfl,h.trans e⟩
theorem BZ{P:Prop}{b:Bool}(h:b=true↔P):BY P (some b):=⟨b,rfl,h⟩
theorem Kj{P R:Prop}{o:Option Bool}{f:Bool->Option Bool}(h:BY P o)(h1:P->BY R (f true))(h0:¬P->BY R (f false)):BY R (Option.bind o f):=by
 obtain⟨b,rfl,h⟩:=h
 cases b with
 |true=>exact h1 (h.1 rfl)
 |false=>exact h0 fun p=>by have:=h.2 p;cases this
theorem BY.bind{P R:Prop}{o:Option Bool}{f:Bool->Option Bool}(h:BY P o)(h1:P->BY R (f true))(h0:¬P->BY R (f false)):BY R (Option.bind o f):=Kj h h1 h0
theorem Fi{R:Prop}{c:Bool}{x y:Option Bool}(h1:c=true->BY R x)(h0:c=false->BY R y):BY R (cond c x y):=by
 cases c
 ·exact h0 rfl
 ·exact h1 rfl
theorem Ei{L:Nat->Int->Option Bool}{Q:Prop}(N s:Nat)(p:Nat->Prop)
 (hs:∀(m i:Nat),s<=i->i<N->(p i∧L (m+1) (i:Int)=L m ((i+1:Nat):Int))∨(¬p i∧L (m+1) (i:Int)=some false))
 (he:∀(m i:Nat),N<=i->i<=N+s->(∀j,s<=j->j<N->p j)->BY Q (L (m+1) (i:Int))):∀(m i:Nat),s<=i->i<=N+s->N-i<m->(∀j,s<=j->j<i->j<N->p j)->BY ((∀i,s<=i->i<N->p i)∧Q) (L m (i:Int))
 |0,i,_,_,hm,_=>by omega
 |m+1,i,hi,hi2,hm,hI=>by
  by_cases hlt:i<N
  ·rcases hs m i hi hlt with ⟨h1,h2⟩|⟨h1,h2⟩
   ·rw [h2]
    refine Ei N s p hs he m (i+1) (by omega) (by omega) (by omega) fun j h3 h4 h5=>?_
    by_cases e:j=i
    ·subst e;exact h1
    ·exact hI j h3 (by omega) h5
   ·rw [h2];exact BS fun h=>h1 (h.1 i hi hlt)
  ·have ha:∀j,s<=j->j<N->p j:=fun j h3 h4=>hI j h3 (by omega) h4
   exact(he m i (by omega) hi2 ha).iff ⟨fun q=>⟨ha,q⟩,fun q=>q.2⟩
theorem Lh{α:Type}{xs:List α}{L:Nat->Int->Option Int}{f:α->Option Bool}{P:α->Prop}(hf:∀x∈xs,BY (P x) (f x))(hs:∀(m i:Nat) (h:i<xs.length),L (m+1) (i:Int)=Option.bind (f xs[i]) fun r=>cond r (some (i:Int)) (L m ((i+1:Nat):Int)))
 (he:∀m:Nat,L (m+1) (xs.length:Int)=some (-1)) (m:Nat) (hm:xs.length<m):∃r,L m 0=some r∧(r>=0↔∃x∈xs,P x)∧(r= -1∨∃j:Nat,r=(j:Int)∧∃h:j<xs.length,P xs[j]∧∀i (hi:i<xs.length),i<j->¬P xs[i]):=by
 refine loop (L:=fun m i (_:Unit)=>L m i) xs.length (fun i _=>∀j (h:j<xs.length),j<i->¬P xs[j]) (fun o=>∃r,o=some r∧(r>=0↔∃x∈xs,P x)∧(r= -1∨∃j:Nat,r=(j:Int)∧∃h:j<xs.length,P xs[j]∧∀i (hi:i<xs.length),i<j->¬P xs[i])) ?_ ?_ m 0 () (by omega) (by omega) (fun j _ h=>by omega)
 ·intro m i _ hi hI
  obtain⟨b,e,hb⟩:=hf _ (List.getElem_mem hi)
  rw [hs m i hi,e,Av]
  cases b with
  |true=>exact .inr ⟨(i:Int),rfl,⟨fun _=>⟨_,List.getElem_mem hi,hb.1 rfl⟩,fun _=>by omega⟩,.inr ⟨i,rfl,hi,hb.1 rfl,hI⟩⟩
  |false=>
   refine .inl ⟨(),fun j h hj=>?_,by trivial⟩
   by_cases ej:j=i
   ·subst ej;intro hp;have:=hb.2 hp;cases this
   ·exact hI j h (by omega)
 ·intro m _ hI
  refine⟨-1,he m,⟨fun h=>by omega,fun⟨x,hx,hp⟩=>?_⟩,.inl rfl⟩
  obtain⟨j,hj,rfl⟩:=List.getElem_of_mem hx
  exact absurd hp (hI j hj hj)
theorem gI{l:List Int}{i:Nat}(h:i<l.length):AL l (i:Int)=some (gd l i):=by rw [Hy];exact ZN h
def VB(l:List Int):Prop:=(1<=l.length∧l.length<=4)∧(∀i,i<l.length->0<=gd l i∧gd l i<=100000)∧∀i,i<l.length->0<i->gd l (i-1)<gd l i
def VT(t:BP):Prop:=(VB t.Slews∧VB t.Loads)∧t.Values.length=t.Slews.length*t.Loads.length∧∀i,i<t.Values.length-> -1000000<=gd t.Values i∧gd t.Values i<=1000000
theorem NM{l:List Int}{lo hi:Int}:(l.all fun k=>decide (k>=lo)&&decide (k<=hi))=true↔∀i,i<l.length->lo<=gd l i∧gd l i<=hi:=by
 rw [List.all_eq_true]
 constructor
 ·intro h i hi
  have:=h _ (List.getElem_mem hi)
  simp only [Bool.and_eq_true,decide_eq_true_eq]at this
  rw [LC (List.getElem?_eq_getElem hi)];omega
 ·intro h x hx
  obtain⟨j,hj,rfl⟩:=List.getElem_of_mem hx
  have:=h j hj
  rw [LC (List.getElem?_eq_getElem hj)]at this
  simp only [Bool.and_eq_true,decide_eq_true_eq];omega
theorem lC{n:Nat}{l:List Int}(h:l.length<=1048576)(hn:1048577<=n):BY (VB l) (Rh n l):=by
 rw [Rh]
 refine(Ei (L:=fun m i=>JE n l _ m i) (Q:=1<=l.length∧l.length<=4) l.length 0 (fun i=>(0<=gd l i∧gd l i<=100000)∧(0<i->gd l (i-1)<gd l i)) ?_ ?_ n 0 (by omega) (by omega) (by omega) (fun j _ h=>by omega)).iff ?_
 ·intro m i _ hi
  have w1:0<i->wrap .i64 ((i:Int)-1)=((i-1:Nat):Int):=fun h0=>by rw [Aw (by omega) (by omega)];omega
  simp only [JE.eq_2,DA hi,cT,gI hi,Av,Hj,wT i]
  by_cases c1:0<=gd l i∧gd l i<=100000
  ·have d1:(decide (gd l i>=0)&&decide (gd l i<=100000))=true:=by simp only [Bool.and_eq_true,decide_eq_true_eq];omega
   simp only [d1,Bool.not_true,cF]
   by_cases h0:0<i
   ·have d2:decide ((i:Int)>0)=true:=decide_eq_true (by omega)
    simp only [d2,cT,w1 h0,gI (show i-1<l.length by omega),Av]
    by_cases c2:gd l (i-1)<gd l i
    ·have d3:decide (gd l (i-1)>=gd l i)=false:=decide_eq_false (by omega)
     simp only [d3,cF]
     exact .inl ⟨⟨c1,fun _=>c2⟩,by trivial⟩
    ·have d3:decide (gd l (i-1)>=gd l i)=true:=decide_eq_true (by omega)
     simp only [d3,cT]
     exact .inr ⟨fun h=>c2 (h.2 h0),by trivial⟩
   ·have d2:decide ((i:Int)>0)=false:=decide_eq_false (by omega)
    simp only [d2,cF,Av]
    exact .inl ⟨⟨c1,fun h=>absurd h h0⟩,by trivial⟩
  ·have d1:(decide (gd l i>=0)&&decide (gd l i<=100000))=false:=by
    rw [Bool.and_eq_false_iff,decide_eq_false_iff_not,decide_eq_false_iff_not];omega
   simp only [d1,Bool.not_false,cT,Av]
   exact .inr ⟨fun h=>c1 h.1,by trivial⟩
 ·intro m i h1 h2 _
  obtain rfl:i=l.length:=by omega
  simp only [JE.eq_2,DS,cF]
  exact BZ (by simp only [Bool.and_eq_true,decide_eq_true_eq];omega)
 ·exact⟨fun⟨a,b⟩=>⟨b,fun i hi=>(a i (by omega) hi).1,fun i hi h0=>(a i (by omega) hi).2 h0⟩,fun⟨a,b,c⟩=>⟨fun i _ hi=>⟨b i hi,c i hi⟩,a⟩⟩
theorem nZ{n:Nat}{l:List Int}(h:l.length<=1048576)(hn:1048577<=n):BY (∀i,i<l.length->0<i->gd l (i-1)<gd l i) (UZ n l):=by
 rw [UZ]
 refine(Ei (L:=fun m i=>IJ l _ m i) (Q:=True) l.length 1 (fun i=>gd l (i-1)<gd l i) ?_ ?_ n 1 (by omega) (by omega) (by omega) (fun j _ h=>by omega)).iff ?_
 ·intro m i h0 hi
  have w1:wrap .i64 ((i:Int)-1)=((i-1:Nat):Int):=by rw [Aw (by omega) (by omega)];omega
  simp only [IJ.eq_2,DA hi,cT,w1,gI hi,gI (show i-1<l.length by omega),Av,wT i]
  by_cases c2:gd l (i-1)<gd l i
  ·have d3:decide (gd l (i-1)>=gd l i)=false:=decide_eq_false (by omega)
   simp only [d3,cF]
   exact .inl ⟨c2,by trivial⟩
  ·have d3:decide (gd l (i-1)>=gd l i)=true:=decide_eq_true (by omega)
   simp only [d3,cT]
   exact .inr ⟨c2,by trivial⟩
 ·intro m i h1 h2 _
  have:decide ((i:Int)<(l.length:Int))=false:=decide_eq_false (by omega)
  simp only [IJ.eq_2,this,cF]
  exact DF trivial
 ·exact⟨fun a i hi h0=>a.1 i h0 hi,fun a=>⟨fun i h0 hi=>a i hi h0,trivial⟩⟩
theorem mB{n:Nat}{l:List Int}(h:l.length<=1048576)(hn:1048577<=n):BY (VB l) (Rm n l):=by
 obtain⟨b,e,hb⟩:=nZ (n:=n) h hn
 rw [Rm]
 simp only [Mi,KT,AW (n:=n) h hn,e,Av,CV]
 refine BZ ?_
 rw [Bool.and_eq_true,Bool.and_eq_true,NM,hb]
 simp only [Bool.and_eq_true,decide_eq_true_eq]
 exact⟨fun⟨⟨a,b⟩,c⟩=>⟨by omega,b,c⟩,fun⟨a,b,c⟩=>⟨⟨by omega,b⟩,c⟩⟩
theorem ZZ{a b:Nat}(ha:a<=4)(hb:b<=4):wrap .i64 ((a:Int)*(b:Int))=((a*b:Nat):Int):=by
 have:a*b<=4*4:=Nat.mul_le_mul ha hb
 have e:((a*b:Nat):Int)=(a:Int)*b:=by simp
 rw [←e,Aw (by omega) (by omega)]
def Ul(t:BP):Prop:=t.Slews.length<=1048576∧t.Loads.length<=1048576∧t.Values.length<=1048576
theorem nF{n:Nat}{t:BP}(h:Ul t)(hn:1048577<=n):BY (VT t) (Sc n t):=by
 rw [Sc]
 refine Kj (lC h.1 hn) (fun v1=>?_) fun v1=>?_
 ·simp only [Bool.not_true,cF]
  obtain⟨b,e,hb⟩:=lC (n:=n) h.2.1 hn
  rw [e,Av,Av]
  cases b with
  |false=>
   simp only [Bool.not_false,Bool.true_or,cT]
   exact BS fun v=>by have:=hb.2 v.1.2;cases this
  |true=>
   have v2:=hb.1 rfl
   rw [ZZ v1.1.2 v2.1.2]
   simp only [Bool.not_true,Bool.false_or]
   refine Fi (fun c=>?_) fun c=>?_
   ·refine BS fun v=>?_
    rw [v.2.1]at c;simp at c
   ·have c:t.Values.length=t.Slews.length*t.Loads.length:=by
     rw [bne_eq_false_iff_eq]at c;omega
    have hv:=h.2.2
    refine(Ei (L:=fun m i=>Iq n t _ m i) (Q:=True) t.Values.length 0 (fun i=>-1000000<=gd t.Values i∧gd t.Values i<=1000000) ?_ ?_ n 0 (by omega) (by omega) (by omega) (fun j _ h=>by omega)).iff ?_
    ·intro m i _ hi
     simp only [Iq.eq_2,DA hi,cT,gI hi,Av,Hj,wT i]
     by_cases c1:-1000000<=gd t.Values i∧gd t.Values i<=1000000
     ·have d1:(decide (gd t.Values i>= -1000000)&&decide (gd t.Values i<=1000000))=true:=by simp only [Bool.and_eq_true,decide_eq_true_eq];omega
      simp only [d1,Bool.not_true,cF]
      exact .inl ⟨c1,by trivial⟩
     ·have d1:(decide (gd t.Values i>= -1000000)&&decide (gd t.Values i<=1000000))=false:=by
       rw [Bool.and_eq_false_iff,decide_eq_false_iff_not,decide_eq_false_iff_not];omega
      simp only [d1,Bool.not_false,cT]
      exact .inr ⟨c1,by trivial⟩
    ·intro m i h1 h2 _
     obtain rfl:i=t.Values.length:=by omega
     simp only [Iq.eq_2,DS,cF]
     exact DF trivial
    ·exact⟨fun a=>⟨⟨v1,v2⟩,c,fun i hi=>a.1 i (by omega) hi⟩,fun a=>⟨fun i _ hi=>a.2.2 i hi,trivial⟩⟩
 ·simp only [Bool.not_false,cT,Av,Bool.true_or]
  exact BS fun v=>v1 v.1.1
theorem nL{n:Nat}{t:BP}(h:Ul t)(hn:1048577<=n):BY (VT t) (Tv n t):=by
 rw [Tv]
 refine Kj (mB h.1 hn) (fun v1=>?_) fun v1=>?_
 ·simp only [cT]
  obtain⟨b,e,hb⟩:=mB (n:=n) h.2.1 hn
  rw [e,Av,Av]
  cases b with
  |false=>
   simp only [Bool.false_and,cF,Av]
   exact BS fun v=>by have:=hb.2 v.1.2;cases this
  |true=>
   have v2:=hb.1 rfl
   rw [ZZ v1.1.2 v2.1.2,AW (n:=n) h.2.2 hn]
   simp only [Bool.true_and,Av,CV]
   refine BZ ?_
   rw [Bool.and_eq_true,NM,beq_iff_eq]
   exact⟨fun⟨a,b⟩=>⟨⟨v1,v2⟩,by omega,b⟩,fun a=>⟨by have:=a.2.1;omega,a.2.2⟩⟩
 ·simp only [cF,Av,Bool.false_and]
  exact BS fun v=>v1 v.1.1
theorem VT.pos{t:BP}(h:VT t):0<t.Values.length∧t.Values.length<=16:=by
 have a:=h.1.1.1
 have b:=h.1.2.1
 rw [h.2.1]
 exact⟨Nat.mul_pos (by omega) (by omega),(Nat.mul_le_mul a.2 b.2:_<=4*4)⟩
def VP(t:BP):Prop:=∀j,j<t.Values.length->0<=gd t.Values j
theorem nX{n:Nat}{t:BP}(h:Ul t)(hn:1048577<=n):(¬VT t∧∃s:Ae,Ry n t=some (s,1))∨(VT t∧∃s:Ae,Ry n t=some (s,0)∧(s.Early<0↔¬VP t)):=by
 obtain⟨b,e,hb⟩:=nF (n:=n) h hn
 rw [Ry,e,Av]
 cases b with
 |false=>exact .inl ⟨fun v=>(by have:=hb.2 v;cases this),_,rfl⟩
 |true=>
  have v:=hb.1 rfl
  have hp:=v.pos
  have g0:AL t.Values 0=some (gd t.Values 0):=gI (i:=0) (by omega)
  refine .inr ⟨v,?_⟩
  simp only [Bool.not_true,cF,g0,Av]
  refine loop (L:=fun m i (p:Int×Int)=>Is t (fun i93 i97 i98=>(some ((Ae.mk i97 i98),0))) m i p.1 p.2) t.Values.length (fun i p=>(p.1<0↔¬∀j,j<i->0<=gd t.Values j)) (fun o=>∃s:Ae,o=some (s,0)∧(s.Early<0↔¬VP t)) ?_ ?_ n 1 (gd t.Values 0,gd t.Values 0) (by omega) (by omega) ?_
  ·intro m i ⟨a,c⟩ hi hI
   dsimp only at hI ⊢
   refine .inl ⟨(min a (gd t.Values i),max c (gd t.Values i)),?_,?_⟩
   ·dsimp only
    constructor
    ·intro hm hall
     by_cases ha:a<0
     ·exact hI.1 ha fun j hj=>hall j (by omega)
     ·have:=hall i (by omega);omega
    ·intro hna
     by_cases ha:a<0
     ·omega
     ·have hall:∀j,j<i->0<=gd t.Values j:=fun j hj=>by
       by_cases q:0<=gd t.Values j
       ·exact q
       ·exact absurd (hI.2 fun hh=>q (hh j hj)) ha
      by_cases q:0<=gd t.Values i
      ·exfalso;apply hna;intro j hj
       by_cases ej:j=i
       ·subst ej;exact q
       ·exact hall j (by omega)
      ·omega
   ·simp only [Is.eq_2,DA hi,cT,gI hi,Av,wT i]
  ·intro m ⟨a,c⟩ hI
   dsimp only at hI ⊢
   simp only [Is.eq_2,DS,cF]
   exact⟨_,rfl,hI⟩
  ·dsimp only
   constructor
   ·intro h0 hall;have:=hall 0 (by omega);omega
   ·intro h0
    by_cases q:gd t.Values 0<0
    ·exact q
    ·exfalso;apply h0;intro j hj;obtain rfl:j=0:=by omega
     omega
theorem Mn{n:Nat}{l:List Int}(h0:0<l.length)(h:l.length<=1048576)(hn:1048577<=n):∃r,TJ n l=some r∧(r<0↔¬∀j,j<l.length->0<=gd l j):=by
 have g0:AL l 0=some (gd l 0):=gI (i:=0) (by omega)
 have d0:decide ((l.length:Int)<1)=false:=decide_eq_false (by omega)
 rw [TJ,d0,cF,g0,Av]
 refine loop (L:=fun m i (a:Int)=>Io l (fun i15 i16=>(some i15)) m a i) l.length (fun i a=>(a<0↔¬∀j,j<i->0<=gd l j)) (fun o=>∃r,o=some r∧(r<0↔¬∀j,j<l.length->0<=gd l j)) ?_ ?_ n 1 (gd l 0) (by omega) (by omega) ?_
 ·intro m i a hi hI
  refine .inl ⟨min a (gd l i),?_,?_⟩
  ·constructor
   ·intro hm hall
    by_cases ha:a<0
    ·exact hI.1 ha fun j hj=>hall j (by omega)
    ·have:=hall i (by omega);omega
   ·intro hna
    by_cases ha:a<0
    ·omega
    ·have hall:∀j,j<i->0<=gd l j:=fun j hj=>by
      by_cases q:0<=gd l j
      ·exact q
      ·exact absurd (hI.2 fun hh=>q (hh j hj)) ha
     by_cases q:0<=gd l i
     ·exfalso;apply hna;intro j hj
      by_cases ej:j=i
      ·subst ej;exact q
      ·exact hall j (by omega)
     ·omega
  ·simp only [Io.eq_2,DA hi,cT,gI hi,Av,wT i]
 ·intro m a hI
  simp only [Io.eq_2,DS,cF]
  exact⟨_,rfl,hI⟩
 ·constructor
  ·intro h0 hall;have:=hall 0 (by omega);omega
  ·intro h0
   by_cases q:gd l 0<0
   ·exact q
   ·exfalso;apply h0;intro j hj;obtain rfl:j=0:=by omega
    omega
def Pp(l:List BP)(pos:Bool):Prop:=l.length=2∧∀t∈l,VT t∧(pos=true->VP t)
theorem gQ{n:Nat}{l:List BP}{pos:Bool}(h:∀t∈l,Ul t)(hn:1048577<=n):BY (Pp l pos) (RS n l pos):=by
 rw [RS]
 refine Fi (fun c=>?_) fun c=>?_
 ·refine BS fun v=>?_
  rw [v.1]at c;simp at c
 ·have c:l.length=2:=by rw [bne_eq_false_iff_eq]at c;omega
  refine(Ei (L:=fun m i=>LB n l pos _ m i) (Q:=True) 2 0 (fun i=>∀t,l[i]? =some t->VT t∧(pos=true->VP t)) ?_ ?_ n 0 (by omega) (by omega) (by omega) (fun j _ h=>by omega)).iff ?_
  ·intro m i _ hi
   have hil:i<l.length:=by omega
   have g:=List.getElem?_eq_getElem hil
   have d1:decide ((i:Int)<2)=true:=decide_eq_true (by omega)
   simp only [LB.eq_2,d1,cT,Ab hil,Av,wT i,g]
   rcases nX (n:=n) (h _ (List.getElem_mem hil)) hn with ⟨v,s,e⟩|⟨v,s,e,hs⟩
   ·rw [e]
    exact .inr ⟨fun q=>v (q _ rfl).1,by trivial⟩
   ·rw [e]
    simp only [Av,bne_self_eq_false,Bool.false_or]
    by_cases hp:pos=true
    ·subst hp
     by_cases q:s.Early<0
     ·rw [decide_eq_true q]
      exact .inr ⟨fun r=>(hs.1 q) ((r _ rfl).2 rfl),by trivial⟩
     ·rw [decide_eq_false q]
      refine .inl ⟨fun t ht=>?_,by trivial⟩
      obtain rfl:=Option.some.inj ht
      exact⟨v,fun _=>Classical.byContradiction fun r=>q (hs.2 r)⟩
    ·have hp:pos=false:=by simpa using hp
     subst hp
     refine .inl ⟨fun t ht=>?_,by trivial⟩
     obtain rfl:=Option.some.inj ht
     exact⟨v,fun h=>by cases h⟩
  ·intro m i h1 h2 _
   obtain rfl:i=2:=by omega
   simp only [LB.eq_2,show decide (((2:Nat):Int)<2)=false from rfl,cF]
   exact DF trivial
  ·constructor
   ·rintro ⟨a,_⟩
    refine⟨c,fun t ht=>?_⟩
    obtain⟨j,hj⟩:=List.getElem?_of_mem ht
    have hjl:j<l.length:=(List.getElem?_eq_some_iff.1 hj).1
    exact a j (by omega) (by omega) t hj
   ·rintro ⟨_,a⟩
    exact⟨fun i _ _ t ht=>a t (List.mem_of_getElem? ht),trivial⟩
theorem iQ{n:Nat}{l:List BP}{pos:Bool}(h:∀t∈l,Ul t)(hl:l.length<=1048576)(hn:1048577<=n):BY (Pp l pos) (QD n l pos):=by
 rw [QD]
 have hf:∀t∈l,BY (¬(VT t∧(pos=true->VP t))) (RY n t pos):=by
  intro t ht
  have hm:=h t ht
  rw [RY]
  refine Kj (nL hm hn) (fun v=>?_) fun v=>?_
  ·simp only [Bool.not_true,cF]
   by_cases hp:pos=true
   ·subst hp
    obtain⟨r,e,hr⟩:=Mn (n:=n) v.pos.1 hm.2.2 hn
    simp only [cT,e,Av]
    refine BZ ?_
    rw [decide_eq_true_eq,hr]
    exact⟨fun a b=>a (b.2 trivial),fun a b=>a ⟨v,fun _=>b⟩⟩
   ·have hp:pos=false:=by simpa using hp
    subst hp
    exact BS fun a=>a ⟨v,fun h=>by cases h⟩
  ·simp only [Bool.not_false,cT,Av]
   exact DF fun a=>v a.1
 obtain⟨r,e,hr,_⟩:=Lh (xs:=l) (L:=fun m i=>HP n l pos (fun i6=>(some (-1))) m i) (f:=fun t=>RY n t pos) hf (fun m i hi=>by
  simp only [HP.eq_2,DA hi,cT,Ab hi,Av,wT i]) (fun m=>by
  simp only [HP.eq_2,DS,cF]) n (by omega)
 have e:HP n l pos (fun i6=>(some (-1))) n 0=some r:=e
 rw [WY,WI,e]
 simp only [Av]
 by_cases c:l.length=2
 ·have:((l.length:Int)==2)=true:=by simp;omega
  rw [this]
  simp only [cT,Av]
  refine BZ ?_
  rw [Bool.not_eq_true',decide_eq_false_iff_not,hr]
  exact⟨fun a=>⟨c,fun t ht=>Classical.byContradiction fun q=>a ⟨t,ht,q⟩⟩,fun a ⟨t,ht,q⟩=>q (a.2 t ht)⟩
 ·have:((l.length:Int)==2)=false:=by rw [beq_eq_false_iff_ne];omega
  rw [this]
  exact BS fun v=>c v.1
def PZ(N i:Nat)(p:Bv):Prop:=(0<=p.Cap∧p.Cap<=500)∧(i+1=N->p.Dir=2∧p.Cap=0∧p.Clock=false)∧(i+1<N->p.Dir=1)
structure KU(l:List Bv):Prop where
 few:2<=l.length∧l.length<=5
 pin:∀i (h:i<l.length),PZ l.length i l[i]
 nm:∀k (h:k<l.length),ES l[k].Name=true∧∀i (hi:i<k),(l[i].Name.toList==l[k].Name.toList)=false
def cnt(l:List Bv):Nat:=l.countP (·.Clock)
def Yp(l:List Bv):Prop:=l.length<=1048576∧∀p∈l,p.Name.size<=1048576
theorem PU{l:List Bv}{i:Nat}(h:i<l.length):cnt (l.take (i+1))=cnt (l.take i)+if l[i].Clock=true then 1 else 0:=by
 unfold cnt
 rw [List.take_succ_eq_append_getElem h,List.countP_append]
 congr 1
 by_cases e:l[i].Clock=true
 ·rw [if_pos e];simp [e]
 ·rw [if_neg e];simp [e]
theorem nW{n:Nat}{c:As}(h:Yp c.Pins)(hn:1048577<=n):∃r:Int×Bool,Zy n c=some r∧(r.2=true↔KU c.Pins)∧(r.2=true->r.1=cnt c.Pins):=by
 rw [Zy]
 by_cases hl:2<=c.Pins.length∧c.Pins.length<=5
 ·have d:(decide ((c.Pins.length:Int)<2)||decide ((c.Pins.length:Int)>5))=false:=by
   simp only [Bool.or_eq_false_iff,decide_eq_false_iff_not];omega
  rw [d,cF]
  have wl:wrap .i64 ((c.Pins.length:Int)-1)=(c.Pins.length:Int)-1:=Aw (by omega) (by omega)
  refine loop (L:=fun m i (q:Int)=>He n c (fun i23 i24=>(some (i23,true))) m q i) c.Pins.length (fun i q=>q=cnt (c.Pins.take i)∧∀k (h:k<c.Pins.length),k<i->PZ c.Pins.length k c.Pins[k]∧ES c.Pins[k].Name=true∧∀j (hj:j<k),(c.Pins[j].Name.toList==c.Pins[k].Name.toList)=false)
   (fun o=>∃r:Int×Bool,o=some r∧(r.2=true↔KU c.Pins)∧(r.2=true->r.1=cnt c.Pins)) ?_ ?_ n 0 0 (by omega) (by omega) ⟨by simp [cnt],fun k _ hk=>by omega⟩
  ·intro m i q hi ⟨hq,hI⟩
   have no:∀o:Option (Int×Bool),o=some (0,false)->¬KU c.Pins->∃r:Int×Bool,o=some r∧(r.2=true↔KU c.Pins)∧(r.2=true->r.1=cnt c.Pins):=fun o e hv=>⟨_,e,by simp [hv],fun h=>by cases h⟩
   have wi:decide ((i:Int)<(c.Pins.length:Int))=true:=DA hi
   rw [He.eq_2]
   simp only [wi,cT,Ab hi,Av]
   have inner:∀k2:Int->Option (Int×Bool),(∀j (hj:j<i),(c.Pins[j].Name.toList==c.Pins[i].Name.toList)=false)∧Il c i c.Pins[i] k2 n 0=k2 i∨(¬∀j (hj:j<i),(c.Pins[j].Name.toList==c.Pins[i].Name.toList)=false)∧Il c i c.Pins[i] k2 n 0=some (0,false):=by
    intro k2
    refine loop (L:=fun m j (_:Unit)=>Il c i c.Pins[i] k2 m j) i (fun b _=>∀j (hj:j<i),j<b->(c.Pins[j].Name.toList==c.Pins[i].Name.toList)=false) (fun o=>(∀j (hj:j<i),(c.Pins[j].Name.toList==c.Pins[i].Name.toList)=false)∧o=k2 i∨(¬∀j (hj:j<i),(c.Pins[j].Name.toList==c.Pins[i].Name.toList)=false)∧o=some (0,false)) ?_ ?_ n 0 () (by omega) (by omega) (fun j _ hj=>by omega)
    ·intro m j _ hj hJ
     simp only [Il.eq_2,DA hj,cT,Ab (show j<c.Pins.length by omega),Av,wT j]
     cases e:(c.Pins[j].Name.toList==c.Pins[i].Name.toList)with
     |true=>exact .inr (.inr ⟨fun h=>(by rw [h j hj]at e;cases e),by trivial⟩)
     |false=>
      refine .inl ⟨(),fun a ha hb=>?_,by trivial⟩
      by_cases ea:a=j
      ·subst ea;exact e
      ·exact hJ a ha (by omega)
    ·intro m _ hJ
     simp only [Il.eq_2,DS,cF]
     exact .inl ⟨fun j hj=>hJ j hj hj,by trivial⟩
   rcases inner _ with ⟨g1,g2⟩|⟨g1,g2⟩
   ·rw [g2]
    have hsz:=h.2 _ (List.getElem_mem hi)
    simp only [eG hsz hn,Av,Hj,Ez,wl]
    cases hnm:ES c.Pins[i].Name with
    |false=>
     simp only [Bool.not_false,Bool.true_or,cT]
     exact .inr (no _ rfl fun v=>by have:=(v.nm i hi).1;rw [hnm]at this;cases this)
    |true=>
     simp only [Bool.not_true,Bool.false_or]
     by_cases c1:0<=c.Pins[i].Cap∧c.Pins[i].Cap<=500
     ·have d1:(decide (c.Pins[i].Cap>=0)&&decide (c.Pins[i].Cap<=500))=true:=by simp only [Bool.and_eq_true,decide_eq_true_eq];omega
      simp only [d1,Bool.not_true,cF]
      have pI:PZ c.Pins.length i c.Pins[i]↔((((i:Int)==(c.Pins.length:Int)-1)&&((((c.Pins[i].Dir !=2))||((c.Pins[i].Cap !=0)))||c.Pins[i].Clock))||((decide ((i:Int)<(c.Pins.length:Int)-1))&&((c.Pins[i].Dir !=1))))=false:=by
       unfold PZ
       by_cases e1:i+1=c.Pins.length
       ·have t1:((i:Int)==(c.Pins.length:Int)-1)=true:=by rw [beq_iff_eq];omega
        have t2:decide ((i:Int)<(c.Pins.length:Int)-1)=false:=decide_eq_false (by omega)
        simp only [t1,t2,Bool.true_and,Bool.false_and,Bool.or_false,Bool.or_eq_false_iff,bne_eq_false_iff_eq]
        exact⟨fun⟨_,a,_⟩=>⟨⟨(a e1).1,(a e1).2.1⟩,(a e1).2.2⟩,fun⟨⟨a,b⟩,d⟩=>⟨c1,fun _=>⟨a,b,d⟩,fun h=>by omega⟩⟩
       ·have t1:((i:Int)==(c.Pins.length:Int)-1)=false:=by rw [beq_eq_false_iff_ne];omega
        have t2:decide ((i:Int)<(c.Pins.length:Int)-1)=true:=decide_eq_true (by omega)
        simp only [t1,t2,Bool.true_and,Bool.false_and,Bool.false_or,bne_eq_false_iff_eq]
        exact⟨fun⟨_,_,a⟩=>a (by omega),fun a=>⟨c1,fun h=>absurd h e1,fun _=>a⟩⟩
      cases hc:((((i:Int)==(c.Pins.length:Int)-1)&&((((c.Pins[i].Dir !=2))||((c.Pins[i].Cap !=0)))||c.Pins[i].Clock))||((decide ((i:Int)<(c.Pins.length:Int)-1))&&((c.Pins[i].Dir !=1))))with
      |true=>
       rw [hc]at pI
       simp only [cT]
       exact .inr (no _ rfl fun v=>by have:=pI.1 (v.pin i hi);cases this)
      |false=>
       have hp:=pI.2 hc
       simp only [cF]
       have hI':∀k (h:k<c.Pins.length),k<i+1->PZ c.Pins.length k c.Pins[k]∧ES c.Pins[k].Name=true∧∀j (hj:j<k),(c.Pins[j].Name.toList==c.Pins[k].Name.toList)=false:=fun k hk hki=>by
        by_cases ek:k=i
        ·subst ek;exact⟨hp,hnm,g1⟩
        ·exact hI k hk (by omega)
       have ct:=PU hi
       have cl:cnt (c.Pins.take i)<=5:=Nat.le_trans List.countP_le_length (by simp;omega)
       cases hk:c.Pins[i].Clock with
       |true=>
        rw [hk,if_pos rfl]at ct
        refine .inl ⟨q+1,⟨by rw [ct,hq];simp,hI'⟩,?_⟩
        simp only [cT,wT i,Aw (x:=q+1) (by omega) (by omega)]
       |false=>
        rw [hk]at ct
        refine .inl ⟨q,⟨by rw [ct,hq];simp,hI'⟩,?_⟩
        simp only [cF,wT i]
     ·have d1:(decide (c.Pins[i].Cap>=0)&&decide (c.Pins[i].Cap<=500))=false:=by
       rw [Bool.and_eq_false_iff,decide_eq_false_iff_not,decide_eq_false_iff_not];omega
      simp only [d1,Bool.not_false,cT]
      exact .inr (no _ rfl fun v=>c1 (v.pin i hi).1)
   ·rw [g2]
    exact .inr (no _ rfl fun v=>g1 (v.nm i hi).2)
  ·intro m q ⟨hq,hI⟩
   simp only [He.eq_2,DS,cF]
   rw [List.take_length]at hq
   exact⟨_,rfl,⟨fun _=>⟨hl,fun i h=>(hI i h h).1,fun k h=>(hI k h h).2⟩,fun _=>rfl⟩,fun _=>hq⟩
 ·have d:(decide ((c.Pins.length:Int)<2)||decide ((c.Pins.length:Int)>5))=true:=by
   rw [Bool.or_eq_true,decide_eq_true_eq,decide_eq_true_eq];omega
  rw [d,cT]
  exact⟨_,rfl,⟨fun h=>(by cases h),fun v=>absurd v.few hl⟩,fun h=>(by cases h)⟩
theorem nU{n:Nat}{l:List Bv}(h:Yp l)(hn:1048577<=n):BY (KU l) (TS n l):=by
 have hl:=h.1
 rw [TS]
 have wl:0<l.length->wrap .i64 ((l.length:Int)-1)=(l.length:Int)-1:=fun h0=>Aw (by omega) (by omega)
 refine loop (L:=fun m i (q:List ByteArray)=>HG n l _ m q i) l.length (fun i q=>q=(l.take i).map (·.Name)∧∀k (h:k<l.length),k<i->PZ l.length k l[k]) _ ?_ ?_ n 0 [] (by omega) (by omega) ⟨by simp,fun k _ hk=>by omega⟩
 ·intro m i q hi ⟨hq,hI⟩
  have hql:q.length<=1048576:=by rw [hq];simp;omega
  have ha:=BO (xs:=q) (ys:=[l[i].Name]) (b:=16) (by simp;omega) (by omega)
  have hq':q++[l[i].Name]=(l.take (i+1)).map (·.Name):=by rw [hq,List.take_succ_eq_append_getElem hi,List.map_append];rfl
  simp only [HG.eq_2,DA hi,cT,Ab hi,Av,ha,wl (by omega),KT,wT i]
  have stepI:PZ l.length i l[i]->∀k (h:k<l.length),k<i+1->PZ l.length k l[k]:=fun hp k hk hki=>by
   by_cases ek:k=i
   ·subst ek;exact hp
   ·exact hI k hk (by omega)
  by_cases e1:i+1=l.length
  ·have t1:((i:Int)==(l.length:Int)-1)=true:=by rw [beq_iff_eq];omega
   simp only [t1,cT]
   cases hc:((((l[i].Dir !=2))||((l[i].Cap !=0)))||l[i].Clock)with
   |true=>
    refine .inr (BS fun v=>?_)
    have:=(v.pin i hi).2.1 e1
    rw [this.1,this.2.1,this.2.2]at hc;cases hc
   |false=>
    simp only [Bool.or_eq_false_iff,bne_eq_false_iff_eq]at hc
    exact .inl ⟨_,⟨hq',stepI ⟨by omega,fun _=>⟨hc.1.1,hc.1.2,hc.2⟩,fun h=>by omega⟩⟩,by trivial⟩
  ·have t1:((i:Int)==(l.length:Int)-1)=false:=by rw [beq_eq_false_iff_ne];omega
   simp only [t1,cF,Ez,Av]
   by_cases c1:l[i].Dir=1∧0<=l[i].Cap∧l[i].Cap<=500
   ·have d1:((l[i].Dir !=1)|| !(decide (l[i].Cap>=0)&&decide (l[i].Cap<=500)))=false:=by
     simp only [Bool.or_eq_false_iff,bne_eq_false_iff_eq,Bool.not_eq_false',Bool.and_eq_true,decide_eq_true_eq];omega
    simp only [d1,cF]
    exact .inl ⟨_,⟨hq',stepI ⟨by omega,fun h=>absurd h e1,fun _=>c1.1⟩⟩,by trivial⟩
   ·have d1:((l[i].Dir !=1)|| !(decide (l[i].Cap>=0)&&decide (l[i].Cap<=500)))=true:=by
     simp only [Bool.or_eq_true,bne_iff_ne,Bool.not_eq_true',Bool.and_eq_false_iff,decide_eq_false_iff_not];omega
    simp only [d1,cT]
    exact .inr (BS fun v=>c1 ⟨(v.pin i hi).2.2 (by omega),(v.pin i hi).1⟩)
 ·intro m q ⟨hq,hI⟩
  rw [List.take_length]at hq
  obtain⟨b,e,hb⟩:=AN (n:=n) (xs:=q) (by rw [hq];simpa using hl) (by rw [hq];intro x hx;obtain⟨p,hp,rfl⟩:=List.mem_map.1 hx;exact h.2 p hp) hn
  simp only [HG.eq_2,DS,cF,Pe,KT,e,Av,CV]
  refine BZ ?_
  rw [Bool.and_eq_true,hb,Bool.and_eq_true,decide_eq_true_eq,decide_eq_true_eq]
  subst hq
  simp only [List.length_map,List.getElem_map]
  exact⟨fun⟨a,b⟩=>⟨by omega,fun i hi=>hI i hi hi,b⟩,fun v=>⟨by have:=v.few;omega,v.nm⟩⟩
def KC(l:List Bv)(i:Int):Bool:=((l[i.toNat]?).map (·.Clock)).getD false
theorem Ym{l:List Bv}{i:Int}(h0:0<=i)(h1:i<l.length):∃x,AL l i=some x∧x.Clock=KC l i:=by
 obtain⟨x,e,h⟩:=EX h0 h1
 exact⟨x,e,by simp [KC,h]⟩
theorem Pv{l:List Bv}{j:Nat}(h:j<l.length):KC l (j:Int)=l[j].Clock:=by simp [KC,h]
theorem RE{l:List Bv}(hc:cnt l<=1){i j:Nat}(hi:i<l.length)(hj:j<l.length)(h1:l[i].Clock=true)(h2:l[j].Clock=true):i=j:=by
 have key:∀i j:Nat,∀(hi:i<l.length) (hj:j<l.length),l[i].Clock=true->l[j].Clock=true->¬i<j:=by
  intro i j hi hj h1 h2 hlt
  have e:cnt l=cnt (l.take (i+1))+cnt (l.drop (i+1)):=by unfold cnt;rw [←List.countP_append,List.take_append_drop]
  have p1:0<cnt (l.take (i+1)):=List.countP_pos_iff.2 ⟨l[i],by rw [List.mem_take_iff_getElem];exact⟨i,by omega,rfl⟩,h1⟩
  have p2:0<cnt (l.drop (i+1)):=List.countP_pos_iff.2 ⟨l[j],by rw [List.mem_drop_iff_getElem];exact⟨j-(i+1),by omega,by congr 1;omega⟩,h2⟩
  omega
 have a:=key i j hi hj h1 h2
 have b:=key j i hj hi h2 h1
 omega
theorem Ck{n:Nat}{c:As}(h:c.Pins.length<=1048576)(hn:1048577<=n):∃r,QX n c=some r∧(r>=0↔∃x∈c.Pins,x.Clock=true)∧(r= -1∨∃j:Nat,r=(j:Int)∧∃h:j<c.Pins.length,c.Pins[j].Clock=true∧∀i (hi:i<c.Pins.length),i<j->¬c.Pins[i].Clock=true):=by
 obtain⟨r,e,hr⟩:=Lh (xs:=c.Pins) (L:=fun m i=>HO n c.Pins (fun i5=>(some (-1))) m i) (f:=fun p=>TF n p) (P:=fun p=>p.Clock=true) (fun p _=>by rw [TF];exact BZ Iff.rfl) (fun m i hi=>by
  simp only [HO.eq_2,DA hi,cT,Ab hi,Av,wT i]) (fun m=>by
  simp only [HO.eq_2,DS,cF]) n (by omega)
 have e:HO n c.Pins (fun i5=>(some (-1))) n 0=some r:=e
 exact⟨r,by rw [QX,Ve,e];rfl,hr⟩
def eB(a:Be):Prop:=(a.Delay.length<=1048576∧∀t∈a.Delay,Ul t)∧(a.Slew.length<=1048576∧∀t∈a.Slew,Ul t)
structure SL(c:As):Prop where
 name:c.Name.size<=1048576
 pins:Yp c.Pins
 arcs:c.Arcs.length<=1048576∧∀a∈c.Arcs,eB a
 truth:c.Truth.length<=1048576
def Lv(c:As)(a:Be):Prop:=((0<=a.From∧a.From+2<=c.Pins.length)∧(0<=a.To∧a.To+1<=c.Pins.length))∧
 if a.Kind=1 then KC c.Pins a.From=false∧a.To+1=c.Pins.length∧(1<=a.Sense∧a.Sense<=3)∧Pp a.Delay true∧Pp a.Slew true
 else if a.Kind=2∨a.Kind=3 then KC c.Pins a.From=true∧a.To+1=c.Pins.length∧a.Sense=0∧Pp a.Delay true∧Pp a.Slew true
 else if a.Kind=4∨a.Kind=5 then KC c.Pins a.From=true∧a.To+1<c.Pins.length∧KC c.Pins a.To=false∧a.Sense=0∧Pp a.Delay false∧a.Slew.length=0
 else False
def RV(c:As)(a:Be)(r:Int):Prop:=
 if a.Kind=4∨a.Kind=5 then a.Sense=0∧a.Slew.length=0∧Pp a.Delay false∧a.From=r∧0<=a.From∧(0<=a.To∧a.To+2<=c.Pins.length)∧a.To≠a.From
 else Pp a.Delay true∧Pp a.Slew true∧a.To+1=c.Pins.length∧(0<=a.From∧a.From+2<=c.Pins.length)∧
  if a.Kind=1 then KC c.Pins a.From=false∧1<=a.Sense∧a.Sense<=3 else if a.Kind=2∨a.Kind=3 then KC c.Pins a.From=true∧a.Sense=0 else False
theorem XL(k:Int):k=1∨k=2∨k=3∨k=4∨k=5∨(k≠1∧k≠2∧k≠3∧k≠4∧k≠5):=by omega
theorem MU{x lo hi:Int}:(decide (x>=lo)&&decide (x<=hi))=true↔lo<=x∧x<=hi:=by simp only [Bool.and_eq_true,decide_eq_true_eq,ge_iff_le]
theorem eU{n:Nat}{c:As}{a:Be}(hp:c.Pins.length<=5)(h2:2<=c.Pins.length)(h:eB a)(hn:1048577<=n):BY (Lv c a) (Tm n c a):=by
 have w1:wrap .i64 ((c.Pins.length:Int)-1)=(c.Pins.length:Int)-1:=Aw (by omega) (by omega)
 have w2:wrap .i64 ((c.Pins.length:Int)-1-1)=(c.Pins.length:Int)-1-1:=Aw (by omega) (by omega)
 obtain⟨t1,e1,h1⟩:=gQ (n:=n) (pos:=true) h.1.2 hn
 obtain⟨t2,e2,h2'⟩:=gQ (n:=n) (pos:=true) h.2.2 hn
 obtain⟨t3,e3,h3⟩:=gQ (n:=n) (pos:=false) h.1.2 hn
 rw [Tm]
 simp only [Hj,Av,w1,w2,Ez]
 by_cases c1:(0<=a.From∧a.From+2<=c.Pins.length)∧(0<=a.To∧a.To+1<=c.Pins.length)
 ·have d1:(decide (a.From>=0)&&decide (a.From<=(c.Pins.length:Int)-1-1))=true:=MU.2 (by omega)
  have d2:(decide (a.To>=0)&&decide (a.To<=(c.Pins.length:Int)-1))=true:=MU.2 (by omega)
  obtain⟨x,ex,hx⟩:=Ym (l:=c.Pins) c1.1.1 (by omega)
  obtain⟨y,ey,hy⟩:=Ym (l:=c.Pins) c1.2.1 (by omega)
  simp only [d1,d2,Bool.not_true,Bool.or_self,cF,ex,ey,Av,hx,hy,e1,e2,e3,CV]
  have to1:(a.To==(c.Pins.length:Int)-1)=true↔a.To+1=c.Pins.length:=by rw [beq_iff_eq];omega
  have to2:decide (a.To<(c.Pins.length:Int)-1)=true↔a.To+1<c.Pins.length:=by rw [decide_eq_true_eq];omega
  have sl:((a.Slew.length:Int)==0)=true↔a.Slew.length=0:=by rw [beq_iff_eq];omega
  have nb:∀b:Bool,(!b)=true↔b=false:=by simp
  rcases XL a.Kind with k|k|k|k|k|k
  ·have:Lv c a↔_:=Iff.rfl
   simp only [k,show((1:Int)==1)=true from rfl,cT]
   refine BZ ?_
   unfold Lv
   simp only [k,if_true,Bool.and_eq_true,nb,to1,MU,h1,h2']
   exact⟨fun⟨⟨⟨⟨p,q⟩,s⟩,u⟩,v⟩=>⟨c1,p,q,by simpa using s,u,v⟩,fun⟨_,p,q,s,u,v⟩=>⟨⟨⟨⟨p,q⟩,by simpa using s⟩,u⟩,v⟩⟩
  ·simp only [k,show((2:Int)==1)=false from rfl,show((2:Int)==2)=true from rfl,cT,cF]
   refine BZ ?_
   unfold Lv
   simp only [k,show¬((2:Int)=1) by omega,if_false,true_or,if_true,Bool.and_eq_true,beq_iff_eq,to1,h1,h2']
   exact⟨fun⟨⟨⟨⟨p,q⟩,s⟩,u⟩,v⟩=>⟨c1,p,by omega,s,u,v⟩,fun⟨_,p,q,s,u,v⟩=>⟨⟨⟨⟨p,by omega⟩,s⟩,u⟩,v⟩⟩
  ·simp only [k,show((3:Int)==1)=false from rfl,show((3:Int)==2)=false from rfl,show((3:Int)==3)=true from rfl,cT,cF]
   refine BZ ?_
   unfold Lv
   simp only [k,show¬((3:Int)=1) by omega,if_false,or_true,if_true,Bool.and_eq_true,beq_iff_eq,to1,h1,h2']
   exact⟨fun⟨⟨⟨⟨p,q⟩,s⟩,u⟩,v⟩=>⟨c1,p,by omega,s,u,v⟩,fun⟨_,p,q,s,u,v⟩=>⟨⟨⟨⟨p,by omega⟩,s⟩,u⟩,v⟩⟩
  ·simp only [k,show((4:Int)==1)=false from rfl,show((4:Int)==2)=false from rfl,show((4:Int)==3)=false from rfl,show((4:Int)==4)=true from rfl,cT,cF]
   refine BZ ?_
   unfold Lv
   simp only [k,show¬((4:Int)=1) by omega,show¬((4:Int)=2∨(4:Int)=3) by omega,if_false,true_or,if_true,Bool.and_eq_true,beq_iff_eq,nb,to2,sl,h3,true_and]
   exact⟨fun⟨⟨⟨⟨⟨p,q⟩,z⟩,s⟩,u⟩,v⟩=>⟨c1,p,q,z,s,u,by omega⟩,fun⟨_,p,q,z,s,u,v⟩=>⟨⟨⟨⟨⟨p,q⟩,z⟩,s⟩,u⟩,by omega⟩⟩
  ·simp only [k,show((5:Int)==1)=false from rfl,show((5:Int)==2)=false from rfl,show((5:Int)==3)=false from rfl,show((5:Int)==4)=false from rfl,show((5:Int)==5)=true from rfl,cT,cF]
   refine BZ ?_
   unfold Lv
   simp only [k,show¬((5:Int)=1) by omega,show¬((5:Int)=2∨(5:Int)=3) by omega,if_false,or_true,if_true,Bool.and_eq_true,beq_iff_eq,nb,to2,sl,h3,true_and]
   exact⟨fun⟨⟨⟨⟨⟨p,q⟩,z⟩,s⟩,u⟩,v⟩=>⟨c1,p,q,z,s,u,by omega⟩,fun⟨_,p,q,z,s,u,v⟩=>⟨⟨⟨⟨⟨p,q⟩,z⟩,s⟩,u⟩,by omega⟩⟩
  ·obtain⟨k1,k2,k3,k4,k5⟩:=k
   simp only [beq_eq_false_iff_ne.2 k1,beq_eq_false_iff_ne.2 k2,beq_eq_false_iff_ne.2 k3,beq_eq_false_iff_ne.2 k4,beq_eq_false_iff_ne.2 k5,cF]
   refine BS fun v=>?_
   have:=v.2
   rw [if_neg k1,if_neg (by omega),if_neg (by omega)]at this
   exact this
 ·have d1:(!(decide (a.From>=0)&&decide (a.From<=(c.Pins.length:Int)-1-1))|| !(decide (a.To>=0)&&decide (a.To<=(c.Pins.length:Int)-1)))=true:=by
   rw [Bool.or_eq_true,Bool.not_eq_true',Bool.not_eq_true',Bool.and_eq_false_iff,Bool.and_eq_false_iff,decide_eq_false_iff_not,decide_eq_false_iff_not,decide_eq_false_iff_not,decide_eq_false_iff_not]
   omega
  simp only [d1,cT]
  exact BS fun v=>c1 v.1
theorem kN{n:Nat}{c:As}{a:Be}{r:Int}(hp:c.Pins.length<=5)(h2:2<=c.Pins.length)(h:eB a)(hr:QX n c=some r)(hn:1048577<=n):BY (RV c a r) (Sf n c a):=by
 have w1:wrap .i64 ((c.Pins.length:Int)-1)=(c.Pins.length:Int)-1:=Aw (by omega) (by omega)
 have w2:wrap .i64 ((c.Pins.length:Int)-1-1)=(c.Pins.length:Int)-1-1:=Aw (by omega) (by omega)
 obtain⟨t1,e1,h1⟩:=iQ (n:=n) (pos:=true) h.1.2 h.1.1 hn
 obtain⟨t2,e2,h2'⟩:=iQ (n:=n) (pos:=true) h.2.2 h.2.1 hn
 obtain⟨t3,e3,h3⟩:=iQ (n:=n) (pos:=false) h.1.2 h.1.1 hn
 rw [Sf]
 simp only [Wa,UA,On,Pe,KT,Av,w1,w2,e1,e2,e3,hr,CV,Ez]
 unfold RV
 by_cases k:a.Kind=4∨a.Kind=5
 ·have kb:((a.Kind==4)||(a.Kind==5))=true:=by rw [Bool.or_eq_true,beq_iff_eq,beq_iff_eq];exact k
  simp only [kb,cT,if_pos k]
  refine BZ ?_
  simp only [Bool.and_eq_true,beq_iff_eq,bne_iff_ne,decide_eq_true_eq,h3]
  exact⟨fun⟨⟨⟨⟨⟨⟨p,q⟩,s⟩,t⟩,u⟩,v⟩,x⟩=>⟨p,by omega,s,t,by omega,by omega,x⟩,fun⟨p,q,s,t,u,v,x⟩=>⟨⟨⟨⟨⟨⟨p,by omega⟩,s⟩,t⟩,by omega⟩,by omega⟩,x⟩⟩
 ·have kb:((a.Kind==4)||(a.Kind==5))=false:=by rw [Bool.or_eq_false_iff,beq_eq_false_iff_ne,beq_eq_false_iff_ne];omega
  simp only [kb,cF,if_neg k]
  by_cases g:(Pp a.Delay true∧Pp a.Slew true)∧a.To+1=c.Pins.length∧(0<=a.From∧a.From+2<=c.Pins.length)
  ·have gb:(((!t1|| !t2)||(a.To !=(c.Pins.length:Int)-1))|| !(decide (a.From>=0)&&decide (a.From<=(c.Pins.length:Int)-1-1)))=false:=by
    rw [h1.2 g.1.1,h2'.2 g.1.2]
    simp only [Bool.not_true,Bool.or_self,Bool.false_or,Bool.or_eq_false_iff,bne_eq_false_iff_eq,Bool.not_eq_false',MU];omega
   obtain⟨x,ex,hx⟩:=Ym (l:=c.Pins) g.2.2.1 (by omega)
   simp only [gb,cF,ex,Av,hx]
   have nb:∀b:Bool,(!b)=true↔b=false:=by simp
   have red:∀R:Prop,(Pp a.Delay true∧Pp a.Slew true∧a.To+1=c.Pins.length∧(0<=a.From∧a.From+2<=c.Pins.length)∧R)↔R:=fun R=>⟨fun q=>q.2.2.2.2,fun q=>⟨g.1.1,g.1.2,g.2.1,g.2.2,q⟩⟩
   rw [red]
   by_cases k1:a.Kind=1
   ·simp only [k1,show((1:Int)==1)=true from rfl,cT,if_true]
    refine BZ ?_
    simp only [Bool.and_eq_true,nb,decide_eq_true_eq]
   ·simp only [beq_eq_false_iff_ne.2 k1,cF,if_neg k1]
    by_cases k2:a.Kind=2
    ·simp only [k2,show((2:Int)==2)=true from rfl,cT,true_or,if_true]
     refine BZ ?_
     simp only [Bool.and_eq_true,beq_iff_eq]
    ·simp only [beq_eq_false_iff_ne.2 k2,cF]
     by_cases k3:a.Kind=3
     ·simp only [k3,show((3:Int)==3)=true from rfl,cT,or_true,if_true]
      refine BZ ?_
      simp only [Bool.and_eq_true,beq_iff_eq]
     ·simp only [beq_eq_false_iff_ne.2 k3,cF]
      rw [if_neg (by omega)]
      exact BS fun v=>v
  ·have gb:(((!t1|| !t2)||(a.To !=(c.Pins.length:Int)-1))|| !(decide (a.From>=0)&&decide (a.From<=(c.Pins.length:Int)-1-1)))=true:=by
    cases hq:(((!t1|| !t2)||(a.To !=(c.Pins.length:Int)-1))|| !(decide (a.From>=0)&&decide (a.From<=(c.Pins.length:Int)-1-1)))with
    |true=>rfl
    |false=>
     exfalso;apply g
     simp only [Bool.or_eq_false_iff,Bool.not_eq_false',bne_eq_false_iff_eq,MU]at hq
     exact⟨⟨h1.1 hq.1.1.1,h2'.1 hq.1.1.2⟩,by omega,by omega⟩
   simp only [gb,cT]
   exact BS fun v=>g ⟨⟨v.1,v.2.1⟩,v.2.2.1,v.2.2.2.1⟩
theorem Qw{c:As}{a:Be}{r:Int}(hv:KU c.Pins)(hc:cnt c.Pins<=1)(hr:r= -1∨∃j:Nat,r=(j:Int)∧∃h:j<c.Pins.length,c.Pins[j].Clock=true∧∀i (hi:i<c.Pins.length),i<j->¬c.Pins[i].Clock=true)(hr0:r>=0↔∃x∈c.Pins,x.Clock=true):Lv c a↔RV c a r:=by
 have few:=hv.few
 unfold Lv RV
 by_cases k:a.Kind=4∨a.Kind=5
 ·rw [if_neg (by omega),if_neg (by omega),if_pos k,if_pos k]
  constructor
  ·rintro ⟨⟨⟨a1,a2⟩,a3,a4⟩,b1,b2,b3,b4,b5,b6⟩
   obtain⟨f,hf⟩:=Int.eq_ofNat_of_zero_le a1
   have hf:a.From=(f:Int):=hf
   have hfl:f<c.Pins.length:=by omega
   have cf:c.Pins[f].Clock=true:=by rw [hf,Pv hfl]at b1;exact b1
   have hge:r>=0:=hr0.2 ⟨_,List.getElem_mem hfl,cf⟩
   rcases hr with hr|⟨j,rfl,hj,hj1,_⟩
   ·omega
   ·have:=RE hc hfl hj cf hj1
    subst this
    refine⟨b4,b6,b5,hf,a1,by omega,fun e=>?_⟩
    rw [e,b1]at b3;cases b3
  ·rintro ⟨b1,b2,b3,b4,b5,⟨b6,b7⟩,b8⟩
   rcases hr with hr|⟨j,hj0,hj,hj1,_⟩
   ·omega
   ·have cf:KC c.Pins a.From=true:=by rw [b4,hj0,Pv hj];exact hj1
    have hjl:j+1<c.Pins.length:=by
     by_cases q:j+1<c.Pins.length
     ·exact q
     ·have:=(hv.pin j hj).2.1 (by omega)
      rw [this.2.2]at hj1;cases hj1
    obtain⟨t,ht⟩:=Int.eq_ofNat_of_zero_le b6
    have ht:a.To=(t:Int):=ht
    have htl:t<c.Pins.length:=by omega
    refine⟨⟨⟨by omega,by omega⟩,by omega,by omega⟩,cf,by omega,?_,b1,b3,b2⟩
    rw [ht,Pv htl]
    cases hq:c.Pins[t].Clock with
    |false=>rfl
    |true=>have:=RE hc htl hj hq hj1;omega
 ·rw [if_neg k,if_neg k]
  by_cases k1:a.Kind=1
  ·rw [if_pos k1,if_pos k1]
   exact⟨fun⟨p,q,s,t,u,v⟩=>⟨u,v,s,p.1,q,t⟩,fun⟨u,v,s,p,q,t⟩=>⟨⟨p,by omega,by omega⟩,q,s,t,u,v⟩⟩
  ·rw [if_neg k1,if_neg k1]
   by_cases k2:a.Kind=2∨a.Kind=3
   ·rw [if_pos k2,if_pos k2]
    exact⟨fun⟨p,q,s,t,u,v⟩=>⟨u,v,s,p.1,q,t⟩,fun⟨u,v,s,p,q,t⟩=>⟨⟨p,by omega,by omega⟩,q,s,t,u,v⟩⟩
   ·rw [if_neg k2,if_neg k2]
    exact⟨fun h=>h.2.elim,fun h=>h.2.2.2.2.elim⟩
def Hn(a b:Be):Prop:=(a.Kind=b.Kind∧a.From=b.From)∧a.To=b.To
def Fh(l:List Be)(k:Int):Prop:=∃a∈l,a.Kind=k
def Ga(c:As):Prop:=
 (c.Kind=1∧cnt c.Pins=0∧c.Truth.length=2^(c.Pins.length-1)∧∀i,i<c.Truth.length->0<=gd c.Truth i∧gd c.Truth i<=1)∨
 (c.Kind=2∧cnt c.Pins=1∧c.Truth.length=0∧¬Fh c.Arcs 1∧¬(Fh c.Arcs 2↔Fh c.Arcs 3))∨
 (c.Kind=3∧cnt c.Pins=1∧c.Truth.length=0∧Fh c.Arcs 1∧Fh c.Arcs 2∧¬Fh c.Arcs 3)
def Te(A:Be->Prop)(l:List Be):Prop:=∀i (h:i<l.length),A l[i]∧∀j (hj:j<i),¬Hn l[j] l[i]
structure NU(c:As):Prop where
 name:ES c.Name=true
 pins:KU c.Pins
 few:c.Arcs.length<=8
 leak:0<=c.Leak∧c.Leak<=100000
 energy:0<=c.Energy∧c.Energy<=100000
 arcs:Te (Lv c) c.Arcs
 kind:Ga c
theorem Ga.cnt{c:As}(h:Ga c):cnt c.Pins<=1:=by
 rcases h with h|h|h<;>omega
theorem Kd{n:Nat}{c:As}(hl:c.Arcs.length<=1048576)(hk:∀a∈c.Arcs,0<=a.Kind∧a.Kind<6)(hn:1048577<=n):∃l,QZ n c=some l∧l.length=6∧∀k:Nat,k<6->0<=gd l k∧(gd l k>0↔Fh c.Arcs k):=by
 have m6:MK 6 8=some 6:=FJ (n:=6) (by omega) (by omega)
 rw [QZ,m6,Av]
 refine loop (L:=fun m i (l:List Int)=>IH c (fun i31 l33=>(some l33)) m i l) c.Arcs.length (fun i l=>l.length=6∧∀k:Nat,k<6->(0<=gd l k∧gd l k<=i)∧(gd l k>0↔Fh (c.Arcs.take i) k)) (fun o=>∃l,o=some l∧l.length=6∧∀k:Nat,k<6->0<=gd l k∧(gd l k>0↔Fh c.Arcs k)) ?_ ?_ n 0 (List.replicate 6 0) (by omega) (by omega) ⟨by simp,fun k hk=>?_⟩
 ·intro m i l hi ⟨hll,hI⟩
  have hx:=hk _ (List.getElem_mem hi)
  obtain⟨q,hq⟩:=Int.eq_ofNat_of_zero_le hx.1
  have hq:c.Arcs[i].Kind=(q:Int):=hq
  have hq6:q<6:=by omega
  have hg:AL l c.Arcs[i].Kind=some (gd l q):=by rw [hq];exact gI (by omega)
  have hb:=(hI q hq6).1
  refine .inl ⟨l.set q (gd l q+1),⟨by simpa using hll,fun k hk6=>?_⟩,?_⟩
  ·have h1:=hI k hk6
   rw [NC (by omega)]
   have hs:Fh (c.Arcs.take (i+1)) k↔Fh (c.Arcs.take i) k∨c.Arcs[i].Kind=(k:Int):=by
    rw [List.take_succ_eq_append_getElem hi]
    unfold Fh
    constructor
    ·rintro ⟨a,ha,e⟩
     rcases List.mem_append.1 ha with ha|ha
     ·exact .inl ⟨a,ha,e⟩
     ·obtain rfl:=List.mem_singleton.1 ha;exact .inr e
    ·rintro (⟨a,ha,e⟩|e)
     ·exact⟨a,List.mem_append.2 (.inl ha),e⟩
     ·exact⟨_,List.mem_append.2 (.inr (List.mem_singleton.2 rfl)),e⟩
   rw [hs]
   by_cases e:q=k
   ·subst e
    rw [if_pos rfl]
    exact⟨⟨by omega,by omega⟩,⟨fun _=>.inr hq,fun _=>by omega⟩⟩
   ·rw [if_neg e]
    refine⟨⟨by omega,by omega⟩,h1.2.trans ⟨.inl,fun h=>h.resolve_right fun h=>e (by omega)⟩⟩
  ·simp only [IH.eq_2,DA hi,cT,Ab hi,Av,hg,wT i,Aw (x:=gd l q+1) (by omega) (by omega)]
   rw [hq,Int.toNat_natCast]
 ·intro m l ⟨hll,hI⟩
  simp only [IH.eq_2,DS,cF]
  refine⟨l,rfl,hll,fun k hk6=>?_⟩
  have:=hI k hk6
  rw [List.take_length]at this
  exact⟨this.1.1,this.2⟩
 ·have:gd (List.replicate 6 0) k=0:=by simp only [gd,List.getD_eq_getElem?_getD,List.getElem?_replicate];split<;>rfl
  rw [this]
  refine⟨by omega,⟨fun h=>by omega,fun⟨a,ha,_⟩=>by simp at ha⟩⟩
theorem Hs{n:Nat}{c:As}(hl:c.Arcs.length<=1048576)(k:Int)(hn:1048577<=n):BY (Fh c.Arcs k) (Nj n c k):=by
 obtain⟨r,e,hr,_⟩:=Lh (xs:=c.Arcs) (L:=fun m i=>HI n c.Arcs k (fun i6=>(some (-1))) m i) (f:=fun a=>TD n a k) (P:=fun a=>a.Kind=k) (fun p _=>by rw [TD];exact BZ beq_iff_eq) (fun m i hi=>by
  simp only [HI.eq_2,DA hi,cT,Ab hi,Av,wT i]) (fun m=>by
  simp only [HI.eq_2,DS,cF]) n (by omega)
 have e:HI n c.Arcs k (fun i6=>(some (-1))) n 0=some r:=e
 rw [Nj,WN,Wm,e]
 exact BZ (by rw [decide_eq_true_eq];exact hr)
theorem TT{L:Nat}(h1:2<=L)(h2:L<=5):Hh .i64 1 ((L:Int)-1)=((2^(L-1):Nat):Int)∧Hh .i64 1 (IntKind.wrap IntKind.u64 ((L:Int)-1))=((2^(L-1):Nat):Int)∧decide (IntKind.wrap IntKind.u64 ((L:Int)-1)<0)=false:=by
 have:L=2∨L=3∨L=4∨L=5:=by omega
 rcases this with rfl|rfl|rfl|rfl<;>decide
theorem oS{n:Nat}{c:As}{o:Option Bool}{Q:Prop}(h:c.Truth.length<=1048576)(hn:1048577<=n)(hQ:BY Q o):BY ((∀i,i<c.Truth.length->0<=gd c.Truth i∧gd c.Truth i<=1)∧Q) (Hf n c (fun _=>o) n 0):=by
 refine(Ei (L:=fun m i=>Hf n c (fun _=>o) m i) (Q:=Q) c.Truth.length 0 (fun i=>0<=gd c.Truth i∧gd c.Truth i<=1) ?_ ?_ n 0 (by omega) (by omega) (by omega) (fun j _ h=>by omega)).iff ⟨fun a=>⟨fun i hi=>a.1 i (by omega) hi,a.2⟩,fun a=>⟨fun i _ hi=>a.1 i hi,a.2⟩⟩
 ·intro m i _ hi
  simp only [Hf.eq_2,DA hi,cT,gI hi,Av,Hj,wT i]
  by_cases c1:0<=gd c.Truth i∧gd c.Truth i<=1
  ·have d1:(decide (gd c.Truth i>=0)&&decide (gd c.Truth i<=1))=true:=MU.2 c1
   simp only [d1,Bool.not_true,cF]
   exact .inl ⟨c1,by trivial⟩
  ·have d1:(decide (gd c.Truth i>=0)&&decide (gd c.Truth i<=1))=false:=by
    rw [Bool.and_eq_false_iff,decide_eq_false_iff_not,decide_eq_false_iff_not];omega
   simp only [d1,Bool.not_false,cT]
   exact .inr ⟨c1,by trivial⟩
 ·intro m i h1 h2 _
  obtain rfl:i=c.Truth.length:=by omega
  simp only [Hf.eq_2,DS,cF]
  exact hQ
theorem mI{n:Nat}{c:As}{i:Nat}(hi:i<c.Arcs.length)(hl:c.Arcs.length<=1048576)(hn:1048577<=n)(k2:Int->Option Bool):(∀j (hj:j<i),¬Hn c.Arcs[j] c.Arcs[i])∧IC c i c.Arcs[i] k2 n 0=k2 i∨(¬∀j (hj:j<i),¬Hn c.Arcs[j] c.Arcs[i])∧IC c i c.Arcs[i] k2 n 0=some false:=by
 refine loop (L:=fun m j (_:Unit)=>IC c i c.Arcs[i] k2 m j) i (fun b _=>∀j (hj:j<i),j<b->¬Hn c.Arcs[j] c.Arcs[i]) (fun o=>(∀j (hj:j<i),¬Hn c.Arcs[j] c.Arcs[i])∧o=k2 i∨(¬∀j (hj:j<i),¬Hn c.Arcs[j] c.Arcs[i])∧o=some false) ?_ ?_ n 0 () (by omega) (by omega) (fun j _ hj=>by omega)
 ·intro m j _ hj hJ
  have e1:Hn c.Arcs[j] c.Arcs[i]↔(((c.Arcs[j].Kind==c.Arcs[i].Kind)&&(c.Arcs[j].From==c.Arcs[i].From))&&(c.Arcs[j].To==c.Arcs[i].To))=true:=by
   unfold Hn;simp only [Bool.and_eq_true,beq_iff_eq]
  simp only [IC.eq_2,DA hj,cT,Ab (show j<c.Arcs.length by omega),Av,CV,wT j]
  cases e:(((c.Arcs[j].Kind==c.Arcs[i].Kind)&&(c.Arcs[j].From==c.Arcs[i].From))&&(c.Arcs[j].To==c.Arcs[i].To))with
  |true=>exact .inr (.inr ⟨fun h=>h j hj (e1.2 e),by trivial⟩)
  |false=>
   refine .inl ⟨(),fun a ha hb=>?_,by trivial⟩
   by_cases ea:a=j
   ·subst ea;intro hs;rw [e1.1 hs]at e;cases e
   ·exact hJ a ha (by omega)
 ·intro m _ hJ
  simp only [IC.eq_2,DS,cF]
  exact .inl ⟨fun j hj=>hJ j hj hj,by trivial⟩
theorem jH{n:Nat}{c:As}(h:SL c)(hn:1048577<=n):BY (NU c) (cN n c):=by
 obtain⟨r,e,hr,hc⟩:=nW (n:=n) h.pins hn
 rw [cN,e]
 simp only [Av,eG h.name hn,Hj,Ez]
 by_cases g:(KU c.Pins∧ES c.Name=true)∧c.Arcs.length<=8∧(0<=c.Leak∧c.Leak<=100000)∧(0<=c.Energy∧c.Energy<=100000)
 ·have rt:r.2=true:=hr.2 g.1.1
  have gb:((((!r.2|| !ES c.Name)||decide ((c.Arcs.length:Int)>8))|| !(decide (c.Leak>=0)&&decide (c.Leak<=100000)))|| !(decide (c.Energy>=0)&&decide (c.Energy<=100000)))=false:=by
   rw [rt,g.1.2]
   simp only [Bool.not_true,Bool.or_self,Bool.false_or,Bool.or_eq_false_iff,decide_eq_false_iff_not,Bool.not_eq_false',MU];omega
  simp only [gb,cF]
  have few:=g.1.1.few
  have hal:=h.arcs.1
  have hcnt:=hc rt
  refine(Ei (L:=fun m i=>IG n c _ m i) (Q:=Ga c) c.Arcs.length 0 (fun i=>∀(hi:i<c.Arcs.length),Lv c c.Arcs[i]∧∀j (hj:j<i),¬Hn c.Arcs[j] c.Arcs[i]) ?_ ?_ n 0 (by omega) (by omega) (by omega) (fun j _ h=>by omega)).iff ?_
  ·intro m i _ hi
   obtain⟨b,e,hb⟩:=eU (n:=n) (c:=c) few.2 few.1 (h.arcs.2 _ (List.getElem_mem hi)) hn
   simp only [IG.eq_2,DA hi,cT,Ab hi,Av,e]
   cases b with
   |false=>exact .inr ⟨fun q=>(by have:=hb.2 (q hi).1;cases this),by trivial⟩
   |true=>
    simp only [Bool.not_true,cF,wT i]
    rcases mI (n:=n) hi hal hn (fun _=>IG n c _ m ((i+1:Nat):Int))with ⟨q1,q2⟩|⟨q1,q2⟩
    ·exact .inl ⟨fun _=>⟨hb.1 rfl,q1⟩,q2⟩
    ·exact .inr ⟨fun q=>q1 (q hi).2,q2⟩
  ·intro m i h1 h2 hA
   obtain rfl:i=c.Arcs.length:=by omega
   simp only [IG.eq_2,DS,cF]
   obtain⟨l,e,hl6,hl⟩:=Kd (n:=n) hal (fun a ha=>by
    obtain⟨j,hj,rfl⟩:=List.getElem_of_mem ha
    have:=(hA j (by omega) hj hj).1.2
    rcases XL c.Arcs[j].Kind with k|k|k|k|k|k<;>first|omega|skip
    obtain⟨k1,k2,k3,k4,k5⟩:=k
    rw [if_neg k1,if_neg (by omega),if_neg (by omega)]at this
    exact this.elim) hn
   have g1:AL l 1=some (gd l 1):=gI (i:=1) (by omega)
   have g2:AL l 2=some (gd l 2):=gI (i:=2) (by omega)
   have g3:AL l 3=some (gd l 3):=gI (i:=3) (by omega)
   have k1:0<=gd l 1∧(gd l 1>0↔Fh c.Arcs 1):=hl 1 (by omega)
   have k2:0<=gd l 2∧(gd l 2>0↔Fh c.Arcs 2):=hl 2 (by omega)
   have k3:0<=gd l 3∧(gd l 3>0↔Fh c.Arcs 3):=hl 3 (by omega)
   have wl:wrap .i64 ((c.Pins.length:Int)-1)=(c.Pins.length:Int)-1:=Aw (by omega) (by omega)
   obtain⟨s1,s2,s3⟩:=TT few.1 few.2
   rw [e,Av]
   simp only [g1,g2,g3,Av,wl,s2,s3,cF,CV]
   have tl:((c.Truth.length:Int)==0)=true↔c.Truth.length=0:=by rw [beq_iff_eq];omega
   have tw:((c.Truth.length:Int)==((2^(c.Pins.length-1):Nat):Int))=true↔c.Truth.length=2^(c.Pins.length-1):=by rw [beq_iff_eq];omega
   have c0:(r.1==0)=true↔cnt c.Pins=0:=by rw [beq_iff_eq,hcnt];omega
   have c1:(r.1==1)=true↔cnt c.Pins=1:=by rw [beq_iff_eq,hcnt];omega
   have kk1:(gd l 1==0)=true↔¬Fh c.Arcs 1:=by rw [beq_iff_eq,←k1.2];omega
   have kk3:(gd l 3==0)=true↔¬Fh c.Arcs 3:=by rw [beq_iff_eq,←k3.2];omega
   have p1:decide (gd l 1>0)=true↔Fh c.Arcs 1:=by rw [decide_eq_true_eq];exact k1.2
   have p2:decide (gd l 2>0)=true↔Fh c.Arcs 2:=by rw [decide_eq_true_eq];exact k2.2
   have p3:decide (gd l 3>0)=true↔Fh c.Arcs 3:=by rw [decide_eq_true_eq];exact k3.2
   have x23:(decide (gd l 2>0) !=decide (gd l 3>0))=true↔¬(Fh c.Arcs 2↔Fh c.Arcs 3):=by
    rw [←p2,←p3];cases decide (gd l 2>0)<;>cases decide (gd l 3>0)<;>simp
   by_cases q1:c.Kind=1
   ·simp only [q1,show((1:Int)==1)=true from rfl,cT]
    refine(oS (c:=c) (o:=some ((r.1==0)&&((c.Truth.length:Int)==((2^(c.Pins.length-1):Nat):Int)))) (Q:=cnt c.Pins=0∧c.Truth.length=2^(c.Pins.length-1)) h.truth hn (BZ (by rw [Bool.and_eq_true,c0,tw]))).iff ?_
    unfold Ga
    constructor
    ·rintro ⟨a,b,d⟩;exact .inl ⟨q1,b,d,a⟩
    ·rintro (⟨_,b,d,a⟩|⟨a,_⟩|⟨a,_⟩)
     ·exact⟨a,b,d⟩
     ·omega
     ·omega
   ·simp only [beq_eq_false_iff_ne.2 q1,cF]
    by_cases q2:c.Kind=2
    ·simp only [q2,show((2:Int)==2)=true from rfl,cT]
     refine BZ ?_
     rw [Bool.and_eq_true,Bool.and_eq_true,Bool.and_eq_true,c1,kk1,x23,tl]
     unfold Ga
     constructor
     ·rintro ⟨⟨⟨a,b⟩,d⟩,f⟩;exact .inr (.inl ⟨q2,a,f,b,d⟩)
     ·rintro (⟨a,_⟩|⟨_,a,f,b,d⟩|⟨a,_⟩)
      ·omega
      ·exact⟨⟨⟨a,b⟩,d⟩,f⟩
      ·omega
    ·simp only [beq_eq_false_iff_ne.2 q2,cF]
     by_cases q3:c.Kind=3
     ·simp only [q3,show((3:Int)==3)=true from rfl,cT]
      refine BZ ?_
      simp only [Bool.and_eq_true,true_and,c1,p1,p2,kk3,tl]
      unfold Ga
      constructor
      ·rintro ⟨⟨⟨⟨a,b⟩,d⟩,x⟩,f⟩;exact .inr (.inr ⟨q3,a,f,b,d,x⟩)
      ·rintro (⟨a,_⟩|⟨a,_⟩|⟨_,a,f,b,d,x⟩)
       ·omega
       ·omega
       ·exact⟨⟨⟨⟨a,b⟩,d⟩,x⟩,f⟩
     ·simp only [beq_eq_false_iff_ne.2 q3,cF]
      refine BS ?_
      rintro (⟨a,_⟩|⟨a,_⟩|⟨a,_⟩)
      ·exact q1 a
      ·exact q2 a
      ·exact q3 a
  ·constructor
   ·rintro ⟨a,b⟩
    exact⟨g.1.2,g.1.1,g.2.1,g.2.2.1,g.2.2.2,fun i hi=>a i (by omega) hi hi,b⟩
   ·rintro v
    exact⟨fun i _ _ hi=>v.arcs i hi,v.kind⟩
 ·have gb:((((!r.2|| !ES c.Name)||decide ((c.Arcs.length:Int)>8))|| !(decide (c.Leak>=0)&&decide (c.Leak<=100000)))|| !(decide (c.Energy>=0)&&decide (c.Energy<=100000)))=true:=by
   cases hq:((((!r.2|| !ES c.Name)||decide ((c.Arcs.length:Int)>8))|| !(decide (c.Leak>=0)&&decide (c.Leak<=100000)))|| !(decide (c.Energy>=0)&&decide (c.Energy<=100000)))with
   |true=>rfl
   |false=>
    exfalso;apply g
    simp only [Bool.or_eq_false_iff,Bool.not_eq_false',decide_eq_false_iff_not,MU]at hq
    exact⟨⟨hr.1 hq.1.1.1.1,hq.1.1.1.2⟩,by omega,by simpa using hq.1.2,by simpa using hq.2⟩
  simp only [gb,cT]
  exact BS fun v=>g ⟨⟨v.pins,v.name⟩,v.few,v.leak,v.energy⟩
theorem Cn{n:Nat}{l:List Bv}{K:Int->Option Bool}{c:As}(hc:c.Pins=l)(hl:l.length<=1048576)(hn:1048577<=n):Fm c (fun i _=>K i) n 0 0=K (cnt l):=by
 subst hc
 refine loop (L:=fun m i (q:Int)=>Fm c (fun i _=>K i) m q i) c.Pins.length (fun i q=>q=cnt (c.Pins.take i)) (fun o=>o=K (cnt c.Pins)) ?_ ?_ n 0 0 (by omega) (by omega) (by simp [cnt])
 ·intro m i q hi hq
  have ct:=PU hi
  have cl:cnt (c.Pins.take i)<=1048576:=Nat.le_trans List.countP_le_length (by simp;omega)
  cases hk:c.Pins[i].Clock with
  |true=>
   rw [hk,if_pos rfl]at ct
   refine .inl ⟨q+1,by rw [ct,hq];simp,?_⟩
   simp only [Fm.eq_2,DA hi,cT,Ab hi,Av,hk,wT i,Aw (x:=q+1) (by omega) (by omega)]
  |false=>
   rw [hk]at ct
   refine .inl ⟨q,by rw [ct,hq];simp,?_⟩
   simp only [Fm.eq_2,DA hi,cT,Ab hi,Av,hk,cF,wT i]
 ·intro m q hq
  rw [List.take_length]at hq
  simp only [Fm.eq_2,DS,cF,hq]
theorem mW{n:Nat}{c:As}(h:SL c)(hv:KU c.Pins)(hn:1048577<=n):BY (Ga c) (Up n c):=by
 have few:=hv.few
 obtain⟨b1,e1,h1⟩:=Hs (n:=n) h.arcs.1 1 hn
 obtain⟨b2,e2,h2⟩:=Hs (n:=n) h.arcs.1 2 hn
 obtain⟨b3,e3,h3⟩:=Hs (n:=n) h.arcs.1 3 hn
 have wl:wrap .i64 ((c.Pins.length:Int)-1)=(c.Pins.length:Int)-1:=Aw (by omega) (by omega)
 have o:=(Cn (n:=n) (c:=c) (l:=c.Pins) (K:=fun i16=>(cond (c.Kind==1) (Option.bind (cond (i16==0) (Option.bind (On n c) fun r20=>(cond (decide (r20<0)) none (some ((((c.Truth.length:Int))==(Hh .i64 1 r20)))))) (some false)) fun c20=>(Option.bind (cond c20 (Option.bind (Kv n c.Truth 0 1) fun r26=>(some r26)) (some false)) fun c26=>(some c26))) (cond (c.Kind==2) (Option.bind (cond (((i16==1))&&((((c.Truth.length:Int))==0))) (Option.bind (Nj n c 1) fun r38=>(some (!r38))) (some false)) fun c38=>(Option.bind (cond c38 (Option.bind (Nj n c 2) fun r43=>(Option.bind (Nj n c 3) fun r45=>(some ((r43 !=r45))))) (some false)) fun c43=>(some c43))) (cond (c.Kind==3) (Option.bind (cond (((i16==1))&&((((c.Truth.length:Int))==0))) (Option.bind (Nj n c 1) fun r61=>(some r61)) (some false)) fun c61=>(Option.bind (cond c61 (Option.bind (Nj n c 2) fun r74=>(some r74)) (some false)) fun c74=>(Option.bind (cond c74 (Option.bind (Nj n c 3) fun r87=>(some (!r87))) (some false)) fun c87=>(some c87)))) (some false))))) rfl h.pins.1 hn)
 have o2:Up n c=_:=o
 rw [o2]
 obtain⟨s1,s2,s3⟩:=TT few.1 few.2
 have d0:decide ((c.Pins.length:Int)-1<0)=false:=decide_eq_false (by omega)
 simp only [On,Pe,Av,wl,d0,cF,s1,AW (n:=n) h.truth hn,e1,e2,e3,CV]
 have tl:((c.Truth.length:Int)==0)=true↔c.Truth.length=0:=by rw [beq_iff_eq];omega
 have tw:((c.Truth.length:Int)==((2^(c.Pins.length-1):Nat):Int))=true↔c.Truth.length=2^(c.Pins.length-1):=by rw [beq_iff_eq];omega
 have c0:((cnt c.Pins:Int)==0)=true↔cnt c.Pins=0:=by rw [beq_iff_eq];omega
 have c1:((cnt c.Pins:Int)==1)=true↔cnt c.Pins=1:=by rw [beq_iff_eq];omega
 have n1:(!b1)=true↔¬Fh c.Arcs 1:=by rw [←h1];cases b1<;>simp
 have n3:(!b3)=true↔¬Fh c.Arcs 3:=by rw [←h3];cases b3<;>simp
 have x23:(b2 !=b3)=true↔¬(Fh c.Arcs 2↔Fh c.Arcs 3):=by rw [←h2,←h3];cases b2<;>cases b3<;>simp
 by_cases q1:c.Kind=1
 ·simp only [q1,show((1:Int)==1)=true from rfl,cT]
  refine BZ ?_
  rw [Bool.and_eq_true,Bool.and_eq_true,c0,tw,NM]
  unfold Ga
  constructor
  ·rintro ⟨⟨a,b⟩,d⟩;exact .inl ⟨q1,a,b,d⟩
  ·rintro (⟨_,a,b,d⟩|⟨a,_⟩|⟨a,_⟩)
   ·exact⟨⟨a,b⟩,d⟩
   ·omega
   ·omega
 ·simp only [beq_eq_false_iff_ne.2 q1,cF]
  by_cases q2:c.Kind=2
  ·simp only [q2,show((2:Int)==2)=true from rfl,cT]
   refine BZ ?_
   simp only [Bool.and_eq_true,c1,tl,n1,x23]
   unfold Ga
   constructor
   ·rintro ⟨⟨⟨a,b⟩,d⟩,f⟩;exact .inr (.inl ⟨q2,a,b,d,f⟩)
   ·rintro (⟨a,_⟩|⟨_,a,b,d,f⟩|⟨a,_⟩)
    ·omega
    ·exact⟨⟨⟨a,b⟩,d⟩,f⟩
    ·omega
  ·simp only [beq_eq_false_iff_ne.2 q2,cF]
   by_cases q3:c.Kind=3
   ·simp only [q3,show((3:Int)==3)=true from rfl,cT]
    refine BZ ?_
    simp only [Bool.and_eq_true,true_and,c1,tl,h1,h2,n3]
    unfold Ga
    constructor
    ·rintro ⟨⟨⟨⟨a,b⟩,d⟩,x⟩,f⟩;exact .inr (.inr ⟨q3,a,b,d,x,f⟩)
    ·rintro (⟨a,_⟩|⟨a,_⟩|⟨_,a,b,d,x,f⟩)
     ·omega
     ·omega
     ·exact⟨⟨⟨⟨a,b⟩,d⟩,x⟩,f⟩
   ·simp only [beq_eq_false_iff_ne.2 q3,cF]
    refine BS ?_
    rintro (⟨a,_⟩|⟨a,_⟩|⟨a,_⟩)
    ·exact q1 a
    ·exact q2 a
    ·exact q3 a
theorem nM{n:Nat}{c:As}{r:Int}(h:SL c)(hv:KU c.Pins)(hr:QX n c=some r)(hn:1048577<=n):BY (Te (fun a=>RV c a r) c.Arcs∧c.Arcs.length<=8) (UG n c):=by
 have few:=hv.few
 have hal:=h.arcs.1
 rw [UG]
 refine(Ei (L:=fun m i=>IF n c _ m i) (Q:=c.Arcs.length<=8) c.Arcs.length 0 (fun i=>∀(hi:i<c.Arcs.length),RV c c.Arcs[i] r∧∀j (hj:j<i),¬Hn c.Arcs[j] c.Arcs[i]) ?_ ?_ n 0 (by omega) (by omega) (by omega) (fun j _ h=>by omega)).iff ⟨fun a=>⟨fun i hi=>a.1 i (by omega) hi hi,a.2⟩,fun a=>⟨fun i _ _ hi=>a.1 i hi,a.2⟩⟩
 ·intro m i _ hi
  obtain⟨b,e,hb⟩:=kN (n:=n) (c:=c) few.2 few.1 (h.arcs.2 _ (List.getElem_mem hi)) hr hn
  have hsub:Hd c.Arcs 0 (i:Int)=some (c.Arcs.take i):=by
   unfold Hd
   rw [if_pos ⟨by omega,by omega,by omega⟩];simp
  obtain⟨q,e2,hq,_⟩:=Lh (xs:=c.Arcs.take i) (L:=fun m j=>HS n (c.Arcs.take i) c.Arcs[i] (fun i6=>(some (-1))) m j) (f:=fun a=>Uv n a c.Arcs[i]) (P:=fun a=>Hn a c.Arcs[i]) (fun p _=>by rw [Uv];exact BZ (by unfold Hn;simp only [Bool.and_eq_true,beq_iff_eq])) (fun m j hj=>by
   simp only [HS.eq_2,DA hj,cT,Ab hj,Av,wS (show j<4611686018427387904 by have:=hj;simp at this;omega)]) (fun m=>by
   simp only [HS.eq_2,DS,cF]) n (by simp;omega)
  have e2:HS n (c.Arcs.take i) c.Arcs[i] (fun i6=>(some (-1))) n 0=some q:=e2
  simp only [IF.eq_2,DA hi,cT,Ab hi,Av,e,hsub,Vi,VU,e2,Ez,wT i]
  have hd:(decide (q>=0))=true↔¬∀j (hj:j<i),¬Hn c.Arcs[j] c.Arcs[i]:=by
   rw [decide_eq_true_eq,hq]
   constructor
   ·rintro ⟨x,hx,hs⟩ hall
    obtain⟨j,hj,rfl⟩:=List.mem_take_iff_getElem.1 hx
    exact hall j (by omega) hs
   ·intro hna
    refine Classical.byContradiction fun hne=>hna fun j hj hs=>hne ⟨c.Arcs[j],List.mem_take_iff_getElem.2 ⟨j,by omega,rfl⟩,hs⟩
  cases hc:(!b||decide (q>=0))with
  |true=>
   refine .inr ⟨fun g=>?_,by trivial⟩
   have:=g hi
   rw [Bool.or_eq_true]at hc
   rcases hc with hc|hc
   ·rw [hb.2 this.1]at hc;cases hc
   ·exact hd.1 hc this.2
  |false=>
   rw [Bool.or_eq_false_iff]at hc
   refine .inl ⟨fun _=>⟨hb.1 (by simpa using hc.1),Classical.byContradiction fun g=>?_⟩,by trivial⟩
   have:=hd.2 g
   rw [hc.2]at this;cases this
 ·intro m i h1 h2 _
  obtain rfl:i=c.Arcs.length:=by omega
  simp only [IF.eq_2,DS,cF]
  exact BZ (by rw [decide_eq_true_eq];omega)
theorem iV{n:Nat}{c:As}(h:SL c)(hn:1048577<=n):BY (NU c) (UU n c):=by
 obtain⟨r,hr,hr0,hr1⟩:=Ck (n:=n) h.pins.1 hn
 rw [UU,lD h.name hn,Av]
 cases hnm:ES c.Name with
 |false=>
  simp only [cF,Av]
  exact BS fun v=>(by have:=v.name;rw [hnm]at this;cases this)
 |true=>
  obtain⟨b,e,hb⟩:=nU (n:=n) h.pins hn
  simp only [cT,e,Av]
  cases b with
  |false=>
   simp only [cF,Av]
   exact BS fun v=>(by have:=hb.2 v.pins;cases this)
  |true=>
   have hv:=hb.1 rfl
   obtain⟨b1,e1,h1⟩:=nM (n:=n) h hv hr hn
   obtain⟨b2,e2,h2⟩:=mW (n:=n) h hv hn
   simp only [cT,e1,e2,KT,Av,CV]
   refine BZ ?_
   rw [Bool.and_eq_true,Bool.and_eq_true,Bool.and_eq_true,h1,h2,MU,MU]
   constructor
   ·rintro ⟨⟨⟨⟨a,a8⟩,b⟩,d⟩,f⟩
    exact⟨hnm,hv,a8,b,d,fun i hi=>⟨(Qw hv f.cnt hr1 hr0).2 (a i hi).1,(a i hi).2⟩,f⟩
   ·rintro v
    exact⟨⟨⟨⟨fun i hi=>⟨(Qw hv v.kind.cnt hr1 hr0).1 (v.arcs i hi).1,(v.arcs i hi).2⟩,v.few⟩,v.leak⟩,v.energy⟩,v.kind⟩
def Fo(xs:List ByteArray):Prop:=∀k (h:k<xs.length),ES xs[k]=true∧∀i (hi:i<k),(xs[i].toList==xs[k].toList)=false
theorem YY{n:Nat}{xs:List ByteArray}(h:xs.length<=1048576)(hs:∀x∈xs,x.size<=1048576)(hn:1048577<=n):BY (Fo xs) (RZ n xs):=by
 rw [RZ]
 refine(Ei (L:=fun m i=>Gq n xs _ m i) (Q:=True) xs.length 0 (fun i=>∀(hi:i<xs.length),ES xs[i]=true∧∀j (hj:j<i),(xs[j].toList==xs[i].toList)=false) ?_ ?_ n 0 (by omega) (by omega) (by omega) (fun j _ h=>by omega)).iff ⟨fun a k hk=>a.1 k (by omega) hk hk,fun a=>⟨fun i _ _ hi=>a i hi,trivial⟩⟩
 ·intro m i _ hi
  simp only [Gq.eq_2,DA hi,cT,Ab hi,Av,eG (hs _ (List.getElem_mem hi)) hn]
  cases hb:ES xs[i]with
  |false=>simp only [Bool.not_false,cT];exact .inr ⟨fun g=>(by have:=(g hi).1;rw [hb]at this;cases this),trivial⟩
  |true=>
   simp only [Bool.not_true,cF]
   have key:JS xs (i:Int) (fun i22=>Gq n xs (fun i5=>some true) m (wrap .i64 ((i:Int)+1))) n 0=cond ((xs.take i).all (fun x=>!(x.toList==xs[i].toList))) (Gq n xs (fun i5=>some true) m (wrap .i64 ((i:Int)+1))) (some false):=by
    refine Nd (xs:=xs.take i) (L:=fun q j=>JS xs (i:Int) (fun i22=>Gq n xs (fun i5=>some true) m (wrap .i64 ((i:Int)+1))) q j) (fun x=>!(x.toList==xs[i].toList)) ?_ ?_ n (by simp;omega)
    ·intro q j hj
     have hj':j<i:=by simp at hj;omega
     have hd:decide ((j:Int)<(i:Int))=true:=decide_eq_true (by omega)
     simp only [JS.eq_2,hd,cT,Ab (show j<xs.length by omega),Ab hi,Av,List.getElem_take,wT j]
     cases(xs[j].toList==xs[i].toList)<;>rfl
    ·intro q
     have hl:(xs.take i).length=i:=by simp;omega
     have hd:decide (((xs.take i).length:Int)<(i:Int))=false:=decide_eq_false (by rw [hl];omega)
     simp only [JS.eq_2,hd,cF]
   rw [key]
   cases ha:(xs.take i).all (fun x=>!(x.toList==xs[i].toList))with
   |true=>
    rw [cT,wT i]
    refine .inl ⟨fun _=>⟨hb,fun j hj=>?_⟩,rfl⟩
    have:=List.all_eq_true.1 ha xs[j] (List.mem_take_iff_getElem.2 ⟨j,by omega,rfl⟩)
    simpa using this
   |false=>
    rw [cF]
    refine .inr ⟨fun g=>?_,rfl⟩
    have:(xs.take i).all (fun x=>!(x.toList==xs[i].toList))=true:=by
     rw [List.all_eq_true]
     intro x hx
     obtain⟨j,hj,rfl⟩:=List.mem_take_iff_getElem.1 hx
     have:=(g hi).2 j (by omega)
     simp [this]
    rw [ha]at this;cases this
 ·intro m i h1 h2 _
  obtain rfl:i=xs.length:=by omega
  simp only [Gq.eq_2,DS,cF]
  exact DF trivial
structure PM(l:Ay):Prop where
 few:l.Cells.length<=8
 cells:∀i (h:i<l.Cells.length),NU l.Cells[i]
 names:∀k (h:k<l.Cells.length),∀i (hi:i<k),(l.Cells[i].Name.toList==l.Cells[k].Name.toList)=false
def Pz(l:Ay):Prop:=l.Cells.length<=1048576∧∀c∈l.Cells,SL c
theorem nS{n:Nat}{l:Ay}(h:Pz l)(hn:1048577<=n):BY (PM l) (Zv n l):=by
 have h1:=h.1
 rw [Zv]
 refine(Ei (L:=fun m i=>Gv n l _ m i) (Q:=l.Cells.length<=8) l.Cells.length 0 (fun i=>∀(hi:i<l.Cells.length),NU l.Cells[i]∧∀j (hj:j<i),(l.Cells[j].Name.toList==l.Cells[i].Name.toList)=false) ?_ ?_ n 0 (by omega) (by omega) (by omega) (fun j _ h=>by omega)).iff ⟨fun a=>⟨a.2,fun i hi=>(a.1 i (by omega) hi hi).1,fun k hk=>(a.1 k (by omega) hk hk).2⟩,fun a=>⟨fun i _ _ hi=>⟨a.cells i hi,a.names i hi⟩,a.few⟩⟩
 ·intro m i _ hi
  obtain⟨b,e,hb⟩:=jH (n:=n) (h.2 _ (List.getElem_mem hi)) hn
  simp only [Gv.eq_2,DA hi,cT,Ab hi,Av,e]
  cases b with
  |false=>simp only [Bool.not_false,cT];exact .inr ⟨fun g=>(by have:=hb.2 (g hi).1;cases this),trivial⟩
  |true=>
   simp only [Bool.not_true,cF]
   have key:Jf l (i:Int) (fun i36=>Gv n l (fun i12=>some (decide ((l.Cells.length:Int)<=8))) m (wrap .i64 ((i:Int)+1))) n 0=cond ((l.Cells.take i).all (fun x=>!(x.Name.toList==l.Cells[i].Name.toList))) (Gv n l (fun i12=>some (decide ((l.Cells.length:Int)<=8))) m (wrap .i64 ((i:Int)+1))) (some false):=by
    refine Nd (xs:=l.Cells.take i) (L:=fun q j=>Jf l (i:Int) (fun i36=>Gv n l (fun i12=>some (decide ((l.Cells.length:Int)<=8))) m (wrap .i64 ((i:Int)+1))) q j) (fun x=>!(x.Name.toList==l.Cells[i].Name.toList)) ?_ ?_ n (by simp;omega)
    ·intro q j hj
     have hj':j<i:=by simp at hj;omega
     have hd:decide ((j:Int)<(i:Int))=true:=decide_eq_true (by omega)
     simp only [Jf.eq_2,hd,cT,Ab (show j<l.Cells.length by omega),Ab hi,Av,List.getElem_take,wT j]
     cases(l.Cells[j].Name.toList==l.Cells[i].Name.toList)<;>rfl
    ·intro q
     have hl:(l.Cells.take i).length=i:=by simp;omega
     have hd:decide (((l.Cells.take i).length:Int)<(i:Int))=false:=decide_eq_false (by rw [hl];omega)
     simp only [Jf.eq_2,hd,cF]
   rw [key]
   cases ha:(l.Cells.take i).all (fun x=>!(x.Name.toList==l.Cells[i].Name.toList))with
   |true=>
    rw [cT,wT i]
    refine .inl ⟨fun _=>⟨hb.1 rfl,fun j hj=>?_⟩,rfl⟩
    have:=List.all_eq_true.1 ha l.Cells[j] (List.mem_take_iff_getElem.2 ⟨j,by omega,rfl⟩)
    simpa using this
   |false=>
    rw [cF]
    refine .inr ⟨fun g=>?_,rfl⟩
    have:(l.Cells.take i).all (fun x=>!(x.Name.toList==l.Cells[i].Name.toList))=true:=by
     rw [List.all_eq_true]
     intro x hx
     obtain⟨j,hj,rfl⟩:=List.mem_take_iff_getElem.1 hx
     have:=(g hi).2 j (by omega)
     simp [this]
    rw [ha]at this;cases this
 ·intro m i h1 h2 _
  obtain rfl:i=l.Cells.length:=by omega
  simp only [Gv.eq_2,DS,cF]
  exact BZ (by rw [decide_eq_true_eq];omega)
theorem oF{n:Nat}{l:Ay}(h:Pz l)(hn:1048577<=n):BY (PM l) (UN n l):=by
 have h1:=h.1
 rw [UN]
 refine loop (L:=fun m i (s:List ByteArray)=>IZ n l _ m s i) l.Cells.length (fun i s=>s=(l.Cells.take i).map (·.Name)∧∀j (hj:j<l.Cells.length),j<i->NU l.Cells[j]) (fun o=>BY (PM l) o) ?_ ?_ n 0 [] (by omega) (by omega) ⟨by simp,fun j _ h=>by omega⟩
 ·intro m i s hi ⟨hs,hI⟩
  obtain⟨b,e,hb⟩:=iV (n:=n) (h.2 _ (List.getElem_mem hi)) hn
  have hsl:s.length=i:=by rw [hs];simp;omega
  simp only [IZ.eq_2,DA hi,cT,Ab hi,Av,e]
  cases b with
  |false=>simp only [Bool.not_false,cT];exact .inr (BS fun v=>by have:=hb.2 (v.cells i hi);cases this)
  |true=>
   simp only [Bool.not_true,cF,BO (show s.length+[l.Cells[i].Name].length<=16777216 by simp;omega) (show 16<=1048576 by omega),Av,wT i]
   refine .inl ⟨_,⟨?_,fun j hj hji=>?_⟩,rfl⟩
   ·rw [hs,List.take_succ_eq_append_getElem hi,List.map_append];rfl
   ·by_cases ej:j=i
    ·subst ej;exact hb.1 rfl
    ·exact hI j hj (by omega)
 ·intro m s ⟨hs,hI⟩
  rw [List.take_length]at hs
  have hsl:s.length=l.Cells.length:=by rw [hs];simp
  simp only [IZ.eq_2,DS,cF]
  by_cases c:l.Cells.length<=8
  ·have d:decide ((l.Cells.length:Int)<=8)=true:=decide_eq_true (by omega)
   obtain⟨b,e,hb⟩:=AN (n:=n) (xs:=s) (by omega) (fun x hx=>by
    rw [hs]at hx
    obtain⟨c,hc,rfl⟩:=List.mem_map.1 hx
    exact(h.2 c hc).name) hn
   simp only [d,cT,e,Av]
   refine BZ (hb.trans ⟨fun g=>⟨c,fun i hi=>hI i hi hi,fun k hk i hi=>?_⟩,fun v k hk=>⟨?_,fun i hi=>?_⟩⟩)
   ·have:=(g k (by omega)).2 i hi
    simpa [hs] using this
   ·have:=(v.cells k (by omega)).name
    simpa [hs] using this
   ·have:=v.names k (by omega) i hi
    simpa [hs] using this
  ·have d:decide ((l.Cells.length:Int)<=8)=false:=decide_eq_false (by omega)
   simp only [d,cF,Av]
   exact BS fun v=>c v.few
def RA(l:List Int)(lo hi:Int):Prop:=∀i,i<l.length->lo<=gd l i∧gd l i<=hi
theorem Qu{n:Nat}{l:List Int}{lo hi:Int}(h:l.length<=1048576)(hn:1048577<=n):BY (RA l lo hi) (Kv n l lo hi):=by
 rw [Kv,TR,UM]
 obtain⟨r,e,h⟩:=Jg (xs:=l) (L:=fun m i=>FO n l lo hi (fun i7=>(some (-1))) m i) (fun x=>!((decide (x>=lo))&&(decide (x<=hi)))) (by
  intro m i hi
  simp only [FO.eq_2,DA hi,cT,Ab hi,Av,SY,KT,wT i]) (by
  intro m
  simp only [FO.eq_2,DS,cF]) n (by omega)
 simp only [e,Av]
 refine BZ ?_
 rw [h,List.any_eq_not_all_not,Bool.not_not]
 simp only [Bool.not_not]
 exact NM
structure Pi(w:BU)(s:Int):Prop where
 many:1<=w.Parent.length∧w.Parent.length<=8
 res:w.Res.length=w.Parent.length
 cap:w.Cap.length=w.Parent.length
 sink:(w.Sink.length:Int)=s
 root:gd w.Parent 0= -1∧gd w.Res 0=0
 tree:∀i,0<i->i<w.Parent.length->0<=gd w.Parent i∧gd w.Parent i<=(i:Int)-1
 ress:RA w.Res 0 1000
 caps:RA w.Cap 0 500
 sinks:RA w.Sink 0 ((w.Parent.length:Int)-1)
def Node(w:BU)(i:Nat):Prop:=(i=0->gd w.Parent 0= -1∧gd w.Res 0=0)∧(0<i->0<=gd w.Parent i∧gd w.Parent i<=(i:Int)-1)
theorem oO{n:Nat}{w:BU}{s:Int}(h:w.Sink.length<=1048576)(hn:1048577<=n):BY (Pi w s) (Ua n w s):=by
 rw [Ua]
 refine Fi (fun c=>BS fun v=>?_) (fun c=>?_)
 ·have:=v.many;have:=v.res;have:=v.cap;have:=v.sink
  simp only [Bool.or_eq_true,decide_eq_true_eq,bne_iff_ne,ne_eq]at c;omega
 ·simp only [Bool.or_eq_false_iff,decide_eq_false_iff_not,bne_eq_false_iff_eq]at c
  obtain⟨⟨⟨⟨c1,c2⟩,c3⟩,c4⟩,c5⟩:=c
  refine(Ei (L:=fun m i=>Ie n w _ m i) (Q:=RA w.Sink 0 ((w.Parent.length:Int)-1)) w.Parent.length 0 (fun i=>(0<=gd w.Cap i∧gd w.Cap i<=500)∧(0<=gd w.Res i∧gd w.Res i<=1000)∧Node w i) ?_ ?_ n 0 (by omega) (by omega) (by omega) (fun j _ h=>by omega)).iff ⟨fun a=>⟨by omega,by omega,by omega,c5,(a.1 0 (by omega) (by omega)).2.2.1 rfl,fun i h1 h2=>(a.1 i (by omega) h2).2.2.2 h1,fun i hi=>(a.1 i (by omega) (by omega)).2.1,fun i hi=>(a.1 i (by omega) (by omega)).1,a.2⟩,fun v=>⟨fun i _ hi=>⟨v.caps i (by omega),v.ress i (by omega),fun _=>v.root,fun h=>v.tree i h hi⟩,v.sinks⟩⟩
  ·intro m i _ hi
   have w1:wrap .i64 ((i:Int)-1)=(i:Int)-1:=Aw (by omega) (by omega)
   simp only [Ie.eq_2,DA hi,cT,gI (show i<w.Parent.length by omega),gI (show i<w.Res.length by omega),gI (show i<w.Cap.length by omega),Av,Hj,Ez,CV,w1,wT i]
   cases e1:(!(decide (gd w.Cap i>=0)&&decide (gd w.Cap i<=500))|| !(decide (gd w.Res i>=0)&&decide (gd w.Res i<=1000)))with
   |true=>
    rw [cT]
    refine .inr ⟨fun g=>?_,rfl⟩
    simp only [Bool.or_eq_true,Bool.not_eq_true',Bool.and_eq_false_iff,decide_eq_false_iff_not]at e1;omega
   |false=>
    rw [cF]
    simp only [Bool.or_eq_false_iff,Bool.not_eq_false',Bool.and_eq_true,decide_eq_true_eq]at e1
    cases e2:((((i:Int)==0)&&((gd w.Parent i != -1)||(gd w.Res i !=0)))||(decide ((i:Int)>0)&& !(decide (gd w.Parent i>=0)&&decide (gd w.Parent i<=(i:Int)-1))))with
    |true=>
     rw [cT]
     refine .inr ⟨fun g=>?_,rfl⟩
     obtain⟨_,_,g1,g2⟩:=g
     simp only [Bool.or_eq_true,Bool.not_eq_true',Bool.and_eq_false_iff,Bool.and_eq_true,decide_eq_false_iff_not,decide_eq_true_eq,beq_iff_eq,bne_iff_ne,ne_eq]at e2
     by_cases z:i=0
     ·subst z;have:=g1 rfl;omega
     ·have:=g2 (by omega);omega
    |false=>
     rw [cF]
     refine .inl ⟨⟨by omega,by omega,?_⟩,rfl⟩
     simp only [Bool.or_eq_false_iff,Bool.not_eq_false',Bool.and_eq_false_iff,Bool.and_eq_true,decide_eq_false_iff_not,decide_eq_true_eq,beq_eq_false_iff_ne,bne_eq_false_iff_eq,ne_eq]at e2
     refine⟨fun z=>?_,fun z=>by omega⟩
     subst z;omega
  ·intro m i h1 h2 _
   obtain rfl:i=w.Parent.length:=by omega
   have w1:wrap .i64 ((w.Parent.length:Int)-1)=(w.Parent.length:Int)-1:=Aw (by omega) (by omega)
   simp only [Ie.eq_2,DS,cF]
   refine(Ei (L:=fun m i=>HT n w _ m i) (Q:=True) w.Sink.length 0 (fun i=>0<=gd w.Sink i∧gd w.Sink i<=(w.Parent.length:Int)-1) ?_ ?_ n 0 (by omega) (by omega) (by omega) (fun j _ h=>by omega)).iff ⟨fun a i hi=>a.1 i (by omega) hi,fun v=>⟨fun i _ hi=>v i hi,trivial⟩⟩
   ·intro m i _ hi
    simp only [HT.eq_2,DA hi,cT,gI hi,Av,Hj,w1,wT i]
    cases e:(!(decide (gd w.Sink i>=0)&&decide (gd w.Sink i<=(w.Parent.length:Int)-1)))with
    |true=>refine .inr ⟨fun g=>?_,by trivial⟩;simp only [Bool.not_eq_true',Bool.and_eq_false_iff,decide_eq_false_iff_not]at e;omega
    |false=>refine .inl ⟨?_,by trivial⟩;simp only [Bool.not_eq_false',Bool.and_eq_true,decide_eq_true_eq]at e;omega
   ·intro m i h1 h2 _
    obtain rfl:i=w.Sink.length:=by omega
    simp only [HT.eq_2,DS,cF]
    exact DF trivial
theorem jT{n:Nat}{w:BU}(h1:1<=w.Parent.length)(h:w.Parent.length<=8)(h2:w.Res.length=w.Parent.length)(hn:1048577<=n):BY (∀i,0<=i->i<w.Parent.length->Node w i) (Sm n w):=by
 rw [Sm]
 refine(Ei (L:=fun m i=>Ib n w _ m i) (Q:=True) w.Parent.length 0 (fun i=>Node w i) ?_ ?_ n 0 (by omega) (by omega) (by omega) (fun j _ h=>by omega)).iff ⟨fun a=>a.1,fun a=>⟨a,trivial⟩⟩
 ·intro m i _ hi
  have w1:wrap .i64 ((i:Int)-1)=(i:Int)-1:=Aw (by omega) (by omega)
  have w0:AL w.Res 0=some (gd w.Res 0):=gI (i:=0) (by omega)
  simp only [Ib.eq_2,DA hi,cT,gI hi,w0,Av,KT,Ez,CV,w1,wT i]
  cases e2:((((i:Int)==0)&&((gd w.Parent i != -1)||(gd w.Res 0 !=0)))||(decide ((i:Int)>0)&& !(decide (gd w.Parent i>=0)&&decide (gd w.Parent i<=(i:Int)-1))))with
  |true=>
   rw [cT]
   refine .inr ⟨fun g=>?_,rfl⟩
   obtain⟨g1,g2⟩:=g
   simp only [Bool.or_eq_true,Bool.not_eq_true',Bool.and_eq_false_iff,Bool.and_eq_true,decide_eq_false_iff_not,decide_eq_true_eq,beq_iff_eq,bne_iff_ne,ne_eq]at e2
   by_cases z:i=0
   ·subst z;have:=g1 rfl;omega
   ·have:=g2 (by omega);omega
  |false=>
   rw [cF]
   refine .inl ⟨?_,rfl⟩
   simp only [Bool.or_eq_false_iff,Bool.not_eq_false',Bool.and_eq_false_iff,Bool.and_eq_true,decide_eq_false_iff_not,decide_eq_true_eq,beq_eq_false_iff_ne,bne_eq_false_iff_eq,ne_eq]at e2
   refine⟨fun z=>?_,fun z=>by omega⟩
   subst z;omega
 ·intro m i h1 h2 _
  obtain rfl:i=w.Parent.length:=by omega
  simp only [Ib.eq_2,DS,cF]
  exact DF trivial
theorem BY.and{P Q:Prop}{o:Option Bool}{c:Bool}(hc:c=true↔P)(h:P->BY Q o):BY (P∧Q) (cond c o (some false)):=by
 cases c with
 |true=>exact(h (hc.1 rfl)).iff ⟨fun q=>⟨hc.1 rfl,q⟩,fun q=>q.2⟩
 |false=>exact BS fun q=>by have:=hc.2 q.1;cases this
theorem BY.ab{P R:Prop}{o:Option Bool}{f:Bool->Option Bool}(h:BY P o)(k:∀c:Bool,(c=true↔P)->BY R (f c)):BY R (Option.bind o f):=by
 obtain⟨b,rfl,h⟩:=h
 exact k b h
theorem Ng{o:Option Bool}:(Option.bind o fun r=>some r)=o:=by cases o<;>rfl
theorem oR{n:Nat}{w:BU}{s:Int}(h:w.Sink.length<=1048576)(hr:w.Res.length<=1048576)(hc:w.Cap.length<=1048576)(hp:w.Parent.length<=1048576)(hn:1048577<=n):BY (Pi w s) (Tj n w s):=by
 have w1:wrap .i64 ((w.Parent.length:Int)-1)=(w.Parent.length:Int)-1:=Aw (by omega) (by omega)
 rw [Tj]
 simp only [Mi,KT,Av,w1,CV,Ng]
 refine BY.ab (BY.and (P:=(1<=w.Parent.length∧w.Parent.length<=8)∧w.Res.length=w.Parent.length∧w.Cap.length=w.Parent.length) (Q:=∀i,0<=i->i<w.Parent.length->Node w i) ?_ fun p=>jT p.1.1 p.1.2 p.2.1 hn) fun c1 e1=>?_
 ·simp only [Bool.and_eq_true,decide_eq_true_eq,beq_iff_eq];omega
 refine BY.ab (BY.and e1 fun _=>Qu hr hn) fun c2 e2=>?_
 refine BY.ab (BY.and e2 fun _=>Qu hc hn) fun c3 e3=>?_
 refine(BY.and (P:=(((((1<=w.Parent.length∧w.Parent.length<=8)∧w.Res.length=w.Parent.length∧w.Cap.length=w.Parent.length)∧∀i,0<=i->i<w.Parent.length->Node w i)∧RA w.Res 0 1000)∧RA w.Cap 0 500)∧(w.Sink.length:Int)=s) ?_ fun _=>Qu h hn).iff ⟨fun⟨⟨⟨⟨⟨⟨a,b,c⟩,t⟩,r⟩,k⟩,s1⟩,s2⟩=>⟨a,b,c,s1,(t 0 (by omega) (by omega)).1 rfl,fun i h1 h2=>(t i (by omega) h2).2 h1,r,k,s2⟩,fun v=>⟨⟨⟨⟨⟨⟨v.many,v.res,v.cap⟩,fun i _ hi=>⟨fun _=>v.root,fun h=>v.tree i h hi⟩⟩,v.ress⟩,v.caps⟩,v.sink⟩,v.sinks⟩⟩
 rw [Bool.and_eq_true,e3,beq_iff_eq]
def Hq(t:List Int)(q:Int):List Int:=t.set q.toNat (gd t q.toNat+1)
def JW(x:At):Int:=gd x.Nets (x.Nets.length-1)
def cI(t:List Int)(x:At):List Int:=Hq t (JW x)
def cP(t:List Int)(p:Bb):List Int:=if p.Dir=1 then Hq t p.Net else t
def drv(d:AV):List Int:=d.Ports.foldl cP (d.Instances.foldl cI (List.replicate d.Nets.length 0))
structure KS(l:Ay)(d:AV)(x:At):Prop where
 cell:0<=x.Cell∧x.Cell<=(l.Cells.length:Int)-1
 pins:∀c,AL l.Cells x.Cell=some c->x.Nets.length=c.Pins.length
 nets:RA x.Nets 0 ((d.Nets.length:Int)-1)
structure ML(d:AV)(p:Bb):Prop where
 dir:p.Dir=1∨p.Dir=2
 net:0<=p.Net∧p.Net<=(d.Nets.length:Int)-1
structure Cu(l:Ay)(d:AV):Prop where
 lib:PM l
 few:d.Instances.length<=14∧d.Nets.length<=30∧d.Ports.length<=8
 inst:∀x∈d.Instances,KS l d x
 port:∀p∈d.Ports,ML d p
 ni:Fo (d.Instances.map (·.Name))
 np:Fo (d.Ports.map (·.Name))
 nn:Fo d.Nets
 one:∀i,i<d.Nets.length->gd (drv d) i=1
structure TE(d:AV):Prop where
 inst:d.Instances.length<=1048576∧∀x∈d.Instances,x.Name.size<=1048576∧x.Nets.length<=1048576
 nets:d.Nets.length<=1048576∧∀x∈d.Nets,x.size<=1048576
 ports:d.Ports.length<=1048576∧∀p∈d.Ports,p.Name.size<=1048576
theorem KS.long{l:Ay}{d:AV}{x:At}(v:KS l d x)(hl:PM l):2<=x.Nets.length∧x.Nets.length<=5:=by
 obtain⟨c,e,hc⟩:=EX (xs:=l.Cells) v.cell.1 (by have:=v.cell.2;omega)
 have h:=v.pins c e
 obtain⟨h1,h2⟩:=List.getElem?_eq_some_iff.1 hc
 have:=(hl.cells _ h1).pins.few
 rw [h2]at this;omega
theorem KS.last{l:Ay}{d:AV}{x:At}(v:KS l d x)(hl:PM l):0<=JW x∧JW x<d.Nets.length:=by
 have:=v.long hl
 have:=v.nets (x.Nets.length-1) (by omega)
 unfold JW;omega
theorem Ij{α:Type}{xs:List α}(nm:α->ByteArray){L:Nat->List ByteArray->Int->Option Bool}{k:List ByteArray->Option Bool}(hl:xs.length<=1048576)
 (hs:∀(m i:Nat) (h:i<xs.length) (s:List ByteArray),L (m+1) s (i:Int)=Option.bind (Bk s [nm xs[i]] 16) fun z=>L m z ((i+1:Nat):Int))
 (he:∀(m:Nat) (s:List ByteArray),L (m+1) s (xs.length:Int)=k s) (m:Nat) (hm:xs.length<m):L m [] 0=k (xs.map nm):=by
 refine loop (L:=fun m i s=>L m s i) xs.length (fun i s=>s=(xs.take i).map nm) (fun o=>o=k (xs.map nm)) ?_ ?_ m 0 [] (by omega) (by omega) (by simp)
 ·intro m i s hi e
  refine .inl ⟨s++[nm xs[i]],?_,?_⟩
  ·rw [e,List.take_succ_eq_append_getElem hi,List.map_append];rfl
  ·have:s.length=i:=by rw [e];simp;omega
   show L (m+1) s (i:Int)=_
   rw [hs m i hi,BO (by simp;omega) (by omega),Av]
 ·intro m s e
  rw [List.take_length]at e
  show L (m+1) s (xs.length:Int)=_
  rw [he,e]
def Rq(N B:Nat)(t:List Int):Prop:=t.length=N∧∀j,0<=gd t j∧gd t j<=B
theorem Rq.bump{N B:Nat}{t:List Int}{q:Int}(h:Rq N B t)(h0:0<=q)(h1:q<N):Rq N (B+1) (Hq t q):=by
 refine⟨by unfold Hq;simpa using h.1,fun j=>?_⟩
 unfold Hq
 rw [NC (by have:=h.1;omega)]
 have:=h.2 j;have:=h.2 q.toNat
 split<;>omega
theorem Rq.up{N B:Nat}{t:List Int}(h:Rq N B t):Rq N (B+1) t:=⟨h.1,fun j=>by have:=h.2 j;omega⟩
theorem Rq.step{N B:Nat}{t:List Int}{q:Int}(h:Rq N B t)(h0:0<=q)(h1:q<N)(hB:B<=1048576):AL t q=some (gd t q.toNat)∧t.set q.toNat (wrap .i64 (gd t q.toNat+1))=Hq t q:=by
 refine⟨RN h0 (by rw [h.1];exact h1),?_⟩
 have:=h.2 q.toNat
 rw [Aw (by omega) (by omega)];rfl
theorem Fc{α σ:Type}{f:σ->α->σ}{xs:List α}{i:Nat}{s:σ}(h:i<xs.length):(xs.take (i+1)).foldl f s=f ((xs.take i).foldl f s) xs[i]:=by
 rw [List.take_succ_eq_append_getElem h,List.foldl_append];rfl
theorem nD{n:Nat}{l:Ay}{d:AV}(hl:PM l)(h:TE d)(hn:1048577<=n):BY ((∀x∈d.Instances,KS l d x)∧∀p∈d.Ports,ML d p) (bY n l d):=by
 have hi0:=h.inst.1;have hp0:=h.ports.1;have hn0:=h.nets.1;have hl0:=hl.few
 have wN:wrap .i64 ((d.Nets.length:Int)-1)=(d.Nets.length:Int)-1:=Aw (by omega) (by omega)
 have wL:wrap .i64 ((l.Cells.length:Int)-1)=(l.Cells.length:Int)-1:=Aw (by omega) (by omega)
 rw [bY]
 refine(Ei (L:=fun m i=>Gg n l d _ m i) (Q:=∀p∈d.Ports,ML d p) d.Instances.length 0 (fun i=>∀(hi:i<d.Instances.length),KS l d d.Instances[i]) ?_ ?_ n 0 (by omega) (by omega) (by omega) (fun j _ h=>by omega)).iff ⟨fun a=>⟨fun x hx=>?_,a.2⟩,fun a=>⟨fun i _ _ hi=>a.1 _ (List.getElem_mem hi),a.2⟩⟩
 ·intro m i _ hi
  simp only [Gg.eq_2,DA hi,cT,Ab hi,Av,Hj,wL,wT i]
  by_cases c1:0<=d.Instances[i].Cell∧d.Instances[i].Cell<=(l.Cells.length:Int)-1
  ·obtain⟨c,ec,hc⟩:=EX (xs:=l.Cells) c1.1 (by omega)
   have d1:(decide (d.Instances[i].Cell>=0)&&decide (d.Instances[i].Cell<=(l.Cells.length:Int)-1))=true:=by simp only [Bool.and_eq_true,decide_eq_true_eq];omega
   simp only [d1,Bool.not_true,cF,ec,Av]
   by_cases c2:d.Instances[i].Nets.length=c.Pins.length
   ·have d2:((d.Instances[i].Nets.length:Int) !=(c.Pins.length:Int))=false:=by rw [bne_eq_false_iff_eq];omega
    simp only [d2,cF]
    have hnl:=(h.inst.2 _ (List.getElem_mem hi)).2
    have key:JZ n d d.Instances[i] (fun i75=>Gg n l d (fun i25=>GF n d (fun i30=>some true) n 0) m ((i+1:Nat):Int)) n 0=cond (d.Instances[i].Nets.all (fun k=>decide (k>=0)&&decide (k<=(d.Nets.length:Int)-1))) (Gg n l d (fun i25=>GF n d (fun i30=>some true) n 0) m ((i+1:Nat):Int)) (some false):=by
     refine Nd (xs:=d.Instances[i].Nets) (L:=fun q j=>JZ n d d.Instances[i] (fun i75=>Gg n l d (fun i25=>GF n d (fun i30=>some true) n 0) m ((i+1:Nat):Int)) q j) _ ?_ ?_ n (by omega)
     ·intro q j hj
      simp only [JZ.eq_2,DA hj,cT,Ab hj,Av,Hj,wN,wT j]
      cases(decide (d.Instances[i].Nets[j]>=0)&&decide (d.Instances[i].Nets[j]<=(d.Nets.length:Int)-1))<;>rfl
     ·intro q
      simp only [JZ.eq_2,DS,cF]
    rw [key]
    cases ha:d.Instances[i].Nets.all (fun k=>decide (k>=0)&&decide (k<=(d.Nets.length:Int)-1))with
    |true=>
     rw [cT]
     exact .inl ⟨fun _=>⟨c1,fun c' e'=>(by rw [ec]at e';cases e';exact c2),NM.1 ha⟩,rfl⟩
    |false=>
     rw [cF]
     exact .inr ⟨fun g=>(by have:=NM.2 (g hi).nets;rw [ha]at this;cases this),rfl⟩
   ·have d2:((d.Instances[i].Nets.length:Int) !=(c.Pins.length:Int))=true:=by rw [bne_iff_ne];omega
    simp only [d2,cT]
    exact .inr ⟨fun g=>c2 ((g hi).pins c ec),by trivial⟩
  ·have d1:(decide (d.Instances[i].Cell>=0)&&decide (d.Instances[i].Cell<=(l.Cells.length:Int)-1))=false:=by rw [Bool.and_eq_false_iff,decide_eq_false_iff_not,decide_eq_false_iff_not];omega
   simp only [d1,Bool.not_false,cT,Av]
   exact .inr ⟨fun g=>c1 (g hi).cell,by trivial⟩
 ·intro m i h1 h2 _
  obtain rfl:i=d.Instances.length:=by omega
  simp only [Gg.eq_2,DS,cF]
  refine(Ei (L:=fun m i=>GF n d _ m i) (Q:=True) d.Ports.length 0 (fun i=>∀(hi:i<d.Ports.length),ML d d.Ports[i]) ?_ ?_ n 0 (by omega) (by omega) (by omega) (fun j _ h=>by omega)).iff ⟨fun a p hp=>?_,fun a=>⟨fun i _ _ hi=>a _ (List.getElem_mem hi),trivial⟩⟩
  ·intro m i _ hi
   simp only [GF.eq_2,DA hi,cT,Ab hi,Av,Hj,wN,Ez,wT i]
   cases e1:(!(decide (d.Ports[i].Dir>=1)&&decide (d.Ports[i].Dir<=2))|| !(decide (d.Ports[i].Net>=0)&&decide (d.Ports[i].Net<=(d.Nets.length:Int)-1)))with
   |true=>
    rw [cT]
    refine .inr ⟨fun g=>?_,rfl⟩
    have:=(g hi).dir;have:=(g hi).net
    simp only [Bool.or_eq_true,Bool.not_eq_true',Bool.and_eq_false_iff,decide_eq_false_iff_not]at e1;omega
   |false=>
    rw [cF]
    simp only [Bool.or_eq_false_iff,Bool.not_eq_false',Bool.and_eq_true,decide_eq_true_eq]at e1
    exact .inl ⟨fun _=>⟨by omega,by omega⟩,rfl⟩
  ·intro m i h1 h2 _
   obtain rfl:i=d.Ports.length:=by omega
   simp only [GF.eq_2,DS,cF]
   exact DF trivial
  ·obtain⟨j,hj,rfl⟩:=List.getElem_of_mem hp
   exact a.1 j (by omega) hj hj
 ·obtain⟨j,hj,rfl⟩:=List.getElem_of_mem hx
  exact a.1 j (by omega) hj hj
theorem nI{n:Nat}{l:Ay}{d:AV}(h:Pz l)(hd:TE d)(hn:1048577<=n):BY (Cu l d) (eC n l d):=by
 have hi0:=hd.inst.1;have hp0:=hd.ports.1;have hn0:=hd.nets.1
 rw [eC]
 refine(nS h hn).bind (fun vl=>?_) (fun vl=>?_)
 ·simp only [Bool.not_true,Bool.false_or]
  by_cases c:(d.Instances.length<=14∧d.Nets.length<=30)∧d.Ports.length<=8
  ·have e:(decide ((d.Instances.length:Int)>14)||decide ((d.Nets.length:Int)>30)||decide ((d.Ports.length:Int)>8))=false:=by simp only [Bool.or_eq_false_iff,decide_eq_false_iff_not];omega
   simp only [e,cF]
   obtain⟨b,eb,hb⟩:=nD (n:=n) vl hd hn
   rw [eb,Av,Av]
   cases b with
   |false=>
    simp only [Bool.not_false,cT]
    exact BS fun v=>by have:=hb.2 ⟨v.inst,v.port⟩;cases this
   |true=>
    obtain⟨v1,v2⟩:=hb.1 rfl
    simp only [Bool.not_true,cF]
    rw [Ij (xs:=d.Instances) (·.Name) (L:=fun m s i=>Km d _ m s i) (k:=fun s=>IX d _ n [] 0) hi0 (by
     intro m i hi s
     simp only [Km.eq_2,DA hi,cT,Ab hi,Av,wT i]) (by
     intro m s
     simp only [Km.eq_2,DS,cF];rfl) n (by omega)]
    rw [Ij (xs:=d.Ports) (·.Name) (L:=fun m s i=>IX d _ m s i) hp0 (by
     intro m i hi s
     simp only [IX.eq_2,DA hi,cT,Ab hi,Av,wT i]) (by
     intro m s
     simp only [IX.eq_2,DS,cF];rfl) n (by omega)]
    obtain⟨b1,e1,h1⟩:=YY (n:=n) (xs:=d.Instances.map (·.Name)) (by simpa using hi0) (fun x hx=>by obtain⟨y,hy,rfl⟩:=List.mem_map.1 hx;exact(hd.inst.2 y hy).1) hn
    obtain⟨b2,e2,h2⟩:=YY (n:=n) (xs:=d.Ports.map (·.Name)) (by simpa using hp0) (fun x hx=>by obtain⟨y,hy,rfl⟩:=List.mem_map.1 hx;exact hd.ports.2 y hy) hn
    obtain⟨b3,e3,h3⟩:=YY (n:=n) (xs:=d.Nets) hn0 hd.nets.2 hn
    simp only [e1,e2,e3,Av,Ez]
    cases eb:((!b1|| !b2)|| !b3)with
    |true=>
     rw [cT]
     refine BS fun v=>?_
     have:=h1.2 v.ni;have:=h2.2 v.np;have:=h3.2 v.nn
     subst b1 b2 b3;cases eb
    |false=>
     rw [cF]
     simp only [Bool.or_eq_false_iff,Bool.not_eq_false']at eb
     obtain⟨⟨rfl,rfl⟩,rfl⟩:=eb
     rw [FJ (by omega) (by omega),Av]
     have k1:=OH (xs:=d.Instances) (L:=fun m i s=>Ix d (fun i149 l151=>Ff d (fun i155 l157=>Eg l157 (fun i161=>some true) n 0) n 0 l151) m i s) (k:=fun s=>Ff d (fun i155 l157=>Eg l157 (fun i161=>some true) n 0) n 0 s) cI (fun i s=>Rq d.Nets.length i s) (by
      intro m i hi s hs
      have hv:=v1 _ (List.getElem_mem hi)
      have hv2:=hv.long vl
      obtain⟨q0,q1⟩:=hv.last vl
      obtain⟨g1,g2⟩:=hs.step q0 q1 (by omega)
      have wx:wrap .i64 ((d.Instances[i].Nets.length:Int)-1)=((d.Instances[i].Nets.length-1:Nat):Int):=by rw [Aw (by omega) (by omega)];omega
      refine⟨?_,hs.bump q0 q1⟩
      simp only [Ix.eq_2,DA hi,cT,Ab hi,Av,wx,gI (show d.Instances[i].Nets.length-1<d.Instances[i].Nets.length by omega),wT i]
      rw [show gd d.Instances[i].Nets (d.Instances[i].Nets.length-1)=JW d.Instances[i]from rfl,g1,Av,Av,g2];rfl) (by
      intro m s _
      simp only [Ix.eq_2,DS,cF]) n (List.replicate d.Nets.length 0) ⟨by simp,fun j=>by rw [NB];omega⟩ (by omega)
     rw [k1.1]
     have k2:=OH (xs:=d.Ports) (L:=fun m i s=>Ff d (fun i155 l157=>Eg l157 (fun i161=>some true) n 0) m i s) (k:=fun s=>Eg s (fun i161=>some true) n 0) cP (fun i s=>Rq d.Nets.length (d.Instances.length+i) s) (by
      intro m i hi s hs
      have hv:=v2 _ (List.getElem_mem hi)
      obtain⟨g1,g2⟩:=hs.step hv.net.1 (by have:=hv.net.2;omega) (by omega)
      simp only [Ff.eq_2,DA hi,cT,Ab hi,Av,wT i,g1,g2]
      by_cases c:d.Ports[i].Dir=1
      ·have e:(d.Ports[i].Dir==1)=true:=beq_iff_eq.2 c
       have e':cP s d.Ports[i]=Hq s d.Ports[i].Net:=if_pos c
       rw [e,cT,e']
       exact⟨rfl,hs.bump hv.net.1 (by have:=hv.net.2;omega)⟩
      ·have e:(d.Ports[i].Dir==1)=false:=beq_eq_false_iff_ne.2 c
       have e':cP s d.Ports[i]=s:=if_neg c
       rw [e,cF,e']
       exact⟨rfl,hs.up⟩) (by
      intro m s _
      simp only [Ff.eq_2,DS,cF]) n _ k1.2 (by omega)
     rw [k2.1]
     show BY _ (Eg (drv d) (fun i161=>some true) n 0)
     have hlen:(drv d).length=d.Nets.length:=k2.2.1
     refine(Ei (L:=fun m i=>Eg (drv d) (fun i161=>some true) m i) (Q:=True) d.Nets.length 0 (fun i=>gd (drv d) i=1) ?_ ?_ n 0 (by omega) (by omega) (by omega) (fun j _ h=>by omega)).iff ⟨fun a=>⟨vl,⟨c.1.1,c.1.2,c.2⟩,v1,v2,h1.1 rfl,h2.1 rfl,h3.1 rfl,fun i hi=>a.1 i (by omega) hi⟩,fun v=>⟨fun i _ hi=>v.one i hi,trivial⟩⟩
     ·intro m i _ hi
      have hi':i<(drv d).length:=by omega
      simp only [Eg.eq_2,DA hi',cT,gI hi',Av,wT i]
      by_cases c:gd (drv d) i=1
      ·have e:(gd (drv d) i !=1)=false:=bne_eq_false_iff_eq.2 c
       rw [e,cF];exact .inl ⟨c,rfl⟩
      ·have e:(gd (drv d) i !=1)=true:=bne_iff_ne.2 c
       rw [e,cT];exact .inr ⟨c,rfl⟩
     ·intro m i q1 q2 _
      obtain rfl:i=d.Nets.length:=by omega
      rw [←hlen]
      simp only [Eg.eq_2,DS,cF]
      exact DF trivial
  ·have e:(decide ((d.Instances.length:Int)>14)||decide ((d.Nets.length:Int)>30)||decide ((d.Ports.length:Int)>8))=true:=by simp only [Bool.or_eq_true,decide_eq_true_eq];omega
   simp only [e,cT,Av]
   exact BS fun v=>c ⟨⟨v.few.1,v.few.2.1⟩,v.few.2.2⟩
 ·simp only [Bool.not_false,Bool.true_or,cT,Av]
  exact BS fun v=>vl v.lib
theorem nJ{n:Nat}{d:AV}(hd:TE d)(hn:1048577<=n):BY (((((d.Instances.length<=14∧d.Nets.length<=30)∧d.Ports.length<=8)∧Fo (d.Instances.map (·.Name)))∧Fo d.Nets)∧Fo (d.Ports.map (·.Name))) (aC n d):=by
 have hi0:=hd.inst.1;have hp0:=hd.ports.1;have hn0:=hd.nets.1
 rw [aC]
 rw [Ij (xs:=d.Instances) (·.Name) (L:=fun m s i=>LK d _ m s i) (k:=fun s=>Ir d _ n [] 0) hi0 (by
  intro m i hi s
  simp only [LK.eq_2,DA hi,cT,Ab hi,Av,wT i]) (by
  intro m s
  simp only [LK.eq_2,DS,cF];rfl) n (by omega)]
 rw [Ij (xs:=d.Ports) (·.Name) (L:=fun m s i=>Ir d _ m s i) hp0 (by
  intro m i hi s
  simp only [Ir.eq_2,DA hi,cT,Ab hi,Av,wT i]) (by
  intro m s
  simp only [Ir.eq_2,DS,cF];rfl) n (by omega)]
 simp only [Ng,List.length_map]
 refine BY.ab (BY.and (P:=(d.Instances.length<=14∧d.Nets.length<=30)∧d.Ports.length<=8) (Q:=Fo (d.Instances.map fun x:At=>x.Name)) ?_ fun _=>AN (xs:=d.Instances.map fun x:At=>x.Name) (by simpa using hi0) (fun x hx=>by obtain⟨y,hy,rfl⟩:=List.mem_map.1 hx;exact(hd.inst.2 y hy).1) hn) fun c1 e1=>?_
 ·simp only [Bool.and_eq_true,decide_eq_true_eq];omega
 refine BY.ab (BY.and (Q:=Fo d.Nets) e1 fun _=>AN hn0 hd.nets.2 hn) fun c2 e2=>?_
 exact BY.and (Q:=Fo (d.Ports.map fun x:Bb=>x.Name)) e2 fun _=>AN (xs:=d.Ports.map fun x:Bb=>x.Name) (by simpa using hp0) (fun x hx=>by obtain⟨y,hy,rfl⟩:=List.mem_map.1 hx;exact hd.ports.2 y hy) hn
theorem nN{n:Nat}{d:AV}{q:Int}(hn0:d.Nets.length<=1048576):Ri n d q=some (decide (q>=0)&&decide (q<=(d.Nets.length:Int)-1)):=by
 have wN:wrap .i64 ((d.Nets.length:Int)-1)=(d.Nets.length:Int)-1:=Aw (by omega) (by omega)
 simp only [Ri,WV,KT,Av,wN]
theorem fE{n:Nat}{l:Ay}{d:AV}{x:At}(hl:PM l)(hn0:d.Nets.length<=1048576)(hx:x.Nets.length<=1048576)(hn:1048577<=n):BY (KS l d x) (Ta n d l x):=by
 have hl0:=hl.few
 have wL:wrap .i64 ((l.Cells.length:Int)-1)=(l.Cells.length:Int)-1:=Aw (by omega) (by omega)
 rw [Ta]
 simp only [Vc,KT,Av,wL,Ng]
 by_cases c1:0<=x.Cell∧x.Cell<=(l.Cells.length:Int)-1
 ·obtain⟨c,ec,hc⟩:=EX (xs:=l.Cells) c1.1 (by omega)
  have d1:(decide (x.Cell>=0)&&decide (x.Cell<=(l.Cells.length:Int)-1))=true:=by simp only [Bool.and_eq_true,decide_eq_true_eq];omega
  simp only [d1,cT,ec,Av]
  by_cases c2:x.Nets.length=c.Pins.length
  ·have d2:((x.Nets.length:Int)==(c.Pins.length:Int))=true:=by rw [beq_iff_eq];omega
   simp only [d2,cT,Wf,Vx]
   obtain⟨r,e,h⟩:=Jg (xs:=x.Nets) (L:=fun m i=>JB n x.Nets d (fun i7=>(some (-1))) m i) (fun q=>!((decide (q>=0))&&(decide (q<=(d.Nets.length:Int)-1)))) (by
    intro m i hi
    simp only [JB.eq_2,DA hi,cT,Ab hi,Av,VZ,nN hn0,wT i]) (by
    intro m
    simp only [JB.eq_2,DS,cF]) n (by omega)
   simp only [e,Av]
   refine(BZ (P:=RA x.Nets 0 ((d.Nets.length:Int)-1)) ?_).iff ⟨fun w=>⟨c1,fun c' e'=>(by rw [ec]at e';cases e';exact c2),w⟩,fun v=>v.nets⟩
   rw [h,List.any_eq_not_all_not,Bool.not_not]
   simp only [Bool.not_not]
   exact NM
  ·have d2:((x.Nets.length:Int)==(c.Pins.length:Int))=false:=by rw [beq_eq_false_iff_ne];omega
   simp only [d2,cF]
   exact BS fun v=>c2 (v.pins c ec)
 ·have d1:(decide (x.Cell>=0)&&decide (x.Cell<=(l.Cells.length:Int)-1))=false:=by rw [Bool.and_eq_false_iff,decide_eq_false_iff_not,decide_eq_false_iff_not];omega
  simp only [d1,cF,Av]
  exact BS fun v=>c1 v.cell
theorem mQ{n:Nat}{l:Ay}{d:AV}(h:Pz l)(hd:TE d)(hn:1048577<=n):BY (Cu l d) (cS n l d):=by
 have hi0:=hd.inst.1;have hp0:=hd.ports.1;have hn0:=hd.nets.1
 rw [cS]
 refine(oF h hn).bind (fun vl=>?_) (fun vl=>?_)
 ·simp only [Bool.not_true,cF]
  obtain⟨b,eb,hb⟩:=nJ (n:=n) hd hn
  rw [eb,Av,Av]
  cases b with
  |false=>
   simp only [Bool.not_false,cT]
   exact BS fun v=>by have:=hb.2 ⟨⟨⟨⟨⟨v.few.1,v.few.2.1⟩,v.few.2.2⟩,v.ni⟩,v.nn⟩,v.np⟩;cases this
  |true=>
   obtain⟨⟨⟨c,hni⟩,hnn⟩,hnp⟩:=hb.1 rfl
   simp only [Bool.not_true,cF]
   rw [FJ (by omega) (by omega),Av]
   refine loop (L:=fun m i s=>Ky n l d _ m i s) d.Instances.length (fun i s=>(s=(d.Instances.take i).foldl cI (List.replicate d.Nets.length 0)∧Rq d.Nets.length i s)∧∀j (hj:j<d.Instances.length),j<i->KS l d d.Instances[j]) (fun o=>BY (Cu l d) o) ?_ ?_ n 0 _ (by omega) (by omega) ⟨⟨by simp,⟨by simp,fun j=>by rw [NB];omega⟩⟩,fun j _ h=>by omega⟩
   ·intro m i s hi ⟨⟨hs,hc⟩,hI⟩
    obtain⟨b,eb,hb⟩:=fE (n:=n) vl hn0 (hd.inst.2 _ (List.getElem_mem hi)).2 hn
    simp only [Ky.eq_2,DA hi,cT,Ab hi,Av,eb,wT i]
    cases b with
    |false=>
     simp only [Bool.not_false,cT]
     exact .inr (BS fun v=>by have:=hb.2 (v.inst _ (List.getElem_mem hi));cases this)
    |true=>
     simp only [Bool.not_true,cF]
     have hv:=hb.1 rfl
     have hv2:=hv.long vl
     obtain⟨q0,q1⟩:=hv.last vl
     obtain⟨g1,g2⟩:=hc.step q0 q1 (by omega)
     have wx:wrap .i64 ((d.Instances[i].Nets.length:Int)-1)=((d.Instances[i].Nets.length-1:Nat):Int):=by rw [Aw (by omega) (by omega)];omega
     refine .inl ⟨cI s d.Instances[i],⟨⟨by rw [Fc hi,hs],hc.bump q0 q1⟩,fun j hj hji=>?_⟩,?_⟩
     ·by_cases ej:j=i
      ·subst ej;exact hv
      ·exact hI j hj (by omega)
     ·rw [wx,gI (show d.Instances[i].Nets.length-1<d.Instances[i].Nets.length by omega),show gd d.Instances[i].Nets (d.Instances[i].Nets.length-1)=JW d.Instances[i]from rfl,Av,g1,Av,Av,g2];rfl
   ·intro m s ⟨⟨hs,hc⟩,hI⟩
    rw [List.take_length]at hs
    have v1:∀x∈d.Instances,KS l d x:=fun x hx=>by obtain⟨j,hj,rfl⟩:=List.getElem_of_mem hx;exact hI j hj hj
    simp only [Ky.eq_2,DS,cF]
    refine loop (L:=fun m i s=>IE n d _ m i s) d.Ports.length (fun i s'=>(s'=(d.Ports.take i).foldl cP s∧Rq d.Nets.length (d.Instances.length+i) s')∧∀j (hj:j<d.Ports.length),j<i->ML d d.Ports[j]) (fun o=>BY (Cu l d) o) ?_ ?_ n 0 _ (by omega) (by omega) ⟨⟨by simp,hc⟩,fun j _ h=>by omega⟩
    ·intro m i s' hi ⟨⟨hs',hc'⟩,hI'⟩
     simp only [IE.eq_2,DA hi,cT,Ab hi,Av,nN hn0,Ez,wT i]
     cases e1:(((d.Ports[i].Dir !=1)&&(d.Ports[i].Dir !=2))|| !(decide (d.Ports[i].Net>=0)&&decide (d.Ports[i].Net<=(d.Nets.length:Int)-1)))with
     |true=>
      rw [cT]
      refine .inr (BS fun v=>?_)
      have g:=v.port _ (List.getElem_mem hi)
      have:=g.dir;have:=g.net
      simp only [Bool.or_eq_true,Bool.not_eq_true',Bool.and_eq_false_iff,Bool.and_eq_true,decide_eq_false_iff_not,bne_iff_ne,ne_eq]at e1;omega
     |false=>
      rw [cF]
      simp only [Bool.or_eq_false_iff,Bool.not_eq_false',Bool.and_eq_true,Bool.and_eq_false_iff,decide_eq_true_eq,bne_eq_false_iff_eq]at e1
      have hv:ML d d.Ports[i]:=⟨e1.1,e1.2⟩
      obtain⟨g1,g2⟩:=hc'.step hv.net.1 (by have:=hv.net.2;omega) (by omega)
      have hV:∀j (hj:j<d.Ports.length),j<i+1->ML d d.Ports[j]:=fun j hj hji=>by
       by_cases ej:j=i
       ·subst ej;exact hv
       ·exact hI' j hj (by omega)
      simp only [g1,g2,Av]
      by_cases c:d.Ports[i].Dir=1
      ·have e:(d.Ports[i].Dir==1)=true:=beq_iff_eq.2 c
       have e':cP s' d.Ports[i]=Hq s' d.Ports[i].Net:=if_pos c
       rw [e,cT]
       exact .inl ⟨_,⟨⟨by rw [Fc hi,←hs',e'],hc'.bump hv.net.1 (by have:=hv.net.2;omega)⟩,hV⟩,rfl⟩
      ·have e:(d.Ports[i].Dir==1)=false:=beq_eq_false_iff_ne.2 c
       have e':cP s' d.Ports[i]=s':=if_neg c
       rw [e,cF]
       exact .inl ⟨_,⟨⟨by rw [Fc hi,←hs',e'],hc'.up⟩,hV⟩,rfl⟩
    ·intro m s' ⟨⟨hs',hc'⟩,hI'⟩
     rw [List.take_length,hs]at hs'
     have hs':s'=drv d:=hs'
     have v2:∀p∈d.Ports,ML d p:=fun x hx=>by obtain⟨j,hj,rfl⟩:=List.getElem_of_mem hx;exact hI' j hj hj
     simp only [IE.eq_2,DS,cF,Rs,Vp]
     have hl':=hc'.1
     obtain⟨r,e,h⟩:=Jg (xs:=s') (L:=fun m i=>JF n s' (fun i7=>(some (-1))) m i) (fun q=>q !=1) (by
      intro m i hi
      simp only [JF.eq_2,DA hi,cT,Ab hi,Av,Vs,wT i]) (by
      intro m
      simp only [JF.eq_2,DS,cF]) n (by omega)
     simp only [e,Av]
     refine BZ ?_
     rw [h,Bool.not_eq_true',List.any_eq_false]
     refine⟨fun a=>⟨vl,⟨c.1.1,c.1.2,c.2⟩,v1,v2,hni,hnp,hnn,fun i hi=>?_⟩,fun v x hx=>?_⟩
     ·have:=a s'[i] (List.getElem_mem (by omega))
      rw [←hs',LC (List.getElem?_eq_getElem (show i<s'.length by omega))]
      simpa using this
     ·obtain⟨j,hj,rfl⟩:=List.getElem_of_mem hx
      have:=v.one j (by omega)
      rw [←hs',LC (List.getElem?_eq_getElem hj)]at this
      simp [this]
 ·simp only [Bool.not_false,cT,Av]
  exact BS fun v=>vl v.lib
def Em{α β:Type}(g:Nat->α->List β):Nat->List α->List β
 |_,[]=>[]
 |i,x::xs=>g i x++Em g (i+1) xs
theorem LA{α β:Type}{g:Nat->α->List β}:∀(xs ys:List α) (i:Nat),Em g i (xs++ys)=Em g i xs++Em g (i+xs.length) ys
 |[],ys,i=>by simp [Em]
 |x::xs,ys,i=>by simp only [List.cons_append,Em,LA xs ys (i+1),List.append_assoc,List.length_cons];rw [show i+1+xs.length=i+(xs.length+1) by omega]
theorem Sh{α β:Type}{g:Nat->α->List β}{xs:List α}{i:Nat}(h:i<xs.length):Em g 0 (xs.take (i+1))=Em g 0 (xs.take i)++g i xs[i]:=by
 rw [List.take_succ_eq_append_getElem h,LA]
 simp [Em,Nat.min_eq_left (Nat.le_of_lt h)]
theorem En{α β:Type}{g:Nat->α->List β}{c:Nat}:∀(xs:List α) (i:Nat),(∀j,∀x∈xs,(g j x).length<=c)->(Em g i xs).length<=xs.length*c
 |[],i,_=>by simp [Em]
 |x::xs,i,h=>by
  have h1:=h i x (by simp)
  have h2:=En xs (i+1) fun j y hy=>h j y (by simp [hy])
  simp only [Em,List.length_append,List.length_cons,Nat.add_mul];omega
theorem Ok{α β γ:Type}{g:Nat->α->List β}(f:β->γ):∀(xs:List α) (i:Nat),(Em g i xs).map f=Em (fun i x=>(g i x).map f) i xs
 |[],i=>rfl
 |x::xs,i=>by simp only [Em,List.map_append,Ok f xs (i+1)]
theorem Ds{α β R:Type}{xs:List α}{L:Nat->List β->Int->Option R}{k:List β->Option R}(g:Nat->α->List β)(c B:Nat)(hg:∀j,∀x∈xs,(g j x).length<=c)(hB:B+xs.length*c<=1048576)
 (hs:∀(m i:Nat) (h:i<xs.length) (s:List β),s.length+c<=1048576->L (m+1) s (i:Int)=L m (s++g i xs[i]) ((i+1:Nat):Int))
 (he:∀(m:Nat) (s:List β),L (m+1) s (xs.length:Int)=k s) (m:Nat) (hm:xs.length<m) (s0:List β) (h0:s0.length<=B):L m s0 0=k (s0++Em g 0 xs):=by
 refine loop (L:=fun m i s=>L m s i) xs.length (fun i s=>s=s0++Em g 0 (xs.take i)) (fun o=>o=k (s0++Em g 0 xs)) ?_ ?_ m 0 s0 (by omega) (by omega) (by simp [Em])
 ·intro m i s hi e
  refine .inl ⟨s++g i xs[i],?_,hs m i hi s ?_⟩
  ·rw [e,Sh hi,List.append_assoc]
  ·have h1:=En (g:=g) (c:=c) (xs.take i) 0 fun j y hy=>hg j y (List.mem_of_mem_take hy)
   have h2:(xs.take i).length=i:=by simp;omega
   rw [h2]at h1
   have h3:(i+1)*c<=xs.length*c:=Nat.mul_le_mul_right c hi
   rw [Nat.add_mul]at h3
   rw [e,List.length_append];omega
 ·intro m s e
  rw [List.take_length]at e
  show L (m+1) s (xs.length:Int)=_
  rw [he,e]
def MI(i:Nat)(x:At):List BG:=Em (fun j q=>[BG.mk i j q ((j:Int)==(x.Nets.length:Int)-1)]) 0 x.Nets
def Rz(i:Nat)(p:Bb):List BG:=[BG.mk (-1) i p.Net (p.Dir==1)]
def pls(d:AV):List BG:=Em MI 0 d.Instances++Em Rz 0 d.Ports
def Gt(p:BG):BL:=⟨p.instance_,p.pin_,p.net_,p.drives_⟩
theorem MZ{i:Nat}{x:At}(h:x.Nets.length<=5):(MI i x).length<=5:=by
 have:=En (c:=1) (g:=fun j q=>[BG.mk i j q ((j:Int)==(x.Nets.length:Int)-1)]) x.Nets 0 fun j q _=>by simp
 unfold MI;omega
theorem Ce{d:AV}(h:∀x∈d.Instances,x.Nets.length<=5)(h1:d.Instances.length<=14)(h2:d.Ports.length<=8):(pls d).length<=78:=by
 have a:=En (c:=5) (g:=MI) d.Instances 0 fun j q hq=>MZ (h q hq)
 have b:=En (c:=1) (g:=Rz) d.Ports 0 fun j q _=>by simp [Rz]
 unfold pls;rw [List.length_append];omega
theorem WX{n:Nat}{d:AV}(h:∀x∈d.Instances,x.Nets.length<=5)(h1:d.Instances.length<=14)(h2:d.Ports.length<=8)(hn:1048577<=n):XE n d=some (pls d):=by
 rw [XE]
 have a:=En (c:=5) (g:=MI) d.Instances 0 fun j q hq=>MZ (h q hq)
 rw [Ds (xs:=d.Instances) (L:=fun m s i=>JC n d _ m s i) (k:=fun s=>HY d _ n s 0) MI 5 0 (fun j q hq=>MZ (h q hq)) (by omega) (by
  intro m i hi s hs
  have hx:=h _ (List.getElem_mem hi)
  have wx:wrap .i64 ((d.Instances[i].Nets.length:Int)-1)=(d.Instances[i].Nets.length:Int)-1:=Aw (by omega) (by omega)
  simp only [JC.eq_2,DA hi,cT,Ab hi,Av,wT i]
  refine Ds (xs:=d.Instances[i].Nets) (L:=fun m s j=>LD (i:Int) d.Instances[i] _ m s j) (k:=fun s=>JC n d _ m s ((i+1:Nat):Int)) (fun j q=>[BG.mk i j q ((j:Int)==(d.Instances[i].Nets.length:Int)-1)]) 1 s.length (fun j q _=>by simp) (by omega) ?_ ?_ n (by omega) s (by omega)
  ·intro m j hj s hs
   simp only [LD.eq_2,DA hj,cT,Ab hj,Av,wx,wT j]
   rw [BO (by simp;omega) (by omega),Av]
  ·intro m s
   simp only [LD.eq_2,DS,cF]) (by
  intro m s
  simp only [JC.eq_2,DS,cF];rfl) n (by omega) [] (by simp)]
 rw [Ds (xs:=d.Ports) (L:=fun m s i=>HY d _ m s i) (k:=fun s=>some s) Rz 1 70 (fun j q _=>by simp [Rz]) (by omega) (by
  intro m i hi s hs
  simp only [HY.eq_2,DA hi,cT,Ab hi,Av,wT i]
  rw [BO (by simp;omega) (by omega),Av];rfl) (by
  intro m s
  simp only [HY.eq_2,DS,cF]) n (by omega) _ (by simp;omega)]
 simp [pls]
theorem Oa{n:Nat}{d:AV}(h:∀x∈d.Instances,x.Nets.length<=5)(h1:d.Instances.length<=14)(h2:d.Ports.length<=8)(hn:1048577<=n):Rv n d=some ((pls d).map Gt):=by
 rw [Rv]
 have hlI:∀j,∀x∈d.Instances,((MI j x).map Gt).length<=5:=fun j x hx=>by rw [List.length_map];exact MZ (h x hx)
 have a:=En (c:=5) (g:=fun i x=>(MI i x).map Gt) d.Instances 0 hlI
 rw [Ds (xs:=d.Instances) (L:=fun m s i=>Ii n d _ m s i) (k:=fun s=>HW d _ n s 0) (fun i x=>(MI i x).map Gt) 5 0 hlI (by omega) (by
  intro m i hi s hs
  have hx:=h _ (List.getElem_mem hi)
  have wx:wrap .i64 ((d.Instances[i].Nets.length:Int)-1)=(d.Instances[i].Nets.length:Int)-1:=Aw (by omega) (by omega)
  simp only [Ii.eq_2,DA hi,cT,Ab hi,Av,wT i]
  rw [MI,Ok]
  refine Ds (xs:=d.Instances[i].Nets) (L:=fun m s j=>Kx (i:Int) d.Instances[i] _ m s j) (k:=fun s=>Ii n d _ m s ((i+1:Nat):Int)) (fun j q=>[BG.mk i j q ((j:Int)==(d.Instances[i].Nets.length:Int)-1)].map Gt) 1 s.length (fun j q _=>by simp) (by omega) ?_ ?_ n (by omega) s (by omega)
  ·intro m j hj s hs
   simp only [Kx.eq_2,DA hj,cT,Ab hj,Av,wx,wT j]
   rw [BO (by simp;omega) (by omega),Av];rfl
  ·intro m s
   simp only [Kx.eq_2,DS,cF]) (by
  intro m s
  simp only [Ii.eq_2,DS,cF];rfl) n (by omega) [] (by simp)]
 rw [Ds (xs:=d.Ports) (L:=fun m s i=>HW d _ m s i) (k:=fun s=>some s) (fun i x=>(Rz i x).map Gt) 1 70 (fun j q _=>by simp [Rz]) (by omega) (by
  intro m i hi s hs
  simp only [HW.eq_2,DA hi,cT,Ab hi,Av,wT i]
  rw [BO (by simp;omega) (by omega),Av];rfl) (by
  intro m s
  simp only [HW.eq_2,DS,cF]) n (by omega) _ (by simp;omega)]
 simp [pls,Ok]
def GJ(q:Int)(p:BG):Bool:=p.net_==q&& !p.drives_
def snk(d:AV)(q:Int):Nat:=(pls d).countP (GJ q)
structure CF(b:AJ):Prop where
 design:Cu b.Library b.Design
 many:b.Wires.length=b.Design.Nets.length
 wire:∀i (h:i<b.Wires.length),Pi b.Wires[i] (snk b.Design i)
def nO(w:BU):Prop:=((w.Parent.length<=1048576∧w.Res.length<=1048576)∧w.Cap.length<=1048576)∧w.Sink.length<=1048576
structure Lf(b:AJ):Prop where
 lib:Pz b.Library
 design:TE b.Design
 wires:b.Wires.length<=1048576∧∀w∈b.Wires,nO w
theorem Cu.short{l:Ay}{d:AV}(v:Cu l d):∀x∈d.Instances,x.Nets.length<=5:=fun x hx=>((v.inst x hx).long v.lib).2
theorem DR{α β:Type}{g:Nat->α->List β}{Q:β->Prop}:∀(xs:List α) (i:Nat),(∀j (h:j<xs.length),∀y∈g (i+j) xs[j],Q y)->∀y∈Em g i xs,Q y
 |[],i,_,y,hy=>by simp [Em]at hy
 |x::xs,i,h,y,hy=>by
  simp only [Em,List.mem_append]at hy
  rcases hy with hy|hy
  ·exact h 0 (by simp) y (by simpa using hy)
  ·refine DR xs (i+1) (fun j hj y hy=>h (j+1) (by simpa using hj) y ?_) y hy
   simpa [show i+1+j=i+(j+1) by omega] using hy
theorem Cu.net{l:Ay}{d:AV}(v:Cu l d):∀p∈pls d,0<=p.net_∧p.net_<d.Nets.length:=by
 intro p hp
 simp only [pls,List.mem_append]at hp
 rcases hp with hp|hp
 ·refine DR (Q:=fun p:BG=>0<=p.net_∧p.net_<d.Nets.length) d.Instances 0 (fun j hj y hy=>?_) p hp
  refine DR (Q:=fun p:BG=>0<=p.net_∧p.net_<d.Nets.length) _ 0 (fun k hk z hz=>?_) y hy
  have:=(v.inst _ (List.getElem_mem hj)).nets k hk
  rw [LC (List.getElem?_eq_getElem hk)]at this
  simp only [List.mem_singleton]at hz
  subst hz;show 0<=d.Instances[j].Nets[k]∧d.Instances[j].Nets[k]<_;omega
 ·refine DR (Q:=fun p:BG=>0<=p.net_∧p.net_<d.Nets.length) d.Ports 0 (fun j hj y hy=>?_) p hp
  have:=(v.port _ (List.getElem_mem hj)).net
  simp only [Rz,List.mem_singleton]at hy
  subst hy;show 0<=d.Ports[j].Net∧d.Ports[j].Net<_;omega
def IS(d:AV)(q:Int):List Int:=Em (fun i p=>if GJ q p=true then [(i:Int)]else []) 0 (pls d)
theorem Fw{d:AV}{q:Int}:(IS d q).length=snk d q:=by
 have:∀(xs:List BG) (i:Nat),(Em (fun i p=>if GJ q p=true then [(i:Int)]else []) i xs).length=xs.countP (GJ q):=by
  intro xs
  induction xs with
  |nil=>intro i;rfl
  |cons x xs ih=>
   intro i
   simp only [Em,List.length_append,ih,List.countP_cons]
   split<;>simp<;>omega
 exact this _ 0
theorem Xr{n:Nat}{l:Ay}{d:AV}(v:Cu l d)(q:Int)(hn:1048577<=n):VO n d q=some (IS d q):=by
 rw [VO,Oa v.short v.few.1 v.few.2.2 hn,Av]
 have hl:=Ce v.short v.few.1 v.few.2.2
 have e:((pls d).map Gt).length=(pls d).length:=by simp
 have:=Ds (xs:=(pls d).map Gt) (L:=fun m s i=>Gj q ((pls d).map Gt) (fun l38 i42=>some l38) m s i) (k:=fun s=>some s) (fun i p=>if (p.net_==q&& !p.drives_)=true then [(i:Int)]else []) 1 0 (fun j p _=>by split<;>simp) (by omega) (by
  intro m i hi s hs
  simp only [Gj.eq_2,DA hi,cT,Ab hi,Av,CV,wT i]
  cases c:(((pls d).map Gt)[i].net_==q&& !((pls d).map Gt)[i].drives_)with
  |true=>rw [cT,if_pos rfl,BO (by simp;omega) (by omega),Av]
  |false=>rw [cF,if_neg (by simp),List.append_nil]) (by
  intro m s
  simp only [Gj.eq_2,DS,cF]) n (by omega) [] (by simp)
 rw [this,List.nil_append]
 congr 1
 have:∀(xs:List BG) (i:Nat),Em (fun i (p:BL)=>if (p.net_==q&& !p.drives_)=true then [(i:Int)]else []) i (xs.map Gt)=Em (fun i p=>if GJ q p=true then [(i:Int)]else []) i xs:=by
  intro xs
  induction xs with
  |nil=>intro i;rfl
  |cons x xs ih=>intro i;simp only [List.map_cons,Em,ih];rfl
 exact this _ 0
theorem Wu{n:Nat}{b:AJ}(h:Lf b)(hn:1048577<=n):BY (CF b) (Rb n b):=by
 have hw0:=h.wires.1
 rw [Rb]
 refine(nI h.lib h.design hn).bind (fun v=>?_) (fun v=>?_)
 ·simp only [Bool.not_true,Bool.false_or]
  refine Fi (fun c=>BS fun g=>?_) (fun c=>?_)
  ·have:=g.many;rw [bne_iff_ne]at c;omega
  ·rw [bne_eq_false_iff_eq]at c
   refine(Ei (L:=fun m i=>Kr n b _ m i) (Q:=True) b.Wires.length 0 (fun i=>∀(hi:i<b.Wires.length),Pi b.Wires[i] (snk b.Design i)) ?_ ?_ n 0 (by omega) (by omega) (by omega) (fun j _ h=>by omega)).iff ⟨fun a=>⟨v,by omega,fun i hi=>a.1 i (by omega) hi hi⟩,fun a=>⟨fun i _ _ hi=>a.wire i hi,trivial⟩⟩
   ·intro m i _ hi
    obtain⟨r,e,hr⟩:=oO (n:=n) (w:=b.Wires[i]) (s:=(snk b.Design i:Int)) (h.wires.2 _ (List.getElem_mem hi)).2 hn
    simp only [Kr.eq_2,DA hi,cT,Ab hi,Av,Xr v _ hn,Fw,e,wT i]
    cases r with
    |true=>exact .inl ⟨fun _=>hr.1 rfl,by trivial⟩
    |false=>exact .inr ⟨fun g=>(by have:=hr.2 (g hi);cases this),by trivial⟩
   ·intro m i h1 h2 _
    obtain rfl:i=b.Wires.length:=by omega
    simp only [Kr.eq_2,DS,cF]
    exact DF trivial
 ·simp only [Bool.not_false,Bool.true_or,cT]
  exact BS fun g=>v g.design
theorem mV{n:Nat}{b:AJ}(h:Lf b)(hn:1048577<=n):BY (CF b) (Ui n b):=by
 have hw0:=h.wires.1
 rw [Ui]
 refine(mQ h.lib h.design hn).bind (fun v=>?_) (fun v=>?_)
 ·simp only [Bool.not_true,Bool.false_or]
  refine Fi (fun c=>BS fun g=>?_) (fun c=>?_)
  ·have:=g.many;rw [bne_iff_ne]at c;omega
  ·rw [bne_eq_false_iff_eq]at c
   have hl:=Ce v.short v.few.1 v.few.2.2
   rw [FJ (by omega) (by omega),Av,WX v.short v.few.1 v.few.2.2 hn,Av]
   refine loop (L:=fun m i s=>HF (pls b.Design) _ m i s) (pls b.Design).length (fun i s=>Rq b.Wires.length i s∧∀q:Nat,q<b.Wires.length->gd s q=((pls b.Design).take i).countP (GJ q)) (fun o=>BY (CF b) o) ?_ ?_ n 0 _ (by omega) (by omega) ⟨⟨by simp,fun j=>by rw [NB];omega⟩,fun q _=>by rw [NB];simp⟩
   ·intro m i s hi ⟨hc,hs⟩
    have hp:=v.net _ (List.getElem_mem hi)
    obtain⟨g1,g2⟩:=hc.step hp.1 (by omega) (by omega)
    simp only [HF.eq_2,DA hi,cT,Ab hi,Av,g1,g2,wT i]
    cases hd:(pls b.Design)[i].drives_ with
    |true=>
     simp only [Bool.not_true,cF]
     refine .inl ⟨s,⟨hc.up,fun q hq=>?_⟩,rfl⟩
     rw [hs q hq,List.take_succ_eq_append_getElem hi,List.countP_append]
     simp [GJ,hd]
    |false=>
     simp only [Bool.not_false,cT]
     refine .inl ⟨_,⟨hc.bump hp.1 (by omega),fun q hq=>?_⟩,rfl⟩
     rw [List.take_succ_eq_append_getElem hi,List.countP_append]
     unfold Hq
     rw [NC (by have:=hc.1;omega)]
     by_cases e:(pls b.Design)[i].net_.toNat=q
     ·have e2:(pls b.Design)[i].net_=(q:Int):=by omega
      rw [if_pos e,e,hs q hq]
      simp [GJ,hd,e2]
     ·have e2:¬(pls b.Design)[i].net_=(q:Int):=by omega
      rw [if_neg e,hs q hq]
      simp [GJ,hd,e2]
   ·intro m s ⟨hc,hs⟩
    simp only [HF.eq_2,DS,cF]
    refine(Ei (L:=fun m i=>HH n b s _ m i) (Q:=True) b.Wires.length 0 (fun i=>∀(hi:i<b.Wires.length),Pi b.Wires[i] (snk b.Design i)) ?_ ?_ n 0 (by omega) (by omega) (by omega) (fun j _ h=>by omega)).iff ⟨fun a=>⟨v,by omega,fun i hi=>a.1 i (by omega) hi hi⟩,fun a=>⟨fun i _ _ hi=>a.wire i hi,trivial⟩⟩
    ·intro m i _ hi
     have hw:=h.wires.2 _ (List.getElem_mem hi)
     obtain⟨r,e,hr⟩:=oR (n:=n) (w:=b.Wires[i]) (s:=(snk b.Design i:Int)) hw.2 hw.1.1.2 hw.1.2 hw.1.1.1 hn
     have hg:gd s i=(snk b.Design i:Int):=by rw [hs i hi,List.take_length];rfl
     simp only [HH.eq_2,DA hi,cT,Ab hi,gI (show i<s.length by rw [hc.1];exact hi),hg,Av,e,wT i]
     cases r with
     |true=>exact .inl ⟨fun _=>hr.1 rfl,by trivial⟩
     |false=>exact .inr ⟨fun g=>(by have:=hr.2 (g hi);cases this),by trivial⟩
    ·intro m i h1 h2 _
     obtain rfl:i=b.Wires.length:=by omega
     simp only [HH.eq_2,DS,cF]
     exact DF trivial
 ·simp only [Bool.not_false,Bool.true_or,cT]
  exact BS fun g=>v g.design
theorem Fq{σ R:Type}{Q:R->Prop}{L:Nat->Int->σ->Option R}(N:Nat)(I:Nat->σ->Prop)
 (hs:∀(m i:Nat) (st:σ),i<N->I i st->∃st',I (i+1) st'∧L (m+1) (i:Int) st=L m ((i+1:Nat):Int) st')
 (he:∀(m:Nat) (st:σ),I N st->Cm Q (L (m+1) (N:Int) st)) (m:Nat) (st:σ) (hm:N<m) (h:I 0 st):Cm Q (L m 0 st):=
 loop N I (Cm Q) (fun m i st a b=>.inl (hs m i st a b)) he m 0 st (by omega) (by omega) h
theorem Nz{σ R:Type}{Q:R->Prop}{L:Nat->Int->σ->Option R}(s N:Nat)(I:Nat->σ->Prop)
 (hs:∀(m i:Nat) (st:σ),s<=i->i<N->I i st->∃st',I (i+1) st'∧L (m+1) (i:Int) st=L m ((i+1:Nat):Int) st')
 (he:∀(m:Nat) (st:σ),I N st->Cm Q (L (m+1) (N:Int) st)) (m:Nat) (st:σ) (hsN:s<=N) (hm:N<m) (h:I s st):Cm Q (L m (s:Int) st):=
 loop N (fun i st=>s<=i∧I i st) (Cm Q) (fun m i st a b=>by
  obtain⟨st',h1,h2⟩:=hs m i st b.1 a b.2
  exact .inl ⟨st',⟨by have:=b.1;omega,h1⟩,h2⟩) (fun m st h=>he m st h.2) m s st hsN (by omega) ⟨Nat.le_refl _,h⟩
theorem jO{n:Nat}{l:Ay}{d:AV}(v:Cu l d)(q:Int)(hn:1048577<=n):VI n d q=some (IS d q):=by
 rw [VI,WX v.short v.few.1 v.few.2.2 hn,Av]
 have hl:=Ce v.short v.few.1 v.few.2.2
 have:=Ds (xs:=pls d) (L:=fun m s i=>HJ q (pls d) (fun l29 i33=>some l29) m s i) (k:=fun s=>some s) (fun i p=>if GJ q p=true then [(i:Int)]else []) 1 0 (fun j p _=>by split<;>simp) (by omega) (by
  intro m i hi s hs
  simp only [HJ.eq_2,DA hi,cT,Ab hi,Av,wT i]
  rw [show((pls d)[i].net_==q&& !(pls d)[i].drives_)=GJ q (pls d)[i]from rfl]
  cases c:GJ q (pls d)[i]with
  |true=>rw [cT,if_pos rfl,BO (by simp;omega) (by omega),Av]
  |false=>rw [cF,if_neg (by simp),List.append_nil]) (by
  intro m s
  simp only [HJ.eq_2,DS,cF]) n (by omega) [] (by simp)
 rw [this,List.nil_append];rfl
theorem LW{d:AV}{q:Int}:∀x∈IS d q,0<=x∧x<(pls d).length:=by
 refine DR (Q:=fun x:Int=>0<=x∧x<(pls d).length) _ 0 fun j hj y hy=>?_
 split at hy
 ·simp only [Nat.zero_add,List.mem_singleton]at hy;omega
 ·cases hy
theorem Cu.place{l:Ay}{d:AV}(v:Cu l d):∀p∈pls d,0<=p.instance_->∃x c pin,AL d.Instances p.instance_=some x∧AL l.Cells x.Cell=some c∧AL c.Pins p.pin_=some pin:=by
 intro p hp
 simp only [pls,List.mem_append]at hp
 rcases hp with hp|hp
 ·refine DR (Q:=fun p:BG=>0<=p.instance_->∃x c pin,AL d.Instances p.instance_=some x∧AL l.Cells x.Cell=some c∧AL c.Pins p.pin_=some pin) d.Instances 0 (fun j hj y hy=>?_) p hp
  refine DR (Q:=fun p:BG=>0<=p.instance_->∃x c pin,AL d.Instances p.instance_=some x∧AL l.Cells x.Cell=some c∧AL c.Pins p.pin_=some pin) _ 0 (fun k hk z hz=>?_) y hy
  have vi:=v.inst _ (List.getElem_mem hj)
  simp only [Nat.zero_add,List.mem_singleton]at hz
  subst hz
  intro _
  obtain⟨c,ec,_⟩:=EX (xs:=l.Cells) vi.cell.1 (by have:=vi.cell.2;omega)
  have hc:=vi.pins c ec
  exact⟨_,c,_,Ab hj,ec,Ab (show k<c.Pins.length by omega)⟩
 ·refine DR (Q:=fun p:BG=>0<=p.instance_->∃x c pin,AL d.Instances p.instance_=some x∧AL l.Cells x.Cell=some c∧AL c.Pins p.pin_=some pin) d.Ports 0 (fun j hj y hy=>?_) p hp
  simp only [Rz,List.mem_singleton]at hy
  subst hy;intro h;exact absurd h (by show¬(0:Int)<= -1;decide)
theorem gP{n:Nat}{l:Ay}{d:AV}(v:Cu l d){p:BG}(hp:p∈pls d):∃r,Sv n d l p=some r:=by
 rw [Sv]
 by_cases c:p.instance_<0
 ·rw [decide_eq_true c,cT];exact⟨_,rfl⟩
 ·obtain⟨x,c',pin,e1,e2,e3⟩:=v.place p hp (by omega)
  rw [decide_eq_false c,cF,e1,Av,e2,Av,e3,Av];exact⟨_,rfl⟩
theorem Ea{t:List Int}{i:Int}(h0:0<=i)(h1:i<t.length):∃x,AL t i=some x:=⟨_,RN h0 h1⟩
theorem lJ{n:Nat}{b:AJ}(v:CF b){i:Nat}(hi:i<b.Wires.length)(hn:1048577<=n):Cm (fun r=>r.length=b.Wires[i].Parent.length) (Zj n b (i:Int)):=by
 have vd:=v.design
 have vw:=v.wire i hi
 have hm:=vw.many
 have hP:=vw.cap
 have hl:=Ce vd.short vd.few.1 vd.few.2.2
 rw [Zj,Ab hi,Av,WW,BO (by simp;omega) (by omega),Av,Av,WX vd.short vd.few.1 vd.few.2.2 hn,Av,jO vd _ hn,Av,List.nil_append]
 have hsl:(IS b.Design (i:Int)).length=b.Wires[i].Sink.length:=by rw [Fw];have:=vw.sink;omega
 have hsn:snk b.Design (i:Int)<=78:=Nat.le_trans List.countP_le_length hl
 have hsn2:=Fw (d:=b.Design) (q:=(i:Int))
 refine Fq (L:=fun m j s=>LL n b b.Wires[i] (pls b.Design) (IS b.Design (i:Int)) _ m j s) (IS b.Design (i:Int)).length (fun _ s=>s.length=b.Wires[i].Parent.length) ?_ ?_ n _ (by omega) hP
 ·intro m j s hj hs
  have hj2:j<b.Wires[i].Sink.length:=by omega
  have hk:=vw.sinks j hj2
  have hq:=LW _ (List.getElem_mem hj)
  obtain⟨a,ea⟩:=Ea (t:=s) hk.1 (by omega)
  obtain⟨p,ep,hp⟩:=EX (xs:=pls b.Design) hq.1 hq.2
  obtain⟨r,er⟩:=gP (n:=n) vd (List.mem_of_getElem? hp)
  simp only [LL.eq_2,DA hj,cT,Ab hj,gI hj2,Av,ea,ep,er,wT j]
  exact⟨_,by simpa using hs,rfl⟩
 ·intro m s hs
  simp only [LL.eq_2,DS,cF]
  have wx:wrap .i64 ((s.length:Int)-1)=((s.length-1:Nat):Int):=by rw [Aw (by omega) (by omega)];omega
  rw [wx]
  have key:∀(m k:Nat) (s:List Int),k<b.Wires[i].Parent.length->s.length=b.Wires[i].Parent.length->k<m->Cm (fun r:List Int=>r.length=b.Wires[i].Parent.length) (Ja b.Wires[i] (fun i91 l93=>some l93) m (k:Int) s):=by
   intro m
   induction m with
   |zero=>intro k s _ _ h;omega
   |succ m ih=>
    intro k s hk hs hm
    by_cases c:0<k
    ·have hd:decide ((k:Int)>0)=true:=decide_eq_true (by omega)
     have ht:=vw.tree k c hk
     obtain⟨a,ea⟩:=Ea (t:=s) ht.1 (by omega)
     have wk:wrap .i64 ((k:Int)-1)=((k-1:Nat):Int):=by rw [Aw (by omega) (by omega)];omega
     simp only [Ja.eq_2,hd,cT,gI hk,Av,ea,gI (show k<s.length by omega),wk]
     exact ih (k-1) _ (by omega) (by simpa using hs) (by omega)
    ·have hd:decide ((k:Int)>0)=false:=decide_eq_false (by omega)
     simp only [Ja.eq_2,hd,cF]
     exact⟨s,rfl,hs⟩
  exact key n (s.length-1) s (by omega) hs (by omega)
theorem nC{n:Nat}{b:AJ}(v:CF b){i:Nat}(hi:i<b.Wires.length)(hn:1048577<=n):Cm (fun r=>r.length=b.Wires[i].Parent.length) (Ug n b (i:Int)):=by
 have vw:=v.wire i hi
 have hm:=vw.many
 have hR:=vw.res
 rw [Ug,Ab hi,Av]
 refine(lJ v hi hn).bind fun r e hr=>?_
 rw [FJ (by omega) (by omega),Av]
 refine Nz (L:=fun m j s=>IM b.Wires[i] r _ m j s) 1 b.Wires[i].Parent.length (fun _ s=>s.length=b.Wires[i].Parent.length) ?_ ?_ n _ (by omega) (by omega) (by simpa using hr)
 ·intro m j s h1 hj hs
  have ht:=vw.tree j (by omega) hj
  obtain⟨a,ea⟩:=Ea (t:=s) ht.1 (by omega)
  simp only [IM.eq_2,DA (show j<s.length by omega),cT,gI hj,gI (show j<b.Wires[i].Res.length by omega),gI (show j<r.length by omega),gI (show j<s.length by omega),Av,ea,wT j]
  exact⟨_,by simpa using hs,rfl⟩
 ·intro m s hs
  rw [←hs]
  simp only [IM.eq_2,DS,cF]
  exact⟨s,rfl,rfl⟩
theorem mX{n:Nat}{b:AJ}(v:CF b){i:Nat}(hi:i<b.Wires.length)(hn:1048577<=n):Cm (fun _=>True) (UX n b (i:Int)):=by
 have vw:=v.wire i hi
 have vd:=v.design
 have hl:=Ce vd.short vd.few.1 vd.few.2.2
 have hsn:snk b.Design (i:Int)<=78:=Nat.le_trans List.countP_le_length hl
 have hsk:=vw.sink
 rw [UX]
 refine(nC v hi hn).bind fun r e hr=>?_
 rw [Ab hi,Av]
 refine Fq (L:=fun m j s=>Ih r b.Wires[i] _ m s j) b.Wires[i].Sink.length (fun j s=>s.length=j) ?_ ?_ n _ (by omega) rfl
 ·intro m j s hj hs
  have hk:=vw.sinks j hj
  obtain⟨a,ea⟩:=Ea (t:=r) hk.1 (by omega)
  refine⟨s++[a],by simp;omega,?_⟩
  simp only [Ih.eq_2,DA hj,cT,gI hj,Av,ea,wT j]
  rw [BO (by simp;omega) (by omega),Av]
 ·intro m s hs
  simp only [Ih.eq_2,DS,cF]
  exact⟨s,rfl,trivial⟩
theorem oJ{n:Nat}(a:Be):Cm (fun r:List CY=>r.length<=4) (UE n a):=by
 rw [UE]
 repeat' refine Ao (fun _=>?_) (fun _=>?_)
 all_goals exact AQ (by simp)
theorem oK{n:Nat}{b:AJ}(v:CF b){x:At}(hx:x∈b.Design.Instances)(q:Int)(hn:1048577<=n):Cm (fun r:List AR=>r.length<=32) (cK n b x q):=by
 have vi:=v.design.inst x hx
 obtain⟨c,ec,hc⟩:=EX (xs:=b.Library.Cells) vi.cell.1 (by have:=vi.cell.2;omega)
 obtain⟨h1,h2⟩:=List.getElem?_eq_some_iff.1 hc
 have few:=(v.design.lib.cells _ h1).few
 rw [h2]at few
 rw [cK,ec,Av]
 refine Fq (L:=fun m j s=>GV n q c _ m s j) c.Arcs.length (fun j s=>s.length<=4*j) ?_ ?_ n _ (by omega) (by simp)
 ·intro m j s hj hs
  obtain⟨r,er,hr⟩:=oJ (n:=n) c.Arcs[j]
  have key:∃s',s'.length<=4*(j+1)∧JQ q (j:Int) c.Arcs[j] r (fun l88 i92=>GV n q c (fun l46 i50=>some l46) m l88 (wrap .i64 ((j:Int)+1))) n s 0=GV n q c (fun l46 i50=>some l46) m s' (wrap .i64 ((j:Int)+1)):=by
   refine loop (L:=fun m k s=>JQ q (j:Int) c.Arcs[j] r _ m s k) r.length (fun k s=>s.length<=4*j+k) (fun o=>∃s':List AR,s'.length<=4*(j+1)∧o=GV n q c (fun l46 i50=>some l46) m s' (wrap .i64 ((j:Int)+1))) ?_ ?_ n 0 s (by omega) (by omega) (by omega)
   ·intro m k s hk hs
    simp only [JQ.eq_2,DA hk,cT,Ab hk,Av,wT k]
    rw [BO (by simp;omega) (by omega),Av]
    exact .inl ⟨_,by simp;omega,rfl⟩
   ·intro m s hs
    simp only [JQ.eq_2,DS,cF]
    exact⟨s,by omega,rfl⟩
  obtain⟨s',hs',e'⟩:=key
  refine⟨s',hs',?_⟩
  simp only [GV.eq_2,DA hj,cT,Ab hj,Av,er]
  rw [e',wT j]
 ·intro m s hs
  simp only [GV.eq_2,DS,cF]
  exact⟨s,rfl,by omega⟩
theorem oN{n:Nat}{b:AJ}(v:CF b)(hn:1048577<=n):Cm (fun r:CS=>r.places_=pls b.Design) (aD n b):=by
 have vd:=v.design
 have f1:=vd.few.1;have f2:=vd.few.2.1
 have hl:=Ce vd.short vd.few.1 vd.few.2.2
 have hW:=v.many
 rw [aD,WX vd.short vd.few.1 vd.few.2.2 hn,Av]
 refine Fq (L:=fun m j (s:Int×List AR)=>LJ n b _ m s.1 j s.2) b.Design.Instances.length (fun j s=>s.2.length<=32*j) ?_ ?_ n ((0:Int),[]) (by omega) (by simp)
 ·intro m j s hj hs
  obtain⟨r,er,hr⟩:=oK (n:=n) v (List.getElem_mem hj) s.1 hn
  simp only [LJ.eq_2,DA hj,cT,Ab hj,Av,er,Mi,wT j]
  rw [BO (by omega) (by omega),Av]
  exact⟨(_,_),by simp;omega,rfl⟩
 ·intro m s hs
  simp only [LJ.eq_2,DS,cF]
  rw [FJ (by omega) (by omega),Av,FJ (by omega) (by omega),Av]
  refine Fq (L:=fun m j (s:List Int×List (List Int))=>IP (pls b.Design) _ m j s.1 s.2) (pls b.Design).length (fun j s=>(s.1.length=b.Wires.length∧s.2.length=b.Wires.length)∧∀x∈s.2,x.length<=j) ?_ ?_ n (List.replicate b.Wires.length 0,List.replicate b.Wires.length []) (by omega) (by simp)
  ·intro m j s hj ⟨⟨h1,h2⟩,h3⟩
   have hp:=vd.net _ (List.getElem_mem hj)
   obtain⟨a,ea⟩:=Ea (t:=s.1) hp.1 (by omega)
   obtain⟨y,ey,hy⟩:=EX (xs:=s.2) hp.1 (by omega)
   have hyl:=h3 y (List.mem_of_getElem? hy)
   simp only [IP.eq_2,DA hj,cT,Ab hj,Av,ea,ey,wT j]
   cases(pls b.Design)[j].drives_ with
   |true=>
    rw [cT]
    exact⟨(s.1.set (pls b.Design)[j].net_.toNat (j:Int),s.2),⟨⟨by simpa using h1,h2⟩,fun x hx=>by have:=h3 x hx;omega⟩,rfl⟩
   |false=>
    rw [cF,BO (by simp;omega) (by omega),Av]
    refine⟨(s.1,s.2.set (pls b.Design)[j].net_.toNat (y++[(j:Int)])),⟨⟨h1,by simpa using h2⟩,fun x hx=>?_⟩,rfl⟩
    rcases List.mem_or_eq_of_mem_set hx with h|h
    ·have:=h3 x h;omega
    ·subst h;simp;omega
  ·intro m t ⟨⟨h1,h2⟩,h3⟩
   simp only [IP.eq_2,DS,cF]
   refine Fq (L:=fun m j (s:(List AR×List Int)×List Unit)=>Ev n b t.1 t.2 _ m j s.1.1 s.1.2 s.2) b.Wires.length (fun j u=>(u.1.1.length<=448+156*j∧u.1.2.length=j)∧u.2.length=j) ?_ ?_ n ((s.2,[]),[]) (by omega) (by simp;omega)
   ·intro m j u hj ⟨⟨g1,g2⟩,g3⟩
    obtain⟨r,er,hr⟩:=lJ (n:=n) v hj hn
    obtain⟨z,ez,_⟩:=mX (n:=n) v hj hn
    have hm:=(v.wire j hj).many
    have e0:AL r 0=some (gd r 0):=gI (i:=0) (by omega)
    have hj2:j<t.2.length:=by omega
    have hx:=h3 _ (List.getElem_mem hj2)
    simp only [Ev.eq_2,DA hj,cT,Av,er,e0,ez,Ab hj2]
    rw [BO (by simp;omega) (by omega),Av,BO (by simp;omega) (by omega),Av]
    have key:∃s',s'.length<=448+156*(j+1)∧JD n t.1 (j:Int) t.2[j] (fun i418 l421=>Ev n b t.1 t.2 (fun i115 l118 l125 l132=>some (CS.mk b (pls b.Design) l118 l125 l132 [])) m (wrap .i64 ((j:Int)+1)) l421 (u.1.2++[gd r 0]) (u.2++List.map (fun _=>()) [z])) n 0 u.1.1=Ev n b t.1 t.2 (fun i115 l118 l125 l132=>some (CS.mk b (pls b.Design) l118 l125 l132 [])) m (wrap .i64 ((j:Int)+1)) s' (u.1.2++[gd r 0]) (u.2++List.map (fun _=>()) [z]):=by
     refine loop (L:=fun m' k s=>JD n t.1 (j:Int) t.2[j] (fun i418 l421=>Ev n b t.1 t.2 (fun i115 l118 l125 l132=>some (CS.mk b (pls b.Design) l118 l125 l132 [])) m (wrap .i64 ((j:Int)+1)) l421 (u.1.2++[gd r 0]) (u.2++List.map (fun _=>()) [z])) m' k s) t.2[j].length (fun k s=>s.length<=448+156*j+2*k) (fun o=>∃s':List AR,s'.length<=448+156*(j+1)∧o=Ev n b t.1 t.2 (fun i115 l118 l125 l132=>some (CS.mk b (pls b.Design) l118 l125 l132 [])) m (wrap .i64 ((j:Int)+1)) s' (u.1.2++[gd r 0]) (u.2++List.map (fun _=>()) [z])) ?_ ?_ n 0 u.1.1 (by omega) (by omega) (by omega)
     ·intro m k s hk hs
      refine .inl ?_
      have a1:=gI (l:=t.1) (i:=j) (by omega)
      simp only [JD.eq_2,DA hk,cT,gI hk,Av,wT k]
      obtain⟨n',rfl⟩:∃n',n=n'+3:=⟨n-3,by omega⟩
      have w1:wrap .i64 ((0:Int)+1)=1:=by decide
      have w2:wrap .i64 ((1:Int)+1)=2:=by decide
      rw [Kz.eq_2,show decide ((0:Int)<2)=true from rfl,cT,a1,Av,BO (by simp;omega) (by omega),Av,w1,Kz.eq_2,show decide ((1:Int)<2)=true from rfl,cT,a1,Av,BO (by simp;omega) (by omega),Av,w2,Kz.eq_2,show decide ((2:Int)<2)=false from rfl,cF]
      exact⟨_,by simp;omega,rfl⟩
     ·intro m s hs
      simp only [JD.eq_2,DS,cF]
      exact⟨s,by omega,rfl⟩
    obtain⟨s',q1,q2⟩:=key
    rw [q2,wT j]
    exact⟨((_,_),_),⟨⟨q1,by simp;omega⟩,by simp;omega⟩,rfl⟩
   ·intro m u _
    simp only [Ev.eq_2,DS,cF]
    exact⟨_,rfl,rfl⟩
def Cl(b:AJ):Int:=2*((pls b.Design).length:Int)
theorem PA{n:Nat}{b:AJ}(v:CF b)(hn:1048577<=n):NA n b=some (Cl b):=by
 have hl:=Ce v.design.short v.design.few.1 v.design.few.2.2
 rw [NA,Oa v.design.short v.design.few.1 v.design.few.2.2 hn,Av,List.length_map,Aw (by omega) (by omega)];rfl
theorem cX{n:Nat}{b:AJ}{r:CS}(v:CF b)(e:r.places_=pls b.Design):Rx n r=some (Cl b):=by
 have hl:=Ce v.design.short v.design.few.1 v.design.few.2.2
 rw [Rx,VV,e,Av,Aw (by omega) (by omega)];rfl
def Of(s:Ae):Bool:=(decide (s.Early>= -1000000000)&&decide (s.Early<=1000000000))&&(decide (s.Late>= -1000000000)&&decide (s.Late<=1000000000))
def Mg(s:Ae):Bool:=Of s&&decide (s.Early<=s.Late)
def OF(s:Ae):Bool:=(decide (s.Early>=0)&&decide (s.Early<=s.Late))&&decide (s.Late<=1000000)
theorem gO{n:Nat}{s:Ae}:PY n s=some (Mg s):=by
 simp only [PY,Hj,Av,CV];rfl
theorem lH{n:Nat}{s:Ae}:SE n s=some (Mg s):=by
 simp only [SE,UY,KT,Av,CV];rfl
theorem oH{n:Nat}{s:Ae}:Rw n s=some (OF s):=rfl
theorem nY{n:Nat}{s:Ae}:Sq n s=some (OF s):=by
 simp only [Sq,lH,TM,KT,Av,CV]
 congr 1
 rw [Bool.eq_iff_iff]
 simp only [Mg,Of,OF,Bool.and_eq_true,decide_eq_true_eq]
 omega
def Ph(r:Bool)(a s:Ae):Bool:=!((!Mg a|| !OF s)||(!r&&(!(a.Early==0&&a.Late==0)|| !(s.Early==0&&s.Late==0))))
structure TW(b:AJ)(x:Ag):Prop where
 reached:(x.Reached.length:Int)=Cl b
 arr:(x.Arrival.length:Int)=Cl b
 slew:(x.Slew.length:Int)=Cl b
 each:∀i (h:i<x.Reached.length) (h2:i<x.Arrival.length) (h3:i<x.Slew.length),Ph x.Reached[i] x.Arrival[i] x.Slew[i]=true
theorem lA{n:Nat}{b:AJ}{x:Ag}(hl:x.Reached.length<=1048576)(hn:1048577<=n):BY (TW b x) (Sl n (Cl b) x):=by
 rw [Sl]
 refine Fi (fun c=>BS fun v=>?_) (fun c=>?_)
 ·have:=v.reached;have:=v.arr;have:=v.slew
  simp only [Bool.or_eq_true,bne_iff_ne,ne_eq]at c;omega
 ·simp only [Bool.or_eq_false_iff,bne_eq_false_iff_eq]at c
  refine(Ei (L:=fun m i=>Ig n x _ m i) (Q:=True) x.Reached.length 0 (fun i=>∀(h:i<x.Reached.length) (h2:i<x.Arrival.length) (h3:i<x.Slew.length),Ph x.Reached[i] x.Arrival[i] x.Slew[i]=true) ?_ ?_ n 0 (by omega) (by omega) (by omega) (fun j _ h=>by omega)).iff ⟨fun a=>⟨c.1.1,c.1.2,c.2,fun i h h2 h3=>a.1 i (by omega) h h h2 h3⟩,fun a=>⟨fun i _ _ h h2 h3=>a.each i h h2 h3,trivial⟩⟩
  ·intro m i _ hi
   have hi2:i<x.Arrival.length:=by omega
   have hi3:i<x.Slew.length:=by omega
   simp only [Ig.eq_2,DA hi,cT,Ab hi,Ab hi2,Ab hi3,Av,gO,oH,Ez,CV,wT i]
   cases e:((!Mg x.Arrival[i]|| !OF x.Slew[i])||(!x.Reached[i]&&(!(x.Arrival[i].Early==0&&x.Arrival[i].Late==0)|| !(x.Slew[i].Early==0&&x.Slew[i].Late==0))))with
   |true=>rw [cT];exact .inr ⟨fun g=>(by have:=g hi hi2 hi3;unfold Ph at this;rw [e]at this;cases this),rfl⟩
   |false=>rw [cF];exact .inl ⟨fun _ _ _=>(by unfold Ph;rw [e];rfl),rfl⟩
  ·intro m i h1 h2 _
   obtain rfl:i=x.Reached.length:=by omega
   simp only [Ig.eq_2,DS,cF]
   exact DF trivial
theorem nB{n:Nat}{b:AJ}{r:CS}{x:Ag}(v:CF b)(hr:r.places_=pls b.Design)(hl:x.Reached.length<=1048576)(hn:1048577<=n):BY (TW b x) (Uq n r x):=by
 rw [Uq]
 simp only [Wi,UW,cX v hr,Av,Ez]
 refine Fi (fun c=>BS fun v=>?_) (fun c=>?_)
 ·have:=v.reached;have:=v.arr;have:=v.slew
  simp only [Bool.or_eq_true,bne_iff_ne,ne_eq]at c;omega
 ·simp only [Bool.or_eq_false_iff,bne_eq_false_iff_eq]at c
  refine(Ei (L:=fun m i=>IR n x _ m i) (Q:=True) x.Reached.length 0 (fun i=>∀(h:i<x.Reached.length) (h2:i<x.Arrival.length) (h3:i<x.Slew.length),Ph x.Reached[i] x.Arrival[i] x.Slew[i]=true) ?_ ?_ n 0 (by omega) (by omega) (by omega) (fun j _ h=>by omega)).iff ⟨fun a=>⟨c.1.1,c.1.2,c.2,fun i h h2 h3=>a.1 i (by omega) h h h2 h3⟩,fun a=>⟨fun i _ _ h h2 h3=>a.each i h h2 h3,trivial⟩⟩
  ·intro m i _ hi
   have hi2:i<x.Arrival.length:=by omega
   have hi3:i<x.Slew.length:=by omega
   simp only [IR.eq_2,DA hi,cT,Ab hi,Ab hi2,Ab hi3,Av,lH,nY,Ez,CV,wT i]
   cases e:((!Mg x.Arrival[i]|| !OF x.Slew[i])||(!x.Reached[i]&&(!(x.Arrival[i].Early==0&&x.Arrival[i].Late==0)|| !(x.Slew[i].Early==0&&x.Slew[i].Late==0))))with
   |true=>rw [cT];exact .inr ⟨fun g=>(by have:=g hi hi2 hi3;unfold Ph at this;rw [e]at this;cases this),rfl⟩
   |false=>rw [cF];exact .inl ⟨fun _ _ _=>(by unfold Ph;rw [e];rfl),rfl⟩
  ·intro m i h1 h2 _
   obtain rfl:i=x.Reached.length:=by omega
   simp only [IR.eq_2,DS,cF]
   exact DF trivial
theorem mF{n:Nat}{b:AJ}{t:Ag}(hb:Lf b)(ht:t.Reached.length<=1048576)(hn:1048577<=n):
 (Qc n b t=some 0∧(CF b∧TW b t)∧∃v:CS,SG n b t=some (some v,0)∧v.places_=pls b.Design)∨(Qc n b t=some 1∧SG n b t=some (none,1)):=by
 obtain⟨c,e1,hc⟩:=Wu hb hn
 obtain⟨c2,e2,hc2⟩:=mV hb hn
 obtain rfl:c=c2:=by rw [Bool.eq_iff_iff,hc,hc2]
 rw [Qc,SG,e1,e2]
 simp only [Av]
 cases c with
 |false=>exact .inr ⟨rfl,rfl⟩
 |true=>
  have v:=hc.1 rfl
  obtain⟨w,ew,hw⟩:=oN (n:=n) v hn
  obtain⟨p,f1,hp⟩:=lA (b:=b) ht hn
  obtain⟨p2,f2,hp2⟩:=nB (r:=⟨b,w.places_,w.links_,w.loads_,w.delays_,w.extras_⟩) v hw ht hn
  obtain rfl:p=p2:=by rw [Bool.eq_iff_iff,hp,hp2]
  simp only [Bool.not_true,cF,PA v hn,Av,f1,ew,f2]
  cases p with
  |false=>exact .inr ⟨rfl,rfl⟩
  |true=>exact .inl ⟨rfl,⟨v,hp.1 rfl⟩,_,rfl,hw⟩
def Dz(t:Ag)(x:Int):Ae:=t.Arrival.getD x.toNat ⟨0,0⟩
def Nr(t:Ag)(x:Int):Bool:=t.Reached.getD x.toNat false
theorem Vd{t:Ag}{x:Int}(h0:0<=x)(h1:x<t.Arrival.length):AL t.Arrival x=some (Dz t x):=by
 obtain⟨q,rfl⟩:=Int.eq_ofNat_of_zero_le h0
 rw [Ab (show q<t.Arrival.length by omega)];unfold Dz;simp [show q<t.Arrival.length by omega]
theorem bF{t:Ag}{x:Int}(h0:0<=x)(h1:x<t.Reached.length):AL t.Reached x=some (Nr t x):=by
 obtain⟨q,rfl⟩:=Int.eq_ofNat_of_zero_le h0
 rw [Ab (show q<t.Reached.length by omega)];unfold Nr;simp [show q<t.Reached.length by omega]
def EA(t:Ag)(s:Ae)(x:Int):Ae:=⟨min s.Early (Dz t x).Early,max s.Late (Dz t x).Late⟩
def Kb(t:Ag)(xs:List Int)(x0:Int):Ae:=xs.foldl (EA t) (Dz t x0)
theorem bL{n:Nat}{t:Ag}{xs:List Int}(hx:xs.length<=1048576)(h0:0<xs.length)(hr:∀i (h:i<xs.length),0<=xs[i]∧xs[i]<t.Arrival.length∧xs[i]<t.Reached.length∧Nr t xs[i]=true)(hn:1048577<=n):Nt n t xs=some (Kb t xs xs[0],true):=by
 rw [Nt]
 refine loop (L:=fun m i (s:Ai×Bool)=>HN n t xs (fun i44 i47 i48 i49 i50 i51 q53=>(some ((Ae.mk i48 i49),q53))) m i s.1.Node s.1.Arrival.Early s.1.Arrival.Late s.1.Slew.Early s.1.Slew.Late s.2) xs.length (fun i s=>(i=0∧s.2=false)∨(0<i∧s.2=true∧s.1.Arrival=(xs.take i).foldl (EA t) (Dz t xs[0]))) (fun o=>o=some (Kb t xs xs[0],true)) ?_ ?_ n 0 (⟨0,⟨0,0⟩,⟨0,0⟩⟩,false) (by omega) (by omega) (.inl ⟨rfl,rfl⟩)
 ·intro m i s hi hs
  obtain⟨g1,g2,g3,g4⟩:=hr i hi
  simp only [HN.eq_2,DA hi,cT,Ab hi,Av,bF g1 g3,g4,Vd g1 g2,Wk,Uw,wT i]
  rcases hs with ⟨rfl,hq⟩|⟨hi0,hq,hs⟩
  ·simp only [hq,Bool.not_false,cT,Av]
   refine .inl ⟨(⟨s.1.Node,Dz t xs[0],⟨0,0⟩⟩,true),.inr ⟨by omega,rfl,?_⟩,rfl⟩
   rw [Fc hi];simp [EA]
  ·simp only [hq,Bool.not_true,cF,Av]
   refine .inl ⟨(⟨s.1.Node,EA t s.1.Arrival xs[i],⟨min s.1.Slew.Early 0,max s.1.Slew.Late 0⟩⟩,true),.inr ⟨by omega,rfl,?_⟩,rfl⟩
   rw [Fc hi,←hs]
 ·intro m s hs
  rcases hs with ⟨h,_⟩|⟨_,hq,hs⟩
  ·omega
  ·rw [List.take_length]at hs
   simp only [HN.eq_2,DS,cF,hq]
   rw [Kb,←hs]
theorem Wt{xs:List Int}{i:Nat}(h:i<xs.length):gd xs i=xs[i]:=LC (by simp [h])
theorem Zz{n:Nat}{b:AJ}{xs:List Int}(v:CF b)(K:Int->Option (Int×Int))(hx:xs.length<=1048576)(hn:1048577<=n):
 (RA xs 0 (Cl b-1)∧ID n b xs K n 0=K xs.length)∨(¬RA xs 0 (Cl b-1)∧ID n b xs K n 0=some (0,4)):=by
 have hp:=Ce v.design.short v.design.few.1 v.design.few.2.2
 have wN:wrap .i64 (Cl b-1)=Cl b-1:=Aw (by unfold Cl;omega) (by unfold Cl;omega)
 refine loop (L:=fun m i (_:Unit)=>ID n b xs K m i) xs.length (fun i _=>∀j (h:j<xs.length),j<i->0<=xs[j]∧xs[j]<=Cl b-1) (fun o=>(RA xs 0 (Cl b-1)∧o=K xs.length)∨(¬RA xs 0 (Cl b-1)∧o=some (0,4))) ?_ ?_ n 0 () (by omega) (by omega) (fun j _ h=>by omega)
 ·intro m i _ hi hI
  simp only [ID.eq_2,DA hi,cT,Ab hi,Av,PA v hn,Hj,wN,wT i]
  cases c:(decide (xs[i]>=0)&&decide (xs[i]<=Cl b-1))with
  |false=>
   refine .inr (.inr ⟨fun w=>?_,rfl⟩)
   have:=w i hi
   rw [Wt hi]at this
   simp only [Bool.and_eq_false_iff,decide_eq_false_iff_not]at c;omega
  |true=>
   refine .inl ⟨(),fun j hj hji=>?_,rfl⟩
   by_cases e:j=i
   ·subst e;simp only [Bool.and_eq_true,decide_eq_true_eq]at c;exact⟨c.1,c.2⟩
   ·exact hI j hj (by omega)
 ·intro m _ hI
  simp only [ID.eq_2,DS,cF]
  refine .inl ⟨fun j hj=>?_,trivial⟩
  rw [Wt hj]
  exact hI j hj hj
theorem Pm{α β:Type}(h:Nat->α->β):∀(xs:List α) (s j:Nat),(Em (fun j q=>[h j q]) s xs)[j]? =(xs[j]?).map (h (s+j))
 |[],s,j=>by simp [Em]
 |x::xs,s,0=>by simp [Em]
 |x::xs,s,j+1=>by
  have:=Pm h xs (s+1) j
  simp only [Em,List.singleton_append,List.getElem?_cons_succ,this]
  rw [show s+1+j=s+(j+1) by omega]
structure OX{α:Type}(f:α->Bool)(ys:List α)(k:Nat):Prop where
 hit:∃y,ys[k]? =some y∧f y=true
 miss:∀j y,j<k->ys[j]? =some y->f y=false
theorem OX.lt{α:Type}{f:α->Bool}{ys:List α}{k:Nat}(h:OX f ys k):k<ys.length:=by
 obtain⟨y,e,_⟩:=h.hit
 exact(List.getElem?_eq_some_iff.1 e).1
def JO(d:AV)(i:Nat):Nat:=(Em MI 0 (d.Instances.take i)).length
def Sx(i q:Int)(p:BG):Bool:=(p.instance_==i)&&(p.pin_==q)
theorem Vu{d:AV}{i:Nat}(hi:i<d.Instances.length):∃C,pls d=Em MI 0 (d.Instances.take i)++(MI i d.Instances[i]++C):=by
 refine⟨Em MI (i+1) (d.Instances.drop (i+1))++Em Rz 0 d.Ports,?_⟩
 have e:d.Instances=d.Instances.take i++(d.Instances[i]::d.Instances.drop (i+1)):=by
  rw [←List.drop_eq_getElem_cons hi,List.take_append_drop]
 have e2:Em MI 0 d.Instances=Em MI 0 (d.Instances.take i)++(MI i d.Instances[i]++Em MI (i+1) (d.Instances.drop (i+1))):=by
  conv=>lhs;rw [e]
  rw [LA]
  simp [Em,Nat.min_eq_left (Nat.le_of_lt hi)]
 unfold pls
 rw [e2];simp
theorem KO{d:AV}{i q:Nat}(hi:i<d.Instances.length)(hq:q<d.Instances[i].Nets.length):OX (Sx i q) (pls d) (JO d i+q):=by
 obtain⟨C,e⟩:=Vu hi
 have hp:∀j:Nat,(MI i d.Instances[i])[j]? =(d.Instances[i].Nets[j]?).map fun x=>BG.mk i j x ((j:Int)==(d.Instances[i].Nets.length:Int)-1):=by
  intro j
  have:=Pm (fun j q=>BG.mk i j q ((j:Int)==(d.Instances[i].Nets.length:Int)-1)) d.Instances[i].Nets 0 j
  rw [Nat.zero_add]at this
  exact this
 have hl:(MI i d.Instances[i]).length=d.Instances[i].Nets.length:=by
  apply Nat.le_antisymm
  ·apply Nat.le_of_not_lt
   intro h
   have:=hp d.Instances[i].Nets.length
   rw [List.getElem?_eq_getElem h]at this
   simp at this
  ·apply Nat.le_of_not_lt
   intro h
   have:=hp (MI i d.Instances[i]).length
   rw [List.getElem?_eq_getElem h]at this
   simp at this
 have hA:∀y∈Em MI 0 (d.Instances.take i),y.instance_<(i:Int):=by
  refine DR (Q:=fun p:BG=>p.instance_<(i:Int)) _ 0 (fun j hj y hy=>?_)
  have hji:j<i:=by simp at hj;omega
  refine DR (Q:=fun p:BG=>p.instance_<(i:Int)) _ 0 (fun k hk z hz=>?_) y hy
  simp only [List.mem_singleton]at hz
  subst hz
  show((0+j:Nat):Int)<i
  omega
 refine⟨⟨BG.mk i q d.Instances[i].Nets[q] ((q:Int)==(d.Instances[i].Nets.length:Int)-1),?_,by simp [Sx]⟩,?_⟩
 ·rw [e,JO,List.getElem?_append_right (by omega),Nat.add_sub_cancel_left,List.getElem?_append_left (by omega),hp,List.getElem?_eq_getElem hq];rfl
 ·intro j y hj hy
  rw [e]at hy
  by_cases c:j<(Em MI 0 (d.Instances.take i)).length
  ·rw [List.getElem?_append_left c]at hy
   have:=hA y (List.mem_of_getElem? hy)
   simp only [Sx,Bool.and_eq_false_iff,beq_eq_false_iff_ne];left;omega
  ·unfold JO at hj
   rw [List.getElem?_append_right (by omega),List.getElem?_append_left (by omega),hp]at hy
   obtain⟨x,_,rfl⟩:=Option.map_eq_some_iff.1 hy
   simp only [Sx,Bool.and_eq_false_iff,beq_eq_false_iff_ne];right
   show((j-(Em MI 0 (d.Instances.take i)).length:Nat):Int)≠q
   omega
theorem bU{n:Nat}{l:Ay}{d:AV}(v:Cu l d){i q:Nat}(hi:i<d.Instances.length)(hq:q<d.Instances[i].Nets.length)(hn:1048577<=n):SB n d (i:Int) (q:Int)=some ((JO d i+q:Nat):Int):=by
 have f:=KO hi hq
 have hl:=Ce v.short v.few.1 v.few.2.2
 have fl:=f.lt
 rw [SB,Oa v.short v.few.1 v.few.2.2 hn,Av]
 refine loop (L:=fun m j (_:Unit)=>HC (i:Int) (q:Int) ((pls d).map Gt) (fun i26=>(some (-1))) m j) (JO d i+q+1) (fun j _=>j<=JO d i+q) (fun o=>o=some ((JO d i+q:Nat):Int)) ?_ ?_ n 0 () (by omega) (by omega) (by omega)
 ·intro m j _ hj hI
  have hjl:j<(pls d).length:=by omega
  have hjm:j<((pls d).map Gt).length:=by simpa using hjl
  have hg:AL ((pls d).map Gt) (j:Int)=some (Gt (pls d)[j]):=by rw [Ab hjm];simp
  have hb:(Option.bind (cond ((Gt (pls d)[j]).instance_==(i:Int)) (some ((Gt (pls d)[j]).pin_==(q:Int))) (some false)) fun c35=>(cond c35 (some (j:Int)) (HC (i:Int) (q:Int) ((pls d).map Gt) (fun i26=>(some (-1))) m (wrap .i64 ((j:Int)+1)))))=(cond (Sx i q (pls d)[j]) (some (j:Int)) (HC (i:Int) (q:Int) ((pls d).map Gt) (fun i26=>(some (-1))) m ((j+1:Nat):Int))):=by
   rw [wT j,CV,Av];rfl
  simp only [HC.eq_2,DA hjm,cT,hg,Av]
  rw [hb]
  by_cases c:j=JO d i+q
  ·obtain⟨y,e,hy⟩:=f.hit
   rw [←c,List.getElem?_eq_getElem hjl]at e
   obtain rfl:=Option.some.inj e
   rw [hy,cT,←c];exact .inr rfl
  ·have:=f.miss j _ (by omega) (List.getElem?_eq_getElem hjl)
   rw [this,cF];exact .inl ⟨(),by omega,rfl⟩
 ·intro m _ hI
  omega
theorem Cu.inst_at{l:Ay}{d:AV}(v:Cu l d){i:Nat}(hi:i<d.Instances.length):∃k,∃h:k<l.Cells.length,d.Instances[i].Cell=(k:Int)∧AL l.Cells d.Instances[i].Cell=some l.Cells[k]∧d.Instances[i].Nets.length=l.Cells[k].Pins.length∧NU l.Cells[k]:=by
 have x:=v.inst _ (List.getElem_mem hi)
 obtain⟨k,hk⟩:=Int.eq_ofNat_of_zero_le x.cell.1
 have hk:d.Instances[i].Cell=(k:Int):=hk
 have h:k<l.Cells.length:=by have:=x.cell.2;omega
 have g:AL l.Cells d.Instances[i].Cell=some l.Cells[k]:=by rw [hk];exact Ab h
 exact⟨k,h,hk,g,x.pins _ g,v.lib.cells k h⟩
theorem VB.mono{l:List Int}(h:VB l):∀(d i:Nat),i+d+1<l.length->gd l i<gd l (i+d+1)
 |0,i,hi=>by have:=h.2.2 (i+0+1) hi (by omega);simpa using this
 |d+1,i,hi=>by
  have a:=VB.mono h d i (by omega)
  have b:=h.2.2 (i+(d+1)+1) hi (by omega)
  rw [show i+(d+1)+1-1=i+d+1 by omega]at b
  omega
theorem VB.lt{l:List Int}(h:VB l){i j:Nat}(hij:i<j)(hj:j<l.length):gd l i<gd l j:=by
 have:=h.mono (j-i-1) i (by omega)
 rwa [show i+(j-i-1)+1=j by omega]at this
def Iu(l:List Int)(x:Int):Int:=min (max x (gd l 0)) (gd l (l.length-1))
theorem Tg{l:List Int}(h:VB l)(x:Int):gd l 0<=Iu l x∧Iu l x<=gd l (l.length-1):=by
 have h1:=h.1.1
 have:gd l 0<=gd l (l.length-1):=by
  by_cases c:l.length=1
  ·rw [c];exact Int.le_refl _
  ·have:=h.lt (show 0<l.length-1 by omega) (by omega);omega
 unfold Iu;omega
theorem mw{a c:Int}(ha:0<=a∧a<=200000)(hc:0<=c∧c<=200000):wrap .i64 (a*c)=a*c:=by
 have h1:0<=a*c:=Int.mul_nonneg ha.1 hc.1
 have h2:a*c<=200000*c:=Int.mul_le_mul_of_nonneg_right ha.2 hc.1
 exact Aw (by omega) (by omega)
theorem mU{i L k u v:Nat}(hi:i+u<=4)(hL:L<=4)(hk:k<=4)(hv:v<=1):wrap .i64 (wrap .i64 (wrap .i64 (wrap .i64 ((i:Int)+(u:Int))*(L:Int))+(k:Int))+(v:Int))=(((i+u)*L+(k+v):Nat):Int):=by
 have:(i+u)*L<=4*4:=Nat.mul_le_mul hi hL
 rw [Aw (x:=(i:Int)+(u:Int)) (by omega) (by omega),show(i:Int)+(u:Int)=((i+u:Nat):Int) by omega,ZZ hi hL,Aw (x:=(((i+u)*L:Nat):Int)+(k:Int)) (by omega) (by omega),Aw (by omega) (by omega)];omega
theorem oT{S L i k:Nat}(hi:i<S)(hk:k<L):i*L+k<S*L:=by
 have:(i+1)*L<=S*L:=Nat.mul_le_mul_right L hi
 rw [Nat.add_mul]at this;omega
theorem wk{k:Int}(h0:0<=k)(h1:k<=2305843009213693952):wrap .i64 (k+1)=k+1:=Aw (by omega) (by omega)
def LM(b:AJ)(x:At):List Be:=match AL b.Library.Cells x.Cell with
 |some c=>c.Arcs
 |none=>[]
def FA(q:Int)(p:BG):Bool:=p.net_==q&&p.drives_
theorem RF(i:Nat)(q L:Int):∀(xs:List Int) (s:Nat),xs≠[]->L=((s+xs.length:Nat):Int)-1->((Em (fun j n=>[BG.mk i j n ((j:Int)==L)]) s xs).countP (FA q):Int)=if gd xs (xs.length-1)=q then 1 else 0
 |[],_,h,_=>absurd rfl h
 |[x],s,_,hL=>by
  have e:((s:Int)==L)=true:=by rw [beq_iff_eq,hL];simp
  simp only [Em,List.append_nil,e]
  by_cases c:x=q
  ·subst c;simp [FA,gd]
  ·have:(x==q)=false:=by rw [beq_eq_false_iff_ne];exact c
   simp [FA,gd,this,c]
 |x::y::zs,s,_,hL=>by
  have ih:=RF i q L (y::zs) (s+1) (by simp) (by rw [hL];simp only [List.length_cons];omega)
  have e:((s:Int)==L)=false:=by rw [beq_eq_false_iff_ne,hL];simp only [List.length_cons];omega
  rw [Em,List.countP_append]
  have h0:List.countP (FA q) [BG.mk i s x ((s:Int)==L)]=0:=by simp [FA,e]
  rw [h0,Nat.zero_add,ih]
  simp [gd]
theorem Tw{q:Nat}{N:Nat}(hq:q<N):∀(xs:List At) (t:List Int) (s:Nat),t.length=N->(∀x∈xs,x.Nets≠[]∧0<=JW x∧JW x<N)->gd (xs.foldl cI t) q=gd t q+((Em MI s xs).countP (FA q):Int)∧(xs.foldl cI t).length=N
 |[],t,s,ht,_=>by simp [Em,ht]
 |x::xs,t,s,ht,hx=>by
  obtain⟨x1,x2,x3⟩:=hx x (by simp)
  obtain⟨h1,h2⟩:=Tw hq xs (cI t x) (s+1) (by unfold cI Hq;simpa using ht) fun y hy=>hx y (by simp [hy])
  refine⟨?_,h2⟩
  rw [List.foldl_cons,h1,Em,List.countP_append]
  have hc:=RF s q ((x.Nets.length:Int)-1) x.Nets 0 x1 (by simp)
  have hc:((MI s x).countP (FA q):Int)=if gd x.Nets (x.Nets.length-1)=q then 1 else 0:=hc
  have hb:gd (cI t x) q=gd t q+if gd x.Nets (x.Nets.length-1)=q then 1 else 0:=by
   have hl:JW x=gd x.Nets (x.Nets.length-1):=rfl
   unfold cI Hq
   rw [NC (by omega),←hl]
   by_cases c:JW x=q
   ·rw [if_pos (by omega),if_pos c];have:(JW x).toNat=q:=by omega
    rw [this]
   ·rw [if_neg (by omega),if_neg c];omega
  rw [hb];push_cast;omega
theorem Sp{q:Nat}{N:Nat}(hq:q<N):∀(xs:List Bb) (t:List Int) (s:Nat),t.length=N->(∀x∈xs,0<=x.Net∧x.Net<N)->gd (xs.foldl cP t) q=gd t q+((Em Rz s xs).countP (FA q):Int)
 |[],t,s,ht,_=>by simp [Em]
 |x::xs,t,s,ht,hx=>by
  obtain⟨x2,x3⟩:=hx x (by simp)
  have h1:=Sp hq xs (cP t x) (s+1) (by unfold cP Hq;split<;>simpa using ht) fun y hy=>hx y (by simp [hy])
  rw [List.foldl_cons,h1,Em,List.countP_append]
  have hb:gd (cP t x) q=gd t q+((Rz s x).countP (FA q):Int):=by
   unfold cP Rz
   by_cases d:x.Dir=1
   ·have:(x.Dir==1)=true:=by rw [beq_iff_eq];exact d
    rw [if_pos d];unfold Hq
    rw [NC (by omega)]
    by_cases c:x.Net=q
    ·have e:(x.Net==(q:Int))=true:=by rw [beq_iff_eq];exact c
     have e2:x.Net.toNat=q:=by omega
     rw [if_pos e2,e2];simp [FA,this,e]
    ·have e:(x.Net==(q:Int))=false:=by rw [beq_eq_false_iff_ne];exact c
     rw [if_neg (by omega)];simp [FA,this,e]
   ·have:(x.Dir==1)=false:=by rw [beq_eq_false_iff_ne];exact d
    rw [if_neg d];simp [FA,this]
  rw [hb];push_cast;omega
theorem Vg{l:Ay}{d:AV}(v:Cu l d){q:Nat}(hq:q<d.Nets.length):(pls d).countP (FA q)=1:=by
 obtain⟨h1,h2⟩:=Tw (N:=d.Nets.length) hq d.Instances (List.replicate d.Nets.length 0) 0 (by simp) fun x hx=>by
  have a:=(v.inst x hx).long v.lib
  have b:=(v.inst x hx).last v.lib
  exact⟨fun e=>by rw [e]at a;simp at a,b⟩
 have h3:=Sp (N:=d.Nets.length) hq d.Ports _ 0 h2 fun x hx=>by have:=(v.port x hx).net;omega
 have h4:=v.one q hq
 unfold drv at h4
 rw [h3,h1,NB]at h4
 unfold pls
 rw [List.countP_append];omega
theorem OI{α:Type}(f:α->Bool):∀(xs:List α),xs.countP f=1->∃k,∃h:k<xs.length,f xs[k]=true∧∀j (h:j<xs.length),f xs[j]=true->j=k
 |[],h=>by simp at h
 |x::xs,h=>by
  rw [List.countP_cons]at h
  by_cases c:f x=true
  ·have h0:xs.countP f=0:=by simpa [c] using h
   refine⟨0,by simp,c,fun j hj hf=>?_⟩
   cases j with
   |zero=>rfl
   |succ j=>
    have hf:f (xs[j]'(by simpa using hj))=true:=hf
    rw [List.countP_eq_zero]at h0
    exact absurd hf (h0 _ (List.getElem_mem _))
  ·have h0:xs.countP f=1:=by simpa [c] using h
   obtain⟨k,hk,a,b⟩:=OI f xs h0
   refine⟨k+1,by simpa using hk,by simpa using a,fun j hj hf=>?_⟩
   cases j with
   |zero=>exact absurd hf c
   |succ j=>rw [b j (by simpa using hj) (by simpa using hf)]
def Kh(d:AV)(q:Nat):Nat:=(pls d).findIdx (FA q)
structure aZ(d:AV)(q k:Nat):Prop where
 lt:k<(pls d).length
 hit:FA q (pls d)[k]=true
 only:∀j (h:j<(pls d).length),FA q (pls d)[j]=true->j=k
theorem OP{l:Ay}{d:AV}(v:Cu l d){q:Nat}(hq:q<d.Nets.length):aZ d q (Kh d q):=by
 obtain⟨k,hk,a,b⟩:=OI _ _ (Vg v hq)
 have:Kh d q=k:=by
  unfold Kh
  rw [List.findIdx_eq hk]
  refine⟨a,fun j hj=>?_⟩
  cases c:FA q ((pls d)[j]'(by omega))with
  |false=>rfl
  |true=>have:=b j (by omega) c;omega
 rw [this];exact⟨hk,a,b⟩
theorem kA{n:Nat}{l:Ay}{d:AV}(v:Cu l d){q:Nat}(hq:q<d.Nets.length)(hn:1048577<=n):UC n d (q:Int)=some (Kh d q:Int):=by
 have hd:=OP v hq
 have hl:=Ce v.short v.few.1 v.few.2.2
 rw [UC,Oa v.short v.few.1 v.few.2.2 hn,Av]
 have hk:=hd.lt
 refine loop (L:=fun m i (_:Unit)=>KK (q:Int) ((pls d).map Gt) (fun i26=>some (-1)) m i) ((pls d).map Gt).length (fun i _=>i<=Kh d q) (fun o=>o=some (Kh d q:Int)) ?_ ?_ n 0 () (by omega) (by simp;omega) (by omega)
 ·intro m i _ hi hI
  have hi2:i<(pls d).length:=by simpa using hi
  have e:((pls d).map Gt)[i]=Gt (pls d)[i]:=by simp
  simp only [KK.eq_2,DA hi,cT,Ab hi,Av,CV,e,wT i]
  have e2:((Gt (pls d)[i]).net_==(q:Int)&&(Gt (pls d)[i]).drives_)=FA q (pls d)[i]:=rfl
  rw [e2]
  cases c:FA q (pls d)[i]with
  |true=>rw [hd.only i hi2 c];exact .inr rfl
  |false=>
   refine .inl ⟨(),?_,rfl⟩
   rcases Nat.lt_or_ge i (Kh d q)with h|h
   ·omega
   ·obtain rfl:i=Kh d q:=by omega
    rw [hd.hit]at c;cases c
 ·intro m _ hI
  have:((pls d).map Gt).length=(pls d).length:=by simp
  omega
def Qf(a:Be)(p:Int×Int):Bool:=cond (a.Kind==1) ((a.Sense==3)||((a.Sense==1)==(p.1==p.2))) (cond (a.Kind==2) (p.1==0) (cond (a.Kind==3) (p.1==1) false))
def Zp(a:Be):List (Int×Int):=[(0,0),(0,1),(1,0),(1,1)].filter (Qf a)
def Yr(o k:Nat)(a:Be):List AR:=(Zp a).map fun t=>⟨2*((o:Int)+a.From)+t.1,2*((o:Int)+a.To)+t.2,1,(k:Int)⟩
def VM(b:AJ)(i:Nat)(x:At):List AR:=Em (Yr (JO b.Design i)) 0 (LM b x)
def XC(r:Int)(j:Nat)(s:Int):List AR:=[⟨2*r,2*s,2,(j:Int)⟩,⟨2*r+1,2*s+1,2,(j:Int)⟩]
def dL(d:AV)(q:Nat):List AR:=Em (XC (Kh d q:Int)) 0 (IS d (q:Int))
def MH(b:AJ):List AR:=Em (VM b) 0 b.Design.Instances++Em (fun q (_:ByteArray)=>dL b.Design q) 0 b.Design.Nets
theorem VY(a:Be):(Zp a).length<=4:=Nat.le_trans (List.length_filter_le _ _) (by simp)
theorem RH(o k:Nat)(a:Be):(Yr o k a).length<=4:=by unfold Yr;rw [List.length_map];exact VY a
theorem OJ{b:AJ}(v:CF b)(i:Nat){x:At}(hx:x∈b.Design.Instances):(VM b i x).length<=32:=by
 obtain⟨j,hj,rfl⟩:=List.getElem_of_mem hx
 obtain⟨k,hk,_,gc,_,vc⟩:=v.design.inst_at hj
 have:=En (c:=4) (g:=Yr (JO b.Design i)) (LM b b.Design.Instances[j]) 0 fun j a _=>RH _ _ a
 have few:=vc.few
 unfold VM
 unfold LM at this ⊢
 rw [gc]at this ⊢
 simp only at this ⊢
 omega
theorem RO{l:Ay}{d:AV}(v:Cu l d)(q:Nat):(dL d q).length<=156:=by
 have h1:=En (c:=2) (g:=XC (Kh d q:Int)) (IS d (q:Int)) 0 fun j s _=>by simp [XC]
 have h2:=Fw (d:=d) (q:=(q:Int))
 have hl:=Ce v.short v.few.1 v.few.2.2
 have h3:snk d (q:Int)<=78:=Nat.le_trans List.countP_le_length hl
 unfold dL;omega
theorem If{b:AJ}(v:CF b):(MH b).length<=5128:=by
 have h1:=En (c:=32) (g:=VM b) b.Design.Instances 0 fun j x hx=>OJ v j hx
 have h2:=En (c:=156) (g:=fun q (_:ByteArray)=>dL b.Design q) b.Design.Nets 0 fun j x _=>RO v.design j
 have:=v.design.few
 unfold MH;rw [List.length_append];omega
theorem Xu{n:Nat}{l:List AR}{f t a b kd k:Int}(hl:l.length<=10000000)(hf:0<=f∧f<=100000)(ht:0<=t∧t<=100000)(ha:0<=a∧a<=1)(hb:0<=b∧b<=1):Om n l f t a b kd k=some (l++[⟨2*f+a,2*t+b,kd,k⟩]):=by
 rw [Om,Aw (x:=2*f) (by omega) (by omega),Aw (x:=2*t) (by omega) (by omega),Aw (by omega) (by omega),Aw (by omega) (by omega),BO (by simp;omega) (by omega),Av]
theorem XG{n:Nat}{a:Be}{f t k i:Int}{k2:List AR->Int->Option (List AR)}(hf:0<=f∧f<=100000)(ht:0<=t∧t<=100000)(hi:0<=i∧i<=1){l:List AR}(hl:l.length<=9000000)(m:Nat):
 Ew n a f t k i k2 (m+3) l 0=k2 (l++([(i,0),(i,1)].filter (Qf a)).map fun p=>⟨2*f+p.1,2*t+p.2,1,k⟩) 2:=by
 have w1:wrap .i64 ((0:Int)+1)=1:=by decide
 have w2:wrap .i64 ((1:Int)+1)=2:=by decide
 have step:∀(m:Nat) (l:List AR) (j:Int),l.length<=9500000->0<=j->j<=1->Ew n a f t k i k2 (m+1) l j=Ew n a f t k i k2 m (l++([(i,j)].filter (Qf a)).map fun p=>⟨2*f+p.1,2*t+p.2,1,k⟩) (wrap .i64 (j+1)):=by
  intro m l j hl2 h0 h1
  have hp:=Xu (n:=n) (l:=l) (f:=f) (t:=t) (a:=i) (b:=j) (kd:=1) (k:=k) (by omega) hf ht hi ⟨h0,h1⟩
  have dj:decide (j<=1)=true:=decide_eq_true h1
  simp only [Ew.eq_2,dj,cT,hp,Av,List.filter_cons,List.filter_nil,Qf]
  by_cases k1:a.Kind=1
  ·have e1:(a.Kind==1)=true:=by rw [beq_iff_eq];exact k1
   simp only [e1,cT]
   by_cases c:((a.Sense==3)||((a.Sense==1)==(i==j)))=true
   ·rw [c];simp
   ·have c:((a.Sense==3)||((a.Sense==1)==(i==j)))=false:=by simpa using c
    rw [c];simp
  ·have e1:(a.Kind==1)=false:=by rw [beq_eq_false_iff_ne];exact k1
   simp only [e1,cF]
   by_cases k2:a.Kind=2
   ·have e2:(a.Kind==2)=true:=by rw [beq_iff_eq];exact k2
    simp only [e2,cT]
    by_cases c:i=0
    ·subst c;simp
    ·have c:(i==0)=false:=by rw [beq_eq_false_iff_ne];exact c
     rw [c];simp
   ·have e2:(a.Kind==2)=false:=by rw [beq_eq_false_iff_ne];exact k2
    simp only [e2,cF]
    by_cases k3:a.Kind=3
    ·have e3:(a.Kind==3)=true:=by rw [beq_iff_eq];exact k3
     simp only [e3,cT]
     by_cases c:i=1
     ·subst c;simp
     ·have c:(i==1)=false:=by rw [beq_eq_false_iff_ne];exact c
      rw [c];simp
    ·have e3:(a.Kind==3)=false:=by rw [beq_eq_false_iff_ne];exact k3
     simp only [e3,cF];simp
 have hl3:∀j:Int,(([(i,j)].filter (Qf a)).map fun p:Int×Int=>(⟨2*f+p.1,2*t+p.2,1,k⟩:AR)).length<=1:=fun j=>by rw [List.length_map];exact Nat.le_trans (List.length_filter_le _ _) (by simp)
 rw [step (m+2) l 0 (by omega) (by omega) (by omega),w1,step (m+1) _ 1 (by have:=hl3 0;rw [List.length_append];omega) (by omega) (by omega),w2,Ew.eq_2]
 have d2:decide ((2:Int)<=1)=false:=by decide
 rw [d2,cF,List.append_assoc,←List.map_append,←List.filter_append]
 rfl
theorem kJ{n:Nat}{a:Be}{f t k:Int}(hf:0<=f∧f<=100000)(ht:0<=t∧t<=100000){l:List AR}(hl:l.length<=8000000)(hn:1048577<=n):
 cW n l a f t k=some (l++(Zp a).map fun p=>⟨2*f+p.1,2*t+p.2,1,k⟩):=by
 obtain⟨m,rfl⟩:∃m,n=m+3:=⟨n-3,by omega⟩
 have w1:wrap .i64 ((0:Int)+1)=1:=by decide
 have w2:wrap .i64 ((1:Int)+1)=2:=by decide
 have d0:decide ((0:Int)<=1)=true:=by decide
 have d1:decide ((1:Int)<=1)=true:=by decide
 have d2:decide ((2:Int)<=1)=false:=by decide
 have hl3:(([((0:Int),(0:Int)),(0,1)].filter (Qf a)).map fun p:Int×Int=>(⟨2*f+p.1,2*t+p.2,1,k⟩:AR)).length<=2:=by rw [List.length_map];exact Nat.le_trans (List.length_filter_le _ _) (by simp)
 rw [cW,Jm.eq_2,d0,cT,XG hf ht (by omega) (by omega),w1,Jm.eq_2,d1,cT,XG hf ht (by omega) (by rw [List.length_append];omega),w2,Jm.eq_2,d2,cF,List.append_assoc,←List.map_append,←List.filter_append]
 rfl
theorem RC{c:As}(vc:NU c){j:Nat}(hj:j<c.Arcs.length):(0<=c.Arcs[j].From∧c.Arcs[j].From<c.Pins.length)∧(0<=c.Arcs[j].To∧c.Arcs[j].To<c.Pins.length)∧(c.Arcs[j].Kind=1∧(1<=c.Arcs[j].Sense∧c.Arcs[j].Sense<=3)∨c.Arcs[j].Kind=2∨c.Arcs[j].Kind=3∨c.Arcs[j].Kind=4∨c.Arcs[j].Kind=5):=by
 have ar:=(vc.arcs j hj).1
 unfold Lv at ar
 refine⟨by omega,by omega,?_⟩
 obtain⟨_,ar⟩:=ar
 by_cases k1:c.Arcs[j].Kind=1
 ·rw [if_pos k1]at ar;exact .inl ⟨k1,ar.2.2.1⟩
 ·rw [if_neg k1]at ar
  by_cases k2:c.Arcs[j].Kind=2∨c.Arcs[j].Kind=3
  ·rcases k2 with k|k
   ·exact .inr (.inl k)
   ·exact .inr (.inr (.inl k))
  ·rw [if_neg k2]at ar
   by_cases k4:c.Arcs[j].Kind=4∨c.Arcs[j].Kind=5
   ·rcases k4 with k|k
    ·exact .inr (.inr (.inr (.inl k)))
    ·exact .inr (.inr (.inr (.inr k)))
   ·rw [if_neg k4]at ar;exact ar.elim
theorem Pa{a:Be}(h:3<a.Kind):Zp a=[]:=by
 have e1:(a.Kind==1)=false:=by rw [beq_eq_false_iff_ne];omega
 have e2:(a.Kind==2)=false:=by rw [beq_eq_false_iff_ne];omega
 have e3:(a.Kind==3)=false:=by rw [beq_eq_false_iff_ne];omega
 simp [Zp,Qf,e1,e2,e3]
theorem Tq{n:Nat}{b:AJ}(v:CF b)(hn:1048577<=n):WE n b=some (MH b):=by
 have vd:=v.design
 have few:=vd.few
 have hl:=Ce vd.short vd.few.1 vd.few.2.2
 have hI:=En (c:=32) (g:=VM b) b.Design.Instances 0 fun j x hx=>OJ v j hx
 rw [WE]
 rw [Ds (xs:=b.Design.Instances) (L:=fun m s i=>Im n b (fun l44 i48=>(FG n b (fun l55 i59=>(some l55)) n l44 0)) m s i) (k:=fun s=>FG n b (fun l55 i59=>some l55) n s 0) (VM b) 32 0 (fun j x hx=>OJ v j hx) (by omega) (by
  intro m i hi s hs
  obtain⟨k,hk,_,gc,hnl,vc⟩:=v.design.inst_at hi
  have fa:=vc.few
  have fp:=vc.pins.few
  have hoff:=(KO (d:=b.Design) (q:=0) hi (by have:=(vd.inst _ (List.getElem_mem hi)).long vd.lib;omega)).lt
  simp only [Im.eq_2,DA hi,cT,Ab hi,gc,Av,wT i]
  have ea:LM b b.Design.Instances[i]=b.Library.Cells[k].Arcs:=by unfold LM;rw [gc]
  rw [VM,ea]
  refine Ds (xs:=b.Library.Cells[k].Arcs) (L:=fun m s j=>Jv n b (i:Int) b.Library.Cells[k] _ m s j) (k:=fun s=>Im n b (fun l44 i48=>(FG n b (fun l55 i59=>(some l55)) n l44 0)) m s ((i+1:Nat):Int)) (Yr (JO b.Design i)) 4 s.length (fun j a _=>RH _ _ a) (by omega) ?_ ?_ n (by omega) s (by omega)
  ·intro m j hj s2 hs2
   obtain⟨⟨f0,f1⟩,⟨t0,t1⟩,kd⟩:=RC vc hj
   simp only [Jv.eq_2,DA hj,cT,Ab hj,Av,wT j]
   by_cases c:b.Library.Cells[k].Arcs[j].Kind<=3
   ·rw [decide_eq_true c,cT]
    obtain⟨F,eF⟩:=Int.eq_ofNat_of_zero_le f0
    have eF:b.Library.Cells[k].Arcs[j].From=(F:Int):=eF
    obtain⟨T,eT⟩:=Int.eq_ofNat_of_zero_le t0
    have eT:b.Library.Cells[k].Arcs[j].To=(T:Int):=eT
    have p1:=bU (n:=n) vd (q:=F) hi (by omega) hn
    have p2:=bU (n:=n) vd (q:=T) hi (by omega) hn
    rw [eF,eT,p1,Av,p2,Av,kJ (by omega) (by omega) (by omega) hn,Av]
    congr 2
    unfold Yr
    rw [eF,eT]
    simp
   ·rw [decide_eq_false c,cF]
    unfold Yr
    rw [Pa (by omega),List.map_nil,List.append_nil]
  ·intro m s
   simp only [Jv.eq_2,DS,cF]) (by
  intro m s
  simp only [Im.eq_2,DS,cF]) n (by omega) [] (by simp)]
 rw [List.nil_append]
 rw [Ds (xs:=b.Design.Nets) (L:=fun m s i=>FG n b (fun l55 i59=>(some l55)) m s i) (k:=fun s=>some s) (fun q _=>dL b.Design q) 156 (Em (VM b) 0 b.Design.Instances).length (fun j x _=>RO vd j) (by omega) (by
  intro m i hi s hs
  have hd:=(OP vd hi).lt
  have hsl:(IS b.Design (i:Int)).length<=78:=by
   rw [Fw];exact Nat.le_trans List.countP_le_length hl
  simp only [FG.eq_2,DA hi,cT,kA vd hi hn,Xr vd (i:Int) hn,Av,wT i]
  refine Ds (xs:=IS b.Design (i:Int)) (L:=fun m s j=>Ks n (Kh b.Design i:Int) (IS b.Design (i:Int)) _ m s j) (k:=fun s=>FG n b (fun l55 i59=>(some l55)) m s ((i+1:Nat):Int)) (XC (Kh b.Design i:Int)) 2 s.length (fun j a _=>by simp [XC]) (by omega) ?_ ?_ n (by omega) s (by omega)
  ·intro m j hj s2 hs2
   have hq:=LW _ (List.getElem_mem hj)
   simp only [Ks.eq_2,DA hj,cT,Ab hj,Av,wT j]
   rw [Xu (by omega) (by omega) (by omega) (by omega) (by omega),Av,Xu (by simp;omega) (by omega) (by omega) (by omega) (by omega),Av]
   rw [List.append_assoc]
   congr 2
   simp [XC]
  ·intro m s
   simp only [Ks.eq_2,DS,cF]) (by
  intro m s
  simp only [FG.eq_2,DS,cF]) n (by omega) _ (Nat.le_refl _)]
 rfl
theorem JV{α β:Type}(h:Nat->α->β):∀(xs:List α) (s:Nat),(Em (fun j q=>[h j q]) s xs).length=xs.length
 |[],_=>rfl
 |x::xs,s=>by simp [Em,JV h xs (s+1)]
theorem Wq{a:Be}:∀p∈Zp a,(0<=p.1∧p.1<=1)∧0<=p.2∧p.2<=1:=fun p hp=>by
 have:=(List.mem_filter.1 hp).1
 simp only [List.mem_cons,List.not_mem_nil,or_false]at this
 rcases this with rfl|rfl|rfl|rfl<;>simp
def iZ(N:Int)(br:List Int):Prop:=∀i,i<br.length->(0<=gd br i∧gd br i<=N-1)∧(0<i->gd br (i-1)<gd br i)
theorem nT{n:Nat}{br:List Int}{N:Int}(h:br.length<=1048576)(hN:0<=N∧N<=1048576)(hn:1048577<=n):BY (iZ N br) (UH n br N):=by
 rw [UH]
 refine(Ei (L:=fun m i=>IU n br N _ m i) (Q:=True) br.length 0 (fun i=>(0<=gd br i∧gd br i<=N-1)∧(0<i->gd br (i-1)<gd br i)) ?_ ?_ n 0 (by omega) (by omega) (by omega) (fun j _ h=>by omega)).iff ?_
 ·intro m i _ hi
  simp only [IU.eq_2,DA hi,cT,gI hi,Av,Hj,wT i,Aw (x:=N-1) (by omega) (by omega)]
  by_cases c:0<=gd br i∧gd br i<=N-1
  ·have e:(decide (gd br i>=0)&&decide (gd br i<=N-1))=true:=MU.2 c
   rw [e]
   simp only [Bool.not_true,cF]
   by_cases c0:0<i
   ·have w1:wrap .i64 ((i:Int)-1)=((i-1:Nat):Int):=by rw [Aw (by omega) (by omega)];omega
    simp only [decide_eq_true (show(i:Int)>0 by omega),cT,w1,gI (show i-1<br.length by omega),Av]
    by_cases c1:gd br (i-1)<gd br i
    ·rw [decide_eq_false (show¬gd br (i-1)>=gd br i by omega),cF];exact .inl ⟨⟨c,fun _=>c1⟩,rfl⟩
    ·rw [decide_eq_true (show gd br (i-1)>=gd br i by omega),cT];exact .inr ⟨fun h=>c1 (h.2 c0),rfl⟩
   ·simp only [decide_eq_false (show¬(i:Int)>0 by omega),cF,Av]
    exact .inl ⟨⟨c,fun h=>absurd h c0⟩,by trivial⟩
  ·have e:(decide (gd br i>=0)&&decide (gd br i<=N-1))=false:=by
    cases q:(decide (gd br i>=0)&&decide (gd br i<=N-1))with
    |false=>rfl
    |true=>exact absurd (MU.1 q) c
   rw [e]
   simp only [Bool.not_false,cT,Av]
   exact .inr ⟨fun h=>c h.1,by trivial⟩
 ·intro m i h1 h2 _
  obtain rfl:i=br.length:=by omega
  simp only [IU.eq_2,DS,cF]
  exact⟨true,rfl,by simp⟩
 ·exact⟨fun h i hi=>h.1 i (Nat.zero_le _) hi,fun h=>⟨fun i _ hi=>h i hi,trivial⟩⟩
theorem aL{n:Nat}{br:List Int}{x:Int}(h:br.length<=1048576)(hn:1048577<=n):QP n br x=some (br.any fun y=>y==x):=by
 rw [QP]
 refine loop (L:=fun m i (_:Unit)=>Ip br x (fun i5=>some false) m i) br.length (fun i _=>(br.any fun y=>y==x)=((br.drop i).any fun y=>y==x)) (fun o=>o=some (br.any fun y=>y==x)) ?_ ?_ n 0 () (by omega) (by omega) (by simp)
 ·intro m i _ hi hI
  simp only [Ip.eq_2,DA hi,cT,Ab hi,Av,wT i]
  rw [List.drop_eq_getElem_cons hi,List.any_cons]at hI
  cases c:(br[i]==x)with
  |true=>rw [c,Bool.true_or]at hI;rw [hI];exact .inr rfl
  |false=>rw [c,Bool.false_or]at hI;exact .inl ⟨(),hI,rfl⟩
 ·intro m _ hI
  rw [List.drop_length]at hI
  simp only [Ip.eq_2,DS,cF,hI,List.any_nil]
structure Rp(b:AJ)(x:AR):Prop where
 from_:0<=x.From∧x.From<Cl b
 to_:0<=x.To∧x.To<Cl b
 arc:x.Kind=1->∃p y c a,AL (pls b.Design) (wrap .i64 (Int.tdiv x.To 2))=some p∧p∈pls b.Design∧AL b.Design.Instances p.instance_=some y∧AL b.Library.Cells y.Cell=some c∧AL c.Arcs x.Index=some a∧(a.Kind=1∨a.Kind=2∨a.Kind=3)
theorem Oe{b:AJ}(v:CF b):∀x∈MH b,Rp b x:=by
 have vd:=v.design
 have hl:=Ce vd.short vd.few.1 vd.few.2.2
 have nd:Cl b=2*((pls b.Design).length:Int):=rfl
 intro x hx
 simp only [MH,List.mem_append]at hx
 rcases hx with hx|hx
 ·refine DR (Q:=Rp b) b.Design.Instances 0 (fun i hi y hy=>?_) x hx
  rw [Nat.zero_add]at hy
  obtain⟨k,hk,_,gc,hnl,vc⟩:=vd.inst_at hi
  have ea:LM b b.Design.Instances[i]=b.Library.Cells[k].Arcs:=by unfold LM;rw [gc]
  rw [VM,ea]at hy
  refine DR (Q:=Rp b) _ 0 (fun j hj z hz=>?_) y hy
  rw [Nat.zero_add]at hz
  obtain⟨⟨f0,f1⟩,⟨t0,t1⟩,kd⟩:=RC vc hj
  obtain⟨t,ht,rfl⟩:=List.mem_map.1 hz
  have tr:=Wq t ht
  obtain⟨F,eF⟩:=Int.eq_ofNat_of_zero_le f0
  have eF:b.Library.Cells[k].Arcs[j].From=(F:Int):=eF
  obtain⟨T,eT⟩:=Int.eq_ofNat_of_zero_le t0
  have eT:b.Library.Cells[k].Arcs[j].To=(T:Int):=eT
  have b1:=(KO (d:=b.Design) (q:=F) hi (by omega)).lt
  have pf:=KO (d:=b.Design) (q:=T) hi (by omega)
  have b2:=pf.lt
  obtain⟨p,ep,hp⟩:=pf.hit
  have hp:(p.instance_==(i:Int)&&p.pin_==(T:Int))=true:=hp
  simp only [Bool.and_eq_true,beq_iff_eq]at hp
  have k3:¬3<b.Library.Cells[k].Arcs[j].Kind:=fun h=>by rw [Pa h]at ht;cases ht
  refine⟨?_,?_,fun _=>⟨p,b.Design.Instances[i],b.Library.Cells[k],b.Library.Cells[k].Arcs[j],?_,List.mem_of_getElem? ep,?_,gc,?_,by omega⟩⟩
  ·have h1:0<=2*((JO b.Design i:Int)+b.Library.Cells[k].Arcs[j].From)+t.1∧2*((JO b.Design i:Int)+b.Library.Cells[k].Arcs[j].From)+t.1<Cl b:=by rw [eF];omega
   exact h1
  ·have h1:0<=2*((JO b.Design i:Int)+b.Library.Cells[k].Arcs[j].To)+t.2∧2*((JO b.Design i:Int)+b.Library.Cells[k].Arcs[j].To)+t.2<Cl b:=by rw [eT];omega
   exact h1
  ·show AL (pls b.Design) (wrap .i64 (Int.tdiv (2*((JO b.Design i:Int)+b.Library.Cells[k].Arcs[j].To)+t.2) 2))=some p
   rw [eT]
   have e1:Int.tdiv (2*((JO b.Design i:Int)+(T:Int))+t.2) 2=((JO b.Design i+T:Nat):Int):=by
    rw [Int.tdiv_eq_ediv_of_nonneg (by omega)];omega
   rw [e1,Aw (by omega) (by omega),Hy];exact ep
  ·rw [hp.1];exact Ab hi
  ·exact Ab hj
 ·refine DR (Q:=Rp b) b.Design.Nets 0 (fun q hq y hy=>?_) x hx
  rw [Nat.zero_add]at hy
  have hd:=(OP vd hq).lt
  refine DR (Q:=Rp b) _ 0 (fun j hj z hz=>?_) y hy
  have hs:=LW _ (List.getElem_mem hj)
  simp only [XC,List.mem_cons,List.not_mem_nil,or_false]at hz
  rcases hz with rfl|rfl
  ·exact⟨⟨by show(0:Int)<=2*_;omega,by show(2:Int)*_<_;omega⟩,⟨by show(0:Int)<=2*_;omega,by show(2:Int)*_<_;omega⟩,fun h=>by have h:(2:Int)=1:=h;omega⟩
  ·exact⟨⟨by show(0:Int)<=2*_+1;omega,by show(2:Int)*_+1<_;omega⟩,⟨by show(0:Int)<=2*_+1;omega,by show(2:Int)*_+1<_;omega⟩,fun h=>by have h:(2:Int)=1:=h;omega⟩
theorem jW{n:Nat}{l:Ay}{d:AV}(v:Cu l d){p:BG}(hp:p∈pls d):∃r,VD n l d (Gt p)=some r:=by
 rw [VD]
 by_cases c:p.instance_<0
 ·rw [decide_eq_true (show(Gt p).instance_<0 from c),cT];exact⟨_,rfl⟩
 ·obtain⟨x,c',pin,e1,e2,e3⟩:=v.place p hp (by omega)
  have e1:AL d.Instances (Gt p).instance_=some x:=e1
  have e3:AL c'.Pins (Gt p).pin_=some pin:=e3
  rw [decide_eq_false (show¬(Gt p).instance_<0 from c),cF,e1,Av,e2,Av,e3,Av];exact⟨_,rfl⟩
theorem lW{n:Nat}{b:AJ}(v:CF b){i:Nat}(hi:i<b.Wires.length)(hn:1048577<=n):Cm (fun r=>r.length=b.Wires[i].Parent.length) (Zg n b (i:Int)):=by
 have vd:=v.design
 have vw:=v.wire i hi
 have hm:=vw.many
 have hP:=vw.cap
 have hl:=Ce vd.short vd.few.1 vd.few.2.2
 have hsl:(IS b.Design (i:Int)).length=b.Wires[i].Sink.length:=by rw [Fw];have:=vw.sink;omega
 have hsn:snk b.Design (i:Int)<=78:=Nat.le_trans List.countP_le_length hl
 have hsn2:=Fw (d:=b.Design) (q:=(i:Int))
 rw [Zg,Ab hi,Av,Np,BO (by simp;omega) (by omega),Av,Av,Oa vd.short vd.few.1 vd.few.2.2 hn,Av,Xr vd (i:Int) hn,Av]
 refine Fq (L:=fun m j s=>Kg n b b.Wires[i] ((pls b.Design).map Gt) (IS b.Design (i:Int)) _ m j s) (IS b.Design (i:Int)).length (fun _ s=>s.length=b.Wires[i].Parent.length) ?_ ?_ n _ (by omega) (by simp;omega)
 ·intro m j s hj hs
  have hj2:j<b.Wires[i].Sink.length:=by omega
  have hk:=vw.sinks j hj2
  have hq:=LW _ (List.getElem_mem hj)
  obtain⟨a,ea⟩:=Ea (t:=s) hk.1 (by omega)
  obtain⟨p,ep,hp⟩:=EX (xs:=pls b.Design) hq.1 hq.2
  obtain⟨r,er⟩:=jW (n:=n) vd (List.mem_of_getElem? hp)
  have ep2:AL ((pls b.Design).map Gt) (IS b.Design (i:Int))[j]=some (Gt p):=by
   obtain⟨N,hN⟩:=Int.eq_ofNat_of_zero_le hq.1
   have hN:(IS b.Design (i:Int))[j]=(N:Int):=hN
   rw [hN]at hp ⊢
   rw [Hy,List.getElem?_map]
   rw [Int.toNat_natCast]at hp
   rw [hp];rfl
  simp only [Kg.eq_2,DA hj,cT,Ab hj,gI hj2,Av,ea,ep2,er,wT j]
  exact⟨_,by simpa using hs,rfl⟩
 ·intro m s hs
  simp only [Kg.eq_2,DS,cF]
  have wx:wrap .i64 ((s.length:Int)-1)=((s.length-1:Nat):Int):=by rw [Aw (by omega) (by omega)];omega
  rw [wx]
  have key:∀(m k:Nat) (s:List Int),k<b.Wires[i].Parent.length->s.length=b.Wires[i].Parent.length->k<m->Cm (fun r:List Int=>r.length=b.Wires[i].Parent.length) (JT b.Wires[i] (fun i92 l94=>(some l94)) m (k:Int) s):=by
   intro m
   induction m with
   |zero=>intro k s _ _ h;omega
   |succ m ih=>
    intro k s hk hs hm
    by_cases c:0<k
    ·have hd:decide ((k:Int)>0)=true:=decide_eq_true (by omega)
     have ht:=vw.tree k c hk
     obtain⟨a,ea⟩:=Ea (t:=s) ht.1 (by omega)
     have wk:wrap .i64 ((k:Int)-1)=((k-1:Nat):Int):=by rw [Aw (by omega) (by omega)];omega
     simp only [JT.eq_2,hd,cT,gI hk,Av,ea,gI (show k<s.length by omega),wk]
     exact ih (k-1) _ (by omega) (by simpa using hs) (by omega)
    ·have hd:decide ((k:Int)>0)=false:=decide_eq_false (by omega)
     simp only [JT.eq_2,hd,cF]
     exact⟨s,rfl,hs⟩
  exact key n (s.length-1) s (by omega) hs (by omega)
theorem MM{l:List Bool}{i:Nat}(h:i<l.length):AL l (i:Int)=some (gb l i):=by rw [Ab h];simp [gb,h]
def Ed(L:List AR)(lv:List Bool)(u w:Int):Prop:=∃k,∃h:k<L.length,gb lv k=true∧L[k].From=u∧L[k].To=w
inductive HV(L:List AR)(lv:List Bool)(src:Int->Prop):Int->Prop
 |src {u:Int}:src u->HV L lv src u
 |step {u w:Int}:HV L lv src u->Ed L lv u w->HV L lv src w
theorem HV.closed{L:List AR}{lv:List Bool}{s:Int->Prop}{Q:Int->Prop}(h0:∀u,s u->Q u)(h1:∀u w,Q u->Ed L lv u w->Q w){v:Int}(r:HV L lv s v):Q v:=by
 induction r with
 |src h=>exact h0 _ h
 |step _ e ih=>exact h1 _ _ ih e
structure PD(L:List AR)(lv:List Bool)(s:Int->Prop)(N:Nat)(out:List Bool):Prop where
 len:out.length=N
 iff:∀v:Nat,v<N->(gb out v=true↔HV L lv s (v:Int))
def cf(l:List Bool):Nat:=l.countP (fun b=>!b)
theorem dM(l:List Bool):cf l<=l.length:=List.countP_le_length
theorem Tu:∀{l:List Bool} {i:Nat},i<l.length->gb l i=false->cf (l.set i true)+1=cf l
 |[],i,h,_=>by simp at h
 |b::l,0,_,h=>by
  have h:b=false:=h
  subst h;simp [cf]
 |b::l,i+1,hi,h=>by
  have ih:=Tu (l:=l) (i:=i) (by simpa using hi) h
  unfold cf at ih ⊢
  simp only [List.set_cons_succ,List.countP_cons];omega
structure PE(L:List AR)(N:Nat):Prop where
 from_:∀k (h:k<L.length),0<=L[k].From∧L[k].From<(N:Int)
 to_:∀k (h:k<L.length),0<=L[k].To∧L[k].To<(N:Int)
theorem lS{n:Nat}{L:List AR}{lv:List Bool}{N s:Nat}(hL:PE L N)(hlv:lv.length=L.length)(hl:L.length<=10000)(hN:N<=1000)(hs:s<N)(hn:1048577<=n):
 ∃out,XK n (N:Int) L lv (s:Int) true=some out∧PD L lv (fun u=>u=(s:Int)) N out:=by
 rw [XK,FJ (by omega) (by omega),Av,Ab (show s<(List.replicate N false).length by simpa using hs),Av,Int.toNat_natCast]
 have key:=Qz (L:=fun m (st:Bool×List Bool)=>Fe n L lv true (fun q33 l34=>(some l34)) m st.1 st.2) (fun st=>2*cf st.2+st.1.toNat)
  (fun st=>st.2.length=N∧gb st.2 s=true∧(∀v,v<N->gb st.2 v=true->HV L lv (fun u=>u=(s:Int)) (v:Int))∧(st.1=false->∀k (h:k<L.length),gb lv k=true->gb st.2 L[k].From.toNat=true->gb st.2 L[k].To.toNat=true))
  (fun o=>∃out,o=some out∧PD L lv (fun u=>u=(s:Int)) N out) ?_ n (true,(List.replicate N false).set s true) ?_ ?_
 ·exact key
 ·rintro m ⟨q,out⟩ ⟨h1,h2,h3,h4⟩ ih
  have h1:out.length=N:=h1
  have h2:gb out s=true:=h2
  have h3:∀v,v<N->gb out v=true->HV L lv (fun u=>u=(s:Int)) (v:Int):=h3
  simp only [Fe.eq_2]
  cases q with
  |false=>
   have h4:=h4 rfl
   refine⟨out,rfl,h1,fun v hv=>⟨h3 v hv,fun r=>?_⟩⟩
   have:=HV.closed (Q:=fun u=>0<=u∧u<(N:Int)∧gb out u.toNat=true) (fun u e=>by subst e;exact⟨by omega,by omega,by simpa using h2⟩) (fun u w hu e=>by
    obtain⟨k,hk,e1,e2,e3⟩:=e
    subst e2 e3
    have:=hL.to_ k hk
    exact⟨this.1,this.2,h4 k hk e1 hu.2.2⟩) r
   simpa using this.2.2
  |true=>
   rw [cT]
   have inner:=FY (L:=fun m' i (st:Bool×List Bool)=>Ee L lv true (fun q38 i39 l40=>(Fe n L lv true (fun q33 l34=>(some l34)) m q38 l40)) m' st.1 i st.2) L.length
    (fun i st=>st.2.length=N∧gb st.2 s=true∧(∀v,v<N->gb st.2 v=true->HV L lv (fun u=>u=(s:Int)) (v:Int))∧(∀v,gb out v=true->gb st.2 v=true)∧cf st.2<=cf out∧(st.1=true->cf st.2<cf out)∧(st.1=false->st.2=out∧∀k (h:k<L.length),k<i->gb lv k=true->gb out L[k].From.toNat=true->gb out L[k].To.toNat=true))
    (fun o=>∃out,o=some out∧PD L lv (fun u=>u=(s:Int)) N out) ?_ ?_ n 0 (false,out) (by omega) (by omega) ⟨h1,h2,h3,fun v h=>h,Nat.le_refl _,fun h=>Bool.noConfusion h,fun _=>⟨rfl,fun k _ h=>absurd h (Nat.not_lt_zero k)⟩⟩
   ·exact inner
   ·rintro m' i ⟨q,l⟩ hi ⟨g1,g2,g3,g4,g5,g6,g7⟩ kk
    have g1:l.length=N:=g1
    have g2:gb l s=true:=g2
    have g3:∀v,v<N->gb l v=true->HV L lv (fun u=>u=(s:Int)) (v:Int):=g3
    have g4:∀v,gb out v=true->gb l v=true:=g4
    have g5:cf l<=cf out:=g5
    have g6:q=true->cf l<cf out:=g6
    have g7:q=false->l=out∧∀k (h:k<L.length),k<i->gb lv k=true->gb out L[k].From.toNat=true->gb out L[k].To.toNat=true:=g7
    have hF:=hL.from_ i hi
    have hT:=hL.to_ i hi
    obtain⟨F,eF⟩:=Int.eq_ofNat_of_zero_le hF.1
    have eF:L[i].From=(F:Int):=eF
    obtain⟨T,eT⟩:=Int.eq_ofNat_of_zero_le hT.1
    have eT:L[i].To=(T:Int):=eT
    have lF:F<l.length:=by omega
    have lT:T<l.length:=by omega
    show∃o',Ee L lv true _ (m'+1) q (i:Int) l=some o'∧_
    simp only [Ee.eq_2,DA hi,cT,Ab hi,Av,Bool.not_true,cF,MM (show i<lv.length by omega),eF,eT,MM lF,MM lT,CV,Int.toNat_natCast,wT i]
    have skip:(gb lv i=true->gb l F=true->gb l T=true)->∃o',Ee L lv true (fun q38 i39 l40=>(Fe n L lv true (fun q33 l34=>(some l34)) m q38 l40)) m' q ((i+1:Nat):Int) l=some o'∧PD L lv (fun u=>u=(s:Int)) N o':=fun hc=>kk (q,l) ⟨g1,g2,g3,g4,g5,g6,fun hq=>by
     obtain⟨e,h⟩:=g7 hq
     refine⟨e,fun k hk hki a b=>?_⟩
     by_cases c:k=i
     ·subst c;subst e
      rw [eT,Int.toNat_natCast]
      rw [eF,Int.toNat_natCast]at b
      exact hc a b
     ·exact h k hk (by omega) a b⟩
    cases c1:(gb lv i&&gb l F)with
    |false=>
     simp only [Bool.false_and,cF]
     exact skip fun a b=>by rw [a,b]at c1;cases c1
    |true=>
     simp only [Bool.true_and]
     simp only [Bool.and_eq_true]at c1
     cases c2:gb l T with
     |true=>
      simp only [Bool.not_true,cF]
      exact skip fun _ _=>c2
     |false=>
      simp only [Bool.not_false,cT]
      have hcf:=Tu lT c2
      refine kk (true,l.set T true) ⟨by simpa using g1,?_,?_,?_,by show cf (l.set T true)<=_;omega,fun _=>by show cf (l.set T true)<_;omega,fun h=>by cases h⟩
      ·show gb (l.set T true) s=true
       rw [Mx lT];split
       ·rfl
       ·exact g2
      ·intro v hv hg
       have hg:gb (l.set T true) v=true:=hg
       rw [Mx lT]at hg
       by_cases c:T=v
       ·subst c
        refine .step (g3 F (by omega) c1.2) ⟨i,hi,c1.1,eF,eT⟩
       ·rw [if_neg c]at hg;exact g3 v hv hg
      ·intro v hg
       show gb (l.set T true) v=true
       rw [Mx lT];split
       ·rfl
       ·exact g4 v hg
   ·rintro m' ⟨q,l⟩ ⟨g1,g2,g3,g4,g5,g6,g7⟩
    show∃o',Ee L lv true _ (m'+1) q (L.length:Int) l=some o'∧_
    simp only [Ee.eq_2,DS,cF]
    refine ih (q,l) ⟨g1,g2,g3,fun hq=>?_⟩ ?_
    ·obtain⟨e,h⟩:=g7 hq
     have e:l=out:=e
     subst e
     exact fun k hk a b=>h k hk hk a b
    ·show 2*cf l+q.toNat<2*cf out+1
     cases q with
     |true=>have:=g6 rfl;have:cf l<cf out:=this;simp;omega
     |false=>have:cf l<=cf out:=g5;simp;omega
 ·have h1:=dM ((List.replicate N false).set s true)
  simp only [List.length_set,List.length_replicate]at h1
  show 2*cf ((List.replicate N false).set s true)+1<n
  omega
 ·have hl2:s<(List.replicate N false).length:=by simpa using hs
  refine⟨by simp,by show gb ((List.replicate N false).set s true) s=true;rw [Mx hl2,if_pos rfl],fun v hv hg=>?_,fun h=>by cases h⟩
  have hg:gb ((List.replicate N false).set s true) v=true:=hg
  rw [Mx hl2]at hg
  by_cases c:s=v
  ·subst c;exact .src rfl
  ·rw [if_neg c]at hg;simp [gb,hv]at hg
theorem QT{b:AJ}(v:CF b):PE (MH b) (2*(pls b.Design).length):=
 ⟨fun k h=>by have:=(Oe v _ (List.getElem_mem h)).from_;unfold Cl at this;push_cast;omega,fun k h=>by have:=(Oe v _ (List.getElem_mem h)).to_;unfold Cl at this;push_cast;omega⟩
theorem gV{n:Nat}{L:List AR}{br:List Int}(hl:L.length<=1048576)(hb:br.length<=1048576)(hn:1048577<=n):Py n L br=some (Em (fun k (_:AR)=>[!(br.any fun y=>y==(k:Int))]) 0 L):=by
 rw [Py]
 rw [Ds (xs:=L) (L:=fun m s i=>JH n L br (fun l19 i23=>(some l19)) m s i) (k:=fun s=>some s) (fun k (_:AR)=>[!(br.any fun y=>y==(k:Int))]) 1 0 (fun _ _ _=>by simp) (by omega) (by
  intro m i hi s hs
  simp only [JH.eq_2,DA hi,cT,aL hb hn,Av,wT i]
  rw [BO (by simp;omega) (by omega),Av]) (by
  intro m s
  simp only [JH.eq_2,DS,cF]) n (by omega) [] (by simp)]
 rw [List.nil_append]
theorem aS{n:Nat}{c:List Int}(hc:JM c){s0:AA}(e0:s0.code_=c)(st:Int):∀(m k:Nat) (l:List Int) (x a d:Int),k<m->l.length+k<=3->Dh c (AA.mk s0.code_ a d)->
 Cm (fun r=>r.1.length=l.length+k∧Dh c r.2) (IV n s0 st (fun l38 i42 i43 i45 i46=>(some (l38,(AA.mk s0.code_ i45 i46)))) m l x (k:Int) a d)
 |0,k,l,x,a,d,hm,_,_=>by omega
 |m+1,0,l,x,a,d,hm,hl,hs=>by
  rw [IV.eq_2]
  exact AQ ⟨rfl,hs⟩
 |m+1,k+1,l,x,a,d,hm,hl,hs=>by
  have hp:decide (((k+1:Nat):Int)>0)=true:=decide_eq_true (by omega)
  have w:wrap .i64 (((k+1:Nat):Int)-1)=(k:Int):=by rw [Aw (by omega) (by omega)];omega
  rw [IV.eq_2,hp,cT,BO (by simp;omega) (by omega),Av]
  refine AH (Nx hc hs st) fun r _ ⟨h1,_⟩=>?_
  rw [w]
  exact(aS hc e0 st m k (l++[x]) _ _ _ (by omega) (by simp;omega) (h1.mk2 e0)).weaken fun r ⟨q1,q2⟩=>⟨by rw [q1];simp;omega,q2⟩
theorem mA{n:Nat}{c:List Int}(hc:JM c){s:AA}(hs:Dh c s)(st:Int)(hn:1048577<=n):Cm (fun r=>(1<=r.1.length∧r.1.length<=3)∧Dh c r.2) (SH n s st):=by
 rw [SH]
 refine AH (Nx hc hs st) fun r _ ⟨h1,_⟩=>AH (Nx hc (h1.mk2 hs.code) 3) fun q _ ⟨k1,k2,k3⟩=>?_
 have w:wrap .i64 (1+q.1)=((1+q.1.toNat:Nat):Int):=by rw [Aw (by omega) (by omega)];omega
 rw [w]
 exact(aS hc hs.code st n _ [] _ _ _ (by omega) (by simp;omega) (k1.mk2 hs.code)).weaken fun r ⟨q1,q2⟩=>⟨⟨by rw [q1];simp,by rw [q1];simp;omega⟩,q2⟩
theorem aE{n:Nat}{c:List Int}(hc:JM c){s0:AA}(e0:s0.code_=c)(base:Int){r15 r26:List Int×AA}(h15:r15.1.length<=3)(h26:1<=r26.1.length∧r26.1.length<=3):∀(m i:Nat) (l:List Int) (a d:Int),r15.1.length*r26.1.length-i<m->i<=r15.1.length*r26.1.length->l.length=i->Dh c (AA.mk s0.code_ a d)->
 Cm (fun r=>Ul r.1∧Dh c r.2) (Fk n s0 base r15 r26 (fun l52 i56 i58 i59=>(some ((BP.mk r15.1 r26.1 l52),(AA.mk s0.code_ i58 i59)))) m l (i:Int) a d)
 |0,i,l,a,d,hm,_,_,_=>by omega
 |m+1,i,l,a,d,hm,hi,hl,hs=>by
  have hprod:r15.1.length*r26.1.length<=3*3:=Nat.mul_le_mul h15 h26.2
  have wp:wrap .i64 ((r15.1.length:Int)*(r26.1.length:Int))=((r15.1.length*r26.1.length:Nat):Int):=by
   rw [←Int.natCast_mul,Aw (by omega) (by omega)]
  rw [Fk.eq_2,wp]
  by_cases c0:i<r15.1.length*r26.1.length
  ·rw [DA c0,cT]
   refine AH (Nx hc hs 10) fun r _ ⟨h1,_⟩=>?_
   have hz:((r26.1.length:Int)==0)=false:=by rw [beq_eq_false_iff_ne];omega
   have tm:Int.tmod (i:Int) (r26.1.length:Int)=((i%r26.1.length:Nat):Int):=rfl
   have go1:∀(z:Int) (s':AA),Dh c s'->Cm (fun r=>Ul r.1∧Dh c r.2) (Option.bind (Bk l [z] 8) fun z1=>Fk n s0 base r15 r26 (fun l52 i56 i58 i59=>(some ((BP.mk r15.1 r26.1 l52),(AA.mk s0.code_ i58 i59)))) m z1 (wrap .i64 ((i:Int)+1)) s'.at_ s'.seed_):=fun z s' h'=>by
    rw [BO (by simp;omega) (by omega),Av,wS (by omega)]
    exact aE hc e0 base h15 h26 m (i+1) _ _ _ (by omega) (by omega) (by simp;omega) (h'.mk2 e0)
   have g2:(i:Int)>=(r26.1.length:Int)->∃x,AL l (wrap .i64 ((i:Int)-(r26.1.length:Int)))=some x:=fun h=>by
    rw [Aw (by omega) (by omega)]
    obtain⟨x,hx,_⟩:=EX (xs:=l) (i:=(i:Int)-(r26.1.length:Int)) (by omega) (by omega)
    exact⟨x,hx⟩
   rw [hz,cF,tm]
   refine Ao (fun q1=>?_) fun q1=>?_
   ·have q1:=of_decide_eq_true q1
    have hi0:0<i:=by
     rcases Nat.eq_zero_or_pos i with e|e
     ·subst e;simp at q1
     ·exact e
    have w1:wrap .i64 ((i:Int)-1)=((i-1:Nat):Int):=by rw [Aw (by omega) (by omega)];omega
    rw [w1,Ab (show i-1<l.length by omega),Av]
    refine AH (Nx hc (h1.mk2 e0) 20) fun r2 _ ⟨h2,_⟩=>Ao (fun q2=>?_) fun _=>go1 _ _ h2
    obtain⟨x,hx⟩:=g2 (of_decide_eq_true q2)
    rw [hx,Av]
    exact AH (Nx hc (h2.mk2 e0) 20) fun r3 _ ⟨h3,_⟩=>go1 _ _ h3
   ·refine Ao (fun q2=>?_) fun _=>go1 _ _ h1
    obtain⟨x,hx⟩:=g2 (of_decide_eq_true q2)
    rw [hx,Av]
    exact AH (Nx hc (h1.mk2 e0) 20) fun r3 _ ⟨h3,_⟩=>go1 _ _ h3
  ·rw [show decide ((i:Int)<((r15.1.length*r26.1.length:Nat):Int))=false from decide_eq_false (by omega),cF]
   exact AQ ⟨⟨by show r15.1.length<=_;omega,by show r26.1.length<=_;omega,by show l.length<=_;omega⟩,hs⟩
theorem lN{n:Nat}{c:List Int}(hc:JM c){s:AA}(hs:Dh c s)(base:Int)(hn:1048577<=n):Cm (fun r=>Ul r.1∧Dh c r.2) (Rn n s base):=by
 rw [Rn]
 refine AH (mA hc hs 60 hn) fun r _ ⟨h1,h2⟩=>AH (mA hc (h2.mk2 hs.code) 40 hn) fun q _ ⟨k1,k2⟩=>?_
 have:r.1.length*q.1.length<=3*3:=Nat.mul_le_mul h1.2 k1.2
 exact aE hc hs.code base h1.2 k1 n 0 [] _ _ (by omega) (by omega) rfl (k2.mk2 hs.code)
theorem kW{n:Nat}{c:List Int}(hc:JM c){s:AA}(hs:Dh c s)(base:Int)(hn:1048577<=n):Cm (fun r=>(r.1.length<=1048576∧∀t∈r.1,Ul t)∧Dh c r.2) (Qj n s base):=by
 rw [Qj]
 refine AH (lN hc hs base hn) fun r _ ⟨h1,h2⟩=>AH (lN hc (h2.mk2 hs.code) base hn) fun q _ ⟨k1,k2⟩=>AQ ⟨⟨by simp,fun t ht=>?_⟩,k2.mk2 hs.code⟩
 rcases List.mem_cons.1 ht with e|ht
 ·rw [e];exact h1
 ·rw [List.mem_singleton.1 ht];exact k1
theorem bR{n:Nat}{c:List Int}(hc:JM c){s:AA}(hs:Dh c s)(kd f t z:Int)(hn:1048577<=n):Cm (fun r=>eB r.1∧Dh c r.2) (Og n s kd f t z):=by
 rw [Og]
 refine Ao (fun _=>?_) fun _=>?_
 ·exact AH (Nx hc hs 10) fun r _ ⟨h1,_⟩=>AH (kW hc (h1.mk2 hs.code) _ hn) fun q _ ⟨k1,k2⟩=>AQ ⟨⟨k1,by simp⟩,k2.mk2 hs.code⟩
 ·exact AH (Nx hc hs 20) fun r _ ⟨h1,_⟩=>AH (kW hc (h1.mk2 hs.code) _ hn) fun q _ ⟨k1,k2⟩=>AH (kW hc (k2.mk2 hs.code) 10 hn) fun p _ ⟨p1,p2⟩=>AQ ⟨⟨k1,p1⟩,p2.mk2 hs.code⟩
theorem jE:∀k:Nat,k<4->∀i:Nat,i<2^k->∀b:Nat,b<k->(UI .i64 (i:Int) (Hh .i64 1 (IntKind.wrap IntKind.u64 (b:Int))) !=0)=true∨(0<=wrap .i64 ((i:Int)+(Hh .i64 1 (IntKind.wrap IntKind.u64 (b:Int))))∧wrap .i64 ((i:Int)+(Hh .i64 1 (IntKind.wrap IntKind.u64 (b:Int))))<((2^k:Nat):Int)):=by decide+kernel
theorem oY{n:Nat}{cl:As}{k b:Nat}(hk:k<4)(ht:cl.Truth.length=2^k)(hb:b<k)(hn:1048577<=n):Cm (fun _=>True) (Sb n cl (b:Int)):=by
 have h16:2^k<=2^4:=Nat.pow_le_pow_right (by omega) (by omega)
 have wb:IntKind.wrap IntKind.u64 (b:Int)=(b:Int):=by
  have:∀b:Nat,b<4->IntKind.wrap IntKind.u64 (b:Int)=(b:Int):=by decide+kernel
  exact this b (by omega)
 rw [Sb,wb,decide_eq_false (by omega),cF]
 refine loop (L:=fun m i (p:Bool×Bool)=>HD cl (b:Int) _ m p.1 p.2 i) cl.Truth.length (fun _ _=>True) (fun o=>Cm (fun _=>True) o) ?_ ?_ n 0 (false,false) (by omega) (by omega) trivial
 ·intro m i p hi _
  have h8:=jE k hk i (by omega) b hb
  simp only [HD.eq_2,DA hi,cT,wT i]
  rcases h8 with h8|h8
  ·simp only [h8,cT]
   exact .inl ⟨p,trivial,rfl⟩
  ·obtain⟨y,hy,_⟩:=EX (xs:=cl.Truth) h8.1 (by rw [ht];exact h8.2)
   cases hx:(UI .i64 (i:Int) (Hh .i64 1 (IntKind.wrap IntKind.u64 (b:Int))) !=0)with
   |true=>simp only [cT];exact .inl ⟨p,trivial,rfl⟩
   |false=>
    simp only [cF,Ab hi,hy,Av]
    obtain⟨p1,p2⟩:=p
    cases p1<;>cases p2<;>exact .inl ⟨(_,_),trivial,rfl⟩
 ·intro m p _
  simp only [HD.eq_2,DS,cF]
  obtain⟨p1,p2⟩:=p
  cases p1<;>cases p2<;>exact AQ trivial
theorem nP{j:Nat}(h:j<4):∃x:ByteArray,AL ([(ByteArray.mk #[97]),(ByteArray.mk #[98]),(ByteArray.mk #[99]),(ByteArray.mk #[100])]) (j:Int)=some x∧x.size<=1048576:=by
 match j,h with
 |0,_=>exact⟨_,rfl,by decide⟩
 |1,_=>exact⟨_,rfl,by decide⟩
 |2,_=>exact⟨_,rfl,by decide⟩
 |3,_=>exact⟨_,rfl,by decide⟩
theorem bC{n:Nat}{c:List Int}(hc:JM c){s0:AA}(e0:s0.code_=c){T:List Int}{k:Nat}(hk:k<4)(hT:T.length=2^k){Q:As×AA->Prop}{k0:List Bv->Int->Int->Int->Option (As×AA)}
 (h0:∀l i a d,l.length=k->Yp l->Dh c (AA.mk s0.code_ a d)->Cm Q (k0 l i a d)):∀(m j:Nat) (l:List Bv) (a d:Int),k-j<m->j<=k->l.length=j->Yp l->Dh c (AA.mk s0.code_ a d)->
 Cm Q (MC n s0 T k0 m l ((2^j:Nat):Int) a d)
 |0,j,l,a,d,hm,_,_,_,_=>by omega
 |m+1,j,l,a,d,hm,hj,hl,hp,hs=>by
  rw [MC.eq_2,hT]
  by_cases q:j<k
  ·have h2:2^j<2^k:=Nat.pow_lt_pow_right (by omega) q
   have h16:2^k<=2^4:=Nat.pow_le_pow_right (by omega) (by omega)
   have hw:wrap .i64 (2*((2^j:Nat):Int))=((2^(j+1):Nat):Int):=by
    rw [Nat.pow_succ]
    generalize 2^j=P at h2 ⊢
    rw [Aw (by omega) (by omega)];omega
   obtain⟨x,hx,hz⟩:=nP (j:=j) (by omega)
   rw [DA h2,cT,hl,hx,Av,hw]
   refine AH (Nx hc hs 9) fun r _ ⟨h1,_⟩=>?_
   rw [BO (by simp;omega) (by omega),Av]
   refine bC hc e0 hk hT h0 m (j+1) _ _ _ (by omega) (by omega) (by simp;omega) ⟨by simp;omega,fun p hp2=>?_⟩ (h1.mk2 e0)
   rcases List.mem_append.1 hp2 with h|h
   ·exact hp.2 p h
   ·rw [List.mem_singleton.1 h];exact hz
  ·obtain rfl:j=k:=by omega
   rw [DS,cF]
   exact h0 l _ a d hl hp hs
theorem Yo{n:Nat}(hn:1048577<=n){c:List Int}(hc:JM c){s0:AA}(e0:s0.code_=c){T:List Int}{k:Nat}(hk:k<4)(hT:T.length=2^k){nm:ByteArray}(hnm:nm.size<=1048576){r33 r41:Int×AA}{ps z:List Bv}(hps:ps.length=k)(hz:Yp z):∀(m i:Nat) (l:List Be) (a d:Int),k-i<m->i<=k->l.length<=i->(∀x∈l,eB x)->Dh c (AA.mk s0.code_ a d)->
 Cm (fun r=>SL r.1∧Dh c r.2) (Iz n s0 nm T r33 r41 ps z (fun l144 i148 i150 i151=>(some ((As.mk nm 1 z l144 T r33.1 r41.1),(AA.mk s0.code_ i150 i151)))) m l (i:Int) a d)
 |0,i,l,a,d,hm,_,_,_,_=>by omega
 |m+1,i,l,a,d,hm,hi,hl,hA,hs=>by
  have h16:2^k<=2^4:=Nat.pow_le_pow_right (by omega) (by omega)
  rw [Iz.eq_2,hps]
  by_cases q:i<k
  ·rw [DA q,cT,wS (by omega)]
   refine AH (oY (cl:=As.mk nm 1 z [] T r33.1 r41.1) hk hT q hn) fun sn _ _=>Ao (fun _=>?_) fun _=>Yo hn hc e0 hk hT hnm hps hz m (i+1) l a d (by omega) (by omega) (by omega) hA hs
   refine AH (bR hc hs 1 _ _ _ hn) fun r _ ⟨h1,h2⟩=>?_
   rw [BO (by simp;omega) (by omega),Av]
   refine Yo hn hc e0 hk hT hnm hps hz m (i+1) _ _ _ (by omega) (by omega) (by simp;omega) (fun x hx=>?_) (h2.mk2 e0)
   rcases List.mem_append.1 hx with h|h
   ·exact hA x h
   ·rw [List.mem_singleton.1 h];exact h1
  ·obtain rfl:i=k:=by omega
   rw [DS,cF]
   exact AQ ⟨⟨hnm,hz,⟨by show l.length<=_;omega,hA⟩,by show T.length<=_;omega⟩,hs⟩
theorem cM{n:Nat}{c:List Int}(hc:JM c){s:AA}(hs:Dh c s){nm:ByteArray}(hnm:nm.size<=1048576){T:List Int}{k:Nat}(hk:k<4)(hT:T.length=2^k)(hn:1048577<=n):Cm (fun r=>SL r.1∧Dh c r.2) (Vq n s nm T):=by
 rw [Vq]
 refine AH (Nx hc hs 50) fun r _ ⟨h1,_⟩=>AH (Nx hc (h1.mk2 hs.code) 80) fun q _ ⟨h2,_⟩=>?_
 have:=bC (n:=n) (s0:=s) (Q:=fun r=>SL r.1∧Dh c r.2) hc hs.code hk hT (k0:=fun l75 i79 i81 i82=>(Option.bind (Bk l75 ([(Bv.mk ((ByteArray.mk #[121])) 2 0 false)]) 40) fun z106=>(Iz n s nm T r q l75 z106 (fun l144 i148 i150 i151=>(some ((As.mk nm 1 z106 l144 T r.1 q.1),(AA.mk s.code_ i150 i151)))) n (([]:List Be)) 0 i81 i82))) (fun l i a d hl hp hs2=>by
  rw [BO (by simp;omega) (by omega),Av]
  refine Yo hn hc hs.code hk hT hnm hl ⟨by simp;omega,fun p hp2=>?_⟩ n 0 [] a d (by omega) (by omega) (by simp) (by simp) hs2
  rcases List.mem_append.1 hp2 with h|h
  ·exact hp.2 p h
  ·rw [List.mem_singleton.1 h];exact(by decide:(ByteArray.mk #[121]).size<=1048576)) n 0 [] q.2.at_ q.2.seed_ (by omega) (by omega) rfl ⟨by simp,by simp⟩ (h2.mk2 hs.code)
 exact this
theorem gA{n:Nat}{c:List Int}(hc:JM c){s:AA}(hs:Dh c s){nm:ByteArray}(hnm:nm.size<=1048576)(kd ed:Int)(hn:1048577<=n):Cm (fun r=>SL r.1∧Dh c r.2) (QC n s nm kd ed):=by
 have e:=hs.code
 have pins:∀x y:Int,Yp [(Bv.mk ((ByteArray.mk #[100])) 1 x false),(Bv.mk ((ByteArray.mk #[99,107])) 1 y true),(Bv.mk ((ByteArray.mk #[113])) 2 0 false)]:=fun x y=>⟨by simp,fun p hp=>by
  rcases List.mem_cons.1 hp with h|hp
  ·rw [h];exact(by decide:(ByteArray.mk #[100]).size<=1048576)
  ·rcases List.mem_cons.1 hp with h|hp
   ·rw [h];exact(by decide:(ByteArray.mk #[99,107]).size<=1048576)
   ·rw [List.mem_singleton.1 hp];exact(by decide:(ByteArray.mk #[113]).size<=1048576)⟩
 rw [QC]
 refine AH (Nx hc hs 50) fun r1 _ ⟨h1,_⟩=>AH (Nx hc (h1.mk2 e) 80) fun r2 _ ⟨h2,_⟩=>AH (Nx hc (h2.mk2 e) 9) fun r3 _ ⟨h3,_⟩=>AH (Nx hc (h3.mk2 e) 9) fun r4 _ ⟨h4,_⟩=>AH (bR hc (h4.mk2 e) _ _ _ _ hn) fun r5 _ ⟨a5,h5⟩=>AH (bR hc (h5.mk2 e) _ _ _ _ hn) fun r6 _ ⟨a6,h6⟩=>AH (bR hc (h6.mk2 e) _ _ _ _ hn) fun r7 _ ⟨a7,h7⟩=>Ao (fun _=>?_) fun _=>?_
 ·refine AH (bR hc (h7.mk2 e) _ _ _ _ hn) fun r8 _ ⟨a8,h8⟩=>?_
  rw [BO (by simp) (by omega),Av]
  refine AQ ⟨⟨hnm,pins _ _,⟨by simp,fun x hx=>?_⟩,by simp⟩,h8.mk2 e⟩
  simp only [List.cons_append,List.nil_append,List.mem_cons,List.not_mem_nil,or_false]at hx
  rcases hx with h|h|h|h<;>rw [h]<;>assumption
 ·refine AQ ⟨⟨hnm,pins _ _,⟨by simp,fun x hx=>?_⟩,by simp⟩,h7.mk2 e⟩
  simp only [List.mem_cons,List.not_mem_nil,or_false]at hx
  rcases hx with h|h|h<;>rw [h]<;>assumption
theorem SL.re{cl:As}(h:SL cl){T:List Int}(hT:T.length<=1048576):SL (As.mk cl.Name cl.Kind cl.Pins cl.Arcs T cl.Leak cl.Energy):=⟨h.name,h.pins,h.arcs,hT⟩
theorem oV{n:Nat}{c:List Int}(hc:JM c){s:AA}(hs:Dh c s)(hn:1048577<=n):Cm (fun r=>Pz r.1∧Dh c r.2) (Sy n s):=by
 have e:=hs.code
 rw [Sy]
 refine AH (cM hc hs (k:=1) (by decide) (by decide) (by decide) hn) fun r1 _ ⟨a1,h1⟩=>AH (cM hc (h1.mk2 e) (k:=1) (by decide) (by decide) (by decide) hn) fun r2 _ ⟨a2,h2⟩=>AH (cM hc (h2.mk2 e) (k:=2) (by decide) (by decide) (by decide) hn) fun r3 _ ⟨a3,h3⟩=>AH (cM hc (h3.mk2 e) (k:=2) (by decide) (by decide) (by decide) hn) fun r4 _ ⟨a4,h4⟩=>AH (cM hc (h4.mk2 e) (k:=3) (by decide) (by decide) (by decide) hn) fun r5 _ ⟨a5,h5⟩=>AH (gA hc (h5.mk2 e) (by decide) _ _ hn) fun r6 _ ⟨a6,h6⟩=>AH (gA hc (h6.mk2 e) (by decide) _ _ hn) fun r7 _ ⟨a7,h7⟩=>AH (gA hc (h7.mk2 e) (by decide) _ _ hn) fun r8 _ ⟨a8,h8⟩=>?_
 have b1:=a1.re (T:=[1,0]) (by decide)
 have b2:=a2.re (T:=[0,1]) (by decide)
 have b3:=a3.re (T:=[1,1,1,0]) (by decide)
 have b4:=a4.re (T:=[0,1,1,0]) (by decide)
 have b5:=a5.re (T:=[0,1,0,1,0,0,1,1]) (by decide)
 refine AQ ⟨⟨by simp,fun x hx=>?_⟩,h8.mk2 e⟩
 simp only [List.mem_cons,List.not_mem_nil,or_false]at hx
 rcases hx with h|h|h|h|h|h|h|h<;>rw [h]<;>assumption
theorem LH{α:Type}{A:α->Prop}{o:Option α}{f:α->Option Unit}(h:Cm A o)(k:∀v,A v->f v=some ()):Option.bind o f=some ():=by
 obtain⟨v,e,hv⟩:=h
 rw [e];exact k v hv
theorem FW{b:Bool}{x y:Option Unit}(h1:b=true->x=some ())(h2:b=false->y=some ()):(cond b x y)=some ():=by
 cases b
 ·exact h2 rfl
 ·exact h1 rfl
theorem VH{α:Type}{l y:List α}(h:FM Eq l y):y=l:=by
 apply List.ext_getElem?
 intro i
 by_cases c:i<l.length
 ·have h1:l[i]? =some l[i]:=List.getElem?_eq_getElem c
  have h2:y[i]? =some (y[i]'(by have:=h.1;omega)):=List.getElem?_eq_getElem _
  rw [h1,h2,h.2 i _ _ h1 h2]
 ·rw [List.getElem?_eq_none (by have:=h.1;omega),List.getElem?_eq_none (by omega)]
theorem QO{α:Type}{r:α->α->Prop}{Q R:α->Prop}{l y:List α}(h:FM r l y)(hl:∀x∈l,Q x)(hr:∀x z,r x z->Q x->R z):∀z∈y,R z:=fun z hz=>by
 obtain⟨i,hi,rfl⟩:=List.mem_iff_getElem.1 hz
 have hi2:i<l.length:=by have:=h.1;omega
 exact hr l[i] y[i] (h.2 i _ _ (List.getElem?_eq_getElem hi2) (List.getElem?_eq_getElem hi)) (hl _ (List.getElem_mem hi2))
def KW(x:At):Prop:=x.Name.size<=1000∧1<=x.Nets.length∧x.Nets.length<=5
structure LN(d:AV):Prop where
 inst:d.Instances.length<=6∧∀x∈d.Instances,KW x
 nets:(3<=d.Nets.length∧d.Nets.length<=9)∧∀x∈d.Nets,x.size<=1000
 ports:(3<=d.Ports.length∧d.Ports.length<=5)∧∀p∈d.Ports,p.Name.size<=1000
theorem KW.shp{l y:List At}(h:FM GQ l y)(hl:∀x∈l,KW x):∀z∈y,KW z:=
 QO h hl fun x z hr hx=>⟨by rw [←hr.1];exact hx.1,by rw [hr.2.2.1];exact hx.2.1,by rw [hr.2.2.1];exact hx.2.2⟩
theorem Ma{x y:ByteArray}(h:x.size+y.size<=1000):Lo x y=some (x++y)∧(x++y).size=x.size+y.size:=by
 refine⟨?_,ByteArray.size_append⟩
 unfold Lo
 rw [if_neg (by
  have:IntKind.i64.max=9223372036854775807:=rfl
  rw [this];omega)]
theorem cG{j:Nat}(h:j<12):∃(x:Int) (p:Nat),AL [0,1,2,2,3,4,5,5,5,6,7,1] (j:Int)=some x∧AL [2,2,3,3,4,3,3,3] x=some (p:Int)∧2<=p∧p<=4:=by
 match j,h with
 |0,_=>exact⟨0,2,rfl,rfl,by omega,by omega⟩
 |1,_=>exact⟨1,2,rfl,rfl,by omega,by omega⟩
 |2,_=>exact⟨2,3,rfl,rfl,by omega,by omega⟩
 |3,_=>exact⟨2,3,rfl,rfl,by omega,by omega⟩
 |4,_=>exact⟨3,3,rfl,rfl,by omega,by omega⟩
 |5,_=>exact⟨4,4,rfl,rfl,by omega,by omega⟩
 |6,_=>exact⟨5,3,rfl,rfl,by omega,by omega⟩
 |7,_=>exact⟨5,3,rfl,rfl,by omega,by omega⟩
 |8,_=>exact⟨5,3,rfl,rfl,by omega,by omega⟩
 |9,_=>exact⟨6,3,rfl,rfl,by omega,by omega⟩
 |10,_=>exact⟨7,3,rfl,rfl,by omega,by omega⟩
 |11,_=>exact⟨1,2,rfl,rfl,by omega,by omega⟩
theorem Zw{n:Nat}{c:List Int}(hc:JM c){s0:AA}(e0:s0.code_=c){nets:List ByteArray}{cell:Int}{p:Nat}(hp:AL [2,2,3,3,4,3,3,3] cell=some (p:Int))(hp2:2<=p∧p<=4){k2:Int->Int->Int->ByteArray->Int->List Int->Option Unit}{t:ByteArray}{i2:Int}
 (hk:∀a d l,l.length=p-1->Dh c (AA.mk s0.code_ a d)->k2 ((p-1:Nat):Int) a d t i2 l=some ()):∀(m i:Nat) (a d:Int) (l:List Int),p-1-i<m->i<=p-1->l.length=i->Dh c (AA.mk s0.code_ a d)->
 Hc n s0 nets cell k2 m (i:Int) a d t i2 l=some ()
 |0,i,a,d,l,hm,_,_,_=>by omega
 |m+1,i,a,d,l,hm,hi,hl,hs=>by
  have wp:wrap .i64 ((p:Int)-1)=((p-1:Nat):Int):=by rw [Aw (by omega) (by omega)];omega
  rw [Hc.eq_2,hp,Av,wp]
  by_cases q:i<p-1
  ·have go1:∀(x:Int) (s':AA),Dh c s'->(Option.bind (Bk (([]:List Int)) l 8) fun z=>(Option.bind (Bk z [x] 8) fun z2=>(Hc n s0 nets cell k2 m (wrap .i64 ((i:Int)+1)) s'.at_ s'.seed_ t i2 z2)))=some ():=fun x s' h'=>by
    rw [BO (by simp;omega) (by omega),Av,List.nil_append,BO (by simp;omega) (by omega),Av,wS (by omega)]
    exact Zw hc e0 hp hp2 hk m (i+1) _ _ _ (by omega) (by omega) (by simp;omega) (h'.mk2 e0)
   rw [DA q,cT]
   exact LH (Nx hc hs _) fun r1 ⟨h1,_⟩=>LH (Nx hc (h1.mk2 e0) 3) fun r2 ⟨h2,_⟩=>FW (fun _=>FW (fun _=>go1 _ _ h2) fun _=>go1 _ _ h2) fun _=>FW (fun _=>go1 _ _ h2) fun _=>go1 _ _ h2
  ·obtain rfl:i=p-1:=by omega
   rw [DS,cF]
   exact hk a d l hl hs
theorem cD{n:Nat}(hn:1048577<=n){c:List Int}(hc:JM c){s0:AA}(e0:s0.code_=c){k0:List At->List ByteArray->Int->Int->Int->Option Unit}
 (hk:∀l nets i a d,l.length<=6->nets.length=3+l.length->(∀x∈l,KW x)->(∀x∈nets,ByteArray.size x<=1000)->Dh c (AA.mk s0.code_ a d)->k0 l nets i a d=some ()):∀(m k:Nat) (l:List At) (nets:List ByteArray) (a d:Int),k<m->l.length+k<=6->nets.length=3+l.length->(∀x∈l,KW x)->(∀x∈nets,ByteArray.size x<=1000)->Dh c (AA.mk s0.code_ a d)->
 Js n s0 k0 m l nets (k:Int) a d=some ()
 |0,k,l,nets,a,d,hm,_,_,_,_,_=>by omega
 |m+1,0,l,nets,a,d,hm,hl,hnl,hI,hN,hs=>by
  rw [Js.eq_2]
  exact hk l nets _ a d (by omega) hnl hI hN hs
 |m+1,k+1,l,nets,a,d,hm,hl,hnl,hI,hN,hs=>by
  have hp:decide (((k+1:Nat):Int)>0)=true:=decide_eq_true (by omega)
  have w:wrap .i64 (((k+1:Nat):Int)-1)=(k:Int):=by rw [Aw (by omega) (by omega)];omega
  rw [Js.eq_2,hp,cT]
  refine LH (Nx hc hs 12) fun r ⟨h1,r0,r1⟩=>?_
  obtain⟨x,p,ex,ep,p2,p4⟩:=cG (j:=r.1.toNat) (by omega)
  rw [Int.toNat_of_nonneg r0]at ex
  rw [ex,Av]
  refine LH (kX (n:=n) (k:=l.length) (by omega) hn) fun t ht=>?_
  obtain⟨c1,c2⟩:=Ma (x:=ByteArray.mk #[117]) (y:=t) (by have:(ByteArray.mk #[117]).size=1:=rfl;omega)
  have z1:(ByteArray.mk #[117]).size=1:=rfl
  have z2:(ByteArray.mk #[110]).size=1:=rfl
  rw [c1,Av]
  refine Zw hc e0 ep ⟨p2,p4⟩ (fun a2 d2 l2 hl2 hs2=>?_) n 0 _ _ [] (by omega) (by omega) rfl (h1.mk2 e0)
  rw [BO (by simp;omega) (by omega),Av,List.nil_append,BO (by simp;omega) (by omega),Av]
  refine LH (kX (n:=n) (k:=nets.length) (by omega) hn) fun t2 ht2=>?_
  obtain⟨c3,c4⟩:=Ma (x:=ByteArray.mk #[110]) (y:=t2) (by omega)
  rw [c3,Av,BO (by simp;omega) (by omega),Av,BO (by simp;omega) (by omega),Av,w]
  refine cD hn hc e0 hk m k _ _ _ _ (by omega) (by simp;omega) (by simp;omega) (fun y hy=>?_) (fun y hy=>?_) hs2
  ·rcases List.mem_append.1 hy with h|h
   ·exact hI y h
   ·rw [List.mem_singleton.1 h]
    exact⟨by show(_:ByteArray).size<=1000;rw [c2];omega,by simp,by simp;omega⟩
  ·rcases List.mem_append.1 hy with h|h
   ·exact hN y h
   ·rw [List.mem_singleton.1 h,c4];omega
theorem Xe{n:Nat}{c:List Int}(hc:JM c){s0:AA}(e0:s0.code_=c){O:Lk}{wild:Bool}{L:Nat}(hL:L<=6){nets ps:List ByteArray}{k4:Int->Int->Int->List At->List ByteArray->List ByteArray->Option Unit}
 (hk:∀i a d l,l.length=L->(∀x∈l,KW x)->Dh c (AA.mk s0.code_ a d)->k4 i a d l nets ps=some ()):∀(m i:Nat) (a d:Int) (l:List At),L-i<m->i<=L->l.length=L->(∀x∈l,KW x)->Dh c (AA.mk s0.code_ a d)->
 IL n s0 wild O k4 m (i:Int) a d l nets ps=some ()
 |0,i,a,d,l,hm,_,_,_,_=>by omega
 |m+1,i,a,d,l,hm,hi,hl,hI,hs=>by
  rw [IL.eq_2]
  by_cases q:i<l.length
  ·have hx:=hI _ (List.getElem_mem q)
   rw [DA q,cT,wS (by omega)]
   refine LH (Nx hc hs 4) fun r ⟨h1,_⟩=>LH (A:=fun _=>True) (Ao (fun _=>?_) fun _=>AQ trivial) fun b _=>FW (fun _=>?_) fun _=>Xe hc e0 hL hk m (i+1) _ _ l (by omega) (by omega) hl hI (h1.mk2 e0)
   ·rw [Ab q,Av]
    exact AH (A:=fun _=>True) (Ao (fun _=>AQ trivial) fun _=>AQ trivial) fun _ _ _=>AQ trivial
   ·rw [Ab q,Av]
    refine LH (Nx hc (h1.mk2 e0) _) fun r2 ⟨h2,_⟩=>?_
    rw [show(0:Int)=((0:Nat):Int)from rfl,Ab (show 0<l[i].Nets.length by have:=hx.2.1;omega),Av]
    refine O.inn fun y hy=>O.inn fun y2 hy2=>O.inn fun y3 hy3=>?_
    obtain rfl:=VH hy2
    obtain rfl:=VH hy3
    exact Xe hc e0 hL hk m (i+1) _ _ y (by omega) (by omega) (by rw [hy.1];exact hl) (KW.shp hy hI) (h2.mk2 e0)
  ·obtain rfl:i=l.length:=by omega
   rw [DS,cF]
   exact hk _ a d l hl hI hs
theorem oD{n:Nat}(hn:1048577<=n){c:List Int}(hc:JM c){s:AA}(hs:Dh c s){O:Lk}{most:Int}(hm:2<=most∧most<=6){wild:Bool}{g:AV×AA->Option Unit}(hg:∀d s',LN d->Dh c s'->g (d,s')=some ()):aI n O s most wild g=some ():=by
 have e:=hs.code
 have wm:wrap .i64 (most-1)=most-1:=Aw (by omega) (by omega)
 have n3:∀x∈[(ByteArray.mk #[110,99,107]),(ByteArray.mk #[110,97]),(ByteArray.mk #[110,98])],ByteArray.size x<=1000:=by decide
 rw [aI,BO (by simp) (by omega),Av,List.nil_append,wm]
 refine LH (Nx hc hs _) fun r ⟨h1,r0,r1⟩=>?_
 have wr:wrap .i64 (2+r.1)=((2+r.1.toNat:Nat):Int):=by rw [Aw (by omega) (by omega)];omega
 rw [wr]
 refine cD hn hc e (fun l nets i a d hl hnl hI hN hs2=>?_) n _ [] _ _ _ (by omega) (by simp;omega) rfl (by simp) n3 (h1.mk2 e)
 have p3:∀x:Int,∀p∈[(Bb.mk ((ByteArray.mk #[99,107])) 1 0),(Bb.mk ((ByteArray.mk #[97])) 1 1),(Bb.mk ((ByteArray.mk #[98])) 1 2),(Bb.mk ((ByteArray.mk #[121])) 2 x)],p.Name.size<=1000:=fun x p hp=>by
  simp only [List.mem_cons,List.not_mem_nil,or_false]at hp
  rcases hp with h|h|h|h
  ·rw [h];exact(by decide:(ByteArray.mk #[99,107]).size<=1000)
  ·rw [h];exact(by decide:(ByteArray.mk #[97]).size<=1000)
  ·rw [h];exact(by decide:(ByteArray.mk #[98]).size<=1000)
  ·rw [h];exact(by decide:(ByteArray.mk #[121]).size<=1000)
 refine Xe hc e hl (fun i a d l2 hl2 hI2 hs3=>?_) n 0 a d l (by omega) (by omega) rfl hI hs2
 rw [BO (by simp) (by omega),Av,List.nil_append,BO (by simp) (by omega),Av]
 refine LH (Nx hc hs3 2) fun q ⟨k1,_⟩=>FW (fun _=>LH (Nx hc (k1.mk2 e) _) fun q2 ⟨k2,_⟩=>?_) fun _=>hg _ _ ⟨⟨by show l2.length<=6;omega,hI2⟩,⟨⟨by show 3<=nets.length;omega,by show nets.length<=9;omega⟩,hN⟩,⟨⟨by simp,by simp⟩,p3 _⟩⟩ (k1.mk2 e)
 rw [BO (by simp) (by omega),Av]
 refine hg _ _ ⟨⟨by show l2.length<=6;omega,hI2⟩,⟨⟨by show 3<=nets.length;omega,by show nets.length<=9;omega⟩,hN⟩,⟨⟨by simp,by simp⟩,fun p hp=>?_⟩⟩ (k2.mk2 e)
 rcases List.mem_append.1 hp with h|h
 ·exact p3 _ p h
 ·rw [List.mem_singleton.1 h];exact(by decide:(ByteArray.mk #[122]).size<=1000)
theorem LN.short{d:AV}(h:LN d):∀x∈d.Instances,x.Nets.length<=5:=fun x hx=>(h.inst.2 x hx).2.2
theorem LN.pls{d:AV}(h:LN d):(pls d).length<=78:=Ce h.short (by have:=h.inst.1;omega) (by have:=h.ports.1.2;omega)
theorem gW{n:Nat}{d:AV}(h:LN d)(hn:1048577<=n):Rv n d=some ((pls d).map Gt):=Oa h.short (by have:=h.inst.1;omega) (by have:=h.ports.1.2;omega) hn
theorem fK{n:Nat}{d:AV}(h:LN d)(q:Int)(hn:1048577<=n):∃r,VO n d q=some r∧r.length<=78:=by
 have hl:=h.pls
 rw [VO,gW h hn,Av]
 have e:((pls d).map Gt).length=(pls d).length:=by simp
 refine loop (L:=fun m i s=>Gj q ((pls d).map Gt) (fun l38 i42=>some l38) m s i) ((pls d).map Gt).length (fun i s=>s.length<=i) (fun o=>∃r,o=some r∧r.length<=78) ?_ ?_ n 0 [] (by omega) (by omega) (Nat.le_refl _)
 ·intro m i s hi hs
  refine .inl ?_
  simp only [Gj.eq_2,DA hi,cT,Ab hi,Av,CV,wT i]
  cases c:(((pls d).map Gt)[i].net_==q&& !((pls d).map Gt)[i].drives_)with
  |true=>rw [cT,BO (by simp;omega) (by omega),Av];exact⟨_,by simp;omega,rfl⟩
  |false=>rw [cF];exact⟨s,by omega,rfl⟩
 ·intro m s hs
  simp only [Gj.eq_2,DS,cF]
  exact⟨s,rfl,by omega⟩
def KY(w:BU):Prop:=(1<=w.Parent.length∧w.Parent.length<=4)∧(1<=w.Res.length∧w.Res.length<=4)∧(1<=w.Cap.length∧w.Cap.length<=4)∧w.Sink.length<=200
theorem KY.shp{l y:List BU}(h:FM GW l y)(hl:∀x∈l,KY x):∀z∈y,KY z:=
 QO h hl fun x z hr hx=>by
  have h1:=hr.1.1;have h2:=hr.2.1.1;have h3:=hr.2.2.1.1;have h4:=hr.2.2.2.1
  obtain⟨⟨a1,a2⟩,⟨b1,b2⟩,⟨c1,c2⟩,d1⟩:=hx
  exact⟨⟨by omega,by omega⟩,⟨by omega,by omega⟩,⟨by omega,by omega⟩,by omega⟩
theorem RG{n:Nat}{l:List Int}(h:l.length<=1000):Np n l=some l:=by
 rw [Np,BO (by simp;omega) (by omega)];rfl
theorem bD{n:Nat}{c:List Int}(hc:JM c){s0:AA}(e0:s0.code_=c){Q:BU×AA->Prop}{k0:Int->Int->Int->List Int->List Int->List Int->Option (BU×AA)}
 (hk:∀i a d (l1 l2 l3:List Int),(1<=l1.length∧l1.length<=4)->l2.length=l1.length->l3.length=l1.length->Dh c (AA.mk s0.code_ a d)->Cm Q (k0 i a d l1 l2 l3)):∀(m k:Nat) (a d:Int) (l1 l2 l3:List Int),k<m->1<=l1.length->l1.length+k<=4->l2.length=l1.length->l3.length=l1.length->Dh c (AA.mk s0.code_ a d)->
 Cm Q (II n s0 k0 m (k:Int) a d l1 l2 l3)
 |0,k,a,d,l1,l2,l3,hm,_,_,_,_,_=>by omega
 |m+1,0,a,d,l1,l2,l3,hm,h1,h2,h3,h4,hs=>by
  rw [II.eq_2]
  exact hk _ a d l1 l2 l3 ⟨h1,by omega⟩ h3 h4 hs
 |m+1,k+1,a,d,l1,l2,l3,hm,h1,h2,h3,h4,hs=>by
  have hp:decide (((k+1:Nat):Int)>0)=true:=decide_eq_true (by omega)
  have w:wrap .i64 (((k+1:Nat):Int)-1)=(k:Int):=by rw [Aw (by omega) (by omega)];omega
  rw [II.eq_2,hp,cT,RG (show l1.length<=1000 by omega),Av]
  refine AH (Nx hc hs _) fun r1 _ ⟨q1,_⟩=>?_
  rw [BO (by simp;omega) (by omega),Av,RG (show l2.length<=1000 by omega),Av]
  refine AH (Nx hc (q1.mk2 e0) _) fun r2 _ ⟨q2,_⟩=>?_
  rw [BO (by simp;omega) (by omega),Av,RG (show l3.length<=1000 by omega),Av]
  refine AH (Nx hc (q2.mk2 e0) _) fun r3 _ ⟨q3,_⟩=>?_
  rw [BO (by simp;omega) (by omega),Av,w]
  exact bD hc e0 hk m k _ _ _ _ _ (by omega) (by simp) (by simp;omega) (by simp;omega) (by simp;omega) (q3.mk2 e0)
theorem bA{n:Nat}{c:List Int}(hc:JM c){s0:AA}(e0:s0.code_=c){l1 l2 l3:List Int}(h1:1<=l1.length∧l1.length<=4)(h2:l2.length=l1.length)(h3:l3.length=l1.length){L:Nat}(hL:L<=100):∀(m i:Nat) (a d:Int) (l:List Int),L-i<m->i<=L->l.length=L->Dh c (AA.mk s0.code_ a d)->
 Cm (fun r=>(KY r.1∧r.1.Sink.length<=100)∧Dh c r.2) (HE n s0 l1 (fun i115 i117 i118 l124=>(some ((BU.mk l1 l2 l3 l124),(AA.mk s0.code_ i117 i118)))) m (i:Int) a d l)
 |0,i,a,d,l,hm,_,_,_=>by omega
 |m+1,i,a,d,l,hm,hi,hl,hs=>by
  rw [HE.eq_2]
  by_cases q:i<l.length
  ·rw [DA q,cT]
   refine AH (Nx hc hs _) fun r _ ⟨q1,_⟩=>?_
   rw [Ab q,Av,wS (by omega)]
   exact bA hc e0 h1 h2 h3 hL m (i+1) _ _ _ (by omega) (by omega) (by rw [List.length_set];exact hl) (q1.mk2 e0)
  ·obtain rfl:i=l.length:=by omega
   rw [DS,cF]
   exact AQ ⟨⟨⟨h1,⟨by show 1<=l2.length;omega,by show l2.length<=4;omega⟩,⟨by show 1<=l3.length;omega,by show l3.length<=4;omega⟩,by show l.length<=200;omega⟩,by show l.length<=100;omega⟩,hs⟩
theorem nE{n:Nat}(hn:1048577<=n){c:List Int}(hc:JM c){s:AA}(hs:Dh c s){q:Nat}(hq:q<=100):Cm (fun r=>(KY r.1∧r.1.Sink.length<=100)∧Dh c r.2) (US n s (q:Int)):=by
 have e:=hs.code
 rw [US]
 refine AH (Nx hc hs 6) fun r _ ⟨h1,_⟩=>?_
 rw [Wg,FJ (by omega) (by omega),Av,Av]
 refine AH (Nx hc (h1.mk2 e) 4) fun r2 _ ⟨h2,z0,z1⟩=>?_
 have:=bD (n:=n) (s0:=s) (Q:=fun r=>(KY r.1∧r.1.Sink.length<=100)∧Dh c r.2) hc e (k0:=fun i75 i77 i78 l80 l84 l88=>(HE n s l80 (fun i115 i117 i118 l124=>(some ((BU.mk l80 l84 l88 l124),(AA.mk s.code_ i117 i118)))) n 0 i77 i78 (List.replicate q 0))) (fun i a d l1 l2 l3 k1 k2 k3 hs2=>
  bA hc e k1 k2 k3 hq n 0 a d _ (by omega) (by omega) (by simp) hs2) n r2.1.toNat r2.2.at_ r2.2.seed_ [(-1)] [0] [r.1] (by omega) (by simp) (by simp;omega) rfl rfl (h2.mk2 e)
 rw [Int.toNat_of_nonneg z0]at this
 exact this
structure La(b:AJ):Prop where
 lib:Pz b.Library
 dsg:LN b.Design
 wires:b.Wires.length<=9∧∀w∈b.Wires,KY w
theorem La.sm{b:AJ}(h:La b):Lf b:=
 ⟨h.lib,⟨⟨by have:=h.dsg.inst.1;omega,fun x hx=>⟨by have:=(h.dsg.inst.2 x hx).1;omega,by have:=(h.dsg.inst.2 x hx).2.2;omega⟩⟩,⟨by have:=h.dsg.nets.1;omega,fun x hx=>by have:=h.dsg.nets.2 x hx;omega⟩,⟨by have:=h.dsg.ports.1;omega,fun p hp=>by have:=h.dsg.ports.2 p hp;omega⟩⟩,
  ⟨by have:=h.wires.1;omega,fun w hw=>by obtain⟨⟨_,a⟩,⟨_,b⟩,⟨_,c⟩,d⟩:=h.wires.2 w hw;exact⟨⟨⟨by omega,by omega⟩,by omega⟩,by omega⟩⟩⟩
theorem dE{n:Nat}(hn:1048577<=n){c:List Int}(hc:JM c){s0:AA}(e0:s0.code_=c){r38:AV×AA}(hd:LN r38.1){k0:List BU->Int->Int->Int->Option Unit}
 (hk:∀l i a d,l.length=r38.1.Nets.length->(∀w∈l,KY w∧w.Sink.length<=100)->Dh c (AA.mk s0.code_ a d)->k0 l i a d=some ()):∀(m i:Nat) (l:List BU) (a d:Int),r38.1.Nets.length-i<m->i<=r38.1.Nets.length->l.length=i->(∀w∈l,KY w∧w.Sink.length<=100)->Dh c (AA.mk s0.code_ a d)->
 KF n s0 r38 k0 m l (i:Int) a d=some ()
 |0,i,l,a,d,hm,_,_,_,_=>by omega
 |m+1,i,l,a,d,hm,hi,hl,hw,hs=>by
  have hb:=hd.nets.1
  rw [KF.eq_2]
  by_cases q:i<r38.1.Nets.length
  ·obtain⟨r,f,hr⟩:=fK (n:=n) hd (i:Int) hn
   rw [DA q,cT,f,Av]
   refine LH (nE hn hc hs (by omega)) fun r2 ⟨h1,h2⟩=>?_
   rw [BO (by simp;omega) (by omega),Av,wS (by omega)]
   refine dE hn hc e0 hd hk m (i+1) _ _ _ (by omega) (by omega) (by simp;omega) (fun w h=>?_) (h2.mk2 e0)
   rcases List.mem_append.1 h with h|h
   ·exact hw w h
   ·rw [List.mem_singleton.1 h];exact h1
  ·obtain rfl:i=r38.1.Nets.length:=by omega
   rw [DS,cF]
   exact hk l _ a d hl hw hs
theorem jV{n:Nat}(hn:1048577<=n){c:List Int}(hc:JM c){s:AA}(hs:Dh c s){O:Lk}{most:Int}(hm:2<=most∧most<=6){wild:Bool}{g:AJ×AA->Option Unit}(hg:∀b s',La b->b.Wires.length=b.Design.Nets.length->(∀w∈b.Wires,w.Sink.length<=100)->Dh c s'->g (b,s')=some ()):Nw n O s most wild g=some ():=by
 have e:=hs.code
 rw [Nw]
 refine LH (oV hc hs hn) fun r ⟨h1,h2⟩=>oD hn hc (h2.mk2 e) hm fun d s' hd hs'=>?_
 have hb:=hd.nets.1
 exact dE (r38:=(d,s')) hn hc e hd (fun l i a d2 hl hw hs2=>hg _ _ ⟨h1,hd,by show l.length<=9;rw [hl];exact hb.2,fun w h=>(hw w h).1⟩ hl (fun w h=>(hw w h).2) hs2) n 0 [] _ _ (by show d.Nets.length-0<n;omega) (by omega) rfl (by simp) (hs'.mk2 e)
theorem eV{n:Nat}(hn:1048577<=n){c:List Int}(hc:JM c){s:AA}(hs:Dh c s){O:Lk}{g:AJ×AA->Option Unit}(hg:∀b s',La b->Dh c s'->g (b,s')=some ()):TA n O s g=some ():=by
 have e:=hs.code
 rw [TA]
 refine LH (Nx hc hs 3) fun r ⟨h1,_⟩=>jV hn hc (h1.mk2 e) (by omega) fun b s' hb hw hk hs'=>LH (Nx hc (hs'.mk2 e) _) fun r2 ⟨h2,z0,z1⟩=>LH (Nx hc (h2.mk2 e) 20) fun r3 ⟨h3,_⟩=>?_
 have wl:=hb.wires.1
 have nl:=hb.dsg.nets.1
 have z1:r2.1<(b.Wires.length:Int):=by
  have z1:r2.1<(b.Wires.length:Int)∨r2.1=0∧(b.Wires.length:Int)<=1:=z1
  omega
 obtain⟨k,ek⟩:=Int.eq_ofNat_of_zero_le z0
 have ek:r2.1=(k:Int):=ek
 have kl:k<b.Wires.length:=by omega
 have gk:AL b.Wires r2.1=some b.Wires[k]:=by rw [ek];exact Ab kl
 have wk:=hb.wires.2 _ (List.getElem_mem kl)
 have fin:=fun(y:List BU) (hy:FM GW b.Wires y)=>(⟨hb.lib,hb.dsg,⟨by show y.length<=9;rw [hy.1];exact wl,KY.shp hy hb.wires.2⟩⟩:La (AJ.mk b.Library b.Design y))
 refine FW (fun _=>?_) fun _=>FW (fun _=>?_) fun _=>FW (fun _=>?_) fun _=>FW (fun _=>?_) fun _=>FW (fun _=>?_) fun _=>FW (fun _=>?_) fun _=>hg _ _ hb (h3.mk2 e)
 ·rw [show Hd b.Wires 1 (b.Wires.length:Int)=some ((b.Wires.take (b.Wires.length:Int).toNat).drop (1:Int).toNat)from if_pos ⟨by omega,by omega,by omega⟩,Av]
  exact hg _ _ ⟨hb.lib,hb.dsg,⟨by simp;omega,fun w hw2=>hb.wires.2 w (List.mem_of_mem_take (List.mem_of_mem_drop hw2))⟩⟩ (h3.mk2 e)
 ·have sl:=wk.2.2.2
  simp only [gk,Av,RG (n:=n) (show b.Wires[k].Sink.length<=1000 by omega),BO (show b.Wires[k].Sink.length+[(0:Int)].length<=16777216 by simp;omega) (show 8<=1048576 by omega)]
  refine hg _ _ ⟨hb.lib,hb.dsg,⟨by rw [List.length_set];exact wl,fun w hw2=>?_⟩⟩ (h3.mk2 e)
  have hk1:=hk _ (List.getElem_mem kl)
  rcases List.mem_or_eq_of_mem_set hw2 with h|h
  ·exact hb.wires.2 w h
  ·rw [h];exact⟨wk.1,wk.2.1,wk.2.2.1,by rw [List.length_append];simp;omega⟩
 ·obtain⟨⟨p1,p2⟩,⟨r1,r2'⟩,⟨c1,c2⟩,s1⟩:=wk
  rw [gk,Av,show(0:Int)=((0:Nat):Int)from rfl,Ab (show 0<b.Wires[k].Res.length by omega),Av]
  exact O.inn fun y hy=>hg _ _ (fin y hy) (h3.mk2 e)
 ·obtain⟨⟨p1,p2⟩,⟨r1,r2'⟩,⟨c1,c2⟩,s1⟩:=wk
  rw [gk,Av]
  refine LH (Nx hc (h3.mk2 e) 3) fun r4 ⟨h4,y0,y1⟩=>?_
  obtain⟨v,hv,_⟩:=EX (xs:=[(-1:Int),500,501]) y0 (by simp;omega)
  rw [hv,Av,show(0:Int)=((0:Nat):Int)from rfl,Ab (show 0<b.Wires[k].Cap.length by omega),Av]
  exact O.inn fun y hy=>hg _ _ (fin y hy) (h4.mk2 e)
 ·obtain⟨⟨p1,p2⟩,⟨r1,r2'⟩,⟨c1,c2⟩,s1⟩:=wk
  rw [gk,Av,Av]
  refine LH (Nx hc (h3.mk2 e) 5) fun r4 ⟨h4,_⟩=>?_
  have w1:wrap .i64 ((b.Wires[k].Parent.length:Int)-1)=((b.Wires[k].Parent.length-1:Nat):Int):=by rw [Aw (by omega) (by omega)];omega
  rw [w1,Ab (show b.Wires[k].Parent.length-1<b.Wires[k].Parent.length by omega),Av]
  exact O.inn fun y hy=>hg _ _ (fin y hy) (h4.mk2 e)
 ·rw [show(0:Int)=((0:Nat):Int)from rfl,Ab (show 0<b.Design.Ports.length by have:=hb.dsg.ports.1;omega),Av]
  refine O.inn fun y1 hy1=>O.inn fun y2 hy2=>O.inn fun y3 hy3=>?_
  obtain rfl:=VH hy2
  exact hg _ _ ⟨hb.lib,⟨⟨by show y1.length<=6;rw [hy1.1];exact hb.dsg.inst.1,KW.shp hy1 hb.dsg.inst.2⟩,hb.dsg.nets,⟨by show 3<=y3.length∧y3.length<=5;rw [hy3.1];exact hb.dsg.ports.1,QO hy3 hb.dsg.ports.2 fun x z hr hx=>by rw [←hr.1];exact hx⟩⟩,hb.wires⟩ (h3.mk2 e)
theorem mE{n:Nat}(hn:1048577<=n){c:List Int}(hc:JM c){s:AA}(hs:Dh c s){O:Lk}{g:AJ×AA->Option Unit}(hg:∀b s',La b->Dh c s'->g (b,s')=some ()):TX n O s g=some ():=by
 have e:=hs.code
 rw [TX]
 refine LH (Nx hc hs 12) fun r ⟨h1,_⟩=>FW (fun _=>eV hn hc (h1.mk2 e) fun b s' hb hs'=>hg _ _ hb (hs'.mk2 e)) fun _=>FW (fun _=>FW (fun _=>?_) fun _=>?_) fun _=>FW (fun _=>?_) fun _=>?_
 all_goals exact jV hn hc (h1.mk2 e) (by omega) fun b s' hb _ _ hs'=>hg _ _ hb (hs'.mk2 e)
theorem Zr{n:Nat}{c:List Int}(hc:JM c){s0:AA}(e0:s0.code_=c){lk:List AR}(hlk:lk.length<=5128){r90:Int×AA}(h90:0<=r90.1∧r90.1<8):∀(m i:Nat) (l:List Int) (a d:Int),lk.length-i<m->l.length<=i->i<=6000->Dh c (AA.mk s0.code_ a d)->
 Cm (fun r=>r.1.length<=6001∧Dh c r.2) (KN n s0 lk r90 (fun l110 i114 i116 i117=>(Option.bind (DO n ((AA.mk s0.code_ i116 i117)) 12) fun r121=>(cond (r121.1==0) (Option.bind (DO n ((AA.mk s0.code_ r121.2.at_ r121.2.seed_)) 2) fun r129=>(Option.bind (Bk l110 ([wrap .i64 (((lk.length:Int))*r129.1)]) 8) fun z149=>(some (z149,(AA.mk s0.code_ r129.2.at_ r129.2.seed_))))) (some (l110,(AA.mk s0.code_ r121.2.at_ r121.2.seed_)))))) m l (i:Int) a d)
 |0,i,l,a,d,hm,_,_,_=>by omega
 |m+1,i,l,a,d,hm,hl,hi,hs=>by
  rw [KN.eq_2]
  by_cases q:i<lk.length
  ·have w9:wrap .i64 (1+r90.1)=1+r90.1:=Aw (by omega) (by omega)
   rw [DA q,cT,BO (by simp;omega) (by omega),Av,w9]
   refine AH (Nx hc hs _) fun r _ ⟨h1,z0,z1⟩=>?_
   have z2:r.1<=8:=by omega
   have wi:wrap .i64 ((i:Int)+(wrap .i64 (1+r.1)))=((i+1+r.1.toNat:Nat):Int):=by
    rw [Aw (x:=1+r.1) (by omega) (by omega),Aw (by omega) (by omega)];omega
   rw [wi]
   exact Zr hc e0 hlk h90 m _ _ _ _ (by omega) (by simp;omega) (by omega) (h1.mk2 e0)
  ·rw [show decide ((i:Int)<(lk.length:Int))=false from decide_eq_false (by omega),cF]
   refine AH (Nx hc hs 12) fun r _ ⟨h1,_⟩=>Ao (fun _=>?_) fun _=>AQ ⟨by show l.length<=6001;omega,h1.mk2 e0⟩
   refine AH (Nx hc (h1.mk2 e0) 2) fun r2 _ ⟨h2,_⟩=>?_
   rw [BO (by simp;omega) (by omega),Av]
   exact AQ ⟨by simp;omega,h2.mk2 e0⟩
theorem nV{n:Nat}(hn:1048577<=n){c:List Int}(hc:JM c){s:AA}(hs:Dh c s){b:AJ}(hb:Lf b):Cm (fun r=>r.1.length<=6001∧Dh c r.2) (Qt n s b):=by
 have e:=hs.code
 obtain⟨v,e1,hv⟩:=Wu (n:=n) hb hn
 rw [Qt,e1,Av]
 refine AH (A:=fun x=>Dh c (AA.mk s.code_ x.2.1 x.2.2)∧(x.1=false->v=true)) (Ao (fun _=>AQ ⟨hs,fun h=>by cases h⟩) fun q=>AH (Nx hc hs 3) fun r _ ⟨h1,_⟩=>AQ ⟨h1.mk2 e,fun _=>by cases v<;>simp_all⟩) fun x _ ⟨hx,hv2⟩=>Ao (fun _=>AQ ⟨by simp,hx⟩) fun q=>?_
 have vb:=hv.1 (hv2 q)
 rw [Tq vb hn,Av]
 refine AH (Nx hc hx 8) fun r _ ⟨h1,z0,z1⟩=>AH (Nx hc (h1.mk2 e) _) fun r2 _ ⟨h2,y0,y1⟩=>?_
 have w9:wrap .i64 (1+r.1)=1+r.1:=Aw (by omega) (by omega)
 rw [w9]at y1
 have:=Zr (n:=n) hc e (If vb) (r90:=r) ⟨z0,by omega⟩ n r2.1.toNat [] r2.2.at_ r2.2.seed_ (by have:=If vb;omega) (by simp) (by omega) (h2.mk2 e)
 rw [Int.toNat_of_nonneg y0]at this
 exact this
def Zm(x:AR):AR:=⟨x.To,x.From,x.Kind,x.Index⟩
def Pq(L:List AR):List AR:=L.map Zm
theorem HA(L:List AR):(Pq L).length=L.length:=List.length_map ..
theorem Vt(L:List AR)(i:Int):AL (Pq L) i=(AL L i).map Zm:=by
 unfold AL Pq;split<;>simp
theorem cJ{L:List AR}{lv:List Bool}{K K':Bool->Int->List Bool->Option (List Bool)}(hK:∀q i l,K q i l=K' q i l):∀(m:Nat) (q:Bool) (i:Int) (l:List Bool),Ee L lv false K m q i l=Ee (Pq L) lv true K' m q i l
 |0,_,_,_=>rfl
 |m+1,q,i,l=>by
  simp only [Ee.eq_2,HA,Vt,Bool.not_false,Bool.not_true,cT,cF,hK]
  cases AL L i with
  |none=>rfl
  |some x=>simp only [Option.map_some,Av,Zm,cJ hK m]
theorem dG{n:Nat}{L:List AR}{lv:List Bool}:∀(m:Nat) (q:Bool) (l:List Bool),Fe n L lv false (fun _ l34=>(some l34)) m q l=Fe n (Pq L) lv true (fun _ l34=>(some l34)) m q l
 |0,_,_=>rfl
 |m+1,q,l=>by
  simp only [Fe.eq_2]
  rw [cJ (K':=fun q38 _ l40=>(Fe n (Pq L) lv true (fun q33 l34=>(some l34)) m q38 l40)) fun q i l=>dG m q l]
theorem nG{n:Nat}{L:List AR}{lv:List Bool}{N s:Nat}(hL:PE L N)(hlv:lv.length=L.length)(hl:L.length<=10000)(hN:N<=1000)(hs:s<N)(hn:1048577<=n):
 ∃out,XK n (N:Int) L lv (s:Int) false=some out∧PD (Pq L) lv (fun u=>u=(s:Int)) N out:=by
 have hg:∀k (h:k<(Pq L).length),(Pq L)[k]=Zm (L[k]'(by rw [HA]at h;exact h)):=fun k h=>List.getElem_map _
 have:=lS (n:=n) (L:=Pq L) (lv:=lv) (N:=N) (s:=s) ⟨fun k h=>by rw [hg k h];exact hL.to_ k (by rw [HA]at h;exact h),fun k h=>by rw [hg k h];exact hL.from_ k (by rw [HA]at h;exact h)⟩ (by rw [HA];exact hlv) (by rw [HA];exact hl) hN hs hn
 unfold XK at this ⊢
 simp only [dG]
 exact this
theorem HV.trans{L:List AR}{lv:List Bool}{u v:Int}{w:Int}(h1:HV L lv (fun x=>x=u) v)(h2:HV L lv (fun x=>x=v) w):HV L lv (fun x=>x=u) w:=by
 induction h2 with
 |src e=>have e:_=v:=e;subst e;exact h1
 |step _ e ih=>exact .step ih e
theorem Ed.rv{L:List AR}{lv:List Bool}{u w:Int}:Ed (Pq L) lv u w↔Ed L lv w u:=by
 constructor
 ·rintro ⟨k,hk,h1,h2,h3⟩
  have hk':k<L.length:=by rw [HA]at hk;exact hk
  have e:(Pq L)[k]=Zm L[k]:=List.getElem_map _
  rw [e]at h2 h3
  exact⟨k,hk',h1,h3,h2⟩
 ·rintro ⟨k,hk,h1,h2,h3⟩
  have hk':k<(Pq L).length:=by rw [HA];exact hk
  have e:(Pq L)[k]=Zm L[k]:=List.getElem_map _
  exact⟨k,hk',h1,by rw [e];exact h3,by rw [e];exact h2⟩
theorem HV.one{L:List AR}{lv:List Bool}{u w:Int}(e:Ed L lv u w):HV L lv (fun x=>x=u) w:=.step (.src rfl) e
theorem HV.rv{L:List AR}{lv:List Bool}{v w:Int}(h:HV (Pq L) lv (fun x=>x=v) w):HV L lv (fun x=>x=w) v:=by
 induction h with
 |src e=>have e:_=v:=e;subst e;exact .src rfl
 |step _ e ih=>exact HV.trans (HV.one (Ed.rv.1 e)) ih
theorem HV.vr{L:List AR}{lv:List Bool}{v w:Int}(h:HV L lv (fun x=>x=w) v):HV (Pq L) lv (fun x=>x=v) w:=by
 induction h with
 |src e=>have e:_=w:=e;subst e;exact .src rfl
 |step _ e ih=>exact HV.trans (HV.one (Ed.rv.2 e)) ih
theorem HV.first{L:List AR}{lv:List Bool}{u w:Int}(h:HV L lv (fun x=>x=u) w)(ne:u≠w):∃x,Ed L lv u x∧HV L lv (fun y=>y=x) w:=by
 induction h with
 |src e=>exact absurd (show _=u from e).symm ne
 |@step a b h1 e ih=>
  by_cases c:u=a
  ·subst c;exact⟨_,e,.src rfl⟩
  ·obtain⟨x,e1,e2⟩:=ih c
   exact⟨x,e1,.step e2 e⟩
theorem SF{L:List AR}{lv:List Bool}(hw:∀k (h:k<L.length) j (g:j<L.length),L[k].To=L[j].From->L[k].Kind=1∨L[j].Kind=1){v w:Int}(ne:v≠w)(h1:HV L lv (fun x=>x=v) w)(h2:HV L lv (fun x=>x=w) v):
 ∃k,∃h:k<L.length,gb lv k=true∧L[k].Kind=1∧(HV L lv (fun x=>x=v) L[k].From∧HV L lv (fun x=>x=L[k].From) v)∧HV L lv (fun x=>x=v) L[k].To∧HV L lv (fun x=>x=L[k].To) v:=by
 cases h1 with
 |src e=>exact absurd (show w=v from e).symm ne
 |@step a _ g e=>
  have e':=e
  obtain⟨k,hk,q1,q2,q3⟩:=e
  obtain⟨x,e2,g2⟩:=HV.first h2 fun c=>ne c.symm
  have e2':=e2
  obtain⟨j,hj,r1,r2,r3⟩:=e2
  have hva:HV L lv (fun x=>x=v) w:=.step g e'
  rcases hw k hk j hj (by rw [q3,r2])with c|c
  ·exact⟨k,hk,q1,c,by rw [q2];exact⟨g,HV.trans (HV.one e') h2⟩,by rw [q3];exact⟨hva,h2⟩⟩
  ·exact⟨j,hj,r1,c,by rw [r2];exact⟨hva,h2⟩,by rw [r3];exact⟨.step hva e2',g2⟩⟩
theorem lG{n:Nat}{l:List Int}(h:VB l)(x:Int)(hn:1048577<=n):∃(i:Nat) (a b:Int),Rk n l x=some ((i:Int),a,b)∧((i<l.length∧a=1∧b=0)∨(i+1<l.length∧(1<=a∧a<=100000)∧(1<=b∧b<=100000))):=by
 have h1:=h.1
 have ci:=Tg h x
 have w1:wrap .i64 ((l.length:Int)-1)=((l.length-1:Nat):Int):=by rw [Aw (by omega) (by omega)];omega
 have g0:AL l 0=some (gd l 0):=gI (l:=l) (i:=0) (by omega)
 have gL:AL l ((l.length-1:Nat):Int)=some (gd l (l.length-1)):=gI (by omega)
 rw [Rk,g0,Av,w1,gL,Av]
 have key:∀(m i:Nat),i<l.length->i<m->(∀k,i<k->k<l.length->Iu l x<gd l k)->∃(j:Nat) (a b:Int),KI l x (gd l 0) (gd l (l.length-1)) (fun i23=>(some (0,1,0))) m (i:Int)=some ((j:Int),a,b)∧((j<l.length∧a=1∧b=0)∨(j+1<l.length∧(1<=a∧a<=100000)∧(1<=b∧b<=100000))):=by
  intro m
  induction m with
  |zero=>intro i _ h;omega
  |succ m ih=>
   intro i hi hm hk
   have d0:decide ((i:Int)>=0)=true:=decide_eq_true (by omega)
   rw [KI.eq_2,d0,cT,gI hi,Av,show min (max x (gd l 0)) (gd l (l.length-1))=Iu l x from rfl]
   by_cases c:Iu l x=gd l i
   ·rw [show(Iu l x==gd l i)=true from beq_iff_eq.2 c,cT]
    exact⟨i,1,0,rfl,.inl ⟨hi,rfl,rfl⟩⟩
   ·rw [show(Iu l x==gd l i)=false from beq_eq_false_iff_ne.2 c,cF,Av]
    have r0:=h.2.1 i hi
    by_cases c2:Iu l x>gd l i
    ·have hl:i+1<l.length:=by
      apply Nat.lt_of_not_le
      intro q
      have:i=l.length-1:=by omega
      subst this;omega
     have r1:=h.2.1 (i+1) hl
     have hc:=hk (i+1) (by omega) hl
     rw [decide_eq_true c2,cT,wS (by omega),gI hl,Av,Av,Aw (by omega) (by omega),Aw (by omega) (by omega)]
     exact⟨i,_,_,rfl,.inr ⟨hl,by omega,by omega⟩⟩
    ·have hp:0<i:=by
      apply Nat.pos_of_ne_zero
      intro q;subst q;omega
     have wi:wrap .i64 ((i:Int)-1)=((i-1:Nat):Int):=by rw [Aw (by omega) (by omega)];omega
     rw [decide_eq_false c2,cF,wi]
     refine ih (i-1) (by omega) (by omega) fun k hk1 hk2=>?_
     by_cases q:k=i
     ·subst q;omega
     ·exact hk k (by omega) hk2
 exact key n (l.length-1) (by omega) (by omega) fun k h1 h2=>by omega
theorem eH{n:Nat}{s D mode:Int}(h:D≠0):∃r,MY n s D mode=some r:=by
 have hz:(D==0)=false:=by rw [beq_eq_false_iff_ne];exact h
 rw [MY,hz,cF,cF]
 cases(decide (Int.tmod s D<0))&&((mode==0))<;>cases(decide (Int.tmod s D>0))&&((mode==1))<;>exact⟨_,rfl⟩
theorem eK{t:BP}(v:VT t){i k u q:Nat}{w:Int}{U V:Int}{A:Int->Option Int}{B:Option Int}(hw:w>0->i+u<t.Slews.length∧k+q<t.Loads.length)(hU:U=(u:Int))(hV:V=(q:Int))(hq:q<=1)(hA:∀x,Cm (fun _=>True) (A x))(hB:Cm (fun _=>True) B):
 Cm (fun _=>True) (cond (decide (w>0)) (Option.bind (AL t.Values (wrap .i64 (wrap .i64 (wrap .i64 (wrap .i64 ((i:Int)+U)*(t.Loads.length:Int))+(k:Int))+V))) A) B):=by
 have S4:=v.1.1.1.2
 have L4:=v.1.2.1.2
 have hlen:=v.2.1
 subst hU hV
 refine Ao (fun c=>?_) fun _=>hB
 obtain⟨h1,h2⟩:=hw (of_decide_eq_true c)
 have hb:=oT (S:=t.Slews.length) (L:=t.Loads.length) (i:=i+u) (k:=k+q) h1 h2
 rw [mU (by omega) (by omega) (by omega) hq,gI (by omega),Av]
 exact hA _
theorem Ob{a c:Int}(h:wrap .i64 (a*c)>0):a≠0∧c≠0:=by
 constructor
 ·intro e;subst e;rw [Int.zero_mul]at h;exact absurd h (by decide)
 ·intro e;subst e;rw [Int.mul_zero]at h;exact absurd h (by decide)
structure iY(l:List Int)(i:Nat)(a b:Int):Prop where
 lo:i<l.length
 hi:b≠0->i+1<l.length
theorem aJ{t:BP}(v:VT t){i k:Nat}{a b c d:Int}(h1:iY t.Slews i a b)(h2:iY t.Loads k c d){u:Int}(hu:u=0∨u=1){K:Int->Int->Option Int}(hK:∀s,Cm (fun _=>True) (K s 2))(m:Nat)(s:Int):Cm (fun _=>True) (EP t ((i:Int),a,b) ((k:Int),c,d) u K (m+3) s 0):=by
 have w01:wrap .i64 (0+1)=1:=rfl
 have w12:wrap .i64 (1+1)=2:=rfl
 have l02:decide ((0:Int)<2)=true:=rfl
 have l12:decide ((1:Int)<2)=true:=rfl
 have l22:decide ((2:Int)<2)=false:=rfl
 have b00:((0:Int)==0)=true:=rfl
 have b10:((1:Int)==0)=false:=rfl
 have b01:((0:Int)==1)=false:=rfl
 have b11:((1:Int)==1)=true:=rfl
 have s3:∀s,Cm (fun _=>True) (EP t ((i:Int),a,b) ((k:Int),c,d) u K (m+1) s 2):=fun s=>by
  rw [EP.eq_2,l22,cF];exact hK s
 have s2:∀s,Cm (fun _=>True) (EP t ((i:Int),a,b) ((k:Int),c,d) u K (m+2) s 1):=fun s=>by
  rw [EP.eq_2,l12,cT,b10,cF,cF,w12]
  rcases hu with rfl|rfl
  ·rw [b01,cF]
   exact eK v (u:=0) (q:=1) (fun h=>⟨h1.lo,h2.hi (Ob h).2⟩) rfl rfl (by omega) (fun _=>s3 _) (s3 _)
  ·rw [b11,cT]
   exact eK v (u:=1) (q:=1) (fun h=>⟨h1.hi (Ob h).1,h2.hi (Ob h).2⟩) rfl rfl (by omega) (fun _=>s3 _) (s3 _)
 rw [EP.eq_2,l02,cT,b00,cT,cT,w01]
 rcases hu with rfl|rfl
 ·rw [b01,cF]
  exact eK v (u:=0) (q:=0) (fun h=>⟨h1.lo,h2.lo⟩) rfl rfl (by omega) (fun _=>s2 _) (s2 _)
 ·rw [b11,cT]
  exact eK v (u:=1) (q:=0) (fun h=>⟨h1.hi (Ob h).1,h2.lo⟩) rfl rfl (by omega) (fun _=>s2 _) (s2 _)
theorem Ss{l:List Int}{i:Nat}{a b:Int}(h:(i<l.length∧a=1∧b=0)∨(i+1<l.length∧(1<=a∧a<=100000)∧(1<=b∧b<=100000))):iY l i a b∧0<wrap .i64 (a+b)∧wrap .i64 (a+b)<=200000:=by
 have e:wrap .i64 (a+b)=a+b:=Aw (by omega) (by omega)
 rw [e]
 rcases h with ⟨h,rfl,rfl⟩|⟨h,h1,h2⟩
 ·exact⟨⟨h,fun c=>absurd rfl c⟩,by omega,by omega⟩
 ·exact⟨⟨by omega,fun _=>h⟩,by omega,by omega⟩
theorem lP{n:Nat}{t:BP}(v:VT t)(x y mode:Int)(hn:1048577<=n):Cm (fun _=>True) (Zn n t x y mode):=by
 obtain⟨i,a,b,e1,h1⟩:=lG (n:=n) v.1.1 x hn
 obtain⟨k,c,d,e2,h2⟩:=lG (n:=n) v.1.2 y hn
 obtain⟨o1,p1,p2⟩:=Ss h1
 obtain⟨o2,q1,q2⟩:=Ss h2
 obtain⟨m,rfl⟩:∃m,n=m+3:=⟨n-3,by omega⟩
 rw [Zn,e1,e2,Av,Av]
 have w01:wrap .i64 (0+1)=1:=rfl
 have w12:wrap .i64 (1+1)=2:=rfl
 have l02:decide ((0:Int)<2)=true:=rfl
 have l12:decide ((1:Int)<2)=true:=rfl
 have l22:decide ((2:Int)<2)=false:=rfl
 rw [Jx.eq_2,l02,cT,w01]
 refine aJ v o1 o2 (.inl rfl) (fun s=>?_) m 0
 rw [Jx.eq_2,l12,cT,w12]
 refine aJ v o1 o2 (.inr rfl) (fun s=>?_) m _
 have em:=mw (a:=wrap .i64 (a+b)) (c:=wrap .i64 (c+d)) (by omega) (by omega)
 rw [Jx.eq_2,l22,cF]
 dsimp only
 rw [em]
 have:=Int.mul_pos p1 q1
 obtain⟨r,er⟩:=eH (n:=m+3) (s:=s) (D:=wrap .i64 (a+b)*wrap .i64 (c+d)) (mode:=mode) (by omega)
 rw [er]
 exact AQ trivial
theorem lO{n:Nat}{b:AJ}(v:CF b){i:Nat}(hi:i<b.Wires.length)(hn:1048577<=n):Cm (fun r=>r.length=b.Wires[i].Parent.length) (SJ n b (i:Int)):=by
 have vw:=v.wire i hi
 have hm:=vw.many
 rw [SJ,Ab hi,Av]
 refine AH (lW v hi hn) fun ls _ hl=>?_
 refine Nz (L:=fun m j s=>IT b.Wires[i] ls _ m s j) 1 ls.length (fun j s=>s.length=j) ?_ ?_ n [0] (by omega) (by omega) rfl
 ·intro m j s h1 hj hs
  have ht:=vw.tree j h1 (by omega)
  obtain⟨a,ea⟩:=Ea (t:=s) ht.1 (by omega)
  simp only [IT.eq_2,DA hj,cT,gI (show j<b.Wires[i].Parent.length by omega),Av,ea,gI (show j<b.Wires[i].Res.length by have:=vw.res;omega),gI hj,wT j]
  rw [BO (by simp;omega) (by omega),Av]
  exact⟨_,by simp;omega,rfl⟩
 ·intro m s hs
  simp only [IT.eq_2,DS,cF]
  exact⟨s,rfl,by omega⟩
theorem Vk{b:AJ}(v:CF b){i:Nat}(hi:i<b.Wires.length):b.Wires[i].Sink.length<=78:=by
 have vd:=v.design
 have hl:=Ce vd.short vd.few.1 vd.few.2.2
 have h:snk b.Design (i:Int)<=78:=Nat.le_trans List.countP_le_length hl
 have:=(v.wire i hi).sink
 omega
theorem nA{n:Nat}{b:AJ}(v:CF b){i:Nat}(hi:i<b.Wires.length){mode:Int}(hn:1048577<=n):Cm (fun r=>r.length=b.Wires[i].Sink.length) (Uu n b (i:Int) mode):=by
 have vw:=v.wire i hi
 have hm:=vw.many
 have hf:=Vk v hi
 rw [Uu]
 refine AH (lO v hi hn) fun ds _ hl=>?_
 refine Fq (L:=fun m j s=>Ik n b (i:Int) mode ds _ m s j) b.Wires[i].Sink.length (fun j s=>s.length=j) ?_ ?_ n [] (by omega) rfl
 ·intro m j s hj hs
  have hk:=vw.sinks j hj
  obtain⟨a,ea⟩:=Ea (t:=ds) hk.1 (by omega)
  obtain⟨r,er⟩:=eH (n:=n) (s:=a) (D:=1000) (mode:=mode) (by omega)
  simp only [Ik.eq_2,Ab hi,Av,DA hj,cT,gI hj,ea,er,wT j]
  rw [BO (by simp;omega) (by omega),Av]
  exact⟨_,by simp;omega,rfl⟩
 ·intro m s hs
  simp only [Ik.eq_2,Ab hi,Av,DS,cF]
  exact⟨s,rfl,hs⟩
theorem fC{n:Nat}{x mode:Int}(hn:1048577<=n):Cm (fun _=>True) (Us n x mode):=by
 rw [Us]
 have key:∀(m:Nat) (i j:Int),0<=i->i<=j->j<=2000000000->j-i<2^m->Cm (fun _=>True) (HR x (fun i3 i4=>(cond (((mode==1))&&(decide (wrap .i64 (i3*i3)<x))) (some (wrap .i64 (i3+1))) (some i3))) (m+1) i j):=by
  intro m
  induction m with
  |zero=>
   intro i j h0 h1 h2 h3
   have:i=j:=by simp at h3;omega
   subst this
   rw [HR.eq_2,decide_eq_false (by omega),cF]
   exact Ao (fun _=>AQ trivial) fun _=>AQ trivial
  |succ m ih=>
   intro i j h0 h1 h2 h3
   rw [Int.pow_succ]at h3
   rw [HR.eq_2]
   by_cases c:i<j
   ·have w1:wrap .i64 (i+j)=i+j:=Aw (by omega) (by omega)
    have w2:wrap .i64 (i+j+1)=i+j+1:=Aw (by omega) (by omega)
    have e:Int.tdiv (i+j+1) 2=(i+j+1)/2:=Int.tdiv_eq_ediv_of_nonneg (by omega)
    have w3:wrap .i64 ((i+j+1)/2)=(i+j+1)/2:=Aw (by omega) (by omega)
    have w4:wrap .i64 ((i+j+1)/2-1)=(i+j+1)/2-1:=Aw (by omega) (by omega)
    rw [decide_eq_true c,cT,w1,w2,e,w3,w4]
    exact Ao (fun _=>ih _ _ (by omega) (by omega) h2 (by omega)) fun _=>ih _ _ h0 (by omega) (by omega) (by omega)
   ·rw [decide_eq_false c,cF]
    exact Ao (fun _=>AQ trivial) fun _=>AQ trivial
 obtain⟨m,rfl⟩:∃m,n=m+1:=⟨n-1,by omega⟩
 refine key m 0 2000000000 (by omega) (by omega) (by omega) ?_
 have h1:(2:Int)^40<=2^m:=by
  have:=Nat.pow_le_pow_right (show 1<=2 by omega) (show 40<=m by omega)
  exact_mod_cast this
 have h2:(2:Int)^40=1099511627776:=by decide
 omega
theorem fG{n:Nat}{b:AJ}(v:CF b){i:Nat}(hi:i<b.Wires.length){k slew mode:Int}(hk:0<=k∧k<(b.Wires[i].Sink.length:Int))(hn:1048577<=n):Cm (fun _=>True) (SU n b (i:Int) k slew mode):=by
 have vw:=v.wire i hi
 rw [SU]
 refine AH (lO v hi hn) fun ds _ hl=>?_
 obtain⟨j,ej⟩:=Int.eq_ofNat_of_zero_le hk.1
 have ej:k=(j:Int):=ej
 subst ej
 have hj:j<b.Wires[i].Sink.length:=by omega
 have hs:=vw.sinks j hj
 obtain⟨a,ea⟩:=Ea (t:=ds) hs.1 (by omega)
 rw [Ab hi,Av,gI hj,Av,ea,Av]
 refine AH (fC hn) fun r _ _=>?_
 obtain⟨q,eq⟩:=eH (n:=n) (s:=r) (D:=1000) (mode:=mode) (by omega)
 rw [eq];exact AQ trivial
theorem WR{d:AV}{q:Int}:∀x∈IS d q,∃t,∃h:t<(pls d).length,x=(t:Int)∧GJ q (pls d)[t]=true:=fun x hx=>
 DR (Q:=fun x=>∃t,∃h:t<(pls d).length,x=(t:Int)∧GJ q (pls d)[t]=true) (pls d) 0 (fun j hj y hy=>by
  rw [Nat.zero_add]at hy
  by_cases c:GJ q (pls d)[j]=true
  ·rw [if_pos c]at hy;exact⟨j,hj,List.mem_singleton.1 hy,c⟩
  ·rw [if_neg c]at hy;cases hy) x hx
structure WO(b:AJ)(x:AR)(f t q j:Nat):Prop where
 kind:x.Kind=2
 from_:x.From=2*(f:Int)∨x.From=2*(f:Int)+1
 to_:x.To=2*(t:Int)∨x.To=2*(t:Int)+1
 drv:∃h:f<(pls b.Design).length,(pls b.Design)[f].drives_=true
 snk:∃h:t<(pls b.Design).length,(pls b.Design)[t].drives_=false∧(pls b.Design)[t].net_=(q:Int)
 ix:x.Index=(j:Int)
 sinks:∃h:q<b.Wires.length,j<b.Wires[q].Sink.length
theorem OS{b:AJ}(v:CF b):∀x∈MH b,x.Kind=1∨∃f t q j,WO b x f t q j:=by
 have vd:=v.design
 intro x hx
 simp only [MH,List.mem_append]at hx
 rcases hx with hx|hx
 ·refine .inl ?_
  refine DR (Q:=fun x:AR=>x.Kind=1) b.Design.Instances 0 (fun i hi y hy=>?_) x hx
  rw [VM]at hy
  refine DR (Q:=fun x:AR=>x.Kind=1) _ 0 (fun j hj z hz=>?_) y hy
  obtain⟨t,ht,rfl⟩:=List.mem_map.1 hz
  rfl
 ·refine .inr ?_
  refine DR (Q:=fun x:AR=>∃f t q j,WO b x f t q j) b.Design.Nets 0 (fun q hq y hy=>?_) x hx
  rw [Nat.zero_add]at hy
  have hd:=OP vd hq
  refine DR (Q:=fun x:AR=>∃f t q j,WO b x f t q j) _ 0 (fun j hj z hz=>?_) y hy
  rw [Nat.zero_add]at hz
  obtain⟨t,ht,et,st⟩:=WR _ (List.getElem_mem hj)
  simp only [GJ,Bool.and_eq_true,beq_iff_eq,Bool.not_eq_true']at st
  have hdr:((pls b.Design)[Kh b.Design q]'hd.lt).drives_=true:=by have:=hd.hit;simp only [FA,Bool.and_eq_true]at this;exact this.2
  have hq2:q<b.Wires.length:=by rw [v.many];exact hq
  have hs:(IS b.Design (q:Int)).length=b.Wires[q].Sink.length:=by rw [Fw];have:=(v.wire q hq2).sink;omega
  simp only [XC,List.mem_cons,List.not_mem_nil,or_false]at hz
  rw [et]at hz
  rcases hz with rfl|rfl
  ·exact⟨Kh b.Design q,t,q,j,rfl,.inl rfl,.inl rfl,⟨hd.lt,hdr⟩,⟨ht,st.2,st.1⟩,rfl,⟨hq2,by omega⟩⟩
  ·exact⟨Kh b.Design q,t,q,j,rfl,.inr rfl,.inr rfl,⟨hd.lt,hdr⟩,⟨ht,st.2,st.1⟩,rfl,⟨hq2,by omega⟩⟩
theorem cH{n:Nat}{b:AJ}(v:CF b){x:AR}(ok:Rp b x)(k:x.Kind=1)(hn:1048577<=n):∃a z,SC n b x=some (a,z)∧Pp a.Delay true∧Pp a.Slew true:=by
 have vd:=v.design
 obtain⟨p,y,c,a,g1,pm,g2,g3,g4,kd⟩:=ok.arc k
 have hp:=vd.net p pm
 have hW:=v.many
 obtain⟨N,hN⟩:=Int.eq_ofNat_of_zero_le hp.1
 have hN:p.net_=(N:Int):=hN
 have hNl:N<b.Wires.length:=by omega
 obtain⟨r,er,hr⟩:=lW (n:=n) v hNl hn
 have hm:=(v.wire N hNl).many
 have g1':AL ((pls b.Design).map Gt) (wrap .i64 (Int.tdiv x.To 2))=some (Gt p):=by
  obtain⟨g0,g5,g6⟩:=EZ g1
  obtain⟨M,hM⟩:=Int.eq_ofNat_of_zero_le g0
  have hM:wrap .i64 (Int.tdiv x.To 2)=(M:Int):=hM
  rw [hM]at g6 ⊢
  rw [Hy,List.getElem?_map]
  rw [Int.toNat_natCast]at g6
  rw [g6];rfl
 have g2':AL b.Design.Instances (Gt p).instance_=some y:=g2
 have hN':(Gt p).net_=(N:Int):=hN
 refine⟨a,gd r 0,?_,?_⟩
 ·rw [SC,Oa vd.short vd.few.1 vd.few.2.2 hn]
  simp only [Av,g1',g2',g3,g4,hN',er]
  have e0:AL r 0=some (gd r 0):=gI (i:=0) (by omega)
  rw [e0];rfl
 ·obtain⟨_,_,c3⟩:=EZ g3
  obtain⟨cl,ec⟩:=List.getElem?_eq_some_iff.1 c3
  obtain⟨_,_,a3⟩:=EZ g4
  obtain⟨al,ea⟩:=List.getElem?_eq_some_iff.1 a3
  have vc:=vd.lib.cells _ cl
  rw [ec]at vc
  have ar:=(vc.arcs _ al).1
  rw [ea]at ar
  unfold Lv at ar
  obtain⟨_,ar⟩:=ar
  by_cases k1:a.Kind=1
  ·rw [if_pos k1]at ar;exact⟨ar.2.2.2.1,ar.2.2.2.2⟩
  ·rw [if_neg k1,if_pos (by omega)]at ar;exact⟨ar.2.2.2.1,ar.2.2.2.2⟩
theorem Uo{x:Int}(h:0<=x):0<=Int.tmod x 2∧Int.tmod x 2<2:=Fp h (by omega)
theorem XA{n:Nat}{b:AJ}(v:CF b){x:AR}{f t q j:Nat}(h:WO b x f t q j)(hn:1048577<=n):Rr n b x=some (q:Int):=by
 have vd:=v.design
 have hl:=Ce vd.short vd.few.1 vd.few.2.2
 obtain⟨ht,_,hq⟩:=h.snk
 have e1:wrap .i64 (Int.tdiv x.To 2)=(t:Int):=by
  have h0:0<=x.To:=by have:=h.to_;omega
  have e:Int.tdiv x.To 2=(t:Int):=by rw [Int.tdiv_eq_ediv_of_nonneg h0];have:=h.to_;omega
  rw [e,Aw (by omega) (by omega)]
 rw [Rr,Oa vd.short vd.few.1 vd.few.2.2 hn,Av,e1,Ab (by simpa using ht),Av,List.getElem_map]
 show some (pls b.Design)[t].net_=_
 rw [hq]
theorem lI{n:Nat}{c:BR}{k m:Int}:Cm (fun _=>True) (Rg n c k m):=by
 rw [Rg]
 refine Ao (fun _=>Ao (fun _=>AQ trivial) fun _=>AQ trivial) fun _=>Ao (fun _=>AQ trivial) fun _=>AQ trivial
theorem VX{n:Nat}{b:AJ}(v:CF b){x:AR}(hx:x∈MH b){c:BR}{s m:Int}(hn:1048577<=n):Cm (fun _=>True) (PF n b c x s m):=by
 have ok:=Oe v x hx
 have dv:∀y:Int,Cm (fun _=>True) (Option.bind (MY n y 1000 m) fun r=>some r):=fun y=>by
  obtain⟨r,e⟩:=eH (n:=n) (s:=y) (D:=1000) (mode:=m) (by omega)
  rw [e];exact AQ trivial
 rw [PF]
 rcases OS v x hx with k|⟨f,t,q,j,h⟩
 ·rw [beq_iff_eq.2 k,cT]
  obtain⟨a,z,e,hd,_⟩:=cH (n:=n) v ok k hn
  rw [e,Av]
  have pr:=Uo ok.to_.1
  exact AH (Cm.get pr.1 (by rw [hd.1];exact pr.2) hd.2) fun u _ hu=>AH (lP hu.1 _ _ _ hn) fun _ _ _=>AH lI fun _ _ _=>dv _
 ·have k:(x.Kind==1)=false:=by rw [beq_eq_false_iff_ne,h.kind];omega
  obtain⟨hq,hj⟩:=h.sinks
  rw [k,cF,XA v h hn,Av,h.ix]
  exact AH (nA v hq hn) fun r _ hr=>AH (CP (by omega) (by omega)) fun _ _ _=>AH lI fun _ _ _=>dv _
theorem VS{n:Nat}{b:AJ}(v:CF b){x:AR}(hx:x∈MH b){s m:Int}(hn:1048577<=n):Cm (fun _=>True) (PR n b x s m):=by
 have ok:=Oe v x hx
 rw [PR]
 rcases OS v x hx with k|⟨f,t,q,j,h⟩
 ·rw [beq_iff_eq.2 k,cT]
  obtain⟨a,z,e,_,hd⟩:=cH (n:=n) v ok k hn
  rw [e,Av]
  have pr:=Uo ok.to_.1
  exact AH (Cm.get pr.1 (by rw [hd.1];exact pr.2) hd.2) fun u _ hu=>AH (lP hu.1 _ _ _ hn) fun _ _ _=>AQ trivial
 ·have k:(x.Kind==1)=false:=by rw [beq_eq_false_iff_ne,h.kind];omega
  obtain⟨hq,hj⟩:=h.sinks
  rw [k,cF,XA v h hn,Av,h.ix]
  exact AH (fG v hq ⟨by omega,by omega⟩ hn) fun _ _ _=>AQ trivial
theorem kC{n:Nat}{b:AJ}(v:CF b){x:AR}(hx:x∈MH b){c:BR}{s:Ae}(hn:1048577<=n):Cm (fun _=>True) (UL n b c x s):=by
 rw [UL]
 exact AH (VX v hx hn) fun _ _ _=>AH (VX v hx hn) fun _ _ _=>AH (VS v hx hn) fun _ _ _=>AH (VS v hx hn) fun _ _ _=>AH (VX v hx hn) fun _ _ _=>AH (VX v hx hn) fun _ _ _=>AH (VS v hx hn) fun _ _ _=>AH (VS v hx hn) fun _ _ _=>AQ trivial
theorem cV{n:Nat}{s t:Ae}:Cm (fun _=>True) (PH n s t):=by rw [PH];exact AQ trivial
structure Ws(N:Nat)(t:Ag):Prop where
 r:t.Reached.length=N
 a:t.Arrival.length=N
 s:t.Slew.length=N
abbrev lQ:=Bool×Int×Int×Int×Int×Int
theorem jM{n:Nat}{b:AJ}(v:CF b){c:BR}{lv:List Bool}(hlv:lv.length=(MH b).length){ss:List Ai}(hs:ss.length<=1048576){t:Ag}(ht:Ws (2*(pls b.Design).length) t){k:Int}(hn:1048577<=n):
 Cm (fun _=>True) (bI n b c (MH b) lv ss t k):=by
 have hL:=If v
 have hin:=QT v
 have hr:=ht.r;have ha:=ht.a;have hsl:=ht.s
 rw [bI]
 refine FY (L:=fun m i (p:lQ)=>Ji ss k _ m p.1 i p.2.1 p.2.2.1 p.2.2.2.1 p.2.2.2.2.1 p.2.2.2.2.2) ss.length (fun _ _=>True) (Cm fun _=>True) ?_ ?_ n 0 (false,0,0,0,0,0) (by omega) (by omega) trivial
 ·rintro m i ⟨q,i2,i3,i4,i5,i6⟩ hi _ ih
  simp only [Ji.eq_2,DA hi,cT,Ab hi,Av,wT i]
  exact Ao (fun _=>ih (true,_,_,_,_,_) trivial) fun _=>ih (q,i2,i3,i4,i5,i6) trivial
 ·rintro m ⟨q,i2,i3,i4,i5,i6⟩ _
  simp only [Ji.eq_2,DS,cF]
  refine FY (L:=fun m i (p:lQ)=>Hg n b c (MH b) lv t k _ m p.1 i p.2.1 p.2.2.1 p.2.2.2.1 p.2.2.2.2.1 p.2.2.2.2.2) (MH b).length (fun _ _=>True) (Cm fun _=>True) ?_ ?_ n 0 (q,i2,i3,i4,i5,i6) (by omega) (by omega) trivial
  ·rintro m i ⟨q,i2,i3,i4,i5,i6⟩ hi _ ih
   have hf:=hin.from_ i hi
   simp only [Hg.eq_2,DA hi,cT,Ab hi,Ab (show i<lv.length by omega),Av,wT i]
   refine AH (A:=fun _=>True) (Ao (fun _=>AQ trivial) fun _=>AH (CP hf.1 (by omega)) fun _ _ _=>AQ trivial) fun cc _ _=>Ao (fun _=>ih (q,i2,i3,i4,i5,i6) trivial) fun _=>?_
   refine AH (CP hf.1 (by omega)) fun sl _ _=>AH (kC v (List.getElem_mem hi) hn) fun r _ _=>AH (CP hf.1 (by omega)) fun a1 _ _=>AH (CP hf.1 (by omega)) fun a2 _ _=>Ao (fun _=>?_) fun _=>ih (true,_,_,_,_,_) trivial
   exact AH cV fun _ _ _=>AH cV fun _ _ _=>ih (true,_,_,_,_,_) trivial
  ·rintro m ⟨q,i2,i3,i4,i5,i6⟩ _
   simp only [Hg.eq_2,DS,cF]
   exact AQ trivial
theorem oA{n:Nat}{s:Ae}:Cm (fun _=>True) (PY n s):=⟨_,gO,trivial⟩
theorem iF{n:Nat}{b:AJ}(v:CF b){c:BR}{lv:List Bool}(hlv:lv.length=(MH b).length){ss:List Ai}(hs:ss.length<=1048576){od:List Int}(ho:od.length<=1048576)(hr:∀x∈od,0<=x∧x<((2*(pls b.Design).length:Nat):Int))(hn:1048577<=n):
 Cm (fun r=>Ws 0 r.1∨Ws (2*(pls b.Design).length) r.1) (Sa n b c (MH b) lv ss od):=by
 have vd:=v.design
 have hl:=Ce vd.short vd.few.1 vd.few.2.2
 have wc:Cl b=((2*(pls b.Design).length:Nat):Int):=by unfold Cl;omega
 generalize hN:2*(pls b.Design).length=N at*
 rw [Sa,PA v hn,Av,wc,Vb]
 simp only [FJ (show N<=1048576 by omega) (show 1<=268435456 by omega),FJ (show N<=1048576 by omega) (show 16<=268435456 by omega),Av]
 refine FY (L:=fun m i (p:List Bool×List Ae×List Ae)=>HQ n b c (MH b) lv ss od _ m i p.1 p.2.1 p.2.2) od.length (fun _ p=>Ws N ⟨p.1,p.2.1,p.2.2⟩) (Cm fun r=>Ws 0 r.1∨Ws N r.1) ?_ ?_ n 0 (List.replicate N false,List.replicate N ⟨0,0⟩,List.replicate N ⟨0,0⟩) (by omega) (by omega) ⟨by simp,by simp,by simp⟩
 ·rintro m i ⟨l1,l2,l3⟩ hi ⟨h1,h2,h3⟩ ih
  have h1:l1.length=N:=h1
  have h2:l2.length=N:=h2
  have h3:l3.length=N:=h3
  have hx:=hr _ (List.getElem_mem hi)
  simp only [HQ.eq_2,DA hi,cT,Ab hi,Av,wT i]
  refine AH (jM v hlv hs (t:=⟨l1,l2,l3⟩) (by rw [hN];exact⟨h1,h2,h3⟩) hn) fun r _ _=>Ao (fun _=>ih (l1,l2,l3) ⟨h1,h2,h3⟩) fun _=>AH oA fun q _ _=>Ao (fun _=>AQ (.inl ⟨rfl,rfl,rfl⟩)) fun _=>?_
  exact AH (CP hx.1 (by omega)) fun _ _ _=>AH (CP hx.1 (by omega)) fun _ _ _=>AH (CP hx.1 (by omega)) fun _ _ _=>ih (_,_,_) ⟨by simpa using h1,by simpa using h2,by simpa using h3⟩
 ·rintro m ⟨l1,l2,l3⟩ h
  simp only [HQ.eq_2,DS,cF]
  exact AQ (.inr h)
theorem iB{n:Nat}{L:List AR}{lv:List Bool}{N:Nat}(hL:PE L N)(hlv:lv.length=L.length)(hl:L.length<=10000)(hN:N<=1000)(hn:1048577<=n):
 Cm (fun r=>r.1.length<=N∧∀x∈r.1,0<=x∧x<(N:Int)) (dX n (N:Int) L lv):=by
 rw [dX,FJ (by omega) (by omega),Av]
 refine Qz (L:=fun m (p:List Int×List Bool)=>It n (N:Int) L lv _ m p.1 p.2) (fun p=>N-p.1.length) (fun p=>(p.1.length<=N∧p.2.length=N)∧∀x∈p.1,0<=x∧x<(N:Int)) (Cm fun r=>r.1.length<=N∧∀x∈r.1,0<=x∧x<(N:Int)) ?_ n ([],List.replicate N false) (by simp;omega) ⟨⟨by simp,by simp⟩,by simp⟩
 rintro m ⟨o,l⟩ ⟨⟨h1,h2⟩,h3⟩ ih
 have h1:o.length<=N:=h1
 have h2:l.length=N:=h2
 simp only [It.eq_2]
 refine Ao (fun c=>?_) fun _=>AQ ⟨h1,h3⟩
 have c:o.length<N:=by have:=of_decide_eq_true c;omega
 rw [FJ (by omega) (by omega),Av]
 refine FY (L:=fun m' i (w:List Bool)=>JR L lv l _ m' i w) L.length (fun _ w=>w.length=N) (Cm fun r=>r.1.length<=N∧∀x∈r.1,0<=x∧x<(N:Int)) ?_ ?_ n 0 (List.replicate N false) (by omega) (by omega) (by simp)
 ·intro m' i w hi hw kk
  have hf:=hL.from_ i hi
  have ht:=hL.to_ i hi
  simp only [JR.eq_2,DA hi,cT,Ab hi,Ab (show i<lv.length by omega),Av,wT i]
  refine AH (A:=fun _=>True) (Ao (fun _=>AH (CP hf.1 (by omega)) fun _ _ _=>AQ trivial) fun _=>AQ trivial) fun cc _ _=>Ao (fun _=>AH (CP ht.1 (by omega)) fun _ _ _=>kk _ (by simpa using hw)) fun _=>kk w hw
 ·intro m' w hw
  simp only [JR.eq_2,DS,cF]
  have fin:∀i:Nat,i<=N->Cm (fun r=>r.1.length<=N∧∀x∈r.1,0<=x∧x<(N:Int)) ((cond ((i:Int)==(N:Int)) (some (([]:List Int),false)) (Option.bind (Bk o [(i:Int)] 8) fun z103=>(It n (N:Int) L lv (fun l33 l37=>(some (l33,true))) m z103 ((l.set ((i:Int)).toNat true)))))):=fun i hi=>
   Ao (fun _=>AQ ⟨by simp,by simp⟩) fun q=>by
    have q:=beq_eq_false_iff_ne.1 q
    rw [BO (by simp;omega) (by omega),Av]
    refine ih (o++[(i:Int)],_) ⟨⟨by simp;omega,by simpa using h2⟩,fun x hx=>?_⟩ (by simp;omega)
    rcases List.mem_append.1 hx with h|h
    ·exact h3 x h
    ·rw [List.mem_singleton.1 h];omega
  refine FY (L:=fun m' i (_:Unit)=>Jq (N:Int) l w _ m' i) N (fun _ _=>True) (Cm fun r=>r.1.length<=N∧∀x∈r.1,0<=x∧x<(N:Int)) ?_ ?_ n 0 () (by omega) (by omega) trivial
  ·intro m'' i _ hi _ kk
   simp only [Jq.eq_2,DA hi,cT,Ab (show i<l.length by omega),Ab (show i<w.length by omega),Av,wT i]
   refine AH (A:=fun _=>True) (AH (A:=fun _=>True) (Ao (fun _=>AQ trivial) fun _=>AQ trivial) fun _ _ _=>AQ trivial) fun cc _ _=>Ao (fun _=>kk () trivial) fun _=>fin i (by omega)
  ·intro m'' _ _
   simp only [Jq.eq_2,DS,cF,Av,beq_self_eq_true,cT]
   exact AQ ⟨by simp,by simp⟩
theorem aF{n:Nat}{b:AJ}{br:List Int}(hb:Lf b)(hbr:br.length<=1048576)(hn:1048577<=n):Cm (fun r=>(r !=0)=false->CF b) (Rl n b br):=by
 obtain⟨v,e1,hv⟩:=Wu (n:=n) hb hn
 rw [Rl,e1,Av]
 refine Ao (fun _=>AQ fun h=>by cases h) fun q=>?_
 have vb:=hv.1 (by cases v<;>simp_all)
 have hL:=If vb
 rw [Tq vb hn,Av]
 obtain⟨r,e2,_⟩:=nT (n:=n) (br:=br) (N:=((MH b).length:Int)) hbr ⟨by omega,by omega⟩ hn
 rw [e2,Av]
 exact Ao (fun _=>AQ fun h=>by cases h) fun _=>AQ fun _=>vb
theorem gE{n:Nat}{b:AJ}{br:List Int}(hb:Lf b)(hbr:br.length<=1048576)(hn:1048577<=n):Cm (fun r=>r.1.length<=156∧((r.2 !=0)=false->CF b∧∀x∈r.1,0<=x∧x<((2*(pls b.Design).length:Nat):Int))) (Ub n b br):=by
 rw [Ub]
 refine AH (aF hb hbr hn) fun r _ hr=>Ao (fun q=>AQ ⟨by simp,fun h=>by rw [show(r !=0)=false from h]at q;cases q⟩) fun q=>?_
 have v:=hr q
 have vd:=v.design
 have hl:=Ce vd.short vd.few.1 vd.few.2.2
 have hL:=If v
 have wc:Cl b=((2*(pls b.Design).length:Nat):Int):=by unfold Cl;omega
 rw [Tq v hn,Av,PA v hn,Av,gV (by omega) hbr hn,Av,wc]
 exact AH (iB (QT v) (JV _ _ _) (by omega) (by omega) hn) fun o _ ho=>Ao (fun _=>AQ ⟨by simp,fun h=>by cases h⟩) fun _=>AQ ⟨by have:=ho.1;show o.1.length<=156;omega,fun _=>⟨v,ho.2⟩⟩
theorem iT{n:Nat}{c:BR}(h:c.Name.size<=1048576)(hn:1048577<=n):Cm (fun _=>True) (TU n c):=by
 rw [TU]
 refine FY (L:=fun m i (_:Unit)=>IW n c _ m i) ([c.CellEarly,c.CellLate,c.WireEarly,c.WireLate]).length (fun _ _=>True) (Cm fun _=>True) ?_ ?_ n 0 () (by simp) (by simp;omega) trivial
 ·intro m i _ hi _ kk
  have hi4:i<4:=hi
  simp only [IW.eq_2,DA hi,cT,Ab hi,Av,Hj,wT i]
  exact Ao (fun _=>AQ trivial) fun _=>kk () trivial
 ·intro m _ _
  simp only [IW.eq_2,DS,cF,eG h hn,Av]
  exact AQ trivial
theorem fD{n:Nat}{b:AJ}(v:CF b){ss:List Ai}(hs:ss.length<=1048576)(hn:1048577<=n):Cm (fun _=>True) (Sr n b ss):=by
 rw [Sr,PA v hn,Av]
 refine FY (L:=fun m i (_:Unit)=>Ic n ss (Cl b) _ m i) ss.length (fun _ _=>True) (Cm fun _=>True) ?_ ?_ n 0 () (by omega) (by omega) trivial
 ·intro m i _ hi _ kk
  simp only [Ic.eq_2,DA hi,cT,Ab hi,Av,Hj,gO,Rw,wT i]
  refine AH (A:=fun _=>True) (Ao (fun _=>AQ trivial) fun _=>AH (A:=fun _=>True) (Ao (fun q=>?_) fun _=>AQ trivial) fun _ _ _=>AQ trivial) fun c1 _ _=>AH (A:=fun _=>True) (Ao (fun _=>AQ trivial) fun _=>AQ trivial) fun c2 _ _=>AH (A:=fun _=>True) (Ao (fun _=>AQ trivial) fun _=>AQ trivial) fun c3 _ _=>Ao (fun _=>AQ trivial) fun _=>kk () trivial
  have q:=of_decide_eq_true q
  have w:wrap .i64 ((i:Int)-1)=((i-1:Nat):Int):=by rw [Aw (by omega) (by omega)];omega
  rw [w,Ab (show i-1<ss.length by omega)]
  exact AQ trivial
 ·intro m _ _
  simp only [Ic.eq_2,DS,cF]
  exact AQ trivial
theorem oI{n:Nat}{b:AJ}{c:BR}{br:List Int}{ss:List Ai}(hb:Lf b)(hc:c.Name.size<=1048576)(hbr:br.length<=1048576)(hs:ss.length<=1048576)(hn:1048577<=n):Cm (fun r=>∃N,N<=156∧Ws N r.1) (Ts n b c br ss):=by
 have no:∃N,N<=156∧Ws N (Ag.mk [] [] []):=⟨0,by omega,rfl,rfl,rfl⟩
 rw [Ts]
 refine AH (A:=fun r=>r.1.length<=156∧((r.2 !=0)=false->CF b∧∀x∈r.1,0<=x∧x<((2*(pls b.Design).length:Nat):Int))) ?_ fun r _ hr=>Ao (fun _=>AQ no) fun q=>?_
 ·rw [Vh]
  obtain⟨v,e1,hv⟩:=Wu (n:=n) hb hn
  rw [e1,Av]
  refine AH (A:=fun x=>x=false->v=true) (Ao (fun _=>AQ fun h=>by cases h) fun q=>AH (iT hc hn) fun _ _ _=>AQ fun _=>by cases v<;>simp_all) fun x _ hx=>Ao (fun _=>AQ ⟨by simp,fun h=>by cases h⟩) fun q=>?_
  have vb:=hv.1 (hx q)
  refine AH (aF hb hbr hn) fun r _ hr=>AH (A:=fun _=>True) (Ao (fun _=>AQ trivial) fun _=>AH (fD vb hs hn) fun _ _ _=>AQ trivial) fun x _ _=>Ao (fun _=>AQ ⟨by simp,fun h=>by cases h⟩) fun _=>AH (gE hb hbr hn) fun o _ ho=>AQ ho
 ·obtain⟨v,ho⟩:=hr.2 q
  have vd:=v.design
  have hl:=Ce vd.short vd.few.1 vd.few.2.2
  have hL:=If v
  rw [Tq v hn,Av,gV (by omega) hbr hn,Av]
  refine AH (iF v (JV _ _ _) hs (by have:=hr.1;omega) ho hn) fun t _ ht=>Ao (fun _=>AQ no) fun _=>AQ ?_
  rcases ht with h|h
  ·exact⟨0,by omega,h⟩
  ·exact⟨_,by omega,h⟩
def ct(l:List Bool):Nat:=l.countP fun b=>b
theorem TI:∀{l:List Bool} {i:Nat},i<l.length->gb l i=true->ct (l.set i false)+1=ct l
 |[],i,h,_=>by simp at h
 |b::l,0,_,h=>by
  have h:b=true:=h
  subst h;simp [ct]
 |b::l,i+1,hi,h=>by
  have ih:=TI (l:=l) (i:=i) (by simpa using hi) h
  unfold ct at ih ⊢
  simp only [List.set_cons_succ,List.countP_cons];omega
theorem oW{n:Nat}{L:List AR}{lv:List Bool}{v:Int}(hlv:lv.length=L.length)(hl:L.length<=10000)(hn:1048577<=n):
 Cm (fun r=>r=true->∃k,∃h:k<L.length,gb lv k=true∧L[k].From=v∧L[k].To=v) (Rf n L lv v):=by
 rw [Rf]
 refine FY (L:=fun m i (_:Unit)=>JI L lv v _ m i) L.length (fun _ _=>True) (Cm fun r=>r=true->∃k,∃h:k<L.length,gb lv k=true∧L[k].From=v∧L[k].To=v) ?_ ?_ n 0 () (by omega) (by omega) trivial
 ·intro m i _ hi _ kk
  simp only [JI.eq_2,DA hi,cT,Ab hi,MM (show i<lv.length by omega),Av,CV,wT i]
  refine Ao (fun q=>AQ fun _=>?_) fun _=>kk () trivial
  simp only [Bool.and_eq_true,beq_iff_eq]at q
  exact⟨i,hi,q.1.1,q.1.2,q.2⟩
 ·intro m _ _
  simp only [JI.eq_2,DS,cF]
  exact AQ fun h=>by cases h
def PB(L:List AR)(lv:List Bool)(N:Nat)(x:List Int):Prop:=x.length<=N∧∃k,∃h:k<L.length,gb lv k=true∧L[k].Kind=1∧L[k].From∈x∧L[k].To∈x
structure Yg(N v i:Nat)(r1 r2:List Bool)(x:List Int):Prop where
 few:x.length<=i
 iff:∀y,y∈x↔∃w:Nat,w<i∧y=(w:Int)∧gb r1 w=true∧gb r2 w=true
 two:x.length>1->∃w:Nat,w<N∧w≠v∧gb r1 w=true∧gb r2 w=true
theorem Yg.skip{N v i:Nat}{r1 r2:List Bool}{x:List Int}(h:Yg N v i r1 r2 x)(c:(gb r1 i&&gb r2 i)=false):Yg N v (i+1) r1 r2 x:=
 ⟨by have:=h.few;omega,fun y=>(h.iff y).trans ⟨fun⟨w,a,b⟩=>⟨w,by omega,b⟩,fun⟨w,a,b,d,e⟩=>⟨w,by
  by_cases q:w=i
  ·subst q;rw [d,e]at c;cases c
  ·omega,b,d,e⟩⟩,h.two⟩
theorem Yg.add{N v i:Nat}{r1 r2:List Bool}{x:List Int}(h:Yg N v i r1 r2 x)(hi:i<N)(c:(gb r1 i&&gb r2 i)=true):Yg N v (i+1) r1 r2 (x++[(i:Int)]):=by
 simp only [Bool.and_eq_true]at c
 refine⟨by have:=h.few;simp;omega,fun y=>?_,fun g=>?_⟩
 ·rw [List.mem_append,List.mem_singleton,h.iff y]
  constructor
  ·rintro (⟨w,a,b⟩|e)
   ·exact⟨w,by omega,b⟩
   ·exact⟨i,by omega,e,c.1,c.2⟩
  ·rintro ⟨w,a,b,d⟩
   by_cases q:w=i
   ·subst q;exact .inr b
   ·exact .inl ⟨w,by omega,b,d⟩
 ·have g:0<x.length:=by simp at g;omega
  obtain⟨w,a,_,d,e⟩:=(h.iff x[0]).1 (List.getElem_mem g)
  by_cases q:w=v
  ·exact⟨i,hi,by omega,c.1,c.2⟩
  ·exact⟨w,by omega,q,d,e⟩
theorem oU{n:Nat}{L:List AR}{lv:List Bool}{N:Nat}(hL:PE L N)(hlv:lv.length=L.length)(hl:L.length<=10000)(hN:N<=1000)
 (hw:∀k (h:k<L.length) j (g:j<L.length),L[k].To=L[j].From->L[k].Kind=1∨L[j].Kind=1) (hn:1048577<=n):Cm (fun r=>∀x∈r,PB L lv N x) (cQ n (N:Int) L lv):=by
 rw [cQ,FJ (by omega) (by omega),Av]
 refine FY (L:=fun m i (p:List (List Int)×List Bool)=>Gm n (N:Int) L lv _ m p.1 i p.2) N (fun i p=>(p.1.length<=i∧∀x∈p.1,PB L lv N x)∧p.2.length=N) (Cm fun r=>∀x∈r,PB L lv N x) ?_ ?_ n 0 ([],List.replicate N false) (by omega) (by omega) ⟨⟨by simp,by simp⟩,by simp⟩
 ·rintro m i ⟨o,l⟩ hi ⟨⟨h1,h2⟩,h3⟩ ih
  have h1:o.length<=i:=h1
  have h3:l.length=N:=h3
  simp only [Gm.eq_2,DA hi,cT,Ab (show i<l.length by omega),Av,wT i]
  refine Ao (fun _=>ih (o,l) ⟨⟨by show o.length<=i+1;omega,h2⟩,h3⟩) fun _=>?_
  obtain⟨r1,e1,k1⟩:=lS (n:=n) hL hlv hl hN hi hn
  obtain⟨r2,e2,k2⟩:=nG (n:=n) hL hlv hl hN hi hn
  have l1:=k1.len;have l2:=k2.len
  rw [e1,Av,e2,Av]
  refine FY (L:=fun m' j (p:List Int×List Bool)=>Jr (N:Int) r1 r2 _ m' p.1 j p.2) N (fun j p=>Yg N i j r1 r2 p.1∧p.2.length=N) (Cm fun r=>∀x∈r,PB L lv N x) ?_ ?_ n 0 ([],l) (by omega) (by omega) ⟨⟨Nat.le_refl _,fun y=>⟨fun h=>(by cases h),fun⟨w,h,_⟩=>absurd h (Nat.not_lt_zero w)⟩,fun h=>(by simp at h)⟩,h3⟩
  ·rintro m' j ⟨x,d⟩ hj ⟨g1,g2⟩ kk
   have g2:d.length=N:=g2
   have gf:=g1.few
   have gf:x.length<=j:=gf
   simp only [Jr.eq_2,DA hj,cT,MM (show j<r1.length by omega),MM (show j<r2.length by omega),Av,CV,wT j]
   refine Ao (fun c=>?_) fun c=>kk (x,d) ⟨g1.skip c,g2⟩
   rw [BO (by simp;omega) (by omega),Av,Ab (show j<d.length by omega),Av]
   exact kk (x++[(j:Int)],_) ⟨g1.add hj c,by simpa using g2⟩
  ·rintro m' ⟨x,d⟩ ⟨g1,g2⟩
   have gf:=g1.few
   have gf:x.length<=N:=gf
   have mem:∀u:Int,0<=u∧u<(N:Int)->HV L lv (fun y=>y=(i:Int)) u->HV L lv (fun y=>y=u) (i:Int)->u∈x:=fun u hu a b=>by
    obtain⟨w,ew⟩:=Int.eq_ofNat_of_zero_le hu.1
    have ew:u=(w:Int):=ew
    subst ew
    exact(g1.iff _).2 ⟨w,by omega,rfl,(k1.iff w (by omega)).2 a,(k2.iff w (by omega)).2 (HV.vr b)⟩
   simp only [Jr.eq_2,DS,cF]
   refine AH (A:=fun c=>c=true->PB L lv N x) (Ao (fun c=>AQ fun _=>?_) fun _=>AH (oW hlv hl hn) fun r _ hr=>AQ fun q=>?_) fun c _ hc=>Ao (fun q=>?_) fun _=>ih (o,d) ⟨⟨by show o.length<=i+1;omega,h2⟩,g2⟩
   ·have c:=of_decide_eq_true c
    obtain⟨w,wN,ne,a,b⟩:=g1.two (by show x.length>1;omega)
    obtain⟨k,hk,c1,c2,⟨c3,c4⟩,c5,c6⟩:=SF hw (v:=(i:Int)) (w:=(w:Int)) (by omega) ((k1.iff w wN).1 a) (HV.rv ((k2.iff w wN).1 b))
    exact⟨gf,k,hk,c1,c2,mem _ (hL.from_ k hk) c3 c4,mem _ (hL.to_ k hk) c5 c6⟩
   ·obtain⟨k,hk,c1,c2,c3⟩:=hr q
    have hv:=mem (i:Int) ⟨by omega,by omega⟩ (.src rfl) (.src rfl)
    exact⟨gf,k,hk,c1,(hw k hk k hk (by rw [c2,c3])).elim id id,by rw [c2];exact hv,by rw [c3];exact hv⟩
   ·rw [BO (by simp;omega) (by omega),Av]
    refine ih (o++[x],d) ⟨⟨by simp;omega,fun y hy=>?_⟩,g2⟩
    rcases List.mem_append.1 hy with h|h
    ·exact h2 y h
    ·rw [List.mem_singleton.1 h];exact hc q
 ·rintro m ⟨o,l⟩ ⟨⟨h1,h2⟩,h3⟩
  simp only [Gm.eq_2,DS,cF]
  exact AQ h2
theorem WT{b:AJ}(v:CF b):∀k (h:k<(MH b).length) j (g:j<(MH b).length),(MH b)[k].To=(MH b)[j].From->(MH b)[k].Kind=1∨(MH b)[j].Kind=1:=by
 intro k hk j hj e
 rcases OS v _ (List.getElem_mem hk)with c|⟨f,t,q,i,h⟩
 ·exact .inl c
 ·rcases OS v _ (List.getElem_mem hj)with c|⟨f',t',q',i',h'⟩
  ·exact .inr c
  ·exfalso
   have:=h.to_;have:=h'.from_
   obtain rfl:t=f':=by omega
   obtain⟨_,a,_⟩:=h.snk
   obtain⟨_,b⟩:=h'.drv
   rw [a]at b;cases b
theorem jP{n:Nat}{b:AJ}(v:CF b)(hn:1048577<=n):Cm (fun r=>r.length<=6000) (Xp n b):=by
 have vd:=v.design
 have hl:=Ce vd.short vd.few.1 vd.few.2.2
 have hL:=If v
 have hin:=QT v
 have hal:=WT v
 have wc:Cl b=((2*(pls b.Design).length:Nat):Int):=by unfold Cl;omega
 rw [Xp,Tq v hn,Av,gV (by omega) (by simp) hn,Av,PA v hn,Av,wc]
 generalize hX:MH b=X at*
 have lt:ct (Em (fun k (_:AR)=>[!(([]:List Int).any fun y=>y==(k:Int))]) 0 X)<=X.length:=by
  have:=List.countP_le_length (p:=fun b:Bool=>b) (l:=Em (fun k (_:AR)=>[!(([]:List Int).any fun y=>y==(k:Int))]) 0 X)
  rw [JV]at this;exact this
 refine Qz (L:=fun m l=>Kl n X _ _ m l) ct (fun l=>l.length=X.length) (Cm fun r=>r.length<=6000) ?_ n _ (by omega) (JV _ _ _)
 intro m l hlv ih
 simp only [Kl.eq_2]
 refine AH (oU hin hlv (by omega) (by omega) hal hn) fun r _ hr=>Ao (fun _=>?_) fun q=>?_
 ·refine FY (L:=fun m i s=>Ha l _ m s i) l.length (fun i s=>s.length<=i) (Cm fun r=>r.length<=6000) ?_ ?_ n 0 [] (by omega) (by omega) (Nat.le_refl _)
  ·intro m i s hi hs kk
   simp only [Ha.eq_2,DA hi,cT,Ab hi,Av,wT i]
   refine Ao (fun _=>?_) fun _=>kk s (by omega)
   rw [BO (by simp;omega) (by omega),Av]
   exact kk _ (by simp;omega)
  ·intro m s hs
   simp only [Ha.eq_2,DS,cF]
   exact AQ (by omega)
 ·have r0:0<r.length:=by have:=beq_eq_false_iff_ne.1 q;omega
  obtain⟨gl,k,hk,g1,g2,g3,g4⟩:=hr r[0] (List.getElem_mem r0)
  have e0:AL r 0=some r[0]:=Ab r0
  have anyM:∀{y:Int},y∈r[0]->(r[0].any fun z=>z==y)=true:=fun h=>List.any_eq_true.2 ⟨_,h,by simp⟩
  refine FY (L:=fun m' i (z:Int)=>Jc n X l r _ m' z i) X.length (fun i z=>(∃q:Nat,z=(q:Int)∧q<X.length∧gb l q=true)∨i<=k) (Cm fun r=>r.length<=6000) ?_ ?_ n 0 (-1) (by omega) (by omega) (.inr (Nat.zero_le _))
  ·intro m' i z hi hI kk
   simp only [Jc.eq_2,DA hi,cT,Ab hi,MM (show i<l.length by omega),Av,CV,e0,aL (n:=n) (br:=r[0]) (show r[0].length<=1048576 by omega) hn,wT i]
   refine Ao (fun c=>kk (i:Int) (.inl ⟨i,rfl,hi,?_⟩)) fun c=>kk z ?_
   ·simp only [Bool.and_eq_true]at c
    exact c.1.1.1
   ·rcases hI with h|h
    ·exact .inl h
    ·refine .inr ?_
     rcases Nat.lt_or_ge i k with h2|h2
     ·omega
     ·obtain rfl:i=k:=by omega
      rw [g1,g2,anyM g3,anyM g4]at c
      simp at c
  ·intro m' z hI
   simp only [Jc.eq_2,DS,cF]
   rcases hI with ⟨q,rfl,h1,h2⟩|h
   ·rw [MM (show q<l.length by omega),Av,Int.toNat_natCast]
    have:=TI (show q<l.length by omega) h2
    exact ih _ (by simpa using hlv) (by omega)
   ·omega
theorem mH{n:Nat}{c:List Int}(hc:JM c){s:AA}(hs:Dh c s):Cm (fun r=>r.1.Name.size<=1048576∧Dh c r.2) (Ti n s):=by
 have e:=hs.code
 have nm:∀x∈[(ByteArray.mk #[115,108,111,119]),(ByteArray.mk #[102,97,115,116]),(ByteArray.mk #[116,121,112])],x.size<=1048576:=by
  intro x hx
  simp only [List.mem_cons,List.not_mem_nil,or_false]at hx
  rcases hx with rfl|rfl|rfl<;>decide
 rw [Ti]
 refine AH (Nx hc hs 3) fun r1 _ ⟨h1,z0,z1⟩=>AH (Cm.get z0 (by simp;omega) nm) fun x _ hx=>AH (Nx hc (h1.mk2 e) 20) fun r2 _ ⟨h2,_⟩=>AH (Nx hc (h2.mk2 e) 20) fun r3 _ ⟨h3,_⟩=>AH (Nx hc (h3.mk2 e) 60) fun r4 _ ⟨h4,_⟩=>AH (Nx hc (h4.mk2 e) 40) fun r5 _ ⟨h5,_⟩=>AH (Nx hc (h5.mk2 e) 30) fun r6 _ ⟨h6,_⟩=>?_
 refine Ao (fun _=>AQ ⟨hx,h6.mk2 e⟩) fun _=>Ao (fun _=>AH (Nx hc (h6.mk2 e) 3) fun r7 _ ⟨h7,y0,y1⟩=>AH (CP y0 (by simp;omega)) fun _ _ _=>AQ ⟨hx,h7.mk2 e⟩) fun _=>Ao (fun _=>AH (Nx hc (h6.mk2 e) 2) fun r7 _ ⟨h7,_⟩=>AQ ⟨hx,h7.mk2 e⟩) fun _=>Ao (fun _=>AQ ⟨(by decide:(ByteArray.mk #[]).size<=1048576),h6.mk2 e⟩) fun _=>AQ ⟨hx,h6.mk2 e⟩
theorem lV{n:Nat}(hn:1048577<=n){c:List Int}(hc:JM c){s:AA}(hs:Dh c s){b:AJ}(hb:Lf b):Cm (fun r=>r.1.length<=1000∧Dh c r.2) (VL n s b):=by
 have e:=hs.code
 obtain⟨v,e1,hv⟩:=Wu (n:=n) hb hn
 rw [VL,e1,Av]
 refine Ao (fun _=>AQ ⟨by simp,hs⟩) fun q=>?_
 have vb:=hv.1 (by cases v<;>simp_all)
 have vd:=vb.design
 have hl:=Ce vd.short vd.few.1 vd.few.2.2
 rw [Oa vd.short vd.few.1 vd.few.2.2 hn,Av]
 have hl2:((pls b.Design).map Gt).length<=78:=by simpa using hl
 generalize (pls b.Design).map Gt=ps at hl2 ⊢
 refine FY (L:=fun m i (p:List Ai×Int×Int)=>Jd n s ps _ m p.1 i p.2.1 p.2.2) ps.length (fun i p=>p.1.length<=2*i∧Dh c (AA.mk s.code_ p.2.1 p.2.2)) (Cm fun r=>r.1.length<=1000∧Dh c r.2) ?_ ?_ n 0 ([],s.at_,s.seed_) (by omega) (by omega) ⟨by simp,hs⟩
 ·rintro m i ⟨l,a,d⟩ hi ⟨h1,h2⟩ ih
  have h1:l.length<=2*i:=h1
  simp only [Jd.eq_2,DA hi,cT,Ab hi,Av,CV,wT i]
  generalize (decide (ps[i].instance_<0)&&ps[i].drives_)=c95
  refine FY (L:=fun m' k (p:List Ai×Int×Int)=>Jn n s (i:Int) c95 _ m' p.1 k p.2.1 p.2.2) 2 (fun k p=>p.1.length<=2*i+k∧Dh c (AA.mk s.code_ p.2.1 p.2.2)) (Cm fun r=>r.1.length<=1000∧Dh c r.2) ?_ ?_ n 0 (l,a,d) (by omega) (by omega) ⟨h1,h2⟩
  ·rintro m' k ⟨l,a,d⟩ hk ⟨g1,g2⟩ kk
   have g1:l.length<=2*i+k:=g1
   simp only [Jn.eq_2,show((2:Int))=((2:Nat):Int)from rfl,DA hk,cT,wT k]
   refine AH (A:=fun x:Bool×Int×Int=>Dh c (AA.mk s.code_ x.2.1 x.2.2)) (Ao (fun _=>AH (Nx hc g2 8) fun r _ ⟨q1,_⟩=>AQ (q1.mk2 e)) fun _=>AQ g2) fun x _ hx=>AH (A:=fun x:Bool×Int×Int=>Dh c (AA.mk s.code_ x.2.1 x.2.2)) (Ao (fun _=>AQ hx) fun _=>AH (Nx hc hx 24) fun r _ ⟨q1,_⟩=>AQ (q1.mk2 e)) fun y _ hy=>Ao (fun _=>?_) fun _=>kk (l,y.2.1,y.2.2) ⟨by show l.length<=_;omega,hy⟩
   refine AH (Nx hc hy 200) fun r1 _ ⟨q1,_⟩=>AH (Nx hc (q1.mk2 e) 30) fun r2 _ ⟨q2,_⟩=>AH (Nx hc (q2.mk2 e) 40) fun r3 _ ⟨q3,_⟩=>AH (Nx hc (q3.mk2 e) 12) fun r4 _ ⟨q4,_⟩=>?_
   rw [BO (by simp;omega) (by omega),Av]
   exact kk (_,_,_) ⟨by simp;omega,q4.mk2 e⟩
  ·rintro m' ⟨l,a,d⟩ ⟨g1,g2⟩
   simp only [Jn.eq_2,show decide (((2:Nat):Int)<2)=false from rfl,cF]
   exact ih (l,a,d) ⟨g1,g2⟩
 ·rintro m ⟨l,a,d⟩ ⟨h1,h2⟩
  have h1:l.length<=2*ps.length:=h1
  simp only [Jd.eq_2,DS,cF]
  refine Ao (fun g=>?_) fun _=>AQ ⟨by show l.length<=1000;omega,h2⟩
  have g:=of_decide_eq_true g
  refine AH (Nx hc h2 _) fun r1 _ ⟨q1,z0,z1⟩=>AH (Nx hc (q1.mk2 e) 30) fun r2 _ ⟨q2,_⟩=>?_
  have z2:r1.1<(l.length:Int):=by omega
  have gg:Cm (fun _=>True) (AL l r1.1):=(CP z0 z2).weaken fun _ _=>trivial
  have fin:∀x:Ai,Cm (fun r=>r.1.length<=1000∧Dh c r.2) (some (l.set r1.1.toNat x,AA.mk s.code_ r2.2.at_ r2.2.seed_)):=fun x=>AQ ⟨by simp;omega,q2.mk2 e⟩
  refine Ao (fun _=>AH (CP (Int.le_refl 0) (by omega)) fun _ _ _=>AH gg fun _ _ _=>fin _) fun _=>Ao (fun _=>AH gg fun _ _ _=>AH gg fun _ _ _=>fin _) fun _=>Ao (fun _=>AH gg fun _ _ _=>fin _) fun _=>Ao (fun _=>AH gg fun _ _ _=>fin _) fun _=>AQ ⟨by show l.length<=1000;omega,q2.mk2 e⟩
structure Wy(b:AJ)(c:BR)(br:List Int)(ss:List Ai):Prop where
 blk:La b
 cor:c.Name.size<=1048576
 few:br.length<=6001
 src:ss.length<=1000
theorem eO{n:Nat}(hn:1048577<=n){c:List Int}(hc:JM c){s:AA}(hs:Dh c s){O:Lk}{g:AJ×BR×List Int×List Ai×AA->Option Unit}(hg:∀b co br ss s',Wy b co br ss->Dh c s'->g (b,co,br,ss,s')=some ()):Tf n O s g=some ():=by
 have e:=hs.code
 rw [Tf]
 refine mE hn hc hs fun b s' hb hs'=>LH (mH hc (hs'.mk2 e)) fun co ⟨hco,h1⟩=>LH (Nx hc (h1.mk2 e) 3) fun r ⟨h2,_⟩=>?_
 have go:∀(b:AJ) (s':AA),La b->Dh c s'->(Option.bind (Qt n ((AA.mk s.code_ s'.at_ s'.seed_)) b) fun r156=>(Option.bind (Rb n b) fun r176=>(Option.bind (cond (r176&&((((r156.1.length:Int))==0))) (Option.bind (DO n ((AA.mk s.code_ r156.2.at_ r156.2.seed_)) 6) fun r187=>(some (decide (r187.1>0),r187.2.at_,r187.2.seed_))) (some (false,r156.2.at_,r156.2.seed_))) fun c187=>(cond c187.1 (Option.bind (Xp n b) fun r222=>(Option.bind (VL n ((AA.mk s.code_ c187.2.1 c187.2.2)) b) fun r232=>(g (b,co.1,r222,r232.1,(AA.mk s.code_ r232.2.at_ r232.2.seed_))))) (Option.bind (VL n ((AA.mk s.code_ c187.2.1 c187.2.2)) b) fun r302=>(g (b,co.1,r156.1,r302.1,(AA.mk s.code_ r302.2.at_ r302.2.seed_))))))))=some ():=fun b s' hb hs'=>by
  refine LH (nV hn hc (hs'.mk2 e) hb.sm) fun br ⟨hbr,h3⟩=>?_
  obtain⟨v,e1,hv⟩:=Wu (n:=n) hb.sm hn
  rw [e1,Av]
  refine LH (A:=fun x:Bool×Int×Int=>Dh c (AA.mk s.code_ x.2.1 x.2.2)∧(x.1=true->v=true)) (Ao (fun q=>AH (Nx hc (h3.mk2 e) 6) fun r _ ⟨q1,_⟩=>AQ ⟨q1.mk2 e,fun _=>by cases v<;>simp_all⟩) fun _=>AQ ⟨h3.mk2 e,fun h=>by cases h⟩) fun x ⟨hx,hv2⟩=>FW (fun q=>?_) fun _=>LH (lV hn hc hx hb.sm) fun ss ⟨hss,h4⟩=>hg _ _ _ _ _ ⟨hb,hco,hbr,hss⟩ (h4.mk2 e)
  exact LH (jP (hv.1 (hv2 q)) hn) fun bk hbk=>LH (lV hn hc hx hb.sm) fun ss ⟨hss,h4⟩=>hg _ _ _ _ _ ⟨hb,hco,by omega,hss⟩ (h4.mk2 e)
 exact FW (fun _=>jV hn hc (h2.mk2 e) (by omega) fun b s' hb _ _ hs'=>go b s' hb hs') fun _=>go b r.2 hb h2
structure bO(t:Ag):Prop where
 r:t.Reached.length<=156
 a:t.Arrival.length<=156
 s:t.Slew.length<=156
theorem mG{n:Nat}(hn:1048577<=n){c:List Int}(hc:JM c){s:AA}(hs:Dh c s){b:AJ}{co:BR}{br:List Int}{ss:List Ai}(h:Wy b co br ss):Cm (fun r=>bO r.1∧Dh c r.2) (VC n s b co br ss):=by
 have e:=hs.code
 rw [VC]
 refine AH (oI (c:=co) h.blk.sm h.cor (by have:=h.few;omega) (by have:=h.src;omega) hn) fun t _ ⟨N,hN,t1,t2,t3⟩=>?_
 have tw:bO t.1:=⟨by omega,by omega,by omega⟩
 refine AH (A:=fun x:Bool×Int×Int=>Dh c (AA.mk s.code_ x.2.1 x.2.2)∧(x.1=false->0<N)) (Ao (fun _=>AQ ⟨hs,fun h=>by cases h⟩) fun q=>AH (Nx hc hs 8) fun r _ ⟨q1,_⟩=>AQ ⟨q1.mk2 e,fun _=>by have:=beq_eq_false_iff_ne.1 q;omega⟩) fun x _ ⟨hx,h0⟩=>Ao (fun _=>AQ ⟨tw,hx⟩) fun q=>?_
 have h0:=h0 q
 refine AH (Nx hc hx _) fun r1 _ ⟨q1,z0,z1⟩=>AH (Nx hc (q1.mk2 e) 4) fun r2 _ ⟨q2,_⟩=>?_
 have z2:r1.1<(N:Int):=by omega
 refine Ao (fun _=>AH (CP z0 (by omega)) fun _ _ _=>AH (CP z0 (by omega)) fun _ _ _=>AQ ⟨⟨by show(t.1.Reached.set _ _).length<=156;simp;omega,tw.a,tw.s⟩,q2.mk2 e⟩) fun _=>Ao (fun _=>AH (CP z0 (by omega)) fun _ _ _=>AH (CP z0 (by omega)) fun _ _ _=>AQ ⟨⟨tw.r,by show(t.1.Arrival.set _ _).length<=156;simp;omega,tw.s⟩,q2.mk2 e⟩) fun _=>Ao (fun _=>AH (CP z0 (by omega)) fun _ _ _=>AH (CP z0 (by omega)) fun _ _ _=>AQ ⟨⟨tw.r,tw.a,by show(t.1.Slew.set _ _).length<=156;simp;omega⟩,q2.mk2 e⟩) fun _=>?_
 rw [show Hd t.1.Slew 0 r1.1=some ((t.1.Slew.take r1.1.toNat).drop (0:Int).toNat)from if_pos ⟨by omega,by omega,by omega⟩,Av]
 exact AQ ⟨⟨tw.r,tw.a,by simp;omega⟩,q2.mk2 e⟩
theorem oG{n:Nat}{c:List Int}(hc:JM c){s:AA}(hs:Dh c s):Cm (fun r=>r.1.Uncertainty<=12∧Dh c r.2) (Tc n s):=by
 have e:=hs.code
 rw [Tc]
 refine AH (Nx hc hs 300) fun r1 _ ⟨h1,_⟩=>AH (Nx hc (h1.mk2 e) 60) fun r2 _ ⟨h2,_⟩=>AH (Nx hc (h2.mk2 e) 12) fun r3 _ ⟨h3,_,u⟩=>AH (Nx hc (h3.mk2 e) 30) fun r4 _ ⟨h4,_⟩=>?_
 have u:r3.1<=12:=by omega
 exact Ao (fun _=>AH (Nx hc (h4.mk2 e) 3) fun r5 _ ⟨h5,y0,y1⟩=>AH (CP y0 (by simp;omega)) fun _ _ _=>AQ ⟨u,h5.mk2 e⟩) fun _=>Ao (fun _=>AH (Nx hc (h4.mk2 e) 2) fun r5 _ ⟨h5,y0,y1⟩=>AH (CP y0 (by simp;omega)) fun _ _ _=>AQ ⟨u,h5.mk2 e⟩) fun _=>Ao (fun _=>AQ ⟨by show(-1:Int)<=12;omega,h4.mk2 e⟩) fun _=>AQ ⟨u,h4.mk2 e⟩
theorem lE{n:Nat}(hn:1048577<=n){c:List Int}(hc:JM c){s:AA}(hs:Dh c s){O:Lk}{g:AJ×Ag×DJ×AA->Option Unit}(hg:∀b t rel s',La b->bO t->rel.Uncertainty<=12->Dh c s'->g (b,t,rel,s')=some ()):Se n O s g=some ():=by
 have e:=hs.code
 rw [Se]
 exact eO hn hc hs fun b co br ss s' h hs'=>LH (mG hn hc (hs'.mk2 e) h) fun t ⟨ht,h1⟩=>LH (oG hc (h1.mk2 e)) fun r ⟨hr,h2⟩=>hg _ _ _ _ h.blk ht hr (h2.mk2 e)
theorem mR{n:Nat}(hn:1048577<=n){c:List Int}(hc:JM c){s:AA}(hs:Dh c s){b:AJ}(hb:Lf b):Cm (fun r=>Dh c r.2) (Sz n s b):=by
 have e:=hs.code
 obtain⟨v,e1,hv⟩:=Wu (n:=n) hb hn
 have tail:∀k:Int,Cm (fun r=>Dh c r.2) (Option.bind (DO n s 16) fun r98=>(cond (r98.1==0) (Option.bind (DO n ((AA.mk s.code_ r98.2.at_ r98.2.seed_)) 2) fun r117=>(Option.bind (AL ([(-1),k]) r117.1) fun x125=>(some (x125,(AA.mk s.code_ r117.2.at_ r117.2.seed_))))) (Option.bind (DO n ((AA.mk s.code_ r98.2.at_ r98.2.seed_)) k) fun r132=>(some (r132.1,(AA.mk s.code_ r132.2.at_ r132.2.seed_)))))):=fun k=>
  AH (Nx hc hs 16) fun r _ ⟨h1,_⟩=>Ao (fun _=>AH (Nx hc (h1.mk2 e) 2) fun r5 _ ⟨h5,y0,y1⟩=>AH (CP y0 (by simp;omega)) fun _ _ _=>AQ (h5.mk2 e)) fun _=>AH (Nx hc (h1.mk2 e) _) fun r5 _ ⟨h5,_⟩=>AQ (h5.mk2 e)
 rw [Sz,e1,Av]
 refine Ao (fun q=>?_) fun _=>tail 8
 rw [PA (hv.1 q) hn,Av]
 exact tail _
theorem mZ{n:Nat}{l:List Bool}(h:l.length<=1048576)(hn:1048577<=n):Cm (fun r=>r.length<=l.length) (TB n l):=by
 rw [TB]
 refine FY (L:=fun m i s=>HK l _ m s i) l.length (fun i s=>s.length<=i) (Cm fun r=>r.length<=l.length) ?_ ?_ n 0 [] (by omega) (by omega) (Nat.le_refl _)
 ·intro m i s hi hs kk
  simp only [HK.eq_2,DA hi,cT,Ab hi,Av,wT i]
  refine Ao (fun _=>?_) fun _=>kk s (by omega)
  rw [BO (by simp;omega) (by omega),Av]
  exact kk _ (by simp;omega)
 ·intro m s hs
  simp only [HK.eq_2,DS,cF]
  exact AQ hs
theorem oE{n:Nat}(hn:1048577<=n){c:List Int}(hc:JM c){s:AA}(hs:Dh c s){b:AJ}(hb:Lf b){t:Ag}(ht:bO t):Cm (fun r=>Dh c r.2) (SO n s b t):=by
 have e:=hs.code
 rw [SO]
 refine AH (mZ (by have:=ht.r;omega) hn) fun l _ hl=>AH (A:=fun x:Bool×Int×Int=>Dh c (AA.mk s.code_ x.2.1 x.2.2)∧(x.1=true->0<l.length)) (Ao (fun q=>AH (Nx hc hs 8) fun r _ ⟨q1,_⟩=>AQ ⟨q1.mk2 e,fun _=>by have:=of_decide_eq_true q;omega⟩) fun _=>AQ ⟨hs,fun h=>by cases h⟩) fun x _ ⟨hx,h0⟩=>Ao (fun q=>?_) fun _=>AH (mR hn hc hx hb) fun r _ h1=>AQ (h1.mk2 e)
 have h0:=h0 q
 exact AH (Nx hc hx _) fun r _ ⟨h1,y0,y1⟩=>AH (CP y0 (by omega)) fun _ _ _=>AQ (h1.mk2 e)
def MV(b:AJ)(t:Ag)(xs:List Int):Prop:=CF b∧TW b t∧RA xs 0 (Cl b-1)∧0<xs.length∧∀x∈xs,Nr t x=true
def QG(t:Ag)(xs:List Int):Int:=wrap .i64 ((Kb t xs (gd xs 0)).Late-(Kb t xs (gd xs 0)).Early)
theorem ZV{n:Nat}{t:Ag}{xs:List Int}(hx:xs.length<=1048576)(h0:0<xs.length)(hr:∀i (h:i<xs.length),0<=xs[i]∧xs[i]<t.Arrival.length∧xs[i]<t.Reached.length)(hn:1048577<=n):
 ∃g:Int×Int,Hb n t xs (fun i104 i107 i108=>(some (wrap .i64 (i108-i107),0))) n 0 (Dz t xs[0]).Early (Dz t xs[0]).Late=some g∧Gc t xs (fun i52=>(Option.bind (Nt n t xs) fun r54=>(some (wrap .i64 (r54.1.Late-r54.1.Early),0)))) n 0=some g∧((g.2 !=0)=true∧(∃j,∃h:j<xs.length,Nr t xs[j]=false)∨(∀j (h:j<xs.length),Nr t xs[j]=true)∧g=(QG t xs,0)):=by
 have key:∀(k i:Nat) (s:Ae),i<=xs.length->xs.length-i<k->s=(xs.take i).foldl (EA t) (Dz t xs[0])->(∀j (h:j<xs.length),j<i->Nr t xs[j]=true)->∃g:Int×Int,Hb n t xs (fun i104 i107 i108=>(some (wrap .i64 (i108-i107),0))) k (i:Int) s.Early s.Late=some g∧Gc t xs (fun i52=>(Option.bind (Nt n t xs) fun r54=>(some (wrap .i64 (r54.1.Late-r54.1.Early),0)))) k (i:Int)=some g∧((g.2 !=0)=true∧(∃j,∃h:j<xs.length,Nr t xs[j]=false)∨(∀j (h:j<xs.length),Nr t xs[j]=true)∧g=(QG t xs,0)):=by
  intro k
  induction k with
  |zero=>intro i s _ h;omega
  |succ k ih=>
   intro i s hi hk hs hI
   by_cases c:i<xs.length
   ·obtain⟨g1,g2,g3⟩:=hr i c
    simp only [Hb.eq_2,Gc.eq_2,DA c,cT,Ab c,Av,bF g1 g3,Vd g1 g2,PH,wT i]
    cases hq:Nr t xs[i]with
    |false=>exact⟨_,rfl,rfl,.inl ⟨rfl,i,c,hq⟩⟩
    |true=>
     simp only [Bool.not_true,cF]
     refine ih (i+1) (EA t s xs[i]) (by omega) (by omega) (by rw [Fc c,←hs]) fun j hj hji=>?_
     by_cases ej:j=i
     ·subst ej;exact hq
     ·exact hI j hj (by omega)
   ·obtain rfl:i=xs.length:=by omega
    rw [List.take_length]at hs
    simp only [Hb.eq_2,Gc.eq_2,DS,cF,bL hx h0 (fun j hj=>⟨(hr j hj).1,(hr j hj).2.1,(hr j hj).2.2,hI j hj hj⟩) hn,Av]
    exact⟨_,rfl,by rw [hs];rfl,.inr ⟨fun j hj=>hI j hj hj,by rw [hs,QG,Wt h0];rfl⟩⟩
 exact key n 0 _ (by omega) (by omega) rfl fun j h hj=>by omega
theorem lB{n:Nat}{a:AJ}{t:Ag}{xs:List Int}(hb:Lf a)(ht:t.Reached.length<=1048576)(hx:xs.length<=1048576)(hn:1048577<=n):
 ∃g:Int×Int,bE n a t xs=some g∧VK n a t xs=some g∧((g.2 !=0)=true∧¬MV a t xs∨MV a t xs∧g=(QG t xs,0)):=by
 rw [bE,VK]
 rcases mF (n:=n) hb ht hn with ⟨f1,⟨v,vt⟩,w,f2,hw⟩|⟨f1,f2⟩
 ·have hp:=Ce v.design.short v.design.few.1 v.design.few.2.2
  have wN:wrap .i64 (Cl a-1)=Cl a-1:=Aw (by unfold Cl;omega) (by unfold Cl;omega)
  have h1:=vt.reached;have h2:=vt.arr
  obtain⟨q,q1,hq⟩:=Qu (n:=n) (l:=xs) (lo:=0) (hi:=Cl a-1) hx hn
  rw [f1,f2]
  simp only [Av,cF,RK,bne_self_eq_false,cX (r:=⟨a,w.places_,w.links_,w.loads_,w.delays_,w.extras_⟩) v hw,wN,q1]
  rcases Zz (n:=n) (xs:=xs) v (fun i41=>(cond (((xs.length:Int))==0) (some (0,4)) (Option.bind (AL xs 0) fun x44=>(Option.bind (AL t.Arrival x44) fun x52=>(Hb n t xs (fun i104 i107 i108=>(some (wrap .i64 (i108-i107),0))) n 0 x52.Early x52.Late))))) hx hn with ⟨w,k⟩|⟨w,k⟩
  ·rw [k]
   obtain rfl:q=true:=hq.2 w
   by_cases z:xs.length=0
   ·rw [show(((xs.length:Int))==0)=true by rw [z];rfl]
    exact⟨_,rfl,rfl,.inl ⟨rfl,fun h=>by have:=h.2.2.2.1;omega⟩⟩
   ·rw [show(((xs.length:Int))==0)=false by rw [beq_eq_false_iff_ne];omega]
    have z0:0<xs.length:=by omega
    have i0:=w 0 z0
    rw [Wt z0]at i0
    simp only [cF,Ab (show(0:Nat)<xs.length from z0),Av,Bool.not_true]
    rw [show AL xs (0:Int)=some xs[0]from Ab (i:=0) z0,Av,Vd i0.1 (by omega),Av]
    obtain⟨g,e1,e2,e3⟩:=ZV (n:=n) (t:=t) hx z0 (fun i h=>by have:=w i h;rw [Wt h]at this;exact⟨this.1,by omega,by omega⟩) hn
    refine⟨g,e1,e2,?_⟩
    rcases e3 with ⟨e3,j,hj,ej⟩|⟨e3,e4⟩
    ·exact .inl ⟨e3,fun h=>by have:=h.2.2.2.2 _ (List.getElem_mem hj);rw [ej]at this;cases this⟩
    ·exact .inr ⟨⟨v,vt,w,z0,fun x hx=>by obtain⟨j,hj,rfl⟩:=List.getElem_of_mem hx;exact e3 j hj⟩,e4⟩
  ·rw [k]
   obtain rfl:q=false:=by cases q with
    |false=>rfl
    |true=>exact absurd (hq.1 rfl) w
   cases(((xs.length:Int))==0)<;>exact⟨_,rfl,rfl,.inl ⟨rfl,fun h=>w h.2.2.1⟩⟩
 ·have:¬MV a t xs:=fun h=>by
   obtain⟨v,vt,_⟩:=h
   obtain⟨c,e,hc⟩:=Wu (n:=n) hb hn
   obtain⟨p,f,hp⟩:=lA (n:=n) (b:=a) ht hn
   obtain rfl:c=true:=hc.2 v
   obtain rfl:p=true:=hp.2 vt
   rw [Qc,e]at f1
   simp [PA v hn,f]at f1
  rw [f1,f2]
  exact⟨_,rfl,rfl,.inl ⟨rfl,this⟩⟩
structure cC(t:Ag)(xs:List Int)(s:Ae):Prop where
 lo:∀x∈xs,s.Early<=(Dz t x).Early
 hi:∀x∈xs,(Dz t x).Late<=s.Late
 lo1:∃x∈xs,s.Early=(Dz t x).Early
 hi1:∃x∈xs,s.Late=(Dz t x).Late
theorem Pc{t:Ag}:∀(xs:List Int) (s:Ae),((xs.foldl (EA t) s).Early<=s.Early∧s.Late<=(xs.foldl (EA t) s).Late)∧(∀x∈xs,(xs.foldl (EA t) s).Early<=(Dz t x).Early∧(Dz t x).Late<=(xs.foldl (EA t) s).Late)∧((xs.foldl (EA t) s).Early=s.Early∨∃x∈xs,(xs.foldl (EA t) s).Early=(Dz t x).Early)∧((xs.foldl (EA t) s).Late=s.Late∨∃x∈xs,(xs.foldl (EA t) s).Late=(Dz t x).Late)
 |[],s=>⟨⟨Int.le_refl _,Int.le_refl _⟩,by simp,.inl rfl,.inl rfl⟩
 |x::xs,s=>by
  obtain⟨⟨a1,a2⟩,b,c,d⟩:=Pc (t:=t) xs (EA t s x)
  have m1:(EA t s x).Early<=s.Early:=Int.min_le_left ..
  have m2:(EA t s x).Early<=(Dz t x).Early:=Int.min_le_right ..
  have m3:s.Late<=(EA t s x).Late:=Int.le_max_left ..
  have m4:(Dz t x).Late<=(EA t s x).Late:=Int.le_max_right ..
  have m5:(EA t s x).Early=s.Early∨(EA t s x).Early=(Dz t x).Early:=by
   show min _ _=_∨min _ _=_;omega
  have m6:(EA t s x).Late=s.Late∨(EA t s x).Late=(Dz t x).Late:=by
   show max _ _=_∨max _ _=_;omega
  rw [List.foldl_cons]
  generalize EA t s x=u at a1 a2 b c d m1 m2 m3 m4 m5 m6 ⊢
  refine⟨⟨by omega,by omega⟩,fun y hy=>?_,?_,?_⟩
  ·rcases List.mem_cons.1 hy with rfl|h
   ·exact⟨by omega,by omega⟩
   ·exact b y h
  ·rcases c with c|⟨y,h,e⟩
   ·rcases m5 with m|m
    ·exact .inl (by omega)
    ·exact .inr ⟨x,List.mem_cons_self ..,by omega⟩
   ·exact .inr ⟨y,List.mem_cons_of_mem _ h,e⟩
  ·rcases d with d|⟨y,h,e⟩
   ·rcases m6 with m|m
    ·exact .inl (by omega)
    ·exact .inr ⟨x,List.mem_cons_self ..,by omega⟩
   ·exact .inr ⟨y,List.mem_cons_of_mem _ h,e⟩
theorem WL{t:Ag}{xs:List Int}(h0:0<xs.length):cC t xs (Kb t xs (gd xs 0)):=by
 obtain⟨_,b,c,d⟩:=Pc (t:=t) xs (Dz t (gd xs 0))
 have hm:gd xs 0∈xs:=by rw [Wt h0];exact List.getElem_mem h0
 refine⟨fun x hx=>(b x hx).1,fun x hx=>(b x hx).2,?_,?_⟩
 ·rcases c with c|c
  ·exact⟨_,hm,c⟩
  ·exact c
 ·rcases d with d|d
  ·exact⟨_,hm,d⟩
  ·exact d
theorem QH{b:AJ}{t:Ag}(vt:TW b t){x:Int}(h0:0<=x)(h1:x<=Cl b-1):-1000000000<=(Dz t x).Early∧(Dz t x).Early<=(Dz t x).Late∧(Dz t x).Late<=1000000000:=by
 have r:=vt.reached;have a:=vt.arr;have s:=vt.slew
 obtain⟨q,rfl⟩:=Int.eq_ofNat_of_zero_le h0
 have h1:(q:Int)<=Cl b-1:=h1
 have e:=vt.each q (by omega) (by omega) (by omega)
 have ea:Dz t (q:Int)=t.Arrival[q]'(by omega):=by unfold Dz;simp [show q<t.Arrival.length by omega]
 show-1000000000<=(Dz t (q:Int)).Early∧(Dz t (q:Int)).Early<=(Dz t (q:Int)).Late∧(Dz t (q:Int)).Late<=1000000000
 rw [ea]
 simp only [Ph,Mg,Of,Bool.not_eq_true',Bool.or_eq_false_iff,Bool.not_eq_false',Bool.and_eq_true,decide_eq_true_eq]at e
 omega
theorem MV.mem{b:AJ}{t:Ag}{xs:List Int}(h:MV b t xs):∀x∈xs,0<=x∧x<=Cl b-1:=fun x hx=>by
 obtain⟨j,hj,rfl⟩:=List.getElem_of_mem hx
 have:=h.2.2.1 j hj
 rw [Wt hj]at this;exact this
theorem MV.sub{b:AJ}{t:Ag}{xs ys:List Int}(h:MV b t xs)(hy:∀y∈ys,y∈xs)(h0:0<ys.length):MV b t ys:=
 ⟨h.1,h.2.1,fun i hi=>by rw [Wt hi];exact h.mem _ (hy _ (List.getElem_mem hi)),h0,fun y h'=>h.2.2.2.2 y (hy y h')⟩
theorem UQ{b:AJ}{t:Ag}{xs:List Int}(h:MV b t xs):QG t xs=(Kb t xs (gd xs 0)).Late-(Kb t xs (gd xs 0)).Early∧cC t xs (Kb t xs (gd xs 0)):=by
 have hb:=WL (t:=t) h.2.2.2.1
 obtain⟨x,hx,e1⟩:=hb.lo1
 obtain⟨y,hy,e2⟩:=hb.hi1
 have a1:=QH h.2.1 (h.mem x hx).1 (h.mem x hx).2
 have a2:=QH h.2.1 (h.mem y hy).1 (h.mem y hy).2
 exact⟨Aw (by omega) (by omega),hb⟩
theorem QY{b:AJ}{t:Ag}{xs ys:List Int}(h:MV b t xs)(hy:∀y∈ys,y∈xs)(h0:0<ys.length):QG t ys<=QG t xs:=by
 obtain⟨e1,h1⟩:=UQ h
 obtain⟨e2,h2⟩:=UQ (h.sub hy h0)
 obtain⟨x,hx,q1⟩:=h2.lo1
 obtain⟨y,hy2,q2⟩:=h2.hi1
 have:=h1.lo x (hy x hx)
 have:=h1.hi y (hy y hy2)
 omega
theorem lY{n:Nat}{a:AJ}{t:Ag}{xs:List Int}(hb:Lf a)(ht:t.Reached.length<=1048576)(hx:xs.length<=1048576)(h:MV a t xs)(hn:1048577<=n):VK n a t xs=some (QG t xs,0):=by
 obtain⟨g,_,e,h1|h1⟩:=lB (n:=n) hb ht hx hn
 ·exact absurd h h1.2
 ·rw [e,h1.2]
theorem dA{n:Nat}(hn:1048577<=n){c:List Int}(hc:JM c){b:AJ}{t:Ag}{rel:DJ}{s0:AA}(hb:Lf b)(ht:bO t){k0:List Int->Int->Int->Int->Option Unit}(hk:∀l i a d,l.length<=5->k0 l i a d=some ()):
 ∀(m k:Nat) (l:List Int) (a d:Int),k<m->l.length+k<=5->Dh c (AA.mk c a d)->JA n c (b,t,rel,s0) k0 m l (k:Int) a d=some ()
 |0,k,l,a,d,hm,_,_=>by omega
 |m+1,0,l,a,d,hm,hl,hs=>by
  rw [JA.eq_2]
  exact hk l _ a d (by omega)
 |m+1,k+1,l,a,d,hm,hl,hs=>by
  have hp:decide (((k+1:Nat):Int)>0)=true:=decide_eq_true (by omega)
  have w:wrap .i64 (((k+1:Nat):Int)-1)=(k:Int):=by rw [Aw (by omega) (by omega)];omega
  rw [JA.eq_2,hp,cT]
  refine LH (oE hn hc hs hb ht) fun r h1=>?_
  rw [BO (by simp;omega) (by omega),Av,w]
  exact dA hn hc hb ht hk m k _ _ _ (by omega) (by simp;omega) (h1.mk2 rfl)
theorem bW{code:List Int}(hR:code.length<=9223372036854775807∧∀x∈code,Zo .u8 x):∃n O,WS n O code (fun r=>cond r (some ()) none)=some ():=by
 obtain⟨n,hn⟩:∃n,1048577<=n:=⟨_,Nat.le_refl _⟩
 obtain⟨O⟩:=Lk.is
 refine⟨n,O,?_⟩
 rw [WS,WF,Av]
 refine FW (fun _=>rfl) fun hbg=>?_
 have hc:=JM.of hR (of_decide_eq_false hbg)
 rw [VW]
 refine LH (Fr hc hn) fun s hs=>lE hn hc (hs.mk2 rfl) fun b t rel s' hb ht _ hs'=>LH (Nx hc (hs'.mk2 rfl) 5) fun r ⟨h1,z0,z1⟩=>?_
 obtain⟨k,ek⟩:=Int.eq_ofNat_of_zero_le z0
 have ek:r.1=(k:Int):=ek
 rw [ek]
 refine dA hn hc hb.sm ht (fun xs _ _ _ hx=>?_) n k [] _ _ (by omega) (by simp;omega) (h1.mk2 rfl)
 have htr:t.Reached.length<=1048576:=by have:=ht.r;omega
 obtain⟨g,e1,e2,h⟩:=lB (n:=n) (xs:=xs) hb.sm htr (by omega) hn
 simp only [e1,e2,Av,bne_self_eq_false,Bool.or_self,cF]
 rcases h with ⟨h,_⟩|⟨ok,rfl⟩
 ·rw [h,cT];rfl
 ·have h0:=ok.2.2.2.1
  have hra:=ok.2.1.arr
  have key:∀(m k:Nat),k<=xs.length->k<m->In n (fun r=>cond r (some ()) none) (b,t,xs) (QG t xs,0) (fun l122 i126=>(Option.bind (VK n b t l122) fun r149=>(cond (((r149.2==0))&&((r149.1==QG t xs))) (some ()) none))) m (xs.drop k).reverse ((k:Int)-1)=some ():=by
   intro m
   induction m with
   |zero=>intro k _ h;omega
   |succ m ih=>
    intro k hk hm
    rcases Nat.eq_zero_or_pos k with rfl|kp
    ·rw [In.eq_2,show decide (((0:Nat):Int)-1>=0)=false from rfl,cF,List.drop_zero]
     have sb:∀y∈xs.reverse,y∈xs:=fun y hy=>List.mem_reverse.1 hy
     rw [lY hb.sm htr (by simp;omega) (ok.sub sb (by simpa using h0)) hn,Av]
     have l1:=QY ok sb (by simpa using h0)
     have l2:=QY (ok.sub sb (by simpa using h0)) (ys:=xs) (fun y hy=>List.mem_reverse.2 hy) h0
     have:QG t xs.reverse=QG t xs:=by omega
     simp [this]
    ·obtain⟨j,rfl⟩:∃j,k=j+1:=⟨k-1,by omega⟩
     have hj:j<xs.length:=by omega
     have ej:(((j+1:Nat):Int)-1)=(j:Int):=by omega
     have hm1:=ok.mem _ (List.getElem_mem hj)
     have w1:wrap .i64 ((j:Int)-1)=(j:Int)-1:=Aw (by omega) (by omega)
     have es:Hd xs (j:Int) ((j+1:Nat):Int)=some [xs[j]]:=by
      rw [show Hd xs (j:Int) ((j+1:Nat):Int)=some ((xs.take (((j+1:Nat):Int)).toNat).drop ((j:Int)).toNat)from if_pos ⟨by omega,by omega,by omega⟩]
      simp only [Int.toNat_natCast]
      rw [List.take_succ_eq_append_getElem hj,List.drop_append_of_le_length (by simp;omega)]
      simp [Nat.le_of_lt hj]
     have s1:MV b t [xs[j]]:=ok.sub (fun y hy=>by rw [List.mem_singleton.1 hy];exact List.getElem_mem hj) (by simp)
     have l1:=QY ok (ys:=[xs[j]]) (fun y hy=>by rw [List.mem_singleton.1 hy];exact List.getElem_mem hj) (by simp)
     have ai:=QH ok.2.1 hm1.1 hm1.2
     have v1:QG t [xs[j]]=wrap .i64 ((Dz t xs[j]).Late-(Dz t xs[j]).Early):=by
      have:Kb t [xs[j]] (gd [xs[j]] 0)=Dz t xs[j]:=by
       show EA t (Dz t xs[j]) xs[j]=Dz t xs[j]
       simp [EA]
      rw [QG,this]
     have gd:decide (wrap .i64 ((Dz t xs[j]).Late-(Dz t xs[j]).Early)>QG t xs)=false:=by rw [←v1];exact decide_eq_false (by omega)
     rw [In.eq_2,ej,show decide ((j:Int)>=0)=true from decide_eq_true (by omega),cT]
     simp only [Ab hj,Av,wT j,es,lY hb.sm htr (by simp) s1 hn,Vd hm1.1 (show xs[j]<t.Arrival.length by omega),bne_self_eq_false,Bool.false_or,gd,cF,v1,w1]
     rw [BO (by simp;omega) (by omega),Av]
     have:=ih j (by omega) (by omega)
     rw [List.drop_eq_getElem_cons hj,List.reverse_cons]at this
     exact this
  have w0:wrap .i64 ((xs.length:Int)-1)=(xs.length:Int)-1:=Aw (by omega) (by omega)
  have:=key n xs.length (Nat.le_refl _) (by omega)
  rw [List.drop_length]at this
  rw [w0]
  exact this
end Go.Proofs.YtkjldnhpnbhogaaGreatDoor
