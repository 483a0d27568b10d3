/- The plain law behind FnClockPins: the plain function answers true; no condition. -/
import Derived.Test.YtbcnjcjcdknhhaaGreatDoorWalkFnClockPins
set_option linter.all false
namespace Go.Proofs.YtbcnjcjcdknhhaaGreatDoor
open Go Go.RowKit Go.Eng
theorem Dn{b c:Bool}:(bif b then some true else some c)=some (b||c):=by cases b<;>rfl
theorem Ca{b c:Bool}:(bif b then some c else some false)=some (b&&c):=by cases b<;>rfl
theorem CR{i N:Nat}(h:i<N):decide ((i:Int)<(N:Int))=true:=decide_eq_true (by omega)
theorem Cb(N:Nat):decide ((N:Int)<(N:Int))=false:=decide_eq_false (by omega)
theorem wS{i:Nat}(h:i<4611686018427387904):IntKind.wrap .i64 ((i:Int)+1)=((i+1:Nat):Int):=by rw [Af (by omega) (by omega)];simp
theorem AS{α:Type}{xs:List α}{i:Nat}(h:i<xs.length):AM xs (i:Int)=some xs[i]:=by rw [FH];exact List.getElem?_eq_getElem h
theorem Dj{α:Type}{xs:List α}{i:Int}(h0:0<=i)(h1:i<xs.length):∃x,AM xs i=some x∧xs[i.toNat]? =some x:=by
 obtain⟨x,hx,_⟩:=EL h0 h1
 exact⟨x,hx,(DU hx).2.2⟩
theorem loop{σ R:Type}{L:Nat->Int->σ->Option R}(N:Nat)(I:Nat->σ->Prop)(Post:Option R->Prop)
 (hs:∀(m i:Nat) (st:σ),i<N->I i st->(∃st',I (i+1) st'∧L (m+1) (i:Int) st=L m ((i+1:Nat):Int) st')∨Post (L (m+1) (i:Int) st))
 (he:∀(m:Nat) (st:σ),I N st->Post (L (m+1) (N:Int) st)):∀(m i:Nat) (st:σ),i<=N->N-i<m->I i st->Post (L m (i:Int) st)
 |0,i,st,_,hm,_=>by omega
 |m+1,i,st,hi,hm,h=>by
  by_cases hlt:i<N
  ·rcases hs m i st hlt h with ⟨st',h1,h2⟩|h1
   ·rw [h2];exact loop N I Post hs he m (i+1) st' (by omega) (by omega) h1
   ·exact h1
  ·obtain rfl:i=N:=by omega
   exact he m st h
theorem LV{α σ R:Type}{xs:List α}{L:Nat->Int->σ->Option R}{k:σ->Option R}(f:σ->α->σ)(I:Nat->σ->Prop)
 (hs:∀(m i:Nat) (h:i<xs.length) (st:σ),I i st->L (m+1) (i:Int) st=L m ((i+1:Nat):Int) (f st xs[i])∧I (i+1) (f st xs[i]))
 (he:∀(m:Nat) (st:σ),I xs.length st->L (m+1) (xs.length:Int) st=k st) (m:Nat) (st:σ) (h:I 0 st) (hm:xs.length<m):L m 0 st=k (xs.foldl f st)∧I xs.length (xs.foldl f st):=by
 refine loop xs.length (fun i s=>I i s∧(xs.drop i).foldl f s=xs.foldl f st) (fun o=>o=k (xs.foldl f st)∧I xs.length (xs.foldl f st)) ?_ ?_ m 0 st (by omega) (by omega) ⟨h,by simp⟩
 ·intro m i s hi ⟨h1,h2⟩
  obtain⟨e,h3⟩:=hs m i hi s h1
  exact .inl ⟨_,⟨h3,by rw [List.drop_eq_getElem_cons hi]at h2;exact h2⟩,e⟩
 ·intro m s ⟨h1,h2⟩
  rw [List.drop_length]at h2
  have h2:s=xs.foldl f st:=h2
  rw [←h2]
  exact⟨he m s h1,h1⟩
theorem BC{α:Type}{xs ys:List α}{b:Nat}(h:xs.length+ys.length<=16777216)(hb:b<=1048576):BW xs ys b=some (xs++ys):=by
 unfold BW
 have:(xs.length+ys.length)*b<=16777216*1048576:=Nat.mul_le_mul h hb
 rw [if_pos ⟨by omega,by omega⟩]
theorem Ki{α R:Type}{xs:List α}{L:Nat->Int->Option R}{k no:Option R}(p:α->Bool)(hs:∀(m i:Nat) (h:i<xs.length),L (m+1) (i:Int)=bif p xs[i]then L m ((i+1:Nat):Int)else no)
 (he:∀m:Nat,L (m+1) (xs.length:Int)=k) (m:Nat) (hm:xs.length<m):L m 0=bif xs.all p then k else no:=by
 refine loop (L:=fun m i (_:Unit)=>L m i) xs.length (fun i _=>xs.all p=(xs.drop i).all p) (fun o=>o=bif xs.all p then k else no) ?_ ?_ m 0 () (by omega) (by omega) (by simp)
 ·intro m i _ hi h
  rw [List.drop_eq_getElem_cons hi,List.all_cons]at h
  cases hp:p xs[i]with
  |false=>refine .inr ?_;rw [h,hp];simp only [hs m i hi,hp,cF,Bool.false_and]
  |true=>refine .inl ⟨(),by rw [h,hp];simp,?_⟩;simp only [hs m i hi,hp,cT]
 ·intro m _ h
  rw [List.drop_length]at h
  rw [h];simp [he m]
theorem Pn{σ R:Type}{L:Nat->σ->Option R}(μ:σ->Nat)(I:σ->Prop)(Post:Option R->Prop)
 (hs:∀(m:Nat) (st:σ),I st->(∀st',I st'->μ st'<μ st->Post (L m st'))->Post (L (m+1) st)):∀(m:Nat) (st:σ),μ st<m->I st->Post (L m st)
 |0,st,h,_=>by omega
 |m+1,st,h,hI=>hs m st hI fun st' h1 h2=>Pn μ I Post hs m st' (by omega) h1
theorem RM{σ R:Type}{L:Nat->Int->σ->Option R}(N:Nat)(I:Nat->σ->Prop)(Post:Option R->Prop)
 (hs:∀(m i:Nat) (st:σ),i<N->I i st->(∀st',I (i+1) st'->Post (L m ((i+1:Nat):Int) st'))->Post (L (m+1) (i:Int) st))
 (he:∀(m:Nat) (st:σ),I N st->Post (L (m+1) (N:Int) st)):∀(m i:Nat) (st:σ),i<=N->N-i<m->I i st->Post (L m (i:Int) st)
 |0,i,st,_,hm,_=>by omega
 |m+1,i,st,hi,hm,h=>by
  by_cases hlt:i<N
  ·exact hs m i st hlt h fun st' h'=>RM N I Post hs he m (i+1) st' (by omega) (by omega) h'
  ·obtain rfl:i=N:=by omega
   exact he m st h
def BZ{α:Type}(Q:α->Prop)(o:Option α):Prop:=∃v,o=some v∧Q v
theorem BZ.some{α:Type}{Q:α->Prop}{v:α}(h:Q v):BZ Q (some v):=⟨v,rfl,h⟩
theorem BZ.bind{α β:Type}{A:α->Prop}{Q:β->Prop}{o:Option α}{f:α->Option β}(h:BZ A o)(k:∀v,o=Option.some v->A v->BZ Q (f v)):BZ Q (Option.bind o f):=by
 obtain⟨v,e,hv⟩:=h
 rw [e];exact k v e hv
theorem BZ.bif{α:Type}{Q:α->Prop}{c:Bool}{x y:Option α}(h1:c=true->BZ Q x)(h2:c=false->BZ Q y):BZ Q (bif c then x else y):=by
 cases c
 ·exact h2 rfl
 ·exact h1 rfl
theorem BZ.weaken{α:Type}{Q Q':α->Prop}{o:Option α}(h:BZ Q o)(hq:∀v,Q v->Q' v):BZ Q' o:=by
 obtain⟨v,e,hv⟩:=h
 exact⟨v,e,hq v hv⟩
theorem BZ.get{α:Type}{Q:α->Prop}{xs:List α}{i:Int}(h0:0<=i)(h1:i<xs.length)(h:∀x∈xs,Q x):BZ Q (AM xs i):=by
 obtain⟨x,hx,hm⟩:=EL h0 h1
 exact⟨x,hx,h x hm⟩
theorem HV{α:Type}{xs:List α}{L:Nat->Int->Option Int}(p:α->Bool)(hs:∀(m i:Nat) (h:i<xs.length),L (m+1) (i:Int)=bif p xs[i]then some (i:Int)else L m ((i+1:Nat):Int))
 (he:∀m:Nat,L (m+1) (xs.length:Int)=some (-1)) (m:Nat) (hm:xs.length<m):∃r,L m 0=some r∧decide (r>=0)=xs.any p:=by
 refine loop (L:=fun m i (_:Unit)=>L m i) xs.length (fun i _=>xs.any p=(xs.drop i).any p) (fun o=>∃r,o=some r∧decide (r>=0)=xs.any p) ?_ ?_ m 0 () (by omega) (by omega) (by simp)
 ·intro m i _ hi h
  rw [List.drop_eq_getElem_cons hi,List.any_cons]at h
  cases hp:p xs[i]with
  |false=>refine .inl ⟨(),by rw [h,hp];simp,?_⟩;simp only [hs m i hi,hp,cF]
  |true=>refine .inr ⟨(i:Int),?_,?_⟩
         ·simp only [hs m i hi,hp,cT]
         ·rw [h,hp];simp
 ·intro m _ h
  rw [List.drop_length]at h
  exact⟨-1,he m,by rw [h];rfl⟩
structure DO(c:List Int)(s:AA):Prop where
 code:s.code_=c
 at0:0<=s.at_∧s.at_<=c.length
 sd:0<=s.seed_∧s.seed_<2147483647
def IK(c:List Int):Prop:=c.length<=4096∧∀x∈c,0<=x∧x<=255
theorem Eg{a b:Int}(ha:0<=a)(hb:0<b):0<=Int.tmod a b∧Int.tmod a b<b:=⟨Int.tmod_nonneg _ ha,Int.tmod_lt_of_pos _ hb⟩
theorem Nx{n:Nat}{c:List Int}(hc:IK c){s:AA}(h:DO c s)(k:Int):BZ (fun r=>DO c r.2∧0<=r.1∧(r.1<k∨r.1=0∧k<=1)) (DV n s k):=by
 obtain⟨h1,h2,h3⟩:=h
 have hl:=hc.1
 rw [DV]
 refine BZ.bif (fun hk=>BZ.some ⟨⟨h1,h2,h3⟩,Int.le_refl _,.inr ⟨rfl,of_decide_eq_true hk⟩⟩) fun hk=>?_
 have hk:=of_decide_eq_false hk
 have hk0:(k==0)=false:=by rw [beq_eq_false_iff_ne];omega
 refine BZ.bif (fun ha=>?_) fun ha=>?_
 ·have ha:=of_decide_eq_true ha
  rw [h1]at ha ⊢
  refine BZ.bind (BZ.get h2.1 ha hc.2) fun x _ hx=>?_
  have wx:IntKind.wrap .i64 x=x:=Af (by omega) (by omega)
  have wa:IntKind.wrap .i64 (s.at_+1)=s.at_+1:=Af (by omega) (by omega)
  have wm:IntKind.wrap .i64 (s.seed_*48271)=s.seed_*48271:=Af (by omega) (by omega)
  simp only [hk0,cF,wx,wa,wm,Af (x:=s.seed_*48271+x) (by omega) (by omega),Af (x:=s.seed_*48271+x+1) (by omega) (by omega)]
  have m1:=Eg (a:=s.seed_*48271+x+1) (b:=2147483647) (by omega) (by omega)
  refine BZ.bif (fun _=>BZ.some ⟨⟨rfl,⟨?_,?_⟩,h3⟩,?_⟩) fun _=>BZ.some ⟨⟨rfl,⟨?_,?_⟩,m1⟩,?_⟩
  ·show 0<=s.at_+1;omega
  ·show s.at_+1<=_;omega
  ·exact⟨(Eg hx.1 (by omega)).1,.inl (Eg hx.1 (by omega)).2⟩
  ·show 0<=s.at_+1;omega
  ·show s.at_+1<=_;omega
  ·exact⟨(Eg m1.1 (by omega)).1,.inl (Eg m1.1 (by omega)).2⟩
 ·have wm:IntKind.wrap .i64 (s.seed_*48271)=s.seed_*48271:=Af (by omega) (by omega)
  have m1:=Eg (a:=s.seed_*48271+11) (b:=2147483647) (by omega) (by omega)
  simp only [hk0,cF,wm,Af (x:=s.seed_*48271+11) (by omega) (by omega)]
  generalize Int.tmod (s.seed_*48271+11) 2147483647=q at*
  have d0:0<=Int.tdiv q 7:=Int.tdiv_nonneg m1.1 (by omega)
  have d1:Int.tdiv q 7<=q:=Int.tdiv_le_self _ m1.1
  rw [Af (x:=Int.tdiv q 7) (by omega) (by omega)]
  exact BZ.some ⟨⟨h1,h2,m1⟩,(Eg d0 (by omega)).1,.inl (Eg d0 (by omega)).2⟩
theorem DO.mk2{c d:List Int}{s:AA}(h:DO c s)(e:d=c):DO c (AA.mk d s.at_ s.seed_):=⟨e,h.at0,h.sd⟩
theorem Fr{n:Nat}{c:List Int}(hc:IK c)(hn:1048577<=n):BZ (fun r=>DO c r) (Rb n c):=by
 have hl:=hc.1
 rw [Rb]
 refine RM (L:=fun m i (p:Int×Int)=>GK c (fun i12 i14 i15=>(some ((AA.mk c i14 i15)))) m i p.1 p.2) (min c.length 64) (fun _ p=>p.1=0∧0<=p.2∧p.2<2147483647) _ ?_ ?_ n 0 (0,12345) (by omega) (by omega) ⟨rfl,by omega,by omega⟩
 ·intro m i ⟨a,sd⟩ hi ⟨h1,h2⟩ ih
  dsimp only at h1 h2 ⊢
  have hi1:i<c.length:=by omega
  have hx:=hc.2 _ (List.getElem_mem hi1)
  simp only [GK.eq_2,CR hi1,CR (show i<64 by omega),Bool.and_self,cT,AS hi1,At,show((64:Int))=((64:Nat):Int)from rfl,wT i]
  generalize c[i]=x at*
  rw [Af (x:=sd*31) (by omega) (by omega),Af (x:=x) (by omega) (by omega),Af (x:=sd*31+x) (by omega) (by omega)]
  have m1:=Eg (a:=sd*31+x) (b:=2147483647) (by omega) (by omega)
  exact ih (a,_) ⟨h1,m1⟩
 ·intro m ⟨a,sd⟩ ⟨h1,h2⟩
  dsimp only at h1 h2 ⊢
  have:(decide (((min c.length 64:Nat):Int)<(c.length:Int))&&decide (((min c.length 64:Nat):Int)<64))=false:=by
   rw [Bool.and_eq_false_iff,decide_eq_false_iff_not,decide_eq_false_iff_not];omega
  simp only [GK.eq_2,this,cF]
  exact BZ.some ⟨rfl,⟨by subst h1;exact Int.le_refl _,by subst h1;exact Int.natCast_nonneg _⟩,h2⟩
theorem IK.of{code:List Int}(hR:code.length<=9223372036854775807∧∀x∈code,VE .u8 x)(h:¬(code.length:Int)>4096):IK code:=⟨by omega,fun x hx=>hR.2 x hx⟩
def gd(t:List Int)(j:Nat):Int:=t.getD j 0
theorem If{t:List Int}{j:Nat}{v:Int}(h:t[j]? =some v):gd t j=v:=by simp [gd,h]
theorem Uu{t:List Int}{j:Nat}(h:j<t.length):t[j]? =some (gd t j):=by simp [gd,h]
theorem Je{t:List Int}{i j:Nat}{v:Int}(h:i<t.length):gd (t.set i v) j=if i=j then v else gd t j:=by
 unfold gd
 rw [List.getD_eq_getElem?_getD,List.getD_eq_getElem?_getD,List.getElem?_set]
 by_cases e:i=j
 ·subst e;simp [h]
 ·simp [e]
theorem OQ{t:List Int}{i:Int}(h0:0<=i)(h1:i<t.length):AM t i=some (gd t i.toNat):=by
 obtain⟨x,hx,h⟩:=Dj h0 h1
 rw [hx,If h]
def gb(t:List Bool)(j:Nat):Bool:=t.getD j false
theorem Dk{t:List Bool}{i j:Nat}{v:Bool}(h:i<t.length):gb (t.set i v) j=if i=j then v else gb t j:=by
 unfold gb
 rw [List.getD_eq_getElem?_getD,List.getD_eq_getElem?_getD,List.getElem?_set]
 by_cases e:i=j
 ·subst e;simp [h]
 ·simp [e]
theorem Nl{t u:List Bool}(h:t.length=u.length)(e:∀j,j<t.length->gb t j=gb u j):t=u:=by
 apply List.ext_getElem?
 intro j
 by_cases hj:j<t.length
 ·have:=e j hj
  simp only [gb,List.getD_eq_getElem?_getD,List.getElem?_eq_getElem hj,List.getElem?_eq_getElem (h▸hj),Option.getD_some]at this
  rw [List.getElem?_eq_getElem hj,List.getElem?_eq_getElem (h▸hj),this]
 ·rw [List.getElem?_eq_none (by omega),List.getElem?_eq_none (by omega)]
theorem RI{n j:Nat}:gb (List.replicate n false) j=false:=by
 simp only [gb,List.getD_eq_getElem?_getD,List.getElem?_replicate];split<;>rfl
theorem KU{n j:Nat}:gd (List.replicate n 0) j=0:=by
 simp only [gd,List.getD_eq_getElem?_getD,List.getElem?_replicate];split<;>rfl
def IC(b:UInt8):Bool:=decide ((b.toNat:Int)>=97)&&decide ((b.toNat:Int)<=122)
def MB(b:UInt8):Bool:=decide ((b.toNat:Int)>=48)&&decide ((b.toNat:Int)<=57)
def DB(s:ByteArray):Bool:=(decide ((s.size:Int)>=1)&&decide ((s.size:Int)<=8))&&(s.data.toList.all fun b=>IC b||MB b)&&(s.data.toList.take 1).all IC
theorem JZ(s:ByteArray):s.size=s.data.toList.length:=by rw [Array.length_toList];rfl
theorem OG{s:ByteArray}{i:Nat}(h:i<s.data.toList.length):Lq s (i:Int)=some ((s.data.toList[i].toNat:Nat):Int):=by
 unfold Lq
 rw [if_pos (by omega),Int.toNat_natCast]
 have:s[i]? =some s.data.toList[i]:=by
  have hs:i<s.size:=by rw [JZ];exact h
  rw [show s[i]? =some s[i]from getElem?_pos s i hs]
  rfl
 rw [this];rfl
theorem QN(p q:UInt8->Bool)(h:(List.range 256).all (fun i=>p (UInt8.ofNat i)==q (UInt8.ofNat i))=true)(b:UInt8):p b=q b:=by
 have:=List.all_eq_true.1 h b.toNat (List.mem_range.2 b.toNat_lt)
 rw [UInt8.ofNat_toNat]at this
 exact eq_of_beq this
def lettersL:List UInt8:=[97,98,99,100,101,102,103,104,105,106,107,108,109,110,111,112,113,114,115,116,117,118,119,120,121,122]
def nameL:List UInt8:=[97,98,99,100,101,102,103,104,105,106,107,108,109,110,111,112,113,114,115,116,117,118,119,120,121,122,48,49,50,51,52,53,54,55,56,57]
theorem QV(b:UInt8):nameL.contains b=(IC b||MB b):=QN (fun b=>nameL.contains b) (fun b=>IC b||MB b) (by decide+kernel) b
theorem MK(b:UInt8):lettersL.contains b=IC b:=QN (fun b=>lettersL.contains b) (fun b=>IC b) (by decide+kernel) b
theorem Jd{p:UInt8->Bool}:∀{l:List UInt8} (h:0<l.length),(l.take 1).all p=p l[0]
 |[],h=>by simp at h
 |a::r,_=>by simp
theorem EH{p:UInt8->Bool}:∀(l:List UInt8),(l.dropWhile p=[])↔l.all p=true
 |[]=>by simp
 |a::l=>by
  rw [List.dropWhile_cons,List.all_cons]
  cases h:p a with
  |true=>simpa using EH l
  |false=>simp
theorem HJ{p:UInt8->Bool}:∀{l:List UInt8} {a:UInt8} {r:List UInt8},l.dropWhile p=a::r->p a=false
 |b::l,a,r,h=>by
  rw [List.dropWhile_cons]at h
  split at h
  ·exact HJ h
  ·next q=>simp only [List.cons.injEq]at h;rw [←h.1];simpa using q
theorem Pq(l cs:List UInt8):(Lib.trimS l cs==[])=l.all (cs.contains ·):=by
 rw [Bool.eq_iff_iff,beq_iff_eq]
 unfold Lib.trimS Lib.trimLeftS Lib.trimRightS
 rw [EH,List.all_reverse]
 rw [show l.all (cs.contains ·)=l.reverse.all (cs.contains ·) by rw [List.all_reverse]]
 constructor
 ·intro h
  cases hd:l.reverse.dropWhile (cs.contains ·)with
  |nil=>exact(EH _).1 hd
  |cons a r=>
   have h1:=HJ hd
   rw [hd,List.all_cons,h1]at h
   cases h
 ·intro h
  rw [(EH _).2 h];rfl
theorem JQ:∀(l:List UInt8) (c:UInt8),decide (Lib.indexByte l c>=0)=l.contains c∧Lib.indexByte l c>= -1
 |[],c=>by simp [Lib.indexByte]
 |b::l,c=>by
  obtain⟨h1,h2⟩:=JQ l c
  rw [Lib.indexByte,List.contains_cons]
  by_cases e:b=c
  ·subst e;simp
  ·have e1:(b==c)=false:=beq_eq_false_iff_ne.2 e
   have e2:(c==b)=false:=beq_eq_false_iff_ne.2 fun q=>e q.symm
   rw [e1,e2,Bool.false_or,←h1]
   by_cases h:Lib.indexByte l c= -1
   ·rw [h];simp
   ·have:(Lib.indexByte l c== -1)=false:=beq_eq_false_iff_ne.2 h
    rw [this]
    have hge:Lib.indexByte l c>=0:=by omega
    rw [decide_eq_true hge]
    simp only [Bool.false_eq_true,if_false]
    exact⟨decide_eq_true (by omega),by omega⟩
theorem aK{n:Nat}{s:ByteArray}(hs:s.size<=1048576)(hn:1048577<=n):PR n s=some (DB s):=by
 rw [PR,Is,At]
 unfold DB
 cases hw:(decide ((s.size:Int)>=1)&&decide ((s.size:Int)<=8))with
 |false=>simp
 |true=>
  have hsz:1<=s.size:=by simp only [Bool.and_eq_true,decide_eq_true_eq]at hw;omega
  have ht:Pz n s ((ByteArray.mk #[97,98,99,100,101,102,103,104,105,106,107,108,109,110,111,112,113,114,115,116,117,118,119,120,121,122,48,49,50,51,52,53,54,55,56,57]))=some ⟨(Lib.trimS s.data.toList nameL).toArray⟩:=by
   unfold Pz
   rw [if_pos ⟨by omega,by decide,by decide⟩];rfl
  simp only [cT,ht,At,Bool.true_and]
  have hb:((⟨(Lib.trimS s.data.toList nameL).toArray⟩:ByteArray).toList==((ByteArray.mk #[])).toList)=(s.data.toList.all fun b=>IC b||MB b):=by
   rw [Lib.toList_data,Lib.toList_data]
   show((Lib.trimS s.data.toList nameL)==[])=_
   rw [Pq]
   congr 1
   funext b;exact QV b
  rw [hb]
  cases(s.data.toList.all fun b=>IC b||MB b)with
  |false=>simp
  |true=>
   rw [JZ]at hsz
   have hg:=OG (s:=s) (i:=0) (by omega)
   simp only [cT,show((0:Int))=((0:Nat):Int)from rfl,hg,At,Uk,Bool.true_and]
   have h1:=(JQ lettersL (s.data.toList[0])).1
   rw [MK]at h1
   have e1:(((s.data.toList[0].toNat:Nat):Int).toNat.toUInt8)=s.data.toList[0]:=by rw [Int.toNat_natCast];exact UInt8.ofNat_toNat
   rw [e1]
   have e2:(s.data.toList.take 1).all IC=IC s.data.toList[0]:=Jd (by omega)
   rw [e2,←h1];rfl
theorem Zi{n:Nat}{s:ByteArray}(hs:s.size<=1048576)(hn:1048577<=n):Ta n s=some (DB s):=by
 rw [Ta]
 have hl:=JZ s
 refine loop (L:=fun m i (_:Unit)=>EW s _ m i) s.data.toList.length (fun i _=>DB s=((decide ((s.size:Int)>=1)&&decide ((s.size:Int)<=8))&&((s.data.toList.drop i).all fun b=>IC b||MB b)&&((s.data.toList.take 1).drop i).all IC)) (fun r=>r=some (DB s)) ?_ ?_ n 0 () (by omega) (by omega) (by simp [DB])
 ·intro m i _ hi hI
  have g:=OG hi
  have hd:decide ((i:Int)<(s.size:Int))=true:=decide_eq_true (by omega)
  have key:EW s (fun i3=>(some (((decide ((s.size:Int)>=1))&&(decide ((s.size:Int)<=8)))))) (m+1) (i:Int)=bif (!IC s.data.toList[i]&& !(MB s.data.toList[i]&&decide (0<i)))then some false else EW s (fun i3=>(some (((decide ((s.size:Int)>=1))&&(decide ((s.size:Int)<=8)))))) m ((i+1:Nat):Int):=by
   have e0:decide ((i:Int)>0)=decide (0<i):=by by_cases h:0<i<;>simp [h]<;>omega
   simp only [EW.eq_2,hd,cT,g,At,Ca,wT i,e0]
   rfl
  by_cases hc:(!IC s.data.toList[i]&& !(MB s.data.toList[i]&&decide (0<i)))=true
  ·refine .inr ?_
   show EW s _ (m+1) (i:Int)=_
   rw [key,hc,cT]
   have:DB s=false:=by
    rw [hI,List.drop_eq_getElem_cons hi,List.all_cons]
    simp only [Bool.and_eq_true,Bool.not_eq_true',Bool.and_eq_false_iff,decide_eq_false_iff_not]at hc
    obtain⟨h1,h2⟩:=hc
    rw [h1]
    rcases h2 with h2|h2
    ·rw [h2];simp
    ·obtain rfl:i=0:=by omega
     rw [List.drop_zero,Jd hi,h1];simp
   rw [this]
  ·refine .inl ⟨(),?_,?_⟩
   ·rw [hI,List.drop_eq_getElem_cons hi,List.all_cons]
    have hc:=Bool.eq_false_iff.2 hc
    simp only [Bool.and_eq_false_iff,Bool.not_eq_false',Bool.and_eq_true,decide_eq_true_eq]at hc
    by_cases h0:i=0
    ·subst h0
     have h1:IC s.data.toList[0]=true:=by
      rcases hc with h|h
      ·exact h
      ·omega
     have e2:(s.data.toList.take 1).drop (0+1)=[]:=List.drop_eq_nil_of_le (by simp;omega)
     rw [List.drop_zero,Jd hi,e2,h1];simp
    ·have e1:(s.data.toList.take 1).drop i=[]:=List.drop_eq_nil_of_le (by simp;omega)
     have e2:(s.data.toList.take 1).drop (i+1)=[]:=List.drop_eq_nil_of_le (by simp;omega)
     rw [e1,e2]
     have:(IC s.data.toList[i]||MB s.data.toList[i])=true:=by
      rcases hc with h|h
      ·rw [h];rfl
      ·rw [h.1];simp
     rw [this];simp
   ·show EW s _ (m+1) (i:Int)=EW s _ m ((i+1:Nat):Int)
    rw [key,Bool.eq_false_iff.2 hc,cF]
 ·intro m _ hI
  have hd:decide (((s.data.toList.length:Nat):Int)<(s.size:Int))=false:=decide_eq_false (by omega)
  simp only [EW.eq_2,hd,cF]
  rw [hI,List.drop_length,List.drop_eq_nil_of_le (by simp;omega)]
  simp
def AZ(P:Prop)(r:Option Bool):Prop:=∃b:Bool,r=some b∧(b=true↔P)
theorem AZ.no{P:Prop}(h:¬P):AZ P (some false):=⟨false,rfl,by simp [h]⟩
theorem AZ.yes{P:Prop}(h:P):AZ P (some true):=⟨true,rfl,by simp [h]⟩
theorem bZ{n:Nat}{xs:List ByteArray}{x:ByteArray}(h:xs.length<=1048576)(hn:1048577<=n):QE n xs x=some (xs.any fun y=>x.toList==y.toList):=by
 rw [QE,Ss]
 obtain⟨r,e1,e2⟩:=HV (xs:=xs) (L:=fun m i=>Fb xs x (fun i5=>(some (-1))) m i) (fun y=>x.toList==y.toList) (fun m i hi=>by
  simp only [Fb.eq_2,CR hi,cT,AS hi,At,wT i]) (fun m=>by
  simp only [Fb.eq_2,Cb,cF]) n (by omega)
 have e1:Fb xs x (fun i5=>(some (-1))) n 0=some r:=e1
 rw [e1,At,e2]
theorem AN{n:Nat}{xs:List ByteArray}(h:xs.length<=1048576)(hs:∀x∈xs,x.size<=1048576)(hn:1048577<=n):AZ (∀k (h:k<xs.length),DB xs[k]=true∧∀i (hi:i<k),(xs[i].toList==xs[k].toList)=false) (MZ n xs):=by
 rw [MZ]
 refine loop (L:=fun m i (_:Unit)=>Ip n xs _ m i) xs.length (fun i _=>∀k (h:k<xs.length),k<i->DB xs[k]=true∧∀i (hi:i<k),(xs[i].toList==xs[k].toList)=false) _ ?_ ?_ n 0 () (by omega) (by omega) (fun k h hk=>by omega)
 ·intro m i _ hi hI
  have hsub:Dr xs 0 (i:Int)=some (xs.take i):=by
   unfold Dr
   rw [if_pos ⟨by omega,by omega,by omega⟩];simp
  have hct:=bZ (n:=n) (xs:=xs.take i) (x:=xs[i]) (by simp;omega) hn
  simp only [Ip.eq_2,CR hi,cT,AS hi,At,aK (hs _ (List.getElem_mem hi)) hn,hsub,hct,Dn,wT i]
  cases hb:(!DB xs[i]||(xs.take i).any fun y=>xs[i].toList==y.toList)with
  |true=>
   refine .inr (AZ.no fun hv=>?_)
   obtain⟨h1,h2⟩:=hv i hi
   rw [h1,Bool.not_true,Bool.false_or,List.any_eq_true]at hb
   obtain⟨y,hy,he⟩:=hb
   obtain⟨j,hj,rfl⟩:=List.mem_iff_getElem.1 hy
   rw [List.length_take]at hj
   rw [List.getElem_take]at he
   have:=h2 j (by omega)
   rw [beq_eq_false_iff_ne]at this
   exact this (eq_of_beq he).symm
  |false=>
   simp only [Bool.or_eq_false_iff,Bool.not_eq_false']at hb
   refine .inl ⟨(),fun k h hk=>?_,rfl⟩
   by_cases e:k=i
   ·subst e
    refine⟨hb.1,fun j hj=>?_⟩
    rw [beq_eq_false_iff_ne]
    intro he
    have:=List.any_eq_false.1 hb.2 xs[j] (List.mem_iff_getElem.2 ⟨j,by rw [List.length_take];omega,by rw [List.getElem_take]⟩)
    exact this (by rw [he];simp)
   ·exact hI k h (by omega)
 ·intro m _ hI
  simp only [Ip.eq_2,Cb,cF]
  exact AZ.yes fun k h=>hI k h h
theorem AW{n:Nat}{ks:List Int}{lo hi:Int}(h:ks.length<=1048576)(hn:1048577<=n):NZ n ks lo hi=some (ks.all fun k=>decide (k>=lo)&&decide (k<=hi)):=by
 rw [NZ,QA,Qc]
 obtain⟨r,e1,e2⟩:=HV (xs:=ks) (L:=fun m i=>Dg n ks lo hi (fun i7=>(some (-1))) m i) (fun k=>!(decide (k>=lo)&&decide (k<=hi))) (fun m i hi=>by
  simp only [Dg.eq_2,CR hi,cT,AS hi,At,QD,Is,wT i]) (fun m=>by
  simp only [Dg.eq_2,Cb,cF]) n (by omega)
 have e1:Dg n ks lo hi (fun i7=>(some (-1))) n 0=some r:=e1
 rw [e1,At,At,e2]
 congr 1
 rw [List.not_any_eq_all_not]
 congr 1
 funext k;rw [Bool.not_not]
theorem Nb{n0:Nat}:∀(j n:Nat) (k:Int),0<=k->k<(10:Int)^(j+1)->k<=1000000000000000000->j<n->j<=100->BZ (fun t=>t.size<=j+1) (Jy n k)
 |j,0,k,_,_,_,h,_=>by omega
 |j,n+1,k,k0,k1,k2,h,hj=>by
  rw [XR,decide_eq_false (show¬k<0 by omega),cF]
  by_cases hk:k<10
  ·rw [decide_eq_true hk,cT]
   exact BZ.some (by rw [Jk];simp)
  ·rw [decide_eq_false hk,cF]
   match j,k1 with
   |0,k1=>simp at k1;omega
   |j+1,k1=>
    have e:IntKind.wrap .i64 (Int.tdiv k 10)=k/10:=by rw [Int.tdiv_eq_ediv_of_nonneg k0];exact Af (by omega) (by omega)
    rw [e]
    rw [Int.pow_succ]at k1
    refine BZ.bind (Nb (n0:=n0) j n (k/10) (by omega) (by omega) (by omega) (by omega) (by omega)) fun r _ hr=>?_
    rw [KE (by rw [Jk];simp;omega)]
    exact BZ.some (by rw [ByteArray.size_append,Jk];simp;omega)
theorem aN{n:Nat}{k:Nat}(hk:k<=1000)(hn:1048577<=n):BZ (fun t=>t.size<=4) (Jy n (k:Int)):=
 (Nb (n0:=0) 3 n k (by omega) (by show _<(10000:Int);omega) (by omega) (by omega) (by omega))
theorem AZ.iff{P Q:Prop}{o:Option Bool}(h:AZ P o)(e:P↔Q):AZ Q o:=by
 obtain⟨b,rfl,h⟩:=h;exact⟨b,rfl,h.trans e⟩
theorem AZ.val{P:Prop}{b:Bool}(h:b=true↔P):AZ P (some b):=⟨b,rfl,h⟩
theorem AZ.bind{P R:Prop}{o:Option Bool}{f:Bool->Option Bool}(h:AZ P o)(h1:P->AZ R (f true))(h0:¬P->AZ R (f false)):AZ R (Option.bind o f):=by
 obtain⟨b,rfl,h⟩:=h
 cases b with
 |true=>exact h1 (h.1 rfl)
 |false=>exact h0 fun p=>by have:=h.2 p;cases this
theorem AZ.bif{R:Prop}{c:Bool}{x y:Option Bool}(h1:c=true->AZ R x)(h0:c=false->AZ R y):AZ R (bif c then x else y):=by
 cases c
 ·exact h0 rfl
 ·exact h1 rfl
theorem Dm{L:Nat->Int->Option Bool}{Q:Prop}(N s:Nat)(p:Nat->Prop)
 (hs:∀(m i:Nat),s<=i->i<N->(p i∧L (m+1) (i:Int)=L m ((i+1:Nat):Int))∨(¬p i∧L (m+1) (i:Int)=some false))
 (he:∀(m i:Nat),N<=i->i<=N+s->(∀j,s<=j->j<N->p j)->AZ Q (L (m+1) (i:Int))):∀(m i:Nat),s<=i->i<=N+s->N-i<m->(∀j,s<=j->j<i->j<N->p j)->AZ ((∀i,s<=i->i<N->p i)∧Q) (L m (i:Int))
 |0,i,_,_,hm,_=>by omega
 |m+1,i,hi,hi2,hm,hI=>by
  by_cases hlt:i<N
  ·rcases hs m i hi hlt with ⟨h1,h2⟩|⟨h1,h2⟩
   ·rw [h2]
    refine Dm N s p hs he m (i+1) (by omega) (by omega) (by omega) fun j h3 h4 h5=>?_
    by_cases e:j=i
    ·subst e;exact h1
    ·exact hI j h3 (by omega) h5
   ·rw [h2];exact AZ.no fun h=>h1 (h.1 i hi hlt)
  ·have ha:∀j,s<=j->j<N->p j:=fun j h3 h4=>hI j h3 (by omega) h4
   exact(he m i (by omega) hi2 ha).iff ⟨fun q=>⟨ha,q⟩,fun q=>q.2⟩
theorem JR{α:Type}{xs:List α}{L:Nat->Int->Option Int}{f:α->Option Bool}{P:α->Prop}(hf:∀x∈xs,AZ (P x) (f x))(hs:∀(m i:Nat) (h:i<xs.length),L (m+1) (i:Int)=Option.bind (f xs[i]) fun r=>bif r then some (i:Int)else L m ((i+1:Nat):Int))
 (he:∀m:Nat,L (m+1) (xs.length:Int)=some (-1)) (m:Nat) (hm:xs.length<m):∃r,L m 0=some r∧(r>=0↔∃x∈xs,P x)∧(r= -1∨∃j:Nat,r=(j:Int)∧∃h:j<xs.length,P xs[j]∧∀i (hi:i<xs.length),i<j->¬P xs[i]):=by
 refine loop (L:=fun m i (_:Unit)=>L m i) xs.length (fun i _=>∀j (h:j<xs.length),j<i->¬P xs[j]) (fun o=>∃r,o=some r∧(r>=0↔∃x∈xs,P x)∧(r= -1∨∃j:Nat,r=(j:Int)∧∃h:j<xs.length,P xs[j]∧∀i (hi:i<xs.length),i<j->¬P xs[i])) ?_ ?_ m 0 () (by omega) (by omega) (fun j _ h=>by omega)
 ·intro m i _ hi hI
  obtain⟨b,e,hb⟩:=hf _ (List.getElem_mem hi)
  rw [hs m i hi,e,At]
  cases b with
  |true=>exact .inr ⟨(i:Int),rfl,⟨fun _=>⟨_,List.getElem_mem hi,hb.1 rfl⟩,fun _=>by omega⟩,.inr ⟨i,rfl,hi,hb.1 rfl,hI⟩⟩
  |false=>
   refine .inl ⟨(),fun j h hj=>?_,by trivial⟩
   by_cases ej:j=i
   ·subst ej;intro hp;have:=hb.2 hp;cases this
   ·exact hI j h (by omega)
 ·intro m _ hI
  refine⟨-1,he m,⟨fun h=>by omega,fun⟨x,hx,hp⟩=>?_⟩,.inl rfl⟩
  obtain⟨j,hj,rfl⟩:=List.getElem_of_mem hx
  exact absurd hp (hI j hj hj)
theorem gI{l:List Int}{i:Nat}(h:i<l.length):AM l (i:Int)=some (gd l i):=by rw [FH];exact Uu h
def Xe(l:List Int):Prop:=(1<=l.length∧l.length<=4)∧(∀i,i<l.length->0<=gd l i∧gd l i<=100000)∧∀i,i<l.length->0<i->gd l (i-1)<gd l i
def VT(t:BI):Prop:=(Xe t.Slews∧Xe t.Loads)∧t.Values.length=t.Slews.length*t.Loads.length∧∀i,i<t.Values.length-> -1000000<=gd t.Values i∧gd t.Values i<=1000000
theorem Ke{l:List Int}{lo hi:Int}:(l.all fun k=>decide (k>=lo)&&decide (k<=hi))=true↔∀i,i<l.length->lo<=gd l i∧gd l i<=hi:=by
 rw [List.all_eq_true]
 constructor
 ·intro h i hi
  have:=h _ (List.getElem_mem hi)
  simp only [Bool.and_eq_true,decide_eq_true_eq]at this
  rw [If (List.getElem?_eq_getElem hi)];omega
 ·intro h x hx
  obtain⟨j,hj,rfl⟩:=List.getElem_of_mem hx
  have:=h j hj
  rw [If (List.getElem?_eq_getElem hj)]at this
  simp only [Bool.and_eq_true,decide_eq_true_eq];omega
theorem aM{n:Nat}{l:List Int}(h:l.length<=1048576)(hn:1048577<=n):AZ (Xe l) (PA n l):=by
 rw [PA]
 refine(Dm (L:=fun m i=>Gz n l _ m i) (Q:=1<=l.length∧l.length<=4) l.length 0 (fun i=>(0<=gd l i∧gd l i<=100000)∧(0<i->gd l (i-1)<gd l i)) ?_ ?_ n 0 (by omega) (by omega) (by omega) (fun j _ h=>by omega)).iff ?_
 ·intro m i _ hi
  have w1:0<i->IntKind.wrap .i64 ((i:Int)-1)=((i-1:Nat):Int):=fun h0=>by rw [Af (by omega) (by omega)];omega
  simp only [Gz.eq_2,CR hi,cT,gI hi,At,HE,wT i]
  by_cases c1:0<=gd l i∧gd l i<=100000
  ·have d1:(decide (gd l i>=0)&&decide (gd l i<=100000))=true:=by simp only [Bool.and_eq_true,decide_eq_true_eq];omega
   simp only [d1,Bool.not_true,cF]
   by_cases h0:0<i
   ·have d2:decide ((i:Int)>0)=true:=decide_eq_true (by omega)
    simp only [d2,cT,w1 h0,gI (show i-1<l.length by omega),At]
    by_cases c2:gd l (i-1)<gd l i
    ·have d3:decide (gd l (i-1)>=gd l i)=false:=decide_eq_false (by omega)
     simp only [d3,cF]
     exact .inl ⟨⟨c1,fun _=>c2⟩,by trivial⟩
    ·have d3:decide (gd l (i-1)>=gd l i)=true:=decide_eq_true (by omega)
     simp only [d3,cT]
     exact .inr ⟨fun h=>c2 (h.2 h0),by trivial⟩
   ·have d2:decide ((i:Int)>0)=false:=decide_eq_false (by omega)
    simp only [d2,cF,At]
    exact .inl ⟨⟨c1,fun h=>absurd h h0⟩,by trivial⟩
  ·have d1:(decide (gd l i>=0)&&decide (gd l i<=100000))=false:=by
    rw [Bool.and_eq_false_iff,decide_eq_false_iff_not,decide_eq_false_iff_not];omega
   simp only [d1,Bool.not_false,cT,At]
   exact .inr ⟨fun h=>c1 h.1,by trivial⟩
 ·intro m i h1 h2 _
  obtain rfl:i=l.length:=by omega
  simp only [Gz.eq_2,Cb,cF]
  exact AZ.val (by simp only [Bool.and_eq_true,decide_eq_true_eq];omega)
 ·exact⟨fun⟨a,b⟩=>⟨b,fun i hi=>(a i (by omega) hi).1,fun i hi h0=>(a i (by omega) hi).2 h0⟩,fun⟨a,b,c⟩=>⟨fun i _ hi=>⟨b i hi,c i hi⟩,a⟩⟩
theorem aH{n:Nat}{l:List Int}(h:l.length<=1048576)(hn:1048577<=n):AZ (∀i,i<l.length->0<i->gd l (i-1)<gd l i) (PB n l):=by
 rw [PB]
 refine(Dm (L:=fun m i=>GG l _ m i) (Q:=True) l.length 1 (fun i=>gd l (i-1)<gd l i) ?_ ?_ n 1 (by omega) (by omega) (by omega) (fun j _ h=>by omega)).iff ?_
 ·intro m i h0 hi
  have w1:IntKind.wrap .i64 ((i:Int)-1)=((i-1:Nat):Int):=by rw [Af (by omega) (by omega)];omega
  simp only [GG.eq_2,CR hi,cT,w1,gI hi,gI (show i-1<l.length by omega),At,wT i]
  by_cases c2:gd l (i-1)<gd l i
  ·have d3:decide (gd l (i-1)>=gd l i)=false:=decide_eq_false (by omega)
   simp only [d3,cF]
   exact .inl ⟨c2,by trivial⟩
  ·have d3:decide (gd l (i-1)>=gd l i)=true:=decide_eq_true (by omega)
   simp only [d3,cT]
   exact .inr ⟨c2,by trivial⟩
 ·intro m i h1 h2 _
  have:decide ((i:Int)<(l.length:Int))=false:=decide_eq_false (by omega)
  simp only [GG.eq_2,this,cF]
  exact AZ.yes trivial
 ·exact⟨fun a i hi h0=>a.1 i h0 hi,fun a=>⟨fun i h0 hi=>a i hi h0,trivial⟩⟩
theorem aL{n:Nat}{l:List Int}(h:l.length<=1048576)(hn:1048577<=n):AZ (Xe l) (PO n l):=by
 obtain⟨b,e,hb⟩:=aH (n:=n) h hn
 rw [PO]
 simp only [Kp,Is,AW (n:=n) h hn,e,At,Ca]
 refine AZ.val ?_
 rw [Bool.and_eq_true,Bool.and_eq_true,Ke,hb]
 simp only [Bool.and_eq_true,decide_eq_true_eq]
 exact⟨fun⟨⟨a,b⟩,c⟩=>⟨by omega,b,c⟩,fun⟨a,b,c⟩=>⟨⟨by omega,b⟩,c⟩⟩
theorem Vi{a b:Nat}(ha:a<=4)(hb:b<=4):IntKind.wrap .i64 ((a:Int)*(b:Int))=((a*b:Nat):Int):=by
 have:a*b<=4*4:=Nat.mul_le_mul ha hb
 have e:((a*b:Nat):Int)=(a:Int)*b:=by simp
 rw [←e,Af (by omega) (by omega)]
def Pg(t:BI):Prop:=t.Slews.length<=1048576∧t.Loads.length<=1048576∧t.Values.length<=1048576
theorem bV{n:Nat}{t:BI}(h:Pg t)(hn:1048577<=n):AZ (VT t) (Pt n t):=by
 rw [Pt]
 refine AZ.bind (aM h.1 hn) (fun v1=>?_) fun v1=>?_
 ·simp only [Bool.not_true,cF]
  obtain⟨b,e,hb⟩:=aM (n:=n) h.2.1 hn
  rw [e,At,At]
  cases b with
  |false=>
   simp only [Bool.not_false,Bool.true_or,cT]
   exact AZ.no fun v=>by have:=hb.2 v.1.2;cases this
  |true=>
   have v2:=hb.1 rfl
   rw [Vi v1.1.2 v2.1.2]
   simp only [Bool.not_true,Bool.false_or]
   refine AZ.bif (fun c=>?_) fun c=>?_
   ·refine AZ.no fun v=>?_
    rw [v.2.1]at c;simp at c
   ·have c:t.Values.length=t.Slews.length*t.Loads.length:=by
     rw [bne_eq_false_iff_eq]at c;omega
    have hv:=h.2.2
    refine(Dm (L:=fun m i=>HC n t _ m i) (Q:=True) t.Values.length 0 (fun i=>-1000000<=gd t.Values i∧gd t.Values i<=1000000) ?_ ?_ n 0 (by omega) (by omega) (by omega) (fun j _ h=>by omega)).iff ?_
    ·intro m i _ hi
     simp only [HC.eq_2,CR hi,cT,gI hi,At,HE,wT i]
     by_cases c1:-1000000<=gd t.Values i∧gd t.Values i<=1000000
     ·have d1:(decide (gd t.Values i>= -1000000)&&decide (gd t.Values i<=1000000))=true:=by simp only [Bool.and_eq_true,decide_eq_true_eq];omega
      simp only [d1,Bool.not_true,cF]
      exact .inl ⟨c1,by trivial⟩
     ·have d1:(decide (gd t.Values i>= -1000000)&&decide (gd t.Values i<=1000000))=false:=by
       rw [Bool.and_eq_false_iff,decide_eq_false_iff_not,decide_eq_false_iff_not];omega
      simp only [d1,Bool.not_false,cT]
      exact .inr ⟨c1,by trivial⟩
    ·intro m i h1 h2 _
     obtain rfl:i=t.Values.length:=by omega
     simp only [HC.eq_2,Cb,cF]
     exact AZ.yes trivial
    ·exact⟨fun a=>⟨⟨v1,v2⟩,c,fun i hi=>a.1 i (by omega) hi⟩,fun a=>⟨fun i _ hi=>a.2.2 i hi,trivial⟩⟩
 ·simp only [Bool.not_false,cT,At,Bool.true_or]
  exact AZ.no fun v=>v1 v.1.1
theorem bS{n:Nat}{t:BI}(h:Pg t)(hn:1048577<=n):AZ (VT t) (RB n t):=by
 rw [RB]
 refine AZ.bind (aL h.1 hn) (fun v1=>?_) fun v1=>?_
 ·simp only [cT]
  obtain⟨b,e,hb⟩:=aL (n:=n) h.2.1 hn
  rw [e,At,At]
  cases b with
  |false=>
   simp only [Bool.false_and,cF,At]
   exact AZ.no fun v=>by have:=hb.2 v.1.2;cases this
  |true=>
   have v2:=hb.1 rfl
   rw [Vi v1.1.2 v2.1.2,AW (n:=n) h.2.2 hn]
   simp only [Bool.true_and,At,Ca]
   refine AZ.val ?_
   rw [Bool.and_eq_true,Ke,beq_iff_eq]
   exact⟨fun⟨a,b⟩=>⟨⟨v1,v2⟩,by omega,b⟩,fun a=>⟨by have:=a.2.1;omega,a.2.2⟩⟩
 ·simp only [cF,At,Bool.false_and]
  exact AZ.no fun v=>v1 v.1.1
theorem VT.pos{t:BI}(h:VT t):0<t.Values.length∧t.Values.length<=16:=by
 have a:=h.1.1.1
 have b:=h.1.2.1
 rw [h.2.1]
 exact⟨Nat.mul_pos (by omega) (by omega),(Nat.mul_le_mul a.2 b.2:_<=4*4)⟩
def VP(t:BI):Prop:=∀j,j<t.Values.length->0<=gd t.Values j
theorem dI{n:Nat}{t:BI}(h:Pg t)(hn:1048577<=n):(¬VT t∧∃s:FI,Oz n t=some (s,1))∨(VT t∧∃s:FI,Oz n t=some (s,0)∧(s.Early<0↔¬VP t)):=by
 obtain⟨b,e,hb⟩:=bV (n:=n) h hn
 rw [Oz,e,At]
 cases b with
 |false=>exact .inl ⟨fun v=>(by have:=hb.2 v;cases this),_,rfl⟩
 |true=>
  have v:=hb.1 rfl
  have hp:=v.pos
  have g0:AM t.Values 0=some (gd t.Values 0):=gI (i:=0) (by omega)
  refine .inr ⟨v,?_⟩
  simp only [Bool.not_true,cF,g0,At]
  refine loop (L:=fun m i (p:Int×Int)=>Gi t (fun i93 i97 i98=>(some ((FI.mk i97 i98),0))) m i p.1 p.2) t.Values.length (fun i p=>(p.1<0↔¬∀j,j<i->0<=gd t.Values j)) (fun o=>∃s:FI,o=some (s,0)∧(s.Early<0↔¬VP t)) ?_ ?_ n 1 (gd t.Values 0,gd t.Values 0) (by omega) (by omega) ?_
  ·intro m i ⟨a,c⟩ hi hI
   dsimp only at hI ⊢
   refine .inl ⟨(min a (gd t.Values i),max c (gd t.Values i)),?_,?_⟩
   ·dsimp only
    constructor
    ·intro hm hall
     by_cases ha:a<0
     ·exact hI.1 ha fun j hj=>hall j (by omega)
     ·have:=hall i (by omega);omega
    ·intro hna
     by_cases ha:a<0
     ·omega
     ·have hall:∀j,j<i->0<=gd t.Values j:=fun j hj=>by
       by_cases q:0<=gd t.Values j
       ·exact q
       ·exact absurd (hI.2 fun hh=>q (hh j hj)) ha
      by_cases q:0<=gd t.Values i
      ·exfalso;apply hna;intro j hj
       by_cases ej:j=i
       ·subst ej;exact q
       ·exact hall j (by omega)
      ·omega
   ·simp only [Gi.eq_2,CR hi,cT,gI hi,At,wT i]
  ·intro m ⟨a,c⟩ hI
   dsimp only at hI ⊢
   simp only [Gi.eq_2,Cb,cF]
   exact⟨_,rfl,hI⟩
  ·dsimp only
   constructor
   ·intro h0 hall;have:=hall 0 (by omega);omega
   ·intro h0
    by_cases q:gd t.Values 0<0
    ·exact q
    ·exfalso;apply h0;intro j hj;obtain rfl:j=0:=by omega
     omega
theorem Mn{n:Nat}{l:List Int}(h0:0<l.length)(h:l.length<=1048576)(hn:1048577<=n):∃r,Qt n l=some r∧(r<0↔¬∀j,j<l.length->0<=gd l j):=by
 have g0:AM l 0=some (gd l 0):=gI (i:=0) (by omega)
 have d0:decide ((l.length:Int)<1)=false:=decide_eq_false (by omega)
 rw [Qt,d0,cF,g0,At]
 refine loop (L:=fun m i (a:Int)=>Gp l (fun i15 i16=>(some i15)) m a i) l.length (fun i a=>(a<0↔¬∀j,j<i->0<=gd l j)) (fun o=>∃r,o=some r∧(r<0↔¬∀j,j<l.length->0<=gd l j)) ?_ ?_ n 1 (gd l 0) (by omega) (by omega) ?_
 ·intro m i a hi hI
  refine .inl ⟨min a (gd l i),?_,?_⟩
  ·constructor
   ·intro hm hall
    by_cases ha:a<0
    ·exact hI.1 ha fun j hj=>hall j (by omega)
    ·have:=hall i (by omega);omega
   ·intro hna
    by_cases ha:a<0
    ·omega
    ·have hall:∀j,j<i->0<=gd l j:=fun j hj=>by
      by_cases q:0<=gd l j
      ·exact q
      ·exact absurd (hI.2 fun hh=>q (hh j hj)) ha
     by_cases q:0<=gd l i
     ·exfalso;apply hna;intro j hj
      by_cases ej:j=i
      ·subst ej;exact q
      ·exact hall j (by omega)
     ·omega
  ·simp only [Gp.eq_2,CR hi,cT,gI hi,At,wT i]
 ·intro m a hI
  simp only [Gp.eq_2,Cb,cF]
  exact⟨_,rfl,hI⟩
 ·constructor
  ·intro h0 hall;have:=hall 0 (by omega);omega
  ·intro h0
   by_cases q:gd l 0<0
   ·exact q
   ·exfalso;apply h0;intro j hj;obtain rfl:j=0:=by omega
    omega
def Nv(l:List BI)(pos:Bool):Prop:=l.length=2∧∀t∈l,VT t∧(pos=true->VP t)
theorem Yb{n:Nat}{l:List BI}{pos:Bool}(h:∀t∈l,Pg t)(hn:1048577<=n):AZ (Nv l pos) (Nw n l pos):=by
 rw [Nw]
 refine AZ.bif (fun c=>?_) fun c=>?_
 ·refine AZ.no fun v=>?_
  rw [v.1]at c;simp at c
 ·have c:l.length=2:=by rw [bne_eq_false_iff_eq]at c;omega
  refine(Dm (L:=fun m i=>Iq n l pos _ m i) (Q:=True) 2 0 (fun i=>∀t,l[i]? =some t->VT t∧(pos=true->VP t)) ?_ ?_ n 0 (by omega) (by omega) (by omega) (fun j _ h=>by omega)).iff ?_
  ·intro m i _ hi
   have hil:i<l.length:=by omega
   have g:=List.getElem?_eq_getElem hil
   have d1:decide ((i:Int)<2)=true:=decide_eq_true (by omega)
   simp only [Iq.eq_2,d1,cT,AS hil,At,wT i,g]
   rcases dI (n:=n) (h _ (List.getElem_mem hil)) hn with ⟨v,s,e⟩|⟨v,s,e,hs⟩
   ·rw [e]
    exact .inr ⟨fun q=>v (q _ rfl).1,by trivial⟩
   ·rw [e]
    simp only [At,bne_self_eq_false,Bool.false_or]
    by_cases hp:pos=true
    ·subst hp
     by_cases q:s.Early<0
     ·rw [decide_eq_true q]
      exact .inr ⟨fun r=>(hs.1 q) ((r _ rfl).2 rfl),by trivial⟩
     ·rw [decide_eq_false q]
      refine .inl ⟨fun t ht=>?_,by trivial⟩
      obtain rfl:=Option.some.inj ht
      exact⟨v,fun _=>Classical.byContradiction fun r=>q (hs.2 r)⟩
    ·have hp:pos=false:=by simpa using hp
     subst hp
     refine .inl ⟨fun t ht=>?_,by trivial⟩
     obtain rfl:=Option.some.inj ht
     exact⟨v,fun h=>by cases h⟩
  ·intro m i h1 h2 _
   obtain rfl:i=2:=by omega
   simp only [Iq.eq_2,show decide (((2:Nat):Int)<2)=false from rfl,cF]
   exact AZ.yes trivial
  ·constructor
   ·rintro ⟨a,_⟩
    refine⟨c,fun t ht=>?_⟩
    obtain⟨j,hj⟩:=List.getElem?_of_mem ht
    have hjl:j<l.length:=(List.getElem?_eq_some_iff.1 hj).1
    exact a j (by omega) (by omega) t hj
   ·rintro ⟨_,a⟩
    exact⟨fun i _ _ t ht=>a t (List.mem_of_getElem? ht),trivial⟩
theorem Xs{n:Nat}{l:List BI}{pos:Bool}(h:∀t∈l,Pg t)(hl:l.length<=1048576)(hn:1048577<=n):AZ (Nv l pos) (Nj n l pos):=by
 rw [Nj]
 have hf:∀t∈l,AZ (¬(VT t∧(pos=true->VP t))) (PQ n t pos):=by
  intro t ht
  have hm:=h t ht
  rw [PQ]
  refine AZ.bind (bS hm hn) (fun v=>?_) fun v=>?_
  ·simp only [Bool.not_true,cF]
   by_cases hp:pos=true
   ·subst hp
    obtain⟨r,e,hr⟩:=Mn (n:=n) v.pos.1 hm.2.2 hn
    simp only [cT,e,At]
    refine AZ.val ?_
    rw [decide_eq_true_eq,hr]
    exact⟨fun a b=>a (b.2 trivial),fun a b=>a ⟨v,fun _=>b⟩⟩
   ·have hp:pos=false:=by simpa using hp
    subst hp
    exact AZ.no fun a=>a ⟨v,fun h=>by cases h⟩
  ·simp only [Bool.not_false,cT,At]
   exact AZ.yes fun a=>v a.1
 obtain⟨r,e,hr,_⟩:=JR (xs:=l) (L:=fun m i=>FV n l pos (fun i6=>(some (-1))) m i) (f:=fun t=>PQ n t pos) hf (fun m i hi=>by
  simp only [FV.eq_2,CR hi,cT,AS hi,At,wT i]) (fun m=>by
  simp only [FV.eq_2,Cb,cF]) n (by omega)
 have e:FV n l pos (fun i6=>(some (-1))) n 0=some r:=e
 rw [Si,Rq,e]
 simp only [At]
 by_cases c:l.length=2
 ·have:((l.length:Int)==2)=true:=by simp;omega
  rw [this]
  simp only [cT,At]
  refine AZ.val ?_
  rw [Bool.not_eq_true',decide_eq_false_iff_not,hr]
  exact⟨fun a=>⟨c,fun t ht=>Classical.byContradiction fun q=>a ⟨t,ht,q⟩⟩,fun a ⟨t,ht,q⟩=>q (a.2 t ht)⟩
 ·have:((l.length:Int)==2)=false:=by rw [beq_eq_false_iff_ne];omega
  rw [this]
  exact AZ.no fun v=>c v.1
def NA(N i:Nat)(p:BY):Prop:=(0<=p.Cap∧p.Cap<=500)∧(i+1=N->p.Dir=2∧p.Cap=0∧p.Clock=false)∧(i+1<N->p.Dir=1)
structure IM(l:List BY):Prop where
 few:2<=l.length∧l.length<=5
 pin:∀i (h:i<l.length),NA l.length i l[i]
 nm:∀k (h:k<l.length),DB l[k].Name=true∧∀i (hi:i<k),(l[i].Name.toList==l[k].Name.toList)=false
def cnt(l:List BY):Nat:=l.countP (·.Clock)
def Ut(l:List BY):Prop:=l.length<=1048576∧∀p∈l,p.Name.size<=1048576
theorem MQ{l:List BY}{i:Nat}(h:i<l.length):cnt (l.take (i+1))=cnt (l.take i)+if l[i].Clock=true then 1 else 0:=by
 unfold cnt
 rw [List.take_succ_eq_append_getElem h,List.countP_append]
 congr 1
 by_cases e:l[i].Clock=true
 ·rw [if_pos e];simp [e]
 ·rw [if_neg e];simp [e]
theorem cL{n:Nat}{c:Ak}(h:Ut c.Pins)(hn:1048577<=n):∃r:Int×Bool,Wg n c=some r∧(r.2=true↔IM c.Pins)∧(r.2=true->r.1=cnt c.Pins):=by
 rw [Wg]
 by_cases hl:2<=c.Pins.length∧c.Pins.length<=5
 ·have d:(decide ((c.Pins.length:Int)<2)||decide ((c.Pins.length:Int)>5))=false:=by
   simp only [Bool.or_eq_false_iff,decide_eq_false_iff_not];omega
  rw [d,cF]
  have wl:IntKind.wrap .i64 ((c.Pins.length:Int)-1)=(c.Pins.length:Int)-1:=Af (by omega) (by omega)
  refine loop (L:=fun m i (q:Int)=>Fh n c (fun i23 i24=>(some (i23,true))) m q i) c.Pins.length (fun i q=>q=cnt (c.Pins.take i)∧∀k (h:k<c.Pins.length),k<i->NA c.Pins.length k c.Pins[k]∧DB c.Pins[k].Name=true∧∀j (hj:j<k),(c.Pins[j].Name.toList==c.Pins[k].Name.toList)=false)
   (fun o=>∃r:Int×Bool,o=some r∧(r.2=true↔IM c.Pins)∧(r.2=true->r.1=cnt c.Pins)) ?_ ?_ n 0 0 (by omega) (by omega) ⟨by simp [cnt],fun k _ hk=>by omega⟩
  ·intro m i q hi ⟨hq,hI⟩
   have no:∀o:Option (Int×Bool),o=some (0,false)->¬IM c.Pins->∃r:Int×Bool,o=some r∧(r.2=true↔IM c.Pins)∧(r.2=true->r.1=cnt c.Pins):=fun o e hv=>⟨_,e,by simp [hv],fun h=>by cases h⟩
   have wi:decide ((i:Int)<(c.Pins.length:Int))=true:=CR hi
   rw [Fh.eq_2]
   simp only [wi,cT,AS hi,At]
   have inner:∀k2:Int->Option (Int×Bool),(∀j (hj:j<i),(c.Pins[j].Name.toList==c.Pins[i].Name.toList)=false)∧Gj c i c.Pins[i] k2 n 0=k2 i∨(¬∀j (hj:j<i),(c.Pins[j].Name.toList==c.Pins[i].Name.toList)=false)∧Gj c i c.Pins[i] k2 n 0=some (0,false):=by
    intro k2
    refine loop (L:=fun m j (_:Unit)=>Gj c i c.Pins[i] k2 m j) i (fun b _=>∀j (hj:j<i),j<b->(c.Pins[j].Name.toList==c.Pins[i].Name.toList)=false) (fun o=>(∀j (hj:j<i),(c.Pins[j].Name.toList==c.Pins[i].Name.toList)=false)∧o=k2 i∨(¬∀j (hj:j<i),(c.Pins[j].Name.toList==c.Pins[i].Name.toList)=false)∧o=some (0,false)) ?_ ?_ n 0 () (by omega) (by omega) (fun j _ hj=>by omega)
    ·intro m j _ hj hJ
     simp only [Gj.eq_2,CR hj,cT,AS (show j<c.Pins.length by omega),At,wT j]
     cases e:(c.Pins[j].Name.toList==c.Pins[i].Name.toList)with
     |true=>exact .inr (.inr ⟨fun h=>(by rw [h j hj]at e;cases e),by trivial⟩)
     |false=>
      refine .inl ⟨(),fun a ha hb=>?_,by trivial⟩
      by_cases ea:a=j
      ·subst ea;exact e
      ·exact hJ a ha (by omega)
    ·intro m _ hJ
     simp only [Gj.eq_2,Cb,cF]
     exact .inl ⟨fun j hj=>hJ j hj hj,by trivial⟩
   rcases inner _ with ⟨g1,g2⟩|⟨g1,g2⟩
   ·rw [g2]
    have hsz:=h.2 _ (List.getElem_mem hi)
    simp only [Zi hsz hn,At,HE,Dn,wl]
    cases hnm:DB c.Pins[i].Name with
    |false=>
     simp only [Bool.not_false,Bool.true_or,cT]
     exact .inr (no _ rfl fun v=>by have:=(v.nm i hi).1;rw [hnm]at this;cases this)
    |true=>
     simp only [Bool.not_true,Bool.false_or]
     by_cases c1:0<=c.Pins[i].Cap∧c.Pins[i].Cap<=500
     ·have d1:(decide (c.Pins[i].Cap>=0)&&decide (c.Pins[i].Cap<=500))=true:=by simp only [Bool.and_eq_true,decide_eq_true_eq];omega
      simp only [d1,Bool.not_true,cF]
      have pI:NA c.Pins.length i c.Pins[i]↔((((i:Int)==(c.Pins.length:Int)-1)&&((((c.Pins[i].Dir !=2))||((c.Pins[i].Cap !=0)))||c.Pins[i].Clock))||((decide ((i:Int)<(c.Pins.length:Int)-1))&&((c.Pins[i].Dir !=1))))=false:=by
       unfold NA
       by_cases e1:i+1=c.Pins.length
       ·have t1:((i:Int)==(c.Pins.length:Int)-1)=true:=by rw [beq_iff_eq];omega
        have t2:decide ((i:Int)<(c.Pins.length:Int)-1)=false:=decide_eq_false (by omega)
        simp only [t1,t2,Bool.true_and,Bool.false_and,Bool.or_false,Bool.or_eq_false_iff,bne_eq_false_iff_eq]
        exact⟨fun⟨_,a,_⟩=>⟨⟨(a e1).1,(a e1).2.1⟩,(a e1).2.2⟩,fun⟨⟨a,b⟩,d⟩=>⟨c1,fun _=>⟨a,b,d⟩,fun h=>by omega⟩⟩
       ·have t1:((i:Int)==(c.Pins.length:Int)-1)=false:=by rw [beq_eq_false_iff_ne];omega
        have t2:decide ((i:Int)<(c.Pins.length:Int)-1)=true:=decide_eq_true (by omega)
        simp only [t1,t2,Bool.true_and,Bool.false_and,Bool.false_or,bne_eq_false_iff_eq]
        exact⟨fun⟨_,_,a⟩=>a (by omega),fun a=>⟨c1,fun h=>absurd h e1,fun _=>a⟩⟩
      cases hc:((((i:Int)==(c.Pins.length:Int)-1)&&((((c.Pins[i].Dir !=2))||((c.Pins[i].Cap !=0)))||c.Pins[i].Clock))||((decide ((i:Int)<(c.Pins.length:Int)-1))&&((c.Pins[i].Dir !=1))))with
      |true=>
       rw [hc]at pI
       simp only [cT]
       exact .inr (no _ rfl fun v=>by have:=pI.1 (v.pin i hi);cases this)
      |false=>
       have hp:=pI.2 hc
       simp only [cF]
       have hI':∀k (h:k<c.Pins.length),k<i+1->NA c.Pins.length k c.Pins[k]∧DB c.Pins[k].Name=true∧∀j (hj:j<k),(c.Pins[j].Name.toList==c.Pins[k].Name.toList)=false:=fun k hk hki=>by
        by_cases ek:k=i
        ·subst ek;exact⟨hp,hnm,g1⟩
        ·exact hI k hk (by omega)
       have ct:=MQ hi
       have cl:cnt (c.Pins.take i)<=5:=Nat.le_trans List.countP_le_length (by simp;omega)
       cases hk:c.Pins[i].Clock with
       |true=>
        rw [hk,if_pos rfl]at ct
        refine .inl ⟨q+1,⟨by rw [ct,hq];simp,hI'⟩,?_⟩
        simp only [cT,wT i,Af (x:=q+1) (by omega) (by omega)]
       |false=>
        rw [hk]at ct
        refine .inl ⟨q,⟨by rw [ct,hq];simp,hI'⟩,?_⟩
        simp only [cF,wT i]
     ·have d1:(decide (c.Pins[i].Cap>=0)&&decide (c.Pins[i].Cap<=500))=false:=by
       rw [Bool.and_eq_false_iff,decide_eq_false_iff_not,decide_eq_false_iff_not];omega
      simp only [d1,Bool.not_false,cT]
      exact .inr (no _ rfl fun v=>c1 (v.pin i hi).1)
   ·rw [g2]
    exact .inr (no _ rfl fun v=>g1 (v.nm i hi).2)
  ·intro m q ⟨hq,hI⟩
   simp only [Fh.eq_2,Cb,cF]
   rw [List.take_length]at hq
   exact⟨_,rfl,⟨fun _=>⟨hl,fun i h=>(hI i h h).1,fun k h=>(hI k h h).2⟩,fun _=>rfl⟩,fun _=>hq⟩
 ·have d:(decide ((c.Pins.length:Int)<2)||decide ((c.Pins.length:Int)>5))=true:=by
   rw [Bool.or_eq_true,decide_eq_true_eq,decide_eq_true_eq];omega
  rw [d,cT]
  exact⟨_,rfl,⟨fun h=>(by cases h),fun v=>absurd v.few hl⟩,fun h=>(by cases h)⟩
theorem bJ{n:Nat}{l:List BY}(h:Ut l)(hn:1048577<=n):AZ (IM l) (Pi n l):=by
 have hl:=h.1
 rw [Pi]
 have wl:0<l.length->IntKind.wrap .i64 ((l.length:Int)-1)=(l.length:Int)-1:=fun h0=>Af (by omega) (by omega)
 refine loop (L:=fun m i (q:List ByteArray)=>Fc n l _ m q i) l.length (fun i q=>q=(l.take i).map (·.Name)∧∀k (h:k<l.length),k<i->NA l.length k l[k]) _ ?_ ?_ n 0 [] (by omega) (by omega) ⟨by simp,fun k _ hk=>by omega⟩
 ·intro m i q hi ⟨hq,hI⟩
  have hql:q.length<=1048576:=by rw [hq];simp;omega
  have ha:=BC (xs:=q) (ys:=[l[i].Name]) (b:=16) (by simp;omega) (by omega)
  have hq':q++[l[i].Name]=(l.take (i+1)).map (·.Name):=by rw [hq,List.take_succ_eq_append_getElem hi,List.map_append];rfl
  simp only [Fc.eq_2,CR hi,cT,AS hi,At,ha,wl (by omega),Is,wT i]
  have stepI:NA l.length i l[i]->∀k (h:k<l.length),k<i+1->NA l.length k l[k]:=fun hp k hk hki=>by
   by_cases ek:k=i
   ·subst ek;exact hp
   ·exact hI k hk (by omega)
  by_cases e1:i+1=l.length
  ·have t1:((i:Int)==(l.length:Int)-1)=true:=by rw [beq_iff_eq];omega
   simp only [t1,cT]
   cases hc:((((l[i].Dir !=2))||((l[i].Cap !=0)))||l[i].Clock)with
   |true=>
    refine .inr (AZ.no fun v=>?_)
    have:=(v.pin i hi).2.1 e1
    rw [this.1,this.2.1,this.2.2]at hc;cases hc
   |false=>
    simp only [Bool.or_eq_false_iff,bne_eq_false_iff_eq]at hc
    exact .inl ⟨_,⟨hq',stepI ⟨by omega,fun _=>⟨hc.1.1,hc.1.2,hc.2⟩,fun h=>by omega⟩⟩,by trivial⟩
  ·have t1:((i:Int)==(l.length:Int)-1)=false:=by rw [beq_eq_false_iff_ne];omega
   simp only [t1,cF,Dn,At]
   by_cases c1:l[i].Dir=1∧0<=l[i].Cap∧l[i].Cap<=500
   ·have d1:((l[i].Dir !=1)|| !(decide (l[i].Cap>=0)&&decide (l[i].Cap<=500)))=false:=by
     simp only [Bool.or_eq_false_iff,bne_eq_false_iff_eq,Bool.not_eq_false',Bool.and_eq_true,decide_eq_true_eq];omega
    simp only [d1,cF]
    exact .inl ⟨_,⟨hq',stepI ⟨by omega,fun h=>absurd h e1,fun _=>c1.1⟩⟩,by trivial⟩
   ·have d1:((l[i].Dir !=1)|| !(decide (l[i].Cap>=0)&&decide (l[i].Cap<=500)))=true:=by
     simp only [Bool.or_eq_true,bne_iff_ne,Bool.not_eq_true',Bool.and_eq_false_iff,decide_eq_false_iff_not];omega
    simp only [d1,cT]
    exact .inr (AZ.no fun v=>c1 ⟨(v.pin i hi).2.2 (by omega),(v.pin i hi).1⟩)
 ·intro m q ⟨hq,hI⟩
  rw [List.take_length]at hq
  obtain⟨b,e,hb⟩:=AN (n:=n) (xs:=q) (by rw [hq];simpa using hl) (by rw [hq];intro x hx;obtain⟨p,hp,rfl⟩:=List.mem_map.1 hx;exact h.2 p hp) hn
  simp only [Fc.eq_2,Cb,cF,Mf,Is,e,At,Ca]
  refine AZ.val ?_
  rw [Bool.and_eq_true,hb,Bool.and_eq_true,decide_eq_true_eq,decide_eq_true_eq]
  subst hq
  simp only [List.length_map,List.getElem_map]
  exact⟨fun⟨a,b⟩=>⟨by omega,fun i hi=>hI i hi hi,b⟩,fun v=>⟨by have:=v.few;omega,v.nm⟩⟩
def Hb(l:List BY)(i:Int):Bool:=((l[i.toNat]?).map (·.Clock)).getD false
theorem UE{l:List BY}{i:Int}(h0:0<=i)(h1:i<l.length):∃x,AM l i=some x∧x.Clock=Hb l i:=by
 obtain⟨x,e,h⟩:=Dj h0 h1
 exact⟨x,e,by simp [Hb,h]⟩
theorem NE{l:List BY}{j:Nat}(h:j<l.length):Hb l (j:Int)=l[j].Clock:=by simp [Hb,h]
theorem OK{l:List BY}(hc:cnt l<=1){i j:Nat}(hi:i<l.length)(hj:j<l.length)(h1:l[i].Clock=true)(h2:l[j].Clock=true):i=j:=by
 have key:∀i j:Nat,∀(hi:i<l.length) (hj:j<l.length),l[i].Clock=true->l[j].Clock=true->¬i<j:=by
  intro i j hi hj h1 h2 hlt
  have e:cnt l=cnt (l.take (i+1))+cnt (l.drop (i+1)):=by unfold cnt;rw [←List.countP_append,List.take_append_drop]
  have p1:0<cnt (l.take (i+1)):=List.countP_pos_iff.2 ⟨l[i],by rw [List.mem_take_iff_getElem];exact⟨i,by omega,rfl⟩,h1⟩
  have p2:0<cnt (l.drop (i+1)):=List.countP_pos_iff.2 ⟨l[j],by rw [List.mem_drop_iff_getElem];exact⟨j-(i+1),by omega,by congr 1;omega⟩,h2⟩
  omega
 have a:=key i j hi hj h1 h2
 have b:=key j i hj hi h2 h1
 omega
theorem Ck{n:Nat}{c:Ak}(h:c.Pins.length<=1048576)(hn:1048577<=n):∃r,Nh n c=some r∧(r>=0↔∃x∈c.Pins,x.Clock=true)∧(r= -1∨∃j:Nat,r=(j:Int)∧∃h:j<c.Pins.length,c.Pins[j].Clock=true∧∀i (hi:i<c.Pins.length),i<j->¬c.Pins[i].Clock=true):=by
 obtain⟨r,e,hr⟩:=JR (xs:=c.Pins) (L:=fun m i=>FW n c.Pins (fun i5=>(some (-1))) m i) (f:=fun p=>QG n p) (P:=fun p=>p.Clock=true) (fun p _=>by rw [QG];exact AZ.val Iff.rfl) (fun m i hi=>by
  simp only [FW.eq_2,CR hi,cT,AS hi,At,wT i]) (fun m=>by
  simp only [FW.eq_2,Cb,cF]) n (by omega)
 have e:FW n c.Pins (fun i5=>(some (-1))) n 0=some r:=e
 exact⟨r,by rw [Nh,SI,e];rfl,hr⟩
def XU(a:BJ):Prop:=(a.Delay.length<=1048576∧∀t∈a.Delay,Pg t)∧(a.Slew.length<=1048576∧∀t∈a.Slew,Pg t)
structure PV(c:Ak):Prop where
 name:c.Name.size<=1048576
 pins:Ut c.Pins
 arcs:c.Arcs.length<=1048576∧∀a∈c.Arcs,XU a
 truth:c.Truth.length<=1048576
def Jv(c:Ak)(a:BJ):Prop:=((0<=a.From∧a.From+2<=c.Pins.length)∧(0<=a.To∧a.To+1<=c.Pins.length))∧
 if a.Kind=1 then Hb c.Pins a.From=false∧a.To+1=c.Pins.length∧(1<=a.Sense∧a.Sense<=3)∧Nv a.Delay true∧Nv a.Slew true
 else if a.Kind=2∨a.Kind=3 then Hb c.Pins a.From=true∧a.To+1=c.Pins.length∧a.Sense=0∧Nv a.Delay true∧Nv a.Slew true
 else if a.Kind=4∨a.Kind=5 then Hb c.Pins a.From=true∧a.To+1<c.Pins.length∧Hb c.Pins a.To=false∧a.Sense=0∧Nv a.Delay false∧a.Slew.length=0
 else False
def PM(c:Ak)(a:BJ)(r:Int):Prop:=
 if a.Kind=4∨a.Kind=5 then a.Sense=0∧a.Slew.length=0∧Nv a.Delay false∧a.From=r∧0<=a.From∧(0<=a.To∧a.To+2<=c.Pins.length)∧a.To≠a.From
 else Nv a.Delay true∧Nv a.Slew true∧a.To+1=c.Pins.length∧(0<=a.From∧a.From+2<=c.Pins.length)∧
  if a.Kind=1 then Hb c.Pins a.From=false∧1<=a.Sense∧a.Sense<=3 else if a.Kind=2∨a.Kind=3 then Hb c.Pins a.From=true∧a.Sense=0 else False
theorem TD(k:Int):k=1∨k=2∨k=3∨k=4∨k=5∨(k≠1∧k≠2∧k≠3∧k≠4∧k≠5):=by omega
theorem IB{x lo hi:Int}:(decide (x>=lo)&&decide (x<=hi))=true↔lo<=x∧x<=hi:=by simp only [Bool.and_eq_true,decide_eq_true_eq,ge_iff_le]
theorem YO{n:Nat}{c:Ak}{a:BJ}(hp:c.Pins.length<=5)(h2:2<=c.Pins.length)(h:XU a)(hn:1048577<=n):AZ (Jv c a) (Rf n c a):=by
 have w1:IntKind.wrap .i64 ((c.Pins.length:Int)-1)=(c.Pins.length:Int)-1:=Af (by omega) (by omega)
 have w2:IntKind.wrap .i64 ((c.Pins.length:Int)-1-1)=(c.Pins.length:Int)-1-1:=Af (by omega) (by omega)
 obtain⟨t1,e1,h1⟩:=Yb (n:=n) (pos:=true) h.1.2 hn
 obtain⟨t2,e2,h2'⟩:=Yb (n:=n) (pos:=true) h.2.2 hn
 obtain⟨t3,e3,h3⟩:=Yb (n:=n) (pos:=false) h.1.2 hn
 rw [Rf]
 simp only [HE,At,w1,w2,Dn]
 by_cases c1:(0<=a.From∧a.From+2<=c.Pins.length)∧(0<=a.To∧a.To+1<=c.Pins.length)
 ·have d1:(decide (a.From>=0)&&decide (a.From<=(c.Pins.length:Int)-1-1))=true:=IB.2 (by omega)
  have d2:(decide (a.To>=0)&&decide (a.To<=(c.Pins.length:Int)-1))=true:=IB.2 (by omega)
  obtain⟨x,ex,hx⟩:=UE (l:=c.Pins) c1.1.1 (by omega)
  obtain⟨y,ey,hy⟩:=UE (l:=c.Pins) c1.2.1 (by omega)
  simp only [d1,d2,Bool.not_true,Bool.or_self,cF,ex,ey,At,hx,hy,e1,e2,e3,Ca]
  have to1:(a.To==(c.Pins.length:Int)-1)=true↔a.To+1=c.Pins.length:=by rw [beq_iff_eq];omega
  have to2:decide (a.To<(c.Pins.length:Int)-1)=true↔a.To+1<c.Pins.length:=by rw [decide_eq_true_eq];omega
  have sl:((a.Slew.length:Int)==0)=true↔a.Slew.length=0:=by rw [beq_iff_eq];omega
  have nb:∀b:Bool,(!b)=true↔b=false:=by simp
  rcases TD a.Kind with k|k|k|k|k|k
  ·have:Jv c a↔_:=Iff.rfl
   simp only [k,show((1:Int)==1)=true from rfl,cT]
   refine AZ.val ?_
   unfold Jv
   simp only [k,if_true,Bool.and_eq_true,nb,to1,IB,h1,h2']
   exact⟨fun⟨⟨⟨⟨p,q⟩,s⟩,u⟩,v⟩=>⟨c1,p,q,by simpa using s,u,v⟩,fun⟨_,p,q,s,u,v⟩=>⟨⟨⟨⟨p,q⟩,by simpa using s⟩,u⟩,v⟩⟩
  ·simp only [k,show((2:Int)==1)=false from rfl,show((2:Int)==2)=true from rfl,cT,cF]
   refine AZ.val ?_
   unfold Jv
   simp only [k,show¬((2:Int)=1) by omega,if_false,true_or,if_true,Bool.and_eq_true,beq_iff_eq,to1,h1,h2']
   exact⟨fun⟨⟨⟨⟨p,q⟩,s⟩,u⟩,v⟩=>⟨c1,p,by omega,s,u,v⟩,fun⟨_,p,q,s,u,v⟩=>⟨⟨⟨⟨p,by omega⟩,s⟩,u⟩,v⟩⟩
  ·simp only [k,show((3:Int)==1)=false from rfl,show((3:Int)==2)=false from rfl,show((3:Int)==3)=true from rfl,cT,cF]
   refine AZ.val ?_
   unfold Jv
   simp only [k,show¬((3:Int)=1) by omega,if_false,or_true,if_true,Bool.and_eq_true,beq_iff_eq,to1,h1,h2']
   exact⟨fun⟨⟨⟨⟨p,q⟩,s⟩,u⟩,v⟩=>⟨c1,p,by omega,s,u,v⟩,fun⟨_,p,q,s,u,v⟩=>⟨⟨⟨⟨p,by omega⟩,s⟩,u⟩,v⟩⟩
  ·simp only [k,show((4:Int)==1)=false from rfl,show((4:Int)==2)=false from rfl,show((4:Int)==3)=false from rfl,show((4:Int)==4)=true from rfl,cT,cF]
   refine AZ.val ?_
   unfold Jv
   simp only [k,show¬((4:Int)=1) by omega,show¬((4:Int)=2∨(4:Int)=3) by omega,if_false,true_or,if_true,Bool.and_eq_true,beq_iff_eq,nb,to2,sl,h3,true_and]
   exact⟨fun⟨⟨⟨⟨⟨p,q⟩,z⟩,s⟩,u⟩,v⟩=>⟨c1,p,q,z,s,u,by omega⟩,fun⟨_,p,q,z,s,u,v⟩=>⟨⟨⟨⟨⟨p,q⟩,z⟩,s⟩,u⟩,by omega⟩⟩
  ·simp only [k,show((5:Int)==1)=false from rfl,show((5:Int)==2)=false from rfl,show((5:Int)==3)=false from rfl,show((5:Int)==4)=false from rfl,show((5:Int)==5)=true from rfl,cT,cF]
   refine AZ.val ?_
   unfold Jv
   simp only [k,show¬((5:Int)=1) by omega,show¬((5:Int)=2∨(5:Int)=3) by omega,if_false,or_true,if_true,Bool.and_eq_true,beq_iff_eq,nb,to2,sl,h3,true_and]
   exact⟨fun⟨⟨⟨⟨⟨p,q⟩,z⟩,s⟩,u⟩,v⟩=>⟨c1,p,q,z,s,u,by omega⟩,fun⟨_,p,q,z,s,u,v⟩=>⟨⟨⟨⟨⟨p,q⟩,z⟩,s⟩,u⟩,by omega⟩⟩
  ·obtain⟨k1,k2,k3,k4,k5⟩:=k
   simp only [beq_eq_false_iff_ne.2 k1,beq_eq_false_iff_ne.2 k2,beq_eq_false_iff_ne.2 k3,beq_eq_false_iff_ne.2 k4,beq_eq_false_iff_ne.2 k5,cF]
   refine AZ.no fun v=>?_
   have:=v.2
   rw [if_neg k1,if_neg (by omega),if_neg (by omega)]at this
   exact this
 ·have d1:(!(decide (a.From>=0)&&decide (a.From<=(c.Pins.length:Int)-1-1))|| !(decide (a.To>=0)&&decide (a.To<=(c.Pins.length:Int)-1)))=true:=by
   rw [Bool.or_eq_true,Bool.not_eq_true',Bool.not_eq_true',Bool.and_eq_false_iff,Bool.and_eq_false_iff,decide_eq_false_iff_not,decide_eq_false_iff_not,decide_eq_false_iff_not,decide_eq_false_iff_not]
   omega
  simp only [d1,cT]
  exact AZ.no fun v=>c1 v.1
theorem Zk{n:Nat}{c:Ak}{a:BJ}{r:Int}(hp:c.Pins.length<=5)(h2:2<=c.Pins.length)(h:XU a)(hr:Nh n c=some r)(hn:1048577<=n):AZ (PM c a r) (QR n c a):=by
 have w1:IntKind.wrap .i64 ((c.Pins.length:Int)-1)=(c.Pins.length:Int)-1:=Af (by omega) (by omega)
 have w2:IntKind.wrap .i64 ((c.Pins.length:Int)-1-1)=(c.Pins.length:Int)-1-1:=Af (by omega) (by omega)
 obtain⟨t1,e1,h1⟩:=Xs (n:=n) (pos:=true) h.1.2 h.1.1 hn
 obtain⟨t2,e2,h2'⟩:=Xs (n:=n) (pos:=true) h.2.2 h.2.1 hn
 obtain⟨t3,e3,h3⟩:=Xs (n:=n) (pos:=false) h.1.2 h.1.1 hn
 rw [QR]
 simp only [SP,QB,Ll,Mf,Is,At,w1,w2,e1,e2,e3,hr,Ca,Dn]
 unfold PM
 by_cases k:a.Kind=4∨a.Kind=5
 ·have kb:((a.Kind==4)||(a.Kind==5))=true:=by rw [Bool.or_eq_true,beq_iff_eq,beq_iff_eq];exact k
  simp only [kb,cT,if_pos k]
  refine AZ.val ?_
  simp only [Bool.and_eq_true,beq_iff_eq,bne_iff_ne,decide_eq_true_eq,h3]
  exact⟨fun⟨⟨⟨⟨⟨⟨p,q⟩,s⟩,t⟩,u⟩,v⟩,x⟩=>⟨p,by omega,s,t,by omega,by omega,x⟩,fun⟨p,q,s,t,u,v,x⟩=>⟨⟨⟨⟨⟨⟨p,by omega⟩,s⟩,t⟩,by omega⟩,by omega⟩,x⟩⟩
 ·have kb:((a.Kind==4)||(a.Kind==5))=false:=by rw [Bool.or_eq_false_iff,beq_eq_false_iff_ne,beq_eq_false_iff_ne];omega
  simp only [kb,cF,if_neg k]
  by_cases g:(Nv a.Delay true∧Nv a.Slew true)∧a.To+1=c.Pins.length∧(0<=a.From∧a.From+2<=c.Pins.length)
  ·have gb:(((!t1|| !t2)||(a.To !=(c.Pins.length:Int)-1))|| !(decide (a.From>=0)&&decide (a.From<=(c.Pins.length:Int)-1-1)))=false:=by
    rw [h1.2 g.1.1,h2'.2 g.1.2]
    simp only [Bool.not_true,Bool.or_self,Bool.false_or,Bool.or_eq_false_iff,bne_eq_false_iff_eq,Bool.not_eq_false',IB];omega
   obtain⟨x,ex,hx⟩:=UE (l:=c.Pins) g.2.2.1 (by omega)
   simp only [gb,cF,ex,At,hx]
   have nb:∀b:Bool,(!b)=true↔b=false:=by simp
   have red:∀R:Prop,(Nv a.Delay true∧Nv a.Slew true∧a.To+1=c.Pins.length∧(0<=a.From∧a.From+2<=c.Pins.length)∧R)↔R:=fun R=>⟨fun q=>q.2.2.2.2,fun q=>⟨g.1.1,g.1.2,g.2.1,g.2.2,q⟩⟩
   rw [red]
   by_cases k1:a.Kind=1
   ·simp only [k1,show((1:Int)==1)=true from rfl,cT,if_true]
    refine AZ.val ?_
    simp only [Bool.and_eq_true,nb,decide_eq_true_eq]
   ·simp only [beq_eq_false_iff_ne.2 k1,cF,if_neg k1]
    by_cases k2:a.Kind=2
    ·simp only [k2,show((2:Int)==2)=true from rfl,cT,true_or,if_true]
     refine AZ.val ?_
     simp only [Bool.and_eq_true,beq_iff_eq]
    ·simp only [beq_eq_false_iff_ne.2 k2,cF]
     by_cases k3:a.Kind=3
     ·simp only [k3,show((3:Int)==3)=true from rfl,cT,or_true,if_true]
      refine AZ.val ?_
      simp only [Bool.and_eq_true,beq_iff_eq]
     ·simp only [beq_eq_false_iff_ne.2 k3,cF]
      rw [if_neg (by omega)]
      exact AZ.no fun v=>v
  ·have gb:(((!t1|| !t2)||(a.To !=(c.Pins.length:Int)-1))|| !(decide (a.From>=0)&&decide (a.From<=(c.Pins.length:Int)-1-1)))=true:=by
    cases hq:(((!t1|| !t2)||(a.To !=(c.Pins.length:Int)-1))|| !(decide (a.From>=0)&&decide (a.From<=(c.Pins.length:Int)-1-1)))with
    |true=>rfl
    |false=>
     exfalso;apply g
     simp only [Bool.or_eq_false_iff,Bool.not_eq_false',bne_eq_false_iff_eq,IB]at hq
     exact⟨⟨h1.1 hq.1.1.1,h2'.1 hq.1.1.2⟩,by omega,by omega⟩
   simp only [gb,cT]
   exact AZ.no fun v=>g ⟨⟨v.1,v.2.1⟩,v.2.2.1,v.2.2.2.1⟩
theorem OZ{c:Ak}{a:BJ}{r:Int}(hv:IM c.Pins)(hc:cnt c.Pins<=1)(hr:r= -1∨∃j:Nat,r=(j:Int)∧∃h:j<c.Pins.length,c.Pins[j].Clock=true∧∀i (hi:i<c.Pins.length),i<j->¬c.Pins[i].Clock=true)(hr0:r>=0↔∃x∈c.Pins,x.Clock=true):Jv c a↔PM c a r:=by
 have few:=hv.few
 unfold Jv PM
 by_cases k:a.Kind=4∨a.Kind=5
 ·rw [if_neg (by omega),if_neg (by omega),if_pos k,if_pos k]
  constructor
  ·rintro ⟨⟨⟨a1,a2⟩,a3,a4⟩,b1,b2,b3,b4,b5,b6⟩
   obtain⟨f,hf⟩:=Int.eq_ofNat_of_zero_le a1
   have hf:a.From=(f:Int):=hf
   have hfl:f<c.Pins.length:=by omega
   have cf:c.Pins[f].Clock=true:=by rw [hf,NE hfl]at b1;exact b1
   have hge:r>=0:=hr0.2 ⟨_,List.getElem_mem hfl,cf⟩
   rcases hr with hr|⟨j,rfl,hj,hj1,_⟩
   ·omega
   ·have:=OK hc hfl hj cf hj1
    subst this
    refine⟨b4,b6,b5,hf,a1,by omega,fun e=>?_⟩
    rw [e,b1]at b3;cases b3
  ·rintro ⟨b1,b2,b3,b4,b5,⟨b6,b7⟩,b8⟩
   rcases hr with hr|⟨j,hj0,hj,hj1,_⟩
   ·omega
   ·have cf:Hb c.Pins a.From=true:=by rw [b4,hj0,NE hj];exact hj1
    have hjl:j+1<c.Pins.length:=by
     by_cases q:j+1<c.Pins.length
     ·exact q
     ·have:=(hv.pin j hj).2.1 (by omega)
      rw [this.2.2]at hj1;cases hj1
    obtain⟨t,ht⟩:=Int.eq_ofNat_of_zero_le b6
    have ht:a.To=(t:Int):=ht
    have htl:t<c.Pins.length:=by omega
    refine⟨⟨⟨by omega,by omega⟩,by omega,by omega⟩,cf,by omega,?_,b1,b3,b2⟩
    rw [ht,NE htl]
    cases hq:c.Pins[t].Clock with
    |false=>rfl
    |true=>have:=OK hc htl hj hq hj1;omega
 ·rw [if_neg k,if_neg k]
  by_cases k1:a.Kind=1
  ·rw [if_pos k1,if_pos k1]
   exact⟨fun⟨p,q,s,t,u,v⟩=>⟨u,v,s,p.1,q,t⟩,fun⟨u,v,s,p,q,t⟩=>⟨⟨p,by omega,by omega⟩,q,s,t,u,v⟩⟩
  ·rw [if_neg k1,if_neg k1]
   by_cases k2:a.Kind=2∨a.Kind=3
   ·rw [if_pos k2,if_pos k2]
    exact⟨fun⟨p,q,s,t,u,v⟩=>⟨u,v,s,p.1,q,t⟩,fun⟨u,v,s,p,q,t⟩=>⟨⟨p,by omega,by omega⟩,q,s,t,u,v⟩⟩
   ·rw [if_neg k2,if_neg k2]
    exact⟨fun h=>h.2.elim,fun h=>h.2.2.2.2.elim⟩
def Ft(a b:BJ):Prop:=(a.Kind=b.Kind∧a.From=b.From)∧a.To=b.To
def Dx(l:List BJ)(k:Int):Prop:=∃a∈l,a.Kind=k
def FA(c:Ak):Prop:=
 (c.Kind=1∧cnt c.Pins=0∧c.Truth.length=2^(c.Pins.length-1)∧∀i,i<c.Truth.length->0<=gd c.Truth i∧gd c.Truth i<=1)∨
 (c.Kind=2∧cnt c.Pins=1∧c.Truth.length=0∧¬Dx c.Arcs 1∧¬(Dx c.Arcs 2↔Dx c.Arcs 3))∨
 (c.Kind=3∧cnt c.Pins=1∧c.Truth.length=0∧Dx c.Arcs 1∧Dx c.Arcs 2∧¬Dx c.Arcs 3)
def RS(A:BJ->Prop)(l:List BJ):Prop:=∀i (h:i<l.length),A l[i]∧∀j (hj:j<i),¬Ft l[j] l[i]
structure KX(c:Ak):Prop where
 name:DB c.Name=true
 pins:IM c.Pins
 few:c.Arcs.length<=8
 leak:0<=c.Leak∧c.Leak<=100000
 energy:0<=c.Energy∧c.Energy<=100000
 arcs:RS (Jv c) c.Arcs
 kind:FA c
theorem FA.cnt{c:Ak}(h:FA c):cnt c.Pins<=1:=by
 rcases h with h|h|h<;>omega
theorem Kd{n:Nat}{c:Ak}(hl:c.Arcs.length<=1048576)(hk:∀a∈c.Arcs,0<=a.Kind∧a.Kind<6)(hn:1048577<=n):∃l,NN n c=some l∧l.length=6∧∀k:Nat,k<6->0<=gd l k∧(gd l k>0↔Dx c.Arcs k):=by
 have m6:KD 6 8=some 6:=EU (n:=6) (by omega) (by omega)
 rw [NN,m6,At]
 refine loop (L:=fun m i (l:List Int)=>GJ c (fun i31 l33=>(some l33)) m i l) c.Arcs.length (fun i l=>l.length=6∧∀k:Nat,k<6->(0<=gd l k∧gd l k<=i)∧(gd l k>0↔Dx (c.Arcs.take i) k)) (fun o=>∃l,o=some l∧l.length=6∧∀k:Nat,k<6->0<=gd l k∧(gd l k>0↔Dx c.Arcs k)) ?_ ?_ n 0 (List.replicate 6 0) (by omega) (by omega) ⟨by simp,fun k hk=>?_⟩
 ·intro m i l hi ⟨hll,hI⟩
  have hx:=hk _ (List.getElem_mem hi)
  obtain⟨q,hq⟩:=Int.eq_ofNat_of_zero_le hx.1
  have hq:c.Arcs[i].Kind=(q:Int):=hq
  have hq6:q<6:=by omega
  have hg:AM l c.Arcs[i].Kind=some (gd l q):=by rw [hq];exact gI (by omega)
  have hb:=(hI q hq6).1
  refine .inl ⟨l.set q (gd l q+1),⟨by simpa using hll,fun k hk6=>?_⟩,?_⟩
  ·have h1:=hI k hk6
   rw [Je (by omega)]
   have hs:Dx (c.Arcs.take (i+1)) k↔Dx (c.Arcs.take i) k∨c.Arcs[i].Kind=(k:Int):=by
    rw [List.take_succ_eq_append_getElem hi]
    unfold Dx
    constructor
    ·rintro ⟨a,ha,e⟩
     rcases List.mem_append.1 ha with ha|ha
     ·exact .inl ⟨a,ha,e⟩
     ·obtain rfl:=List.mem_singleton.1 ha;exact .inr e
    ·rintro (⟨a,ha,e⟩|e)
     ·exact⟨a,List.mem_append.2 (.inl ha),e⟩
     ·exact⟨_,List.mem_append.2 (.inr (List.mem_singleton.2 rfl)),e⟩
   rw [hs]
   by_cases e:q=k
   ·subst e
    rw [if_pos rfl]
    exact⟨⟨by omega,by omega⟩,⟨fun _=>.inr hq,fun _=>by omega⟩⟩
   ·rw [if_neg e]
    refine⟨⟨by omega,by omega⟩,h1.2.trans ⟨.inl,fun h=>h.resolve_right fun h=>e (by omega)⟩⟩
  ·simp only [GJ.eq_2,CR hi,cT,AS hi,At,hg,wT i,Af (x:=gd l q+1) (by omega) (by omega)]
   rw [hq,Int.toNat_natCast]
 ·intro m l ⟨hll,hI⟩
  simp only [GJ.eq_2,Cb,cF]
  refine⟨l,rfl,hll,fun k hk6=>?_⟩
  have:=hI k hk6
  rw [List.take_length]at this
  exact⟨this.1.1,this.2⟩
 ·have:gd (List.replicate 6 0) k=0:=by simp only [gd,List.getD_eq_getElem?_getD,List.getElem?_replicate];split<;>rfl
  rw [this]
  refine⟨by omega,⟨fun h=>by omega,fun⟨a,ha,_⟩=>by simp at ha⟩⟩
theorem Hs{n:Nat}{c:Ak}(hl:c.Arcs.length<=1048576)(k:Int)(hn:1048577<=n):AZ (Dx c.Arcs k) (Kz n c k):=by
 obtain⟨r,e,hr,_⟩:=JR (xs:=c.Arcs) (L:=fun m i=>FZ n c.Arcs k (fun i6=>(some (-1))) m i) (f:=fun a=>Qi n a k) (P:=fun a=>a.Kind=k) (fun p _=>by rw [Qi];exact AZ.val beq_iff_eq) (fun m i hi=>by
  simp only [FZ.eq_2,CR hi,cT,AS hi,At,wT i]) (fun m=>by
  simp only [FZ.eq_2,Cb,cF]) n (by omega)
 have e:FZ n c.Arcs k (fun i6=>(some (-1))) n 0=some r:=e
 rw [Kz,Sq,Rt,e]
 exact AZ.val (by rw [decide_eq_true_eq];exact hr)
theorem Pr{L:Nat}(h1:2<=L)(h2:L<=5):Fi .i64 1 ((L:Int)-1)=((2^(L-1):Nat):Int)∧Fi .i64 1 (IntKind.wrap IntKind.u64 ((L:Int)-1))=((2^(L-1):Nat):Int)∧decide (IntKind.wrap IntKind.u64 ((L:Int)-1)<0)=false:=by
 have:L=2∨L=3∨L=4∨L=5:=by omega
 rcases this with rfl|rfl|rfl|rfl<;>decide
theorem dK{n:Nat}{c:Ak}{o:Option Bool}{Q:Prop}(h:c.Truth.length<=1048576)(hn:1048577<=n)(hQ:AZ Q o):AZ ((∀i,i<c.Truth.length->0<=gd c.Truth i∧gd c.Truth i<=1)∧Q) (Ff n c (fun _=>o) n 0):=by
 refine(Dm (L:=fun m i=>Ff n c (fun _=>o) m i) (Q:=Q) c.Truth.length 0 (fun i=>0<=gd c.Truth i∧gd c.Truth i<=1) ?_ ?_ n 0 (by omega) (by omega) (by omega) (fun j _ h=>by omega)).iff ⟨fun a=>⟨fun i hi=>a.1 i (by omega) hi,a.2⟩,fun a=>⟨fun i _ hi=>a.1 i hi,a.2⟩⟩
 ·intro m i _ hi
  simp only [Ff.eq_2,CR hi,cT,gI hi,At,HE,wT i]
  by_cases c1:0<=gd c.Truth i∧gd c.Truth i<=1
  ·have d1:(decide (gd c.Truth i>=0)&&decide (gd c.Truth i<=1))=true:=IB.2 c1
   simp only [d1,Bool.not_true,cF]
   exact .inl ⟨c1,by trivial⟩
  ·have d1:(decide (gd c.Truth i>=0)&&decide (gd c.Truth i<=1))=false:=by
    rw [Bool.and_eq_false_iff,decide_eq_false_iff_not,decide_eq_false_iff_not];omega
   simp only [d1,Bool.not_false,cT]
   exact .inr ⟨c1,by trivial⟩
 ·intro m i h1 h2 _
  obtain rfl:i=c.Truth.length:=by omega
  simp only [Ff.eq_2,Cb,cF]
  exact hQ
theorem dE{n:Nat}{c:Ak}{i:Nat}(hi:i<c.Arcs.length)(hl:c.Arcs.length<=1048576)(hn:1048577<=n)(k2:Int->Option Bool):(∀j (hj:j<i),¬Ft c.Arcs[j] c.Arcs[i])∧Gc c i c.Arcs[i] k2 n 0=k2 i∨(¬∀j (hj:j<i),¬Ft c.Arcs[j] c.Arcs[i])∧Gc c i c.Arcs[i] k2 n 0=some false:=by
 refine loop (L:=fun m j (_:Unit)=>Gc c i c.Arcs[i] k2 m j) i (fun b _=>∀j (hj:j<i),j<b->¬Ft c.Arcs[j] c.Arcs[i]) (fun o=>(∀j (hj:j<i),¬Ft c.Arcs[j] c.Arcs[i])∧o=k2 i∨(¬∀j (hj:j<i),¬Ft c.Arcs[j] c.Arcs[i])∧o=some false) ?_ ?_ n 0 () (by omega) (by omega) (fun j _ hj=>by omega)
 ·intro m j _ hj hJ
  have e1:Ft c.Arcs[j] c.Arcs[i]↔(((c.Arcs[j].Kind==c.Arcs[i].Kind)&&(c.Arcs[j].From==c.Arcs[i].From))&&(c.Arcs[j].To==c.Arcs[i].To))=true:=by
   unfold Ft;simp only [Bool.and_eq_true,beq_iff_eq]
  simp only [Gc.eq_2,CR hj,cT,AS (show j<c.Arcs.length by omega),At,Ca,wT j]
  cases e:(((c.Arcs[j].Kind==c.Arcs[i].Kind)&&(c.Arcs[j].From==c.Arcs[i].From))&&(c.Arcs[j].To==c.Arcs[i].To))with
  |true=>exact .inr (.inr ⟨fun h=>h j hj (e1.2 e),by trivial⟩)
  |false=>
   refine .inl ⟨(),fun a ha hb=>?_,by trivial⟩
   by_cases ea:a=j
   ·subst ea;intro hs;rw [e1.1 hs]at e;cases e
   ·exact hJ a ha (by omega)
 ·intro m _ hJ
  simp only [Gc.eq_2,Cb,cF]
  exact .inl ⟨fun j hj=>hJ j hj hj,by trivial⟩
theorem Zn{n:Nat}{c:Ak}(h:PV c)(hn:1048577<=n):AZ (KX c) (Wx n c):=by
 obtain⟨r,e,hr,hc⟩:=cL (n:=n) h.pins hn
 rw [Wx,e]
 simp only [At,Zi h.name hn,HE,Dn]
 by_cases g:(IM c.Pins∧DB c.Name=true)∧c.Arcs.length<=8∧(0<=c.Leak∧c.Leak<=100000)∧(0<=c.Energy∧c.Energy<=100000)
 ·have rt:r.2=true:=hr.2 g.1.1
  have gb:((((!r.2|| !DB c.Name)||decide ((c.Arcs.length:Int)>8))|| !(decide (c.Leak>=0)&&decide (c.Leak<=100000)))|| !(decide (c.Energy>=0)&&decide (c.Energy<=100000)))=false:=by
   rw [rt,g.1.2]
   simp only [Bool.not_true,Bool.or_self,Bool.false_or,Bool.or_eq_false_iff,decide_eq_false_iff_not,Bool.not_eq_false',IB];omega
  simp only [gb,cF]
  have few:=g.1.1.few
  have hal:=h.arcs.1
  have hcnt:=hc rt
  refine(Dm (L:=fun m i=>GF n c _ m i) (Q:=FA c) c.Arcs.length 0 (fun i=>∀(hi:i<c.Arcs.length),Jv c c.Arcs[i]∧∀j (hj:j<i),¬Ft c.Arcs[j] c.Arcs[i]) ?_ ?_ n 0 (by omega) (by omega) (by omega) (fun j _ h=>by omega)).iff ?_
  ·intro m i _ hi
   obtain⟨b,e,hb⟩:=YO (n:=n) (c:=c) few.2 few.1 (h.arcs.2 _ (List.getElem_mem hi)) hn
   simp only [GF.eq_2,CR hi,cT,AS hi,At,e]
   cases b with
   |false=>exact .inr ⟨fun q=>(by have:=hb.2 (q hi).1;cases this),by trivial⟩
   |true=>
    simp only [Bool.not_true,cF,wT i]
    rcases dE (n:=n) hi hal hn (fun _=>GF n c _ m ((i+1:Nat):Int))with ⟨q1,q2⟩|⟨q1,q2⟩
    ·exact .inl ⟨fun _=>⟨hb.1 rfl,q1⟩,q2⟩
    ·exact .inr ⟨fun q=>q1 (q hi).2,q2⟩
  ·intro m i h1 h2 hA
   obtain rfl:i=c.Arcs.length:=by omega
   simp only [GF.eq_2,Cb,cF]
   obtain⟨l,e,hl6,hl⟩:=Kd (n:=n) hal (fun a ha=>by
    obtain⟨j,hj,rfl⟩:=List.getElem_of_mem ha
    have:=(hA j (by omega) hj hj).1.2
    rcases TD c.Arcs[j].Kind with k|k|k|k|k|k<;>first|omega|skip
    obtain⟨k1,k2,k3,k4,k5⟩:=k
    rw [if_neg k1,if_neg (by omega),if_neg (by omega)]at this
    exact this.elim) hn
   have g1:AM l 1=some (gd l 1):=gI (i:=1) (by omega)
   have g2:AM l 2=some (gd l 2):=gI (i:=2) (by omega)
   have g3:AM l 3=some (gd l 3):=gI (i:=3) (by omega)
   have k1:0<=gd l 1∧(gd l 1>0↔Dx c.Arcs 1):=hl 1 (by omega)
   have k2:0<=gd l 2∧(gd l 2>0↔Dx c.Arcs 2):=hl 2 (by omega)
   have k3:0<=gd l 3∧(gd l 3>0↔Dx c.Arcs 3):=hl 3 (by omega)
   have wl:IntKind.wrap .i64 ((c.Pins.length:Int)-1)=(c.Pins.length:Int)-1:=Af (by omega) (by omega)
   obtain⟨s1,s2,s3⟩:=Pr few.1 few.2
   rw [e,At]
   simp only [g1,g2,g3,At,wl,s2,s3,cF,Ca]
   have tl:((c.Truth.length:Int)==0)=true↔c.Truth.length=0:=by rw [beq_iff_eq];omega
   have tw:((c.Truth.length:Int)==((2^(c.Pins.length-1):Nat):Int))=true↔c.Truth.length=2^(c.Pins.length-1):=by rw [beq_iff_eq];omega
   have c0:(r.1==0)=true↔cnt c.Pins=0:=by rw [beq_iff_eq,hcnt];omega
   have c1:(r.1==1)=true↔cnt c.Pins=1:=by rw [beq_iff_eq,hcnt];omega
   have kk1:(gd l 1==0)=true↔¬Dx c.Arcs 1:=by rw [beq_iff_eq,←k1.2];omega
   have kk3:(gd l 3==0)=true↔¬Dx c.Arcs 3:=by rw [beq_iff_eq,←k3.2];omega
   have p1:decide (gd l 1>0)=true↔Dx c.Arcs 1:=by rw [decide_eq_true_eq];exact k1.2
   have p2:decide (gd l 2>0)=true↔Dx c.Arcs 2:=by rw [decide_eq_true_eq];exact k2.2
   have p3:decide (gd l 3>0)=true↔Dx c.Arcs 3:=by rw [decide_eq_true_eq];exact k3.2
   have x23:(decide (gd l 2>0) !=decide (gd l 3>0))=true↔¬(Dx c.Arcs 2↔Dx c.Arcs 3):=by
    rw [←p2,←p3];cases decide (gd l 2>0)<;>cases decide (gd l 3>0)<;>simp
   by_cases q1:c.Kind=1
   ·simp only [q1,show((1:Int)==1)=true from rfl,cT]
    refine(dK (c:=c) (o:=some ((r.1==0)&&((c.Truth.length:Int)==((2^(c.Pins.length-1):Nat):Int)))) (Q:=cnt c.Pins=0∧c.Truth.length=2^(c.Pins.length-1)) h.truth hn (AZ.val (by rw [Bool.and_eq_true,c0,tw]))).iff ?_
    unfold FA
    constructor
    ·rintro ⟨a,b,d⟩;exact .inl ⟨q1,b,d,a⟩
    ·rintro (⟨_,b,d,a⟩|⟨a,_⟩|⟨a,_⟩)
     ·exact⟨a,b,d⟩
     ·omega
     ·omega
   ·simp only [beq_eq_false_iff_ne.2 q1,cF]
    by_cases q2:c.Kind=2
    ·simp only [q2,show((2:Int)==2)=true from rfl,cT]
     refine AZ.val ?_
     rw [Bool.and_eq_true,Bool.and_eq_true,Bool.and_eq_true,c1,kk1,x23,tl]
     unfold FA
     constructor
     ·rintro ⟨⟨⟨a,b⟩,d⟩,f⟩;exact .inr (.inl ⟨q2,a,f,b,d⟩)
     ·rintro (⟨a,_⟩|⟨_,a,f,b,d⟩|⟨a,_⟩)
      ·omega
      ·exact⟨⟨⟨a,b⟩,d⟩,f⟩
      ·omega
    ·simp only [beq_eq_false_iff_ne.2 q2,cF]
     by_cases q3:c.Kind=3
     ·simp only [q3,show((3:Int)==3)=true from rfl,cT]
      refine AZ.val ?_
      simp only [Bool.and_eq_true,true_and,c1,p1,p2,kk3,tl]
      unfold FA
      constructor
      ·rintro ⟨⟨⟨⟨a,b⟩,d⟩,x⟩,f⟩;exact .inr (.inr ⟨q3,a,f,b,d,x⟩)
      ·rintro (⟨a,_⟩|⟨a,_⟩|⟨_,a,f,b,d,x⟩)
       ·omega
       ·omega
       ·exact⟨⟨⟨⟨a,b⟩,d⟩,x⟩,f⟩
     ·simp only [beq_eq_false_iff_ne.2 q3,cF]
      refine AZ.no ?_
      rintro (⟨a,_⟩|⟨a,_⟩|⟨a,_⟩)
      ·exact q1 a
      ·exact q2 a
      ·exact q3 a
  ·constructor
   ·rintro ⟨a,b⟩
    exact⟨g.1.2,g.1.1,g.2.1,g.2.2.1,g.2.2.2,fun i hi=>a i (by omega) hi hi,b⟩
   ·rintro v
    exact⟨fun i _ _ hi=>v.arcs i hi,v.kind⟩
 ·have gb:((((!r.2|| !DB c.Name)||decide ((c.Arcs.length:Int)>8))|| !(decide (c.Leak>=0)&&decide (c.Leak<=100000)))|| !(decide (c.Energy>=0)&&decide (c.Energy<=100000)))=true:=by
   cases hq:((((!r.2|| !DB c.Name)||decide ((c.Arcs.length:Int)>8))|| !(decide (c.Leak>=0)&&decide (c.Leak<=100000)))|| !(decide (c.Energy>=0)&&decide (c.Energy<=100000)))with
   |true=>rfl
   |false=>
    exfalso;apply g
    simp only [Bool.or_eq_false_iff,Bool.not_eq_false',decide_eq_false_iff_not,IB]at hq
    exact⟨⟨hr.1 hq.1.1.1.1,hq.1.1.1.2⟩,by omega,by simpa using hq.1.2,by simpa using hq.2⟩
  simp only [gb,cT]
  exact AZ.no fun v=>g ⟨⟨v.pins,v.name⟩,v.few,v.leak,v.energy⟩
theorem Cn{n:Nat}{l:List BY}{K:Int->Option Bool}{c:Ak}(hc:c.Pins=l)(hl:l.length<=1048576)(hn:1048577<=n):EI c (fun i _=>K i) n 0 0=K (cnt l):=by
 subst hc
 refine loop (L:=fun m i (q:Int)=>EI c (fun i _=>K i) m q i) c.Pins.length (fun i q=>q=cnt (c.Pins.take i)) (fun o=>o=K (cnt c.Pins)) ?_ ?_ n 0 0 (by omega) (by omega) (by simp [cnt])
 ·intro m i q hi hq
  have ct:=MQ hi
  have cl:cnt (c.Pins.take i)<=1048576:=Nat.le_trans List.countP_le_length (by simp;omega)
  cases hk:c.Pins[i].Clock with
  |true=>
   rw [hk,if_pos rfl]at ct
   refine .inl ⟨q+1,by rw [ct,hq];simp,?_⟩
   simp only [EI.eq_2,CR hi,cT,AS hi,At,hk,wT i,Af (x:=q+1) (by omega) (by omega)]
  |false=>
   rw [hk]at ct
   refine .inl ⟨q,by rw [ct,hq];simp,?_⟩
   simp only [EI.eq_2,CR hi,cT,AS hi,At,hk,cF,wT i]
 ·intro m q hq
  rw [List.take_length]at hq
  simp only [EI.eq_2,Cb,cF,hq]
theorem cM{n:Nat}{c:Ak}(h:PV c)(hv:IM c.Pins)(hn:1048577<=n):AZ (FA c) (Pp n c):=by
 have few:=hv.few
 obtain⟨b1,e1,h1⟩:=Hs (n:=n) h.arcs.1 1 hn
 obtain⟨b2,e2,h2⟩:=Hs (n:=n) h.arcs.1 2 hn
 obtain⟨b3,e3,h3⟩:=Hs (n:=n) h.arcs.1 3 hn
 have wl:IntKind.wrap .i64 ((c.Pins.length:Int)-1)=(c.Pins.length:Int)-1:=Af (by omega) (by omega)
 have o:=(Cn (n:=n) (c:=c) (l:=c.Pins) (K:=fun i16=>(bif (c.Kind==1)then(Option.bind (bif (i16==0)then(Option.bind (Ll n c) fun r20=>(bif decide (r20<0)then none else(some ((((c.Truth.length:Int))==(Fi .i64 1 r20))))))else(some false)) fun c20=>(Option.bind (bif c20 then(Option.bind (NZ n c.Truth 0 1) fun r26=>(some r26))else(some false)) fun c26=>(some c26)))else(bif (c.Kind==2)then(Option.bind (bif (((i16==1))&&((((c.Truth.length:Int))==0)))then(Option.bind (Kz n c 1) fun r38=>(some (!r38)))else(some false)) fun c38=>(Option.bind (bif c38 then(Option.bind (Kz n c 2) fun r43=>(Option.bind (Kz n c 3) fun r45=>(some ((r43 !=r45)))))else(some false)) fun c43=>(some c43)))else(bif (c.Kind==3)then(Option.bind (bif (((i16==1))&&((((c.Truth.length:Int))==0)))then(Option.bind (Kz n c 1) fun r61=>(some r61))else(some false)) fun c61=>(Option.bind (bif c61 then(Option.bind (Kz n c 2) fun r74=>(some r74))else(some false)) fun c74=>(Option.bind (bif c74 then(Option.bind (Kz n c 3) fun r87=>(some (!r87)))else(some false)) fun c87=>(some c87))))else(some false))))) rfl h.pins.1 hn)
 have o2:Pp n c=_:=o
 rw [o2]
 obtain⟨s1,s2,s3⟩:=Pr few.1 few.2
 have d0:decide ((c.Pins.length:Int)-1<0)=false:=decide_eq_false (by omega)
 simp only [Ll,Mf,At,wl,d0,cF,s1,AW (n:=n) h.truth hn,e1,e2,e3,Ca]
 have tl:((c.Truth.length:Int)==0)=true↔c.Truth.length=0:=by rw [beq_iff_eq];omega
 have tw:((c.Truth.length:Int)==((2^(c.Pins.length-1):Nat):Int))=true↔c.Truth.length=2^(c.Pins.length-1):=by rw [beq_iff_eq];omega
 have c0:((cnt c.Pins:Int)==0)=true↔cnt c.Pins=0:=by rw [beq_iff_eq];omega
 have c1:((cnt c.Pins:Int)==1)=true↔cnt c.Pins=1:=by rw [beq_iff_eq];omega
 have n1:(!b1)=true↔¬Dx c.Arcs 1:=by rw [←h1];cases b1<;>simp
 have n3:(!b3)=true↔¬Dx c.Arcs 3:=by rw [←h3];cases b3<;>simp
 have x23:(b2 !=b3)=true↔¬(Dx c.Arcs 2↔Dx c.Arcs 3):=by rw [←h2,←h3];cases b2<;>cases b3<;>simp
 by_cases q1:c.Kind=1
 ·simp only [q1,show((1:Int)==1)=true from rfl,cT]
  refine AZ.val ?_
  rw [Bool.and_eq_true,Bool.and_eq_true,c0,tw,Ke]
  unfold FA
  constructor
  ·rintro ⟨⟨a,b⟩,d⟩;exact .inl ⟨q1,a,b,d⟩
  ·rintro (⟨_,a,b,d⟩|⟨a,_⟩|⟨a,_⟩)
   ·exact⟨⟨a,b⟩,d⟩
   ·omega
   ·omega
 ·simp only [beq_eq_false_iff_ne.2 q1,cF]
  by_cases q2:c.Kind=2
  ·simp only [q2,show((2:Int)==2)=true from rfl,cT]
   refine AZ.val ?_
   simp only [Bool.and_eq_true,c1,tl,n1,x23]
   unfold FA
   constructor
   ·rintro ⟨⟨⟨a,b⟩,d⟩,f⟩;exact .inr (.inl ⟨q2,a,b,d,f⟩)
   ·rintro (⟨a,_⟩|⟨_,a,b,d,f⟩|⟨a,_⟩)
    ·omega
    ·exact⟨⟨⟨a,b⟩,d⟩,f⟩
    ·omega
  ·simp only [beq_eq_false_iff_ne.2 q2,cF]
   by_cases q3:c.Kind=3
   ·simp only [q3,show((3:Int)==3)=true from rfl,cT]
    refine AZ.val ?_
    simp only [Bool.and_eq_true,true_and,c1,tl,h1,h2,n3]
    unfold FA
    constructor
    ·rintro ⟨⟨⟨⟨a,b⟩,d⟩,x⟩,f⟩;exact .inr (.inr ⟨q3,a,b,d,x,f⟩)
    ·rintro (⟨a,_⟩|⟨a,_⟩|⟨_,a,b,d,x,f⟩)
     ·omega
     ·omega
     ·exact⟨⟨⟨⟨a,b⟩,d⟩,x⟩,f⟩
   ·simp only [beq_eq_false_iff_ne.2 q3,cF]
    refine AZ.no ?_
    rintro (⟨a,_⟩|⟨a,_⟩|⟨a,_⟩)
    ·exact q1 a
    ·exact q2 a
    ·exact q3 a
theorem bU{n:Nat}{c:Ak}{r:Int}(h:PV c)(hv:IM c.Pins)(hr:Nh n c=some r)(hn:1048577<=n):AZ (RS (fun a=>PM c a r) c.Arcs∧c.Arcs.length<=8) (Qd n c):=by
 have few:=hv.few
 have hal:=h.arcs.1
 rw [Qd]
 refine(Dm (L:=fun m i=>GL n c _ m i) (Q:=c.Arcs.length<=8) c.Arcs.length 0 (fun i=>∀(hi:i<c.Arcs.length),PM c c.Arcs[i] r∧∀j (hj:j<i),¬Ft c.Arcs[j] c.Arcs[i]) ?_ ?_ n 0 (by omega) (by omega) (by omega) (fun j _ h=>by omega)).iff ⟨fun a=>⟨fun i hi=>a.1 i (by omega) hi hi,a.2⟩,fun a=>⟨fun i _ _ hi=>a.1 i hi,a.2⟩⟩
 ·intro m i _ hi
  obtain⟨b,e,hb⟩:=Zk (n:=n) (c:=c) few.2 few.1 (h.arcs.2 _ (List.getElem_mem hi)) hr hn
  have hsub:Dr c.Arcs 0 (i:Int)=some (c.Arcs.take i):=by
   unfold Dr
   rw [if_pos ⟨by omega,by omega,by omega⟩];simp
  obtain⟨q,e2,hq,_⟩:=JR (xs:=c.Arcs.take i) (L:=fun m j=>FQ n (c.Arcs.take i) c.Arcs[i] (fun i6=>(some (-1))) m j) (f:=fun a=>RO n a c.Arcs[i]) (P:=fun a=>Ft a c.Arcs[i]) (fun p _=>by rw [RO];exact AZ.val (by unfold Ft;simp only [Bool.and_eq_true,beq_iff_eq])) (fun m j hj=>by
   simp only [FQ.eq_2,CR hj,cT,AS hj,At,wS (show j<4611686018427387904 by have:=hj;simp at this;omega)]) (fun m=>by
   simp only [FQ.eq_2,Cb,cF]) n (by simp;omega)
  have e2:FQ n (c.Arcs.take i) c.Arcs[i] (fun i6=>(some (-1))) n 0=some q:=e2
  simp only [GL.eq_2,CR hi,cT,AS hi,At,e,hsub,Sh,SH,e2,Dn,wT i]
  have hd:(decide (q>=0))=true↔¬∀j (hj:j<i),¬Ft c.Arcs[j] c.Arcs[i]:=by
   rw [decide_eq_true_eq,hq]
   constructor
   ·rintro ⟨x,hx,hs⟩ hall
    obtain⟨j,hj,rfl⟩:=List.mem_take_iff_getElem.1 hx
    exact hall j (by omega) hs
   ·intro hna
    refine Classical.byContradiction fun hne=>hna fun j hj hs=>hne ⟨c.Arcs[j],List.mem_take_iff_getElem.2 ⟨j,by omega,rfl⟩,hs⟩
  cases hc:(!b||decide (q>=0))with
  |true=>
   refine .inr ⟨fun g=>?_,by trivial⟩
   have:=g hi
   rw [Bool.or_eq_true]at hc
   rcases hc with hc|hc
   ·rw [hb.2 this.1]at hc;cases hc
   ·exact hd.1 hc this.2
  |false=>
   rw [Bool.or_eq_false_iff]at hc
   refine .inl ⟨fun _=>⟨hb.1 (by simpa using hc.1),Classical.byContradiction fun g=>?_⟩,by trivial⟩
   have:=hd.2 g
   rw [hc.2]at this;cases this
 ·intro m i h1 h2 _
  obtain rfl:i=c.Arcs.length:=by omega
  simp only [GL.eq_2,Cb,cF]
  exact AZ.val (by rw [decide_eq_true_eq];omega)
theorem YB{n:Nat}{c:Ak}(h:PV c)(hn:1048577<=n):AZ (KX c) (QS n c):=by
 obtain⟨r,hr,hr0,hr1⟩:=Ck (n:=n) h.pins.1 hn
 rw [QS,aK h.name hn,At]
 cases hnm:DB c.Name with
 |false=>
  simp only [cF,At]
  exact AZ.no fun v=>(by have:=v.name;rw [hnm]at this;cases this)
 |true=>
  obtain⟨b,e,hb⟩:=bJ (n:=n) h.pins hn
  simp only [cT,e,At]
  cases b with
  |false=>
   simp only [cF,At]
   exact AZ.no fun v=>(by have:=hb.2 v.pins;cases this)
  |true=>
   have hv:=hb.1 rfl
   obtain⟨b1,e1,h1⟩:=bU (n:=n) h hv hr hn
   obtain⟨b2,e2,h2⟩:=cM (n:=n) h hv hn
   simp only [cT,e1,e2,Is,At,Ca]
   refine AZ.val ?_
   rw [Bool.and_eq_true,Bool.and_eq_true,Bool.and_eq_true,h1,h2,IB,IB]
   constructor
   ·rintro ⟨⟨⟨⟨a,a8⟩,b⟩,d⟩,f⟩
    exact⟨hnm,hv,a8,b,d,fun i hi=>⟨(OZ hv f.cnt hr1 hr0).2 (a i hi).1,(a i hi).2⟩,f⟩
   ·rintro v
    exact⟨⟨⟨⟨fun i hi=>⟨(OZ hv v.kind.cnt hr1 hr0).1 (v.arcs i hi).1,(v.arcs i hi).2⟩,v.few⟩,v.leak⟩,v.energy⟩,v.kind⟩
def EE(xs:List ByteArray):Prop:=∀k (h:k<xs.length),DB xs[k]=true∧∀i (hi:i<k),(xs[i].toList==xs[k].toList)=false
theorem Ur{n:Nat}{xs:List ByteArray}(h:xs.length<=1048576)(hs:∀x∈xs,x.size<=1048576)(hn:1048577<=n):AZ (EE xs) (PU n xs):=by
 rw [PU]
 refine(Dm (L:=fun m i=>FE n xs _ m i) (Q:=True) xs.length 0 (fun i=>∀(hi:i<xs.length),DB xs[i]=true∧∀j (hj:j<i),(xs[j].toList==xs[i].toList)=false) ?_ ?_ n 0 (by omega) (by omega) (by omega) (fun j _ h=>by omega)).iff ⟨fun a k hk=>a.1 k (by omega) hk hk,fun a=>⟨fun i _ _ hi=>a i hi,trivial⟩⟩
 ·intro m i _ hi
  simp only [FE.eq_2,CR hi,cT,AS hi,At,Zi (hs _ (List.getElem_mem hi)) hn]
  cases hb:DB xs[i]with
  |false=>simp only [Bool.not_false,cT];exact .inr ⟨fun g=>(by have:=(g hi).1;rw [hb]at this;cases this),trivial⟩
  |true=>
   simp only [Bool.not_true,cF]
   have key:HX xs (i:Int) (fun i22=>FE n xs (fun i5=>some true) m (IntKind.wrap .i64 ((i:Int)+1))) n 0=bif (xs.take i).all (fun x=>!(x.toList==xs[i].toList))then FE n xs (fun i5=>some true) m (IntKind.wrap .i64 ((i:Int)+1))else some false:=by
    refine Ki (xs:=xs.take i) (L:=fun q j=>HX xs (i:Int) (fun i22=>FE n xs (fun i5=>some true) m (IntKind.wrap .i64 ((i:Int)+1))) q j) (fun x=>!(x.toList==xs[i].toList)) ?_ ?_ n (by simp;omega)
    ·intro q j hj
     have hj':j<i:=by simp at hj;omega
     have hd:decide ((j:Int)<(i:Int))=true:=decide_eq_true (by omega)
     simp only [HX.eq_2,hd,cT,AS (show j<xs.length by omega),AS hi,At,List.getElem_take,wT j]
     cases(xs[j].toList==xs[i].toList)<;>rfl
    ·intro q
     have hl:(xs.take i).length=i:=by simp;omega
     have hd:decide (((xs.take i).length:Int)<(i:Int))=false:=decide_eq_false (by rw [hl];omega)
     simp only [HX.eq_2,hd,cF]
   rw [key]
   cases ha:(xs.take i).all (fun x=>!(x.toList==xs[i].toList))with
   |true=>
    rw [cT,wT i]
    refine .inl ⟨fun _=>⟨hb,fun j hj=>?_⟩,rfl⟩
    have:=List.all_eq_true.1 ha xs[j] (List.mem_take_iff_getElem.2 ⟨j,by omega,rfl⟩)
    simpa using this
   |false=>
    rw [cF]
    refine .inr ⟨fun g=>?_,rfl⟩
    have:(xs.take i).all (fun x=>!(x.toList==xs[i].toList))=true:=by
     rw [List.all_eq_true]
     intro x hx
     obtain⟨j,hj,rfl⟩:=List.mem_take_iff_getElem.1 hx
     have:=(g hi).2 j (by omega)
     simp [this]
    rw [ha]at this;cases this
 ·intro m i h1 h2 _
  obtain rfl:i=xs.length:=by omega
  simp only [FE.eq_2,Cb,cF]
  exact AZ.yes trivial
structure Mj(l:Aq):Prop where
 few:l.Cells.length<=8
 cells:∀i (h:i<l.Cells.length),KX l.Cells[i]
 names:∀k (h:k<l.Cells.length),∀i (hi:i<k),(l.Cells[i].Name.toList==l.Cells[k].Name.toList)=false
def Ng(l:Aq):Prop:=l.Cells.length<=1048576∧∀c∈l.Cells,PV c
theorem cC{n:Nat}{l:Aq}(h:Ng l)(hn:1048577<=n):AZ (Mj l) (WT n l):=by
 have h1:=h.1
 rw [WT]
 refine(Dm (L:=fun m i=>Ez n l _ m i) (Q:=l.Cells.length<=8) l.Cells.length 0 (fun i=>∀(hi:i<l.Cells.length),KX l.Cells[i]∧∀j (hj:j<i),(l.Cells[j].Name.toList==l.Cells[i].Name.toList)=false) ?_ ?_ n 0 (by omega) (by omega) (by omega) (fun j _ h=>by omega)).iff ⟨fun a=>⟨a.2,fun i hi=>(a.1 i (by omega) hi hi).1,fun k hk=>(a.1 k (by omega) hk hk).2⟩,fun a=>⟨fun i _ _ hi=>⟨a.cells i hi,a.names i hi⟩,a.few⟩⟩
 ·intro m i _ hi
  obtain⟨b,e,hb⟩:=Zn (n:=n) (h.2 _ (List.getElem_mem hi)) hn
  simp only [Ez.eq_2,CR hi,cT,AS hi,At,e]
  cases b with
  |false=>simp only [Bool.not_false,cT];exact .inr ⟨fun g=>(by have:=hb.2 (g hi).1;cases this),trivial⟩
  |true=>
   simp only [Bool.not_true,cF]
   have key:HF l (i:Int) (fun i36=>Ez n l (fun i12=>some (decide ((l.Cells.length:Int)<=8))) m (IntKind.wrap .i64 ((i:Int)+1))) n 0=bif (l.Cells.take i).all (fun x=>!(x.Name.toList==l.Cells[i].Name.toList))then Ez n l (fun i12=>some (decide ((l.Cells.length:Int)<=8))) m (IntKind.wrap .i64 ((i:Int)+1))else some false:=by
    refine Ki (xs:=l.Cells.take i) (L:=fun q j=>HF l (i:Int) (fun i36=>Ez n l (fun i12=>some (decide ((l.Cells.length:Int)<=8))) m (IntKind.wrap .i64 ((i:Int)+1))) q j) (fun x=>!(x.Name.toList==l.Cells[i].Name.toList)) ?_ ?_ n (by simp;omega)
    ·intro q j hj
     have hj':j<i:=by simp at hj;omega
     have hd:decide ((j:Int)<(i:Int))=true:=decide_eq_true (by omega)
     simp only [HF.eq_2,hd,cT,AS (show j<l.Cells.length by omega),AS hi,At,List.getElem_take,wT j]
     cases(l.Cells[j].Name.toList==l.Cells[i].Name.toList)<;>rfl
    ·intro q
     have hl:(l.Cells.take i).length=i:=by simp;omega
     have hd:decide (((l.Cells.take i).length:Int)<(i:Int))=false:=decide_eq_false (by rw [hl];omega)
     simp only [HF.eq_2,hd,cF]
   rw [key]
   cases ha:(l.Cells.take i).all (fun x=>!(x.Name.toList==l.Cells[i].Name.toList))with
   |true=>
    rw [cT,wT i]
    refine .inl ⟨fun _=>⟨hb.1 rfl,fun j hj=>?_⟩,rfl⟩
    have:=List.all_eq_true.1 ha l.Cells[j] (List.mem_take_iff_getElem.2 ⟨j,by omega,rfl⟩)
    simpa using this
   |false=>
    rw [cF]
    refine .inr ⟨fun g=>?_,rfl⟩
    have:(l.Cells.take i).all (fun x=>!(x.Name.toList==l.Cells[i].Name.toList))=true:=by
     rw [List.all_eq_true]
     intro x hx
     obtain⟨j,hj,rfl⟩:=List.mem_take_iff_getElem.1 hx
     have:=(g hi).2 j (by omega)
     simp [this]
    rw [ha]at this;cases this
 ·intro m i h1 h2 _
  obtain rfl:i=l.Cells.length:=by omega
  simp only [Ez.eq_2,Cb,cF]
  exact AZ.val (by rw [decide_eq_true_eq];omega)
theorem cU{n:Nat}{l:Aq}(h:Ng l)(hn:1048577<=n):AZ (Mj l) (Ra n l):=by
 have h1:=h.1
 rw [Ra]
 refine loop (L:=fun m i (s:List ByteArray)=>Gx n l _ m s i) l.Cells.length (fun i s=>s=(l.Cells.take i).map (·.Name)∧∀j (hj:j<l.Cells.length),j<i->KX l.Cells[j]) (fun o=>AZ (Mj l) o) ?_ ?_ n 0 [] (by omega) (by omega) ⟨by simp,fun j _ h=>by omega⟩
 ·intro m i s hi ⟨hs,hI⟩
  obtain⟨b,e,hb⟩:=YB (n:=n) (h.2 _ (List.getElem_mem hi)) hn
  have hsl:s.length=i:=by rw [hs];simp;omega
  simp only [Gx.eq_2,CR hi,cT,AS hi,At,e]
  cases b with
  |false=>simp only [Bool.not_false,cT];exact .inr (AZ.no fun v=>by have:=hb.2 (v.cells i hi);cases this)
  |true=>
   simp only [Bool.not_true,cF,BC (show s.length+[l.Cells[i].Name].length<=16777216 by simp;omega) (show 16<=1048576 by omega),At,wT i]
   refine .inl ⟨_,⟨?_,fun j hj hji=>?_⟩,rfl⟩
   ·rw [hs,List.take_succ_eq_append_getElem hi,List.map_append];rfl
   ·by_cases ej:j=i
    ·subst ej;exact hb.1 rfl
    ·exact hI j hj (by omega)
 ·intro m s ⟨hs,hI⟩
  rw [List.take_length]at hs
  have hsl:s.length=l.Cells.length:=by rw [hs];simp
  simp only [Gx.eq_2,Cb,cF]
  by_cases c:l.Cells.length<=8
  ·have d:decide ((l.Cells.length:Int)<=8)=true:=decide_eq_true (by omega)
   obtain⟨b,e,hb⟩:=AN (n:=n) (xs:=s) (by omega) (fun x hx=>by
    rw [hs]at hx
    obtain⟨c,hc,rfl⟩:=List.mem_map.1 hx
    exact(h.2 c hc).name) hn
   simp only [d,cT,e,At]
   refine AZ.val (hb.trans ⟨fun g=>⟨c,fun i hi=>hI i hi hi,fun k hk i hi=>?_⟩,fun v k hk=>⟨?_,fun i hi=>?_⟩⟩)
   ·have:=(g k (by omega)).2 i hi
    simpa [hs] using this
   ·have:=(v.cells k (by omega)).name
    simpa [hs] using this
   ·have:=v.names k (by omega) i hi
    simpa [hs] using this
  ·have d:decide ((l.Cells.length:Int)<=8)=false:=decide_eq_false (by omega)
   simp only [d,cF,At]
   exact AZ.no fun v=>c v.few
def Sc(l:List Int)(lo hi:Int):Prop:=∀i,i<l.length->lo<=gd l i∧gd l i<=hi
theorem Ph{n:Nat}{l:List Int}{lo hi:Int}(h:l.length<=1048576)(hn:1048577<=n):AZ (Sc l lo hi) (NZ n l lo hi):=by
 rw [NZ,QA,Qc]
 obtain⟨r,e,h⟩:=HV (xs:=l) (L:=fun m i=>Dg n l lo hi (fun i7=>(some (-1))) m i) (fun x=>!((decide (x>=lo))&&(decide (x<=hi)))) (by
  intro m i hi
  simp only [Dg.eq_2,CR hi,cT,AS hi,At,QD,Is,wT i]) (by
  intro m
  simp only [Dg.eq_2,Cb,cF]) n (by omega)
 simp only [e,At]
 refine AZ.val ?_
 rw [h,List.any_eq_not_all_not,Bool.not_not]
 simp only [Bool.not_not]
 exact Ke
structure MT(w:BH)(s:Int):Prop where
 many:1<=w.Parent.length∧w.Parent.length<=8
 res:w.Res.length=w.Parent.length
 cap:w.Cap.length=w.Parent.length
 sink:(w.Sink.length:Int)=s
 root:gd w.Parent 0= -1∧gd w.Res 0=0
 tree:∀i,0<i->i<w.Parent.length->0<=gd w.Parent i∧gd w.Parent i<=(i:Int)-1
 ress:Sc w.Res 0 1000
 caps:Sc w.Cap 0 500
 sinks:Sc w.Sink 0 ((w.Parent.length:Int)-1)
def Pk(w:BH)(i:Nat):Prop:=(i=0->gd w.Parent 0= -1∧gd w.Res 0=0)∧(0<i->0<=gd w.Parent i∧gd w.Parent i<=(i:Int)-1)
theorem dC{n:Nat}{w:BH}{s:Int}(h:w.Sink.length<=1048576)(hn:1048577<=n):AZ (MT w s) (WJ n w s):=by
 rw [WJ]
 refine AZ.bif (fun c=>AZ.no fun v=>?_) (fun c=>?_)
 ·have:=v.many;have:=v.res;have:=v.cap;have:=v.sink
  simp only [Bool.or_eq_true,decide_eq_true_eq,bne_iff_ne,ne_eq]at c;omega
 ·simp only [Bool.or_eq_false_iff,decide_eq_false_iff_not,bne_eq_false_iff_eq]at c
  obtain⟨⟨⟨⟨c1,c2⟩,c3⟩,c4⟩,c5⟩:=c
  refine(Dm (L:=fun m i=>IS n w _ m i) (Q:=Sc w.Sink 0 ((w.Parent.length:Int)-1)) w.Parent.length 0 (fun i=>(0<=gd w.Cap i∧gd w.Cap i<=500)∧(0<=gd w.Res i∧gd w.Res i<=1000)∧Pk w i) ?_ ?_ n 0 (by omega) (by omega) (by omega) (fun j _ h=>by omega)).iff ⟨fun a=>⟨by omega,by omega,by omega,c5,(a.1 0 (by omega) (by omega)).2.2.1 rfl,fun i h1 h2=>(a.1 i (by omega) h2).2.2.2 h1,fun i hi=>(a.1 i (by omega) (by omega)).2.1,fun i hi=>(a.1 i (by omega) (by omega)).1,a.2⟩,fun v=>⟨fun i _ hi=>⟨v.caps i (by omega),v.ress i (by omega),fun _=>v.root,fun h=>v.tree i h hi⟩,v.sinks⟩⟩
  ·intro m i _ hi
   have w1:IntKind.wrap .i64 ((i:Int)-1)=(i:Int)-1:=Af (by omega) (by omega)
   simp only [IS.eq_2,CR hi,cT,gI (show i<w.Parent.length by omega),gI (show i<w.Res.length by omega),gI (show i<w.Cap.length by omega),At,HE,Dn,Ca,w1,wT i]
   cases e1:(!(decide (gd w.Cap i>=0)&&decide (gd w.Cap i<=500))|| !(decide (gd w.Res i>=0)&&decide (gd w.Res i<=1000)))with
   |true=>
    rw [cT]
    refine .inr ⟨fun g=>?_,rfl⟩
    simp only [Bool.or_eq_true,Bool.not_eq_true',Bool.and_eq_false_iff,decide_eq_false_iff_not]at e1;omega
   |false=>
    rw [cF]
    simp only [Bool.or_eq_false_iff,Bool.not_eq_false',Bool.and_eq_true,decide_eq_true_eq]at e1
    cases e2:((((i:Int)==0)&&((gd w.Parent i != -1)||(gd w.Res i !=0)))||(decide ((i:Int)>0)&& !(decide (gd w.Parent i>=0)&&decide (gd w.Parent i<=(i:Int)-1))))with
    |true=>
     rw [cT]
     refine .inr ⟨fun g=>?_,rfl⟩
     obtain⟨_,_,g1,g2⟩:=g
     simp only [Bool.or_eq_true,Bool.not_eq_true',Bool.and_eq_false_iff,Bool.and_eq_true,decide_eq_false_iff_not,decide_eq_true_eq,beq_iff_eq,bne_iff_ne,ne_eq]at e2
     by_cases z:i=0
     ·subst z;have:=g1 rfl;omega
     ·have:=g2 (by omega);omega
    |false=>
     rw [cF]
     refine .inl ⟨⟨by omega,by omega,?_⟩,rfl⟩
     simp only [Bool.or_eq_false_iff,Bool.not_eq_false',Bool.and_eq_false_iff,Bool.and_eq_true,decide_eq_false_iff_not,decide_eq_true_eq,beq_eq_false_iff_ne,bne_eq_false_iff_eq,ne_eq]at e2
     refine⟨fun z=>?_,fun z=>by omega⟩
     subst z;omega
  ·intro m i h1 h2 _
   obtain rfl:i=w.Parent.length:=by omega
   have w1:IntKind.wrap .i64 ((w.Parent.length:Int)-1)=(w.Parent.length:Int)-1:=Af (by omega) (by omega)
   simp only [IS.eq_2,Cb,cF]
   refine(Dm (L:=fun m i=>HG n w _ m i) (Q:=True) w.Sink.length 0 (fun i=>0<=gd w.Sink i∧gd w.Sink i<=(w.Parent.length:Int)-1) ?_ ?_ n 0 (by omega) (by omega) (by omega) (fun j _ h=>by omega)).iff ⟨fun a i hi=>a.1 i (by omega) hi,fun v=>⟨fun i _ hi=>v i hi,trivial⟩⟩
   ·intro m i _ hi
    simp only [HG.eq_2,CR hi,cT,gI hi,At,HE,w1,wT i]
    cases e:(!(decide (gd w.Sink i>=0)&&decide (gd w.Sink i<=(w.Parent.length:Int)-1)))with
    |true=>refine .inr ⟨fun g=>?_,by trivial⟩;simp only [Bool.not_eq_true',Bool.and_eq_false_iff,decide_eq_false_iff_not]at e;omega
    |false=>refine .inl ⟨?_,by trivial⟩;simp only [Bool.not_eq_false',Bool.and_eq_true,decide_eq_true_eq]at e;omega
   ·intro m i h1 h2 _
    obtain rfl:i=w.Sink.length:=by omega
    simp only [HG.eq_2,Cb,cF]
    exact AZ.yes trivial
theorem Xx{n:Nat}{w:BH}(h1:1<=w.Parent.length)(h:w.Parent.length<=8)(h2:w.Res.length=w.Parent.length)(hn:1048577<=n):AZ (∀i,0<=i->i<w.Parent.length->Pk w i) (Qf n w):=by
 rw [Qf]
 refine(Dm (L:=fun m i=>GW n w _ m i) (Q:=True) w.Parent.length 0 (fun i=>Pk w i) ?_ ?_ n 0 (by omega) (by omega) (by omega) (fun j _ h=>by omega)).iff ⟨fun a=>a.1,fun a=>⟨a,trivial⟩⟩
 ·intro m i _ hi
  have w1:IntKind.wrap .i64 ((i:Int)-1)=(i:Int)-1:=Af (by omega) (by omega)
  have w0:AM w.Res 0=some (gd w.Res 0):=gI (i:=0) (by omega)
  simp only [GW.eq_2,CR hi,cT,gI hi,w0,At,Is,Dn,Ca,w1,wT i]
  cases e2:((((i:Int)==0)&&((gd w.Parent i != -1)||(gd w.Res 0 !=0)))||(decide ((i:Int)>0)&& !(decide (gd w.Parent i>=0)&&decide (gd w.Parent i<=(i:Int)-1))))with
  |true=>
   rw [cT]
   refine .inr ⟨fun g=>?_,rfl⟩
   obtain⟨g1,g2⟩:=g
   simp only [Bool.or_eq_true,Bool.not_eq_true',Bool.and_eq_false_iff,Bool.and_eq_true,decide_eq_false_iff_not,decide_eq_true_eq,beq_iff_eq,bne_iff_ne,ne_eq]at e2
   by_cases z:i=0
   ·subst z;have:=g1 rfl;omega
   ·have:=g2 (by omega);omega
  |false=>
   rw [cF]
   refine .inl ⟨?_,rfl⟩
   simp only [Bool.or_eq_false_iff,Bool.not_eq_false',Bool.and_eq_false_iff,Bool.and_eq_true,decide_eq_false_iff_not,decide_eq_true_eq,beq_eq_false_iff_ne,bne_eq_false_iff_eq,ne_eq]at e2
   refine⟨fun z=>?_,fun z=>by omega⟩
   subst z;omega
 ·intro m i h1 h2 _
  obtain rfl:i=w.Parent.length:=by omega
  simp only [GW.eq_2,Cb,cF]
  exact AZ.yes trivial
theorem AZ.and{P Q:Prop}{o:Option Bool}{c:Bool}(hc:c=true↔P)(h:P->AZ Q o):AZ (P∧Q) (bif c then o else some false):=by
 cases c with
 |true=>exact(h (hc.1 rfl)).iff ⟨fun q=>⟨hc.1 rfl,q⟩,fun q=>q.2⟩
 |false=>exact AZ.no fun q=>by have:=hc.2 q.1;cases this
theorem AZ.ab{P R:Prop}{o:Option Bool}{f:Bool->Option Bool}(h:AZ P o)(k:∀c:Bool,(c=true↔P)->AZ R (f c)):AZ R (Option.bind o f):=by
 obtain⟨b,rfl,h⟩:=h
 exact k b h
theorem KZ{o:Option Bool}:(Option.bind o fun r=>some r)=o:=by cases o<;>rfl
theorem bM{n:Nat}{w:BH}{s:Int}(h:w.Sink.length<=1048576)(hr:w.Res.length<=1048576)(hc:w.Cap.length<=1048576)(hp:w.Parent.length<=1048576)(hn:1048577<=n):AZ (MT w s) (QJ n w s):=by
 have w1:IntKind.wrap .i64 ((w.Parent.length:Int)-1)=(w.Parent.length:Int)-1:=Af (by omega) (by omega)
 rw [QJ]
 simp only [Kp,Is,At,w1,Ca,KZ]
 refine AZ.ab (AZ.and (P:=(1<=w.Parent.length∧w.Parent.length<=8)∧w.Res.length=w.Parent.length∧w.Cap.length=w.Parent.length) (Q:=∀i,0<=i->i<w.Parent.length->Pk w i) ?_ fun p=>Xx p.1.1 p.1.2 p.2.1 hn) fun c1 e1=>?_
 ·simp only [Bool.and_eq_true,decide_eq_true_eq,beq_iff_eq];omega
 refine AZ.ab (AZ.and e1 fun _=>Ph hr hn) fun c2 e2=>?_
 refine AZ.ab (AZ.and e2 fun _=>Ph hc hn) fun c3 e3=>?_
 refine(AZ.and (P:=(((((1<=w.Parent.length∧w.Parent.length<=8)∧w.Res.length=w.Parent.length∧w.Cap.length=w.Parent.length)∧∀i,0<=i->i<w.Parent.length->Pk w i)∧Sc w.Res 0 1000)∧Sc w.Cap 0 500)∧(w.Sink.length:Int)=s) ?_ fun _=>Ph h hn).iff ⟨fun⟨⟨⟨⟨⟨⟨a,b,c⟩,t⟩,r⟩,k⟩,s1⟩,s2⟩=>⟨a,b,c,s1,(t 0 (by omega) (by omega)).1 rfl,fun i h1 h2=>(t i (by omega) h2).2 h1,r,k,s2⟩,fun v=>⟨⟨⟨⟨⟨⟨v.many,v.res,v.cap⟩,fun i _ hi=>⟨fun _=>v.root,fun h=>v.tree i h hi⟩⟩,v.ress⟩,v.caps⟩,v.sink⟩,v.sinks⟩⟩
 rw [Bool.and_eq_true,e3,beq_iff_eq]
def Fy(t:List Int)(q:Int):List Int:=t.set q.toNat (gd t q.toNat+1)
def HP(x:Al):Int:=gd x.Nets (x.Nets.length-1)
def cI(t:List Int)(x:Al):List Int:=Fy t (HP x)
def cP(t:List Int)(p:BL):List Int:=if p.Dir=1 then Fy t p.Net else t
def RH(d:AO):List Int:=d.Ports.foldl cP (d.Instances.foldl cI (List.replicate d.Nets.length 0))
structure IG(l:Aq)(d:AO)(x:Al):Prop where
 cell:0<=x.Cell∧x.Cell<=(l.Cells.length:Int)-1
 pins:∀c,AM l.Cells x.Cell=some c->x.Nets.length=c.Pins.length
 nets:Sc x.Nets 0 ((d.Nets.length:Int)-1)
structure Jm(d:AO)(p:BL):Prop where
 dir:p.Dir=1∨p.Dir=2
 net:0<=p.Net∧p.Net<=(d.Nets.length:Int)-1
structure CC(l:Aq)(d:AO):Prop where
 lib:Mj l
 few:d.Instances.length<=14∧d.Nets.length<=30∧d.Ports.length<=8
 inst:∀x∈d.Instances,IG l d x
 port:∀p∈d.Ports,Jm d p
 ni:EE (d.Instances.map (·.Name))
 np:EE (d.Ports.map (·.Name))
 nn:EE d.Nets
 one:∀i,i<d.Nets.length->gd (RH d) i=1
structure RY(d:AO):Prop where
 inst:d.Instances.length<=1048576∧∀x∈d.Instances,x.Name.size<=1048576∧x.Nets.length<=1048576
 nets:d.Nets.length<=1048576∧∀x∈d.Nets,x.size<=1048576
 ports:d.Ports.length<=1048576∧∀p∈d.Ports,p.Name.size<=1048576
theorem IG.long{l:Aq}{d:AO}{x:Al}(v:IG l d x)(hl:Mj l):2<=x.Nets.length∧x.Nets.length<=5:=by
 obtain⟨c,e,hc⟩:=Dj (xs:=l.Cells) v.cell.1 (by have:=v.cell.2;omega)
 have h:=v.pins c e
 obtain⟨h1,h2⟩:=List.getElem?_eq_some_iff.1 hc
 have:=(hl.cells _ h1).pins.few
 rw [h2]at this;omega
theorem IG.last{l:Aq}{d:AO}{x:Al}(v:IG l d x)(hl:Mj l):0<=HP x∧HP x<d.Nets.length:=by
 have:=v.long hl
 have:=v.nets (x.Nets.length-1) (by omega)
 unfold HP;omega
theorem GR{α:Type}{xs:List α}(nm:α->ByteArray){L:Nat->List ByteArray->Int->Option Bool}{k:List ByteArray->Option Bool}(hl:xs.length<=1048576)
 (hs:∀(m i:Nat) (h:i<xs.length) (s:List ByteArray),L (m+1) s (i:Int)=Option.bind (BW s [nm xs[i]] 16) fun z=>L m z ((i+1:Nat):Int))
 (he:∀(m:Nat) (s:List ByteArray),L (m+1) s (xs.length:Int)=k s) (m:Nat) (hm:xs.length<m):L m [] 0=k (xs.map nm):=by
 refine loop (L:=fun m i s=>L m s i) xs.length (fun i s=>s=(xs.take i).map nm) (fun o=>o=k (xs.map nm)) ?_ ?_ m 0 [] (by omega) (by omega) (by simp)
 ·intro m i s hi e
  refine .inl ⟨s++[nm xs[i]],?_,?_⟩
  ·rw [e,List.take_succ_eq_append_getElem hi,List.map_append];rfl
  ·have:s.length=i:=by rw [e];simp;omega
   show L (m+1) s (i:Int)=_
   rw [hs m i hi,BC (by simp;omega) (by omega),At]
 ·intro m s e
  rw [List.take_length]at e
  show L (m+1) s (xs.length:Int)=_
  rw [he,e]
def Oq(N B:Nat)(t:List Int):Prop:=t.length=N∧∀j,0<=gd t j∧gd t j<=B
theorem Oq.bump{N B:Nat}{t:List Int}{q:Int}(h:Oq N B t)(h0:0<=q)(h1:q<N):Oq N (B+1) (Fy t q):=by
 refine⟨by unfold Fy;simpa using h.1,fun j=>?_⟩
 unfold Fy
 rw [Je (by have:=h.1;omega)]
 have:=h.2 j;have:=h.2 q.toNat
 split<;>omega
theorem Oq.up{N B:Nat}{t:List Int}(h:Oq N B t):Oq N (B+1) t:=⟨h.1,fun j=>by have:=h.2 j;omega⟩
theorem Oq.step{N B:Nat}{t:List Int}{q:Int}(h:Oq N B t)(h0:0<=q)(h1:q<N)(hB:B<=1048576):AM t q=some (gd t q.toNat)∧t.set q.toNat (IntKind.wrap .i64 (gd t q.toNat+1))=Fy t q:=by
 refine⟨OQ h0 (by rw [h.1];exact h1),?_⟩
 have:=h.2 q.toNat
 rw [Af (by omega) (by omega)];rfl
theorem IZ{α σ:Type}{f:σ->α->σ}{xs:List α}{i:Nat}{s:σ}(h:i<xs.length):(xs.take (i+1)).foldl f s=f ((xs.take i).foldl f s) xs[i]:=by
 rw [List.take_succ_eq_append_getElem h,List.foldl_append];rfl
theorem cD{n:Nat}{l:Aq}{d:AO}(hl:Mj l)(h:RY d)(hn:1048577<=n):AZ ((∀x∈d.Instances,IG l d x)∧∀p∈d.Ports,Jm d p) (Vq n l d):=by
 have hi0:=h.inst.1;have hp0:=h.ports.1;have hn0:=h.nets.1;have hl0:=hl.few
 have wN:IntKind.wrap .i64 ((d.Nets.length:Int)-1)=(d.Nets.length:Int)-1:=Af (by omega) (by omega)
 have wL:IntKind.wrap .i64 ((l.Cells.length:Int)-1)=(l.Cells.length:Int)-1:=Af (by omega) (by omega)
 rw [Vq]
 refine(Dm (L:=fun m i=>Ep n l d _ m i) (Q:=∀p∈d.Ports,Jm d p) d.Instances.length 0 (fun i=>∀(hi:i<d.Instances.length),IG l d d.Instances[i]) ?_ ?_ n 0 (by omega) (by omega) (by omega) (fun j _ h=>by omega)).iff ⟨fun a=>⟨fun x hx=>?_,a.2⟩,fun a=>⟨fun i _ _ hi=>a.1 _ (List.getElem_mem hi),a.2⟩⟩
 ·intro m i _ hi
  simp only [Ep.eq_2,CR hi,cT,AS hi,At,HE,wL,wT i]
  by_cases c1:0<=d.Instances[i].Cell∧d.Instances[i].Cell<=(l.Cells.length:Int)-1
  ·obtain⟨c,ec,hc⟩:=Dj (xs:=l.Cells) c1.1 (by omega)
   have d1:(decide (d.Instances[i].Cell>=0)&&decide (d.Instances[i].Cell<=(l.Cells.length:Int)-1))=true:=by simp only [Bool.and_eq_true,decide_eq_true_eq];omega
   simp only [d1,Bool.not_true,cF,ec,At]
   by_cases c2:d.Instances[i].Nets.length=c.Pins.length
   ·have d2:((d.Instances[i].Nets.length:Int) !=(c.Pins.length:Int))=false:=by rw [bne_eq_false_iff_eq];omega
    simp only [d2,cF]
    have hnl:=(h.inst.2 _ (List.getElem_mem hi)).2
    have key:He n d d.Instances[i] (fun i75=>Ep n l d (fun i25=>ET n d (fun i30=>some true) n 0) m ((i+1:Nat):Int)) n 0=bif d.Instances[i].Nets.all (fun k=>decide (k>=0)&&decide (k<=(d.Nets.length:Int)-1))then Ep n l d (fun i25=>ET n d (fun i30=>some true) n 0) m ((i+1:Nat):Int)else some false:=by
     refine Ki (xs:=d.Instances[i].Nets) (L:=fun q j=>He n d d.Instances[i] (fun i75=>Ep n l d (fun i25=>ET n d (fun i30=>some true) n 0) m ((i+1:Nat):Int)) q j) _ ?_ ?_ n (by omega)
     ·intro q j hj
      simp only [He.eq_2,CR hj,cT,AS hj,At,HE,wN,wT j]
      cases(decide (d.Instances[i].Nets[j]>=0)&&decide (d.Instances[i].Nets[j]<=(d.Nets.length:Int)-1))<;>rfl
     ·intro q
      simp only [He.eq_2,Cb,cF]
    rw [key]
    cases ha:d.Instances[i].Nets.all (fun k=>decide (k>=0)&&decide (k<=(d.Nets.length:Int)-1))with
    |true=>
     rw [cT]
     exact .inl ⟨fun _=>⟨c1,fun c' e'=>(by rw [ec]at e';cases e';exact c2),Ke.1 ha⟩,rfl⟩
    |false=>
     rw [cF]
     exact .inr ⟨fun g=>(by have:=Ke.2 (g hi).nets;rw [ha]at this;cases this),rfl⟩
   ·have d2:((d.Instances[i].Nets.length:Int) !=(c.Pins.length:Int))=true:=by rw [bne_iff_ne];omega
    simp only [d2,cT]
    exact .inr ⟨fun g=>c2 ((g hi).pins c ec),by trivial⟩
  ·have d1:(decide (d.Instances[i].Cell>=0)&&decide (d.Instances[i].Cell<=(l.Cells.length:Int)-1))=false:=by rw [Bool.and_eq_false_iff,decide_eq_false_iff_not,decide_eq_false_iff_not];omega
   simp only [d1,Bool.not_false,cT,At]
   exact .inr ⟨fun g=>c1 (g hi).cell,by trivial⟩
 ·intro m i h1 h2 _
  obtain rfl:i=d.Instances.length:=by omega
  simp only [Ep.eq_2,Cb,cF]
  refine(Dm (L:=fun m i=>ET n d _ m i) (Q:=True) d.Ports.length 0 (fun i=>∀(hi:i<d.Ports.length),Jm d d.Ports[i]) ?_ ?_ n 0 (by omega) (by omega) (by omega) (fun j _ h=>by omega)).iff ⟨fun a p hp=>?_,fun a=>⟨fun i _ _ hi=>a _ (List.getElem_mem hi),trivial⟩⟩
  ·intro m i _ hi
   simp only [ET.eq_2,CR hi,cT,AS hi,At,HE,wN,Dn,wT i]
   cases e1:(!(decide (d.Ports[i].Dir>=1)&&decide (d.Ports[i].Dir<=2))|| !(decide (d.Ports[i].Net>=0)&&decide (d.Ports[i].Net<=(d.Nets.length:Int)-1)))with
   |true=>
    rw [cT]
    refine .inr ⟨fun g=>?_,rfl⟩
    have:=(g hi).dir;have:=(g hi).net
    simp only [Bool.or_eq_true,Bool.not_eq_true',Bool.and_eq_false_iff,decide_eq_false_iff_not]at e1;omega
   |false=>
    rw [cF]
    simp only [Bool.or_eq_false_iff,Bool.not_eq_false',Bool.and_eq_true,decide_eq_true_eq]at e1
    exact .inl ⟨fun _=>⟨by omega,by omega⟩,rfl⟩
  ·intro m i h1 h2 _
   obtain rfl:i=d.Ports.length:=by omega
   simp only [ET.eq_2,Cb,cF]
   exact AZ.yes trivial
  ·obtain⟨j,hj,rfl⟩:=List.getElem_of_mem hp
   exact a.1 j (by omega) hj hj
 ·obtain⟨j,hj,rfl⟩:=List.getElem_of_mem hx
  exact a.1 j (by omega) hj hj
theorem cH{n:Nat}{l:Aq}{d:AO}(h:Ng l)(hd:RY d)(hn:1048577<=n):AZ (CC l d) (VI n l d):=by
 have hi0:=hd.inst.1;have hp0:=hd.ports.1;have hn0:=hd.nets.1
 rw [VI]
 refine(cC h hn).bind (fun vl=>?_) (fun vl=>?_)
 ·simp only [Bool.not_true,Bool.false_or]
  by_cases c:(d.Instances.length<=14∧d.Nets.length<=30)∧d.Ports.length<=8
  ·have e:(decide ((d.Instances.length:Int)>14)||decide ((d.Nets.length:Int)>30)||decide ((d.Ports.length:Int)>8))=false:=by simp only [Bool.or_eq_false_iff,decide_eq_false_iff_not];omega
   simp only [e,cF]
   obtain⟨b,eb,hb⟩:=cD (n:=n) vl hd hn
   rw [eb,At,At]
   cases b with
   |false=>
    simp only [Bool.not_false,cT]
    exact AZ.no fun v=>by have:=hb.2 ⟨v.inst,v.port⟩;cases this
   |true=>
    obtain⟨v1,v2⟩:=hb.1 rfl
    simp only [Bool.not_true,cF]
    rw [GR (xs:=d.Instances) (·.Name) (L:=fun m s i=>Im d _ m s i) (k:=fun s=>Gy d _ n [] 0) hi0 (by
     intro m i hi s
     simp only [Im.eq_2,CR hi,cT,AS hi,At,wT i]) (by
     intro m s
     simp only [Im.eq_2,Cb,cF];rfl) n (by omega)]
    rw [GR (xs:=d.Ports) (·.Name) (L:=fun m s i=>Gy d _ m s i) hp0 (by
     intro m i hi s
     simp only [Gy.eq_2,CR hi,cT,AS hi,At,wT i]) (by
     intro m s
     simp only [Gy.eq_2,Cb,cF];rfl) n (by omega)]
    obtain⟨b1,e1,h1⟩:=Ur (n:=n) (xs:=d.Instances.map (·.Name)) (by simpa using hi0) (fun x hx=>by obtain⟨y,hy,rfl⟩:=List.mem_map.1 hx;exact(hd.inst.2 y hy).1) hn
    obtain⟨b2,e2,h2⟩:=Ur (n:=n) (xs:=d.Ports.map (·.Name)) (by simpa using hp0) (fun x hx=>by obtain⟨y,hy,rfl⟩:=List.mem_map.1 hx;exact hd.ports.2 y hy) hn
    obtain⟨b3,e3,h3⟩:=Ur (n:=n) (xs:=d.Nets) hn0 hd.nets.2 hn
    simp only [e1,e2,e3,At,Dn]
    cases eb:((!b1|| !b2)|| !b3)with
    |true=>
     rw [cT]
     refine AZ.no fun v=>?_
     have:=h1.2 v.ni;have:=h2.2 v.np;have:=h3.2 v.nn
     subst b1 b2 b3;cases eb
    |false=>
     rw [cF]
     simp only [Bool.or_eq_false_iff,Bool.not_eq_false']at eb
     obtain⟨⟨rfl,rfl⟩,rfl⟩:=eb
     rw [EU (by omega) (by omega),At]
     have k1:=LV (xs:=d.Instances) (L:=fun m i s=>GV d (fun i149 l151=>EA d (fun i155 l157=>DM l157 (fun i161=>some true) n 0) n 0 l151) m i s) (k:=fun s=>EA d (fun i155 l157=>DM l157 (fun i161=>some true) n 0) n 0 s) cI (fun i s=>Oq d.Nets.length i s) (by
      intro m i hi s hs
      have hv:=v1 _ (List.getElem_mem hi)
      have hv2:=hv.long vl
      obtain⟨q0,q1⟩:=hv.last vl
      obtain⟨g1,g2⟩:=hs.step q0 q1 (by omega)
      have wx:IntKind.wrap .i64 ((d.Instances[i].Nets.length:Int)-1)=((d.Instances[i].Nets.length-1:Nat):Int):=by rw [Af (by omega) (by omega)];omega
      refine⟨?_,hs.bump q0 q1⟩
      simp only [GV.eq_2,CR hi,cT,AS hi,At,wx,gI (show d.Instances[i].Nets.length-1<d.Instances[i].Nets.length by omega),wT i]
      rw [show gd d.Instances[i].Nets (d.Instances[i].Nets.length-1)=HP d.Instances[i]from rfl,g1,At,At,g2];rfl) (by
      intro m s _
      simp only [GV.eq_2,Cb,cF]) n (List.replicate d.Nets.length 0) ⟨by simp,fun j=>by rw [KU];omega⟩ (by omega)
     rw [k1.1]
     have k2:=LV (xs:=d.Ports) (L:=fun m i s=>EA d (fun i155 l157=>DM l157 (fun i161=>some true) n 0) m i s) (k:=fun s=>DM s (fun i161=>some true) n 0) cP (fun i s=>Oq d.Nets.length (d.Instances.length+i) s) (by
      intro m i hi s hs
      have hv:=v2 _ (List.getElem_mem hi)
      obtain⟨g1,g2⟩:=hs.step hv.net.1 (by have:=hv.net.2;omega) (by omega)
      simp only [EA.eq_2,CR hi,cT,AS hi,At,wT i,g1,g2]
      by_cases c:d.Ports[i].Dir=1
      ·have e:(d.Ports[i].Dir==1)=true:=beq_iff_eq.2 c
       have e':cP s d.Ports[i]=Fy s d.Ports[i].Net:=if_pos c
       rw [e,cT,e']
       exact⟨rfl,hs.bump hv.net.1 (by have:=hv.net.2;omega)⟩
      ·have e:(d.Ports[i].Dir==1)=false:=beq_eq_false_iff_ne.2 c
       have e':cP s d.Ports[i]=s:=if_neg c
       rw [e,cF,e']
       exact⟨rfl,hs.up⟩) (by
      intro m s _
      simp only [EA.eq_2,Cb,cF]) n _ k1.2 (by omega)
     rw [k2.1]
     show AZ _ (DM (RH d) (fun i161=>some true) n 0)
     have hlen:(RH d).length=d.Nets.length:=k2.2.1
     refine(Dm (L:=fun m i=>DM (RH d) (fun i161=>some true) m i) (Q:=True) d.Nets.length 0 (fun i=>gd (RH d) i=1) ?_ ?_ n 0 (by omega) (by omega) (by omega) (fun j _ h=>by omega)).iff ⟨fun a=>⟨vl,⟨c.1.1,c.1.2,c.2⟩,v1,v2,h1.1 rfl,h2.1 rfl,h3.1 rfl,fun i hi=>a.1 i (by omega) hi⟩,fun v=>⟨fun i _ hi=>v.one i hi,trivial⟩⟩
     ·intro m i _ hi
      have hi':i<(RH d).length:=by omega
      simp only [DM.eq_2,CR hi',cT,gI hi',At,wT i]
      by_cases c:gd (RH d) i=1
      ·have e:(gd (RH d) i !=1)=false:=bne_eq_false_iff_eq.2 c
       rw [e,cF];exact .inl ⟨c,rfl⟩
      ·have e:(gd (RH d) i !=1)=true:=bne_iff_ne.2 c
       rw [e,cT];exact .inr ⟨c,rfl⟩
     ·intro m i q1 q2 _
      obtain rfl:i=d.Nets.length:=by omega
      rw [←hlen]
      simp only [DM.eq_2,Cb,cF]
      exact AZ.yes trivial
  ·have e:(decide ((d.Instances.length:Int)>14)||decide ((d.Nets.length:Int)>30)||decide ((d.Ports.length:Int)>8))=true:=by simp only [Bool.or_eq_true,decide_eq_true_eq];omega
   simp only [e,cT,At]
   exact AZ.no fun v=>c ⟨⟨v.few.1,v.few.2.1⟩,v.few.2.2⟩
 ·simp only [Bool.not_false,Bool.true_or,cT,At]
  exact AZ.no fun v=>vl v.lib
theorem bF{n:Nat}{d:AO}(hd:RY d)(hn:1048577<=n):AZ (((((d.Instances.length<=14∧d.Nets.length<=30)∧d.Ports.length<=8)∧EE (d.Instances.map (·.Name)))∧EE d.Nets)∧EE (d.Ports.map (·.Name))) (XE n d):=by
 have hi0:=hd.inst.1;have hp0:=hd.ports.1;have hn0:=hd.nets.1
 rw [XE]
 rw [GR (xs:=d.Instances) (·.Name) (L:=fun m s i=>IV d _ m s i) (k:=fun s=>GE d _ n [] 0) hi0 (by
  intro m i hi s
  simp only [IV.eq_2,CR hi,cT,AS hi,At,wT i]) (by
  intro m s
  simp only [IV.eq_2,Cb,cF];rfl) n (by omega)]
 rw [GR (xs:=d.Ports) (·.Name) (L:=fun m s i=>GE d _ m s i) hp0 (by
  intro m i hi s
  simp only [GE.eq_2,CR hi,cT,AS hi,At,wT i]) (by
  intro m s
  simp only [GE.eq_2,Cb,cF];rfl) n (by omega)]
 simp only [KZ,List.length_map]
 refine AZ.ab (AZ.and (P:=(d.Instances.length<=14∧d.Nets.length<=30)∧d.Ports.length<=8) (Q:=EE (d.Instances.map fun x:Al=>x.Name)) ?_ fun _=>AN (xs:=d.Instances.map fun x:Al=>x.Name) (by simpa using hi0) (fun x hx=>by obtain⟨y,hy,rfl⟩:=List.mem_map.1 hx;exact(hd.inst.2 y hy).1) hn) fun c1 e1=>?_
 ·simp only [Bool.and_eq_true,decide_eq_true_eq];omega
 refine AZ.ab (AZ.and (Q:=EE d.Nets) e1 fun _=>AN hn0 hd.nets.2 hn) fun c2 e2=>?_
 exact AZ.and (Q:=EE (d.Ports.map fun x:BL=>x.Name)) e2 fun _=>AN (xs:=d.Ports.map fun x:BL=>x.Name) (by simpa using hp0) (fun x hx=>by obtain⟨y,hy,rfl⟩:=List.mem_map.1 hx;exact hd.ports.2 y hy) hn
theorem nN{n:Nat}{d:AO}{q:Int}(hn0:d.Nets.length<=1048576):Oy n d q=some (decide (q>=0)&&decide (q<=(d.Nets.length:Int)-1)):=by
 have wN:IntKind.wrap .i64 ((d.Nets.length:Int)-1)=(d.Nets.length:Int)-1:=Af (by omega) (by omega)
 simp only [Oy,Rw,Is,At,wN]
theorem YC{n:Nat}{l:Aq}{d:AO}{x:Al}(hl:Mj l)(hn0:d.Nets.length<=1048576)(hx:x.Nets.length<=1048576)(hn:1048577<=n):AZ (IG l d x) (QY n d l x):=by
 have hl0:=hl.few
 have wL:IntKind.wrap .i64 ((l.Cells.length:Int)-1)=(l.Cells.length:Int)-1:=Af (by omega) (by omega)
 rw [QY]
 simp only [SB,Is,At,wL,KZ]
 by_cases c1:0<=x.Cell∧x.Cell<=(l.Cells.length:Int)-1
 ·obtain⟨c,ec,hc⟩:=Dj (xs:=l.Cells) c1.1 (by omega)
  have d1:(decide (x.Cell>=0)&&decide (x.Cell<=(l.Cells.length:Int)-1))=true:=by simp only [Bool.and_eq_true,decide_eq_true_eq];omega
  simp only [d1,cT,ec,At]
  by_cases c2:x.Nets.length=c.Pins.length
  ·have d2:((x.Nets.length:Int)==(c.Pins.length:Int))=true:=by rw [beq_iff_eq];omega
   simp only [d2,cT,SG,Sm]
   obtain⟨r,e,h⟩:=HV (xs:=x.Nets) (L:=fun m i=>Gh n x.Nets d (fun i7=>(some (-1))) m i) (fun q=>!((decide (q>=0))&&(decide (q<=(d.Nets.length:Int)-1)))) (by
    intro m i hi
    simp only [Gh.eq_2,CR hi,cT,AS hi,At,Sn,nN hn0,wT i]) (by
    intro m
    simp only [Gh.eq_2,Cb,cF]) n (by omega)
   simp only [e,At]
   refine(AZ.val (P:=Sc x.Nets 0 ((d.Nets.length:Int)-1)) ?_).iff ⟨fun w=>⟨c1,fun c' e'=>(by rw [ec]at e';cases e';exact c2),w⟩,fun v=>v.nets⟩
   rw [h,List.any_eq_not_all_not,Bool.not_not]
   simp only [Bool.not_not]
   exact Ke
  ·have d2:((x.Nets.length:Int)==(c.Pins.length:Int))=false:=by rw [beq_eq_false_iff_ne];omega
   simp only [d2,cF]
   exact AZ.no fun v=>c2 (v.pins c ec)
 ·have d1:(decide (x.Cell>=0)&&decide (x.Cell<=(l.Cells.length:Int)-1))=false:=by rw [Bool.and_eq_false_iff,decide_eq_false_iff_not,decide_eq_false_iff_not];omega
  simp only [d1,cF,At]
  exact AZ.no fun v=>c1 v.cell
theorem bW{n:Nat}{l:Aq}{d:AO}(h:Ng l)(hd:RY d)(hn:1048577<=n):AZ (CC l d) (WX n l d):=by
 have hi0:=hd.inst.1;have hp0:=hd.ports.1;have hn0:=hd.nets.1
 rw [WX]
 refine(cU h hn).bind (fun vl=>?_) (fun vl=>?_)
 ·simp only [Bool.not_true,cF]
  obtain⟨b,eb,hb⟩:=bF (n:=n) hd hn
  rw [eb,At,At]
  cases b with
  |false=>
   simp only [Bool.not_false,cT]
   exact AZ.no fun v=>by have:=hb.2 ⟨⟨⟨⟨⟨v.few.1,v.few.2.1⟩,v.few.2.2⟩,v.ni⟩,v.nn⟩,v.np⟩;cases this
  |true=>
   obtain⟨⟨⟨c,hni⟩,hnn⟩,hnp⟩:=hb.1 rfl
   simp only [Bool.not_true,cF]
   rw [EU (by omega) (by omega),At]
   refine loop (L:=fun m i s=>Io n l d _ m i s) d.Instances.length (fun i s=>(s=(d.Instances.take i).foldl cI (List.replicate d.Nets.length 0)∧Oq d.Nets.length i s)∧∀j (hj:j<d.Instances.length),j<i->IG l d d.Instances[j]) (fun o=>AZ (CC l d) o) ?_ ?_ n 0 _ (by omega) (by omega) ⟨⟨by simp,⟨by simp,fun j=>by rw [KU];omega⟩⟩,fun j _ h=>by omega⟩
   ·intro m i s hi ⟨⟨hs,hc⟩,hI⟩
    obtain⟨b,eb,hb⟩:=YC (n:=n) vl hn0 (hd.inst.2 _ (List.getElem_mem hi)).2 hn
    simp only [Io.eq_2,CR hi,cT,AS hi,At,eb,wT i]
    cases b with
    |false=>
     simp only [Bool.not_false,cT]
     exact .inr (AZ.no fun v=>by have:=hb.2 (v.inst _ (List.getElem_mem hi));cases this)
    |true=>
     simp only [Bool.not_true,cF]
     have hv:=hb.1 rfl
     have hv2:=hv.long vl
     obtain⟨q0,q1⟩:=hv.last vl
     obtain⟨g1,g2⟩:=hc.step q0 q1 (by omega)
     have wx:IntKind.wrap .i64 ((d.Instances[i].Nets.length:Int)-1)=((d.Instances[i].Nets.length-1:Nat):Int):=by rw [Af (by omega) (by omega)];omega
     refine .inl ⟨cI s d.Instances[i],⟨⟨by rw [IZ hi,hs],hc.bump q0 q1⟩,fun j hj hji=>?_⟩,?_⟩
     ·by_cases ej:j=i
      ·subst ej;exact hv
      ·exact hI j hj (by omega)
     ·rw [wx,gI (show d.Instances[i].Nets.length-1<d.Instances[i].Nets.length by omega),show gd d.Instances[i].Nets (d.Instances[i].Nets.length-1)=HP d.Instances[i]from rfl,At,g1,At,At,g2];rfl
   ·intro m s ⟨⟨hs,hc⟩,hI⟩
    rw [List.take_length]at hs
    have v1:∀x∈d.Instances,IG l d x:=fun x hx=>by obtain⟨j,hj,rfl⟩:=List.getElem_of_mem hx;exact hI j hj hj
    simp only [Io.eq_2,Cb,cF]
    refine loop (L:=fun m i s=>GD n d _ m i s) d.Ports.length (fun i s'=>(s'=(d.Ports.take i).foldl cP s∧Oq d.Nets.length (d.Instances.length+i) s')∧∀j (hj:j<d.Ports.length),j<i->Jm d d.Ports[j]) (fun o=>AZ (CC l d) o) ?_ ?_ n 0 _ (by omega) (by omega) ⟨⟨by simp,hc⟩,fun j _ h=>by omega⟩
    ·intro m i s' hi ⟨⟨hs',hc'⟩,hI'⟩
     simp only [GD.eq_2,CR hi,cT,AS hi,At,nN hn0,Dn,wT i]
     cases e1:(((d.Ports[i].Dir !=1)&&(d.Ports[i].Dir !=2))|| !(decide (d.Ports[i].Net>=0)&&decide (d.Ports[i].Net<=(d.Nets.length:Int)-1)))with
     |true=>
      rw [cT]
      refine .inr (AZ.no fun v=>?_)
      have g:=v.port _ (List.getElem_mem hi)
      have:=g.dir;have:=g.net
      simp only [Bool.or_eq_true,Bool.not_eq_true',Bool.and_eq_false_iff,Bool.and_eq_true,decide_eq_false_iff_not,bne_iff_ne,ne_eq]at e1;omega
     |false=>
      rw [cF]
      simp only [Bool.or_eq_false_iff,Bool.not_eq_false',Bool.and_eq_true,Bool.and_eq_false_iff,decide_eq_true_eq,bne_eq_false_iff_eq]at e1
      have hv:Jm d d.Ports[i]:=⟨e1.1,e1.2⟩
      obtain⟨g1,g2⟩:=hc'.step hv.net.1 (by have:=hv.net.2;omega) (by omega)
      have hV:∀j (hj:j<d.Ports.length),j<i+1->Jm d d.Ports[j]:=fun j hj hji=>by
       by_cases ej:j=i
       ·subst ej;exact hv
       ·exact hI' j hj (by omega)
      simp only [g1,g2,At]
      by_cases c:d.Ports[i].Dir=1
      ·have e:(d.Ports[i].Dir==1)=true:=beq_iff_eq.2 c
       have e':cP s' d.Ports[i]=Fy s' d.Ports[i].Net:=if_pos c
       rw [e,cT]
       exact .inl ⟨_,⟨⟨by rw [IZ hi,←hs',e'],hc'.bump hv.net.1 (by have:=hv.net.2;omega)⟩,hV⟩,rfl⟩
      ·have e:(d.Ports[i].Dir==1)=false:=beq_eq_false_iff_ne.2 c
       have e':cP s' d.Ports[i]=s':=if_neg c
       rw [e,cF]
       exact .inl ⟨_,⟨⟨by rw [IZ hi,←hs',e'],hc'.up⟩,hV⟩,rfl⟩
    ·intro m s' ⟨⟨hs',hc'⟩,hI'⟩
     rw [List.take_length,hs]at hs'
     have hs':s'=RH d:=hs'
     have v2:∀p∈d.Ports,Jm d p:=fun x hx=>by obtain⟨j,hj,rfl⟩:=List.getElem_of_mem hx;exact hI' j hj hj
     simp only [GD.eq_2,Cb,cF,PT,Sj]
     have hl':=hc'.1
     obtain⟨r,e,h⟩:=HV (xs:=s') (L:=fun m i=>GU n s' (fun i7=>(some (-1))) m i) (fun q=>q !=1) (by
      intro m i hi
      simp only [GU.eq_2,CR hi,cT,AS hi,At,St,wT i]) (by
      intro m
      simp only [GU.eq_2,Cb,cF]) n (by omega)
     simp only [e,At]
     refine AZ.val ?_
     rw [h,Bool.not_eq_true',List.any_eq_false]
     refine⟨fun a=>⟨vl,⟨c.1.1,c.1.2,c.2⟩,v1,v2,hni,hnp,hnn,fun i hi=>?_⟩,fun v x hx=>?_⟩
     ·have:=a s'[i] (List.getElem_mem (by omega))
      rw [←hs',If (List.getElem?_eq_getElem (show i<s'.length by omega))]
      simpa using this
     ·obtain⟨j,hj,rfl⟩:=List.getElem_of_mem hx
      have:=v.one j (by omega)
      rw [←hs',If (List.getElem?_eq_getElem hj)]at this
      simp [this]
 ·simp only [Bool.not_false,cT,At]
  exact AZ.no fun v=>vl v.lib
def Cl{α β:Type}(g:Nat->α->List β):Nat->List α->List β
 |_,[]=>[]
 |i,x::xs=>g i x++Cl g (i+1) xs
theorem Ir{α β:Type}{g:Nat->α->List β}:∀(xs ys:List α) (i:Nat),Cl g i (xs++ys)=Cl g i xs++Cl g (i+xs.length) ys
 |[],ys,i=>by simp [Cl]
 |x::xs,ys,i=>by simp only [List.cons_append,Cl,Ir xs ys (i+1),List.append_assoc,List.length_cons];rw [show i+1+xs.length=i+(xs.length+1) by omega]
theorem Ey{α β:Type}{g:Nat->α->List β}{xs:List α}{i:Nat}(h:i<xs.length):Cl g 0 (xs.take (i+1))=Cl g 0 (xs.take i)++g i xs[i]:=by
 rw [List.take_succ_eq_append_getElem h,Ir]
 simp [Cl,Nat.min_eq_left (Nat.le_of_lt h)]
theorem Ce{α β:Type}{g:Nat->α->List β}{c:Nat}:∀(xs:List α) (i:Nat),(∀j,∀x∈xs,(g j x).length<=c)->(Cl g i xs).length<=xs.length*c
 |[],i,_=>by simp [Cl]
 |x::xs,i,h=>by
  have h1:=h i x (by simp)
  have h2:=Ce xs (i+1) fun j y hy=>h j y (by simp [hy])
  simp only [Cl,List.length_append,List.length_cons,Nat.add_mul];omega
theorem Ln{α β γ:Type}{g:Nat->α->List β}(f:β->γ):∀(xs:List α) (i:Nat),(Cl g i xs).map f=Cl (fun i x=>(g i x).map f) i xs
 |[],i=>rfl
 |x::xs,i=>by simp only [Cl,List.map_append,Ln f xs (i+1)]
theorem CM{α β R:Type}{xs:List α}{L:Nat->List β->Int->Option R}{k:List β->Option R}(g:Nat->α->List β)(c B:Nat)(hg:∀j,∀x∈xs,(g j x).length<=c)(hB:B+xs.length*c<=1048576)
 (hs:∀(m i:Nat) (h:i<xs.length) (s:List β),s.length+c<=1048576->L (m+1) s (i:Int)=L m (s++g i xs[i]) ((i+1:Nat):Int))
 (he:∀(m:Nat) (s:List β),L (m+1) s (xs.length:Int)=k s) (m:Nat) (hm:xs.length<m) (s0:List β) (h0:s0.length<=B):L m s0 0=k (s0++Cl g 0 xs):=by
 refine loop (L:=fun m i s=>L m s i) xs.length (fun i s=>s=s0++Cl g 0 (xs.take i)) (fun o=>o=k (s0++Cl g 0 xs)) ?_ ?_ m 0 s0 (by omega) (by omega) (by simp [Cl])
 ·intro m i s hi e
  refine .inl ⟨s++g i xs[i],?_,hs m i hi s ?_⟩
  ·rw [e,Ey hi,List.append_assoc]
  ·have h1:=Ce (g:=g) (c:=c) (xs.take i) 0 fun j y hy=>hg j y (List.mem_of_mem_take hy)
   have h2:(xs.take i).length=i:=by simp;omega
   rw [h2]at h1
   have h3:(i+1)*c<=xs.length*c:=Nat.mul_le_mul_right c hi
   rw [Nat.add_mul]at h3
   rw [e,List.length_append];omega
 ·intro m s e
  rw [List.take_length]at e
  show L (m+1) s (xs.length:Int)=_
  rw [he,e]
def Ji(i:Nat)(x:Al):List Ar:=Cl (fun j q=>[Ar.mk i j q ((j:Int)==(x.Nets.length:Int)-1)]) 0 x.Nets
def PG(i:Nat)(p:BL):List Ar:=[Ar.mk (-1) i p.Net (p.Dir==1)]
def pls(d:AO):List Ar:=Cl Ji 0 d.Instances++Cl PG 0 d.Ports
def Dv(p:Ar):Av:=⟨p.instance_,p.pin_,p.net_,p.drives_⟩
theorem KI{i:Nat}{x:Al}(h:x.Nets.length<=5):(Ji i x).length<=5:=by
 have:=Ce (c:=1) (g:=fun j q=>[Ar.mk i j q ((j:Int)==(x.Nets.length:Int)-1)]) x.Nets 0 fun j q _=>by simp
 unfold Ji;omega
theorem CJ{d:AO}(h:∀x∈d.Instances,x.Nets.length<=5)(h1:d.Instances.length<=14)(h2:d.Ports.length<=8):(pls d).length<=78:=by
 have a:=Ce (c:=5) (g:=Ji) d.Instances 0 fun j q hq=>KI (h q hq)
 have b:=Ce (c:=1) (g:=PG) d.Ports 0 fun j q _=>by simp [PG]
 unfold pls;rw [List.length_append];omega
theorem SO{n:Nat}{d:AO}(h:∀x∈d.Instances,x.Nets.length<=5)(h1:d.Instances.length<=14)(h2:d.Ports.length<=8)(hn:1048577<=n):TZ n d=some (pls d):=by
 rw [TZ]
 have a:=Ce (c:=5) (g:=Ji) d.Instances 0 fun j q hq=>KI (h q hq)
 rw [CM (xs:=d.Instances) (L:=fun m s i=>Gl n d _ m s i) (k:=fun s=>Fp d _ n s 0) Ji 5 0 (fun j q hq=>KI (h q hq)) (by omega) (by
  intro m i hi s hs
  have hx:=h _ (List.getElem_mem hi)
  have wx:IntKind.wrap .i64 ((d.Instances[i].Nets.length:Int)-1)=(d.Instances[i].Nets.length:Int)-1:=Af (by omega) (by omega)
  simp only [Gl.eq_2,CR hi,cT,AS hi,At,wT i]
  refine CM (xs:=d.Instances[i].Nets) (L:=fun m s j=>IU (i:Int) d.Instances[i] _ m s j) (k:=fun s=>Gl n d _ m s ((i+1:Nat):Int)) (fun j q=>[Ar.mk i j q ((j:Int)==(d.Instances[i].Nets.length:Int)-1)]) 1 s.length (fun j q _=>by simp) (by omega) ?_ ?_ n (by omega) s (by omega)
  ·intro m j hj s hs
   simp only [IU.eq_2,CR hj,cT,AS hj,At,wx,wT j]
   rw [BC (by simp;omega) (by omega),At]
  ·intro m s
   simp only [IU.eq_2,Cb,cF]) (by
  intro m s
  simp only [Gl.eq_2,Cb,cF];rfl) n (by omega) [] (by simp)]
 rw [CM (xs:=d.Ports) (L:=fun m s i=>Fp d _ m s i) (k:=fun s=>some s) PG 1 70 (fun j q _=>by simp [PG]) (by omega) (by
  intro m i hi s hs
  simp only [Fp.eq_2,CR hi,cT,AS hi,At,wT i]
  rw [BC (by simp;omega) (by omega),At];rfl) (by
  intro m s
  simp only [Fp.eq_2,Cb,cF]) n (by omega) _ (by simp;omega)]
 simp [pls]
theorem LL{n:Nat}{d:AO}(h:∀x∈d.Instances,x.Nets.length<=5)(h1:d.Instances.length<=14)(h2:d.Ports.length<=8)(hn:1048577<=n):OA n d=some ((pls d).map Dv):=by
 rw [OA]
 have hlI:∀j,∀x∈d.Instances,((Ji j x).map Dv).length<=5:=fun j x hx=>by rw [List.length_map];exact KI (h x hx)
 have a:=Ce (c:=5) (g:=fun i x=>(Ji i x).map Dv) d.Instances 0 hlI
 rw [CM (xs:=d.Instances) (L:=fun m s i=>Gg n d _ m s i) (k:=fun s=>Fe d _ n s 0) (fun i x=>(Ji i x).map Dv) 5 0 hlI (by omega) (by
  intro m i hi s hs
  have hx:=h _ (List.getElem_mem hi)
  have wx:IntKind.wrap .i64 ((d.Instances[i].Nets.length:Int)-1)=(d.Instances[i].Nets.length:Int)-1:=Af (by omega) (by omega)
  simp only [Gg.eq_2,CR hi,cT,AS hi,At,wT i]
  rw [Ji,Ln]
  refine CM (xs:=d.Instances[i].Nets) (L:=fun m s j=>Ij (i:Int) d.Instances[i] _ m s j) (k:=fun s=>Gg n d _ m s ((i+1:Nat):Int)) (fun j q=>[Ar.mk i j q ((j:Int)==(d.Instances[i].Nets.length:Int)-1)].map Dv) 1 s.length (fun j q _=>by simp) (by omega) ?_ ?_ n (by omega) s (by omega)
  ·intro m j hj s hs
   simp only [Ij.eq_2,CR hj,cT,AS hj,At,wx,wT j]
   rw [BC (by simp;omega) (by omega),At];rfl
  ·intro m s
   simp only [Ij.eq_2,Cb,cF]) (by
  intro m s
  simp only [Gg.eq_2,Cb,cF];rfl) n (by omega) [] (by simp)]
 rw [CM (xs:=d.Ports) (L:=fun m s i=>Fe d _ m s i) (k:=fun s=>some s) (fun i x=>(PG i x).map Dv) 1 70 (fun j q _=>by simp [PG]) (by omega) (by
  intro m i hi s hs
  simp only [Fe.eq_2,CR hi,cT,AS hi,At,wT i]
  rw [BC (by simp;omega) (by omega),At];rfl) (by
  intro m s
  simp only [Fe.eq_2,Cb,cF]) n (by omega) _ (by simp;omega)]
 simp [pls,Ln]
def DZ(q:Int)(p:Ar):Bool:=p.net_==q&& !p.drives_
def QW(d:AO)(q:Int):Nat:=(pls d).countP (DZ q)
structure CW(b:AP):Prop where
 design:CC b.Library b.Design
 many:b.Wires.length=b.Design.Nets.length
 wire:∀i (h:i<b.Wires.length),MT b.Wires[i] (QW b.Design i)
def cV(w:BH):Prop:=((w.Parent.length<=1048576∧w.Res.length<=1048576)∧w.Cap.length<=1048576)∧w.Sink.length<=1048576
structure NJ(b:AP):Prop where
 lib:Ng b.Library
 design:RY b.Design
 wires:b.Wires.length<=1048576∧∀w∈b.Wires,cV w
theorem CC.short{l:Aq}{d:AO}(v:CC l d):∀x∈d.Instances,x.Nets.length<=5:=fun x hx=>((v.inst x hx).long v.lib).2
theorem Cw{α β:Type}{g:Nat->α->List β}{Q:β->Prop}:∀(xs:List α) (i:Nat),(∀j (h:j<xs.length),∀y∈g (i+j) xs[j],Q y)->∀y∈Cl g i xs,Q y
 |[],i,_,y,hy=>by simp [Cl]at hy
 |x::xs,i,h,y,hy=>by
  simp only [Cl,List.mem_append]at hy
  rcases hy with hy|hy
  ·exact h 0 (by simp) y (by simpa using hy)
  ·refine Cw xs (i+1) (fun j hj y hy=>h (j+1) (by simpa using hj) y ?_) y hy
   simpa [show i+1+j=i+(j+1) by omega] using hy
theorem CC.net{l:Aq}{d:AO}(v:CC l d):∀p∈pls d,0<=p.net_∧p.net_<d.Nets.length:=by
 intro p hp
 simp only [pls,List.mem_append]at hp
 rcases hp with hp|hp
 ·refine Cw (Q:=fun p:Ar=>0<=p.net_∧p.net_<d.Nets.length) d.Instances 0 (fun j hj y hy=>?_) p hp
  refine Cw (Q:=fun p:Ar=>0<=p.net_∧p.net_<d.Nets.length) _ 0 (fun k hk z hz=>?_) y hy
  have:=(v.inst _ (List.getElem_mem hj)).nets k hk
  rw [If (List.getElem?_eq_getElem hk)]at this
  simp only [List.mem_singleton]at hz
  subst hz;show 0<=d.Instances[j].Nets[k]∧d.Instances[j].Nets[k]<_;omega
 ·refine Cw (Q:=fun p:Ar=>0<=p.net_∧p.net_<d.Nets.length) d.Ports 0 (fun j hj y hy=>?_) p hp
  have:=(v.port _ (List.getElem_mem hj)).net
  simp only [PG,List.mem_singleton]at hy
  subst hy;show 0<=d.Ports[j].Net∧d.Ports[j].Net<_;omega
def EC(d:AO)(q:Int):List Int:=Cl (fun i p=>if DZ q p=true then [(i:Int)]else []) 0 (pls d)
theorem EO{d:AO}{q:Int}:(EC d q).length=QW d q:=by
 have:∀(xs:List Ar) (i:Nat),(Cl (fun i p=>if DZ q p=true then [(i:Int)]else []) i xs).length=xs.countP (DZ q):=by
  intro xs
  induction xs with
  |nil=>intro i;rfl
  |cons x xs ih=>
   intro i
   simp only [Cl,List.length_append,ih,List.countP_cons]
   split<;>simp<;>omega
 exact this _ 0
theorem UT{n:Nat}{l:Aq}{d:AO}(v:CC l d)(q:Int)(hn:1048577<=n):Ri n d q=some (EC d q):=by
 rw [Ri,LL v.short v.few.1 v.few.2.2 hn,At]
 have hl:=CJ v.short v.few.1 v.few.2.2
 have e:((pls d).map Dv).length=(pls d).length:=by simp
 have:=CM (xs:=(pls d).map Dv) (L:=fun m s i=>Eo q ((pls d).map Dv) (fun l38 i42=>some l38) m s i) (k:=fun s=>some s) (fun i p=>if (p.net_==q&& !p.drives_)=true then [(i:Int)]else []) 1 0 (fun j p _=>by split<;>simp) (by omega) (by
  intro m i hi s hs
  simp only [Eo.eq_2,CR hi,cT,AS hi,At,Ca,wT i]
  cases c:(((pls d).map Dv)[i].net_==q&& !((pls d).map Dv)[i].drives_)with
  |true=>rw [cT,if_pos rfl,BC (by simp;omega) (by omega),At]
  |false=>rw [cF,if_neg (by simp),List.append_nil]) (by
  intro m s
  simp only [Eo.eq_2,Cb,cF]) n (by omega) [] (by simp)
 rw [this,List.nil_append]
 congr 1
 have:∀(xs:List Ar) (i:Nat),Cl (fun i (p:Av)=>if (p.net_==q&& !p.drives_)=true then [(i:Int)]else []) i (xs.map Dv)=Cl (fun i p=>if DZ q p=true then [(i:Int)]else []) i xs:=by
  intro xs
  induction xs with
  |nil=>intro i;rfl
  |cons x xs ih=>intro i;simp only [List.map_cons,Cl,ih];rfl
 exact this _ 0
theorem Zj{n:Nat}{b:AP}(h:NJ b)(hn:1048577<=n):AZ (CW b) (Ot n b):=by
 have hw0:=h.wires.1
 rw [Ot]
 refine(cH h.lib h.design hn).bind (fun v=>?_) (fun v=>?_)
 ·simp only [Bool.not_true,Bool.false_or]
  refine AZ.bif (fun c=>AZ.no fun g=>?_) (fun c=>?_)
  ·have:=g.many;rw [bne_iff_ne]at c;omega
  ·rw [bne_eq_false_iff_eq]at c
   refine(Dm (L:=fun m i=>Gw n b _ m i) (Q:=True) b.Wires.length 0 (fun i=>∀(hi:i<b.Wires.length),MT b.Wires[i] (QW b.Design i)) ?_ ?_ n 0 (by omega) (by omega) (by omega) (fun j _ h=>by omega)).iff ⟨fun a=>⟨v,by omega,fun i hi=>a.1 i (by omega) hi hi⟩,fun a=>⟨fun i _ _ hi=>a.wire i hi,trivial⟩⟩
   ·intro m i _ hi
    obtain⟨r,e,hr⟩:=dC (n:=n) (w:=b.Wires[i]) (s:=(QW b.Design i:Int)) (h.wires.2 _ (List.getElem_mem hi)).2 hn
    simp only [Gw.eq_2,CR hi,cT,AS hi,At,UT v _ hn,EO,e,wT i]
    cases r with
    |true=>exact .inl ⟨fun _=>hr.1 rfl,by trivial⟩
    |false=>exact .inr ⟨fun g=>(by have:=hr.2 (g hi);cases this),by trivial⟩
   ·intro m i h1 h2 _
    obtain rfl:i=b.Wires.length:=by omega
    simp only [Gw.eq_2,Cb,cF]
    exact AZ.yes trivial
 ·simp only [Bool.not_false,Bool.true_or,cT]
  exact AZ.no fun g=>v g.design
theorem cE{n:Nat}{b:AP}(h:NJ b)(hn:1048577<=n):AZ (CW b) (WH n b):=by
 have hw0:=h.wires.1
 rw [WH]
 refine(bW h.lib h.design hn).bind (fun v=>?_) (fun v=>?_)
 ·simp only [Bool.not_true,Bool.false_or]
  refine AZ.bif (fun c=>AZ.no fun g=>?_) (fun c=>?_)
  ·have:=g.many;rw [bne_iff_ne]at c;omega
  ·rw [bne_eq_false_iff_eq]at c
   have hl:=CJ v.short v.few.1 v.few.2.2
   rw [EU (by omega) (by omega),At,SO v.short v.few.1 v.few.2.2 hn,At]
   refine loop (L:=fun m i s=>Hd (pls b.Design) _ m i s) (pls b.Design).length (fun i s=>Oq b.Wires.length i s∧∀q:Nat,q<b.Wires.length->gd s q=((pls b.Design).take i).countP (DZ q)) (fun o=>AZ (CW b) o) ?_ ?_ n 0 _ (by omega) (by omega) ⟨⟨by simp,fun j=>by rw [KU];omega⟩,fun q _=>by rw [KU];simp⟩
   ·intro m i s hi ⟨hc,hs⟩
    have hp:=v.net _ (List.getElem_mem hi)
    obtain⟨g1,g2⟩:=hc.step hp.1 (by omega) (by omega)
    simp only [Hd.eq_2,CR hi,cT,AS hi,At,g1,g2,wT i]
    cases hd:(pls b.Design)[i].drives_ with
    |true=>
     simp only [Bool.not_true,cF]
     refine .inl ⟨s,⟨hc.up,fun q hq=>?_⟩,rfl⟩
     rw [hs q hq,List.take_succ_eq_append_getElem hi,List.countP_append]
     simp [DZ,hd]
    |false=>
     simp only [Bool.not_false,cT]
     refine .inl ⟨_,⟨hc.bump hp.1 (by omega),fun q hq=>?_⟩,rfl⟩
     rw [List.take_succ_eq_append_getElem hi,List.countP_append]
     unfold Fy
     rw [Je (by have:=hc.1;omega)]
     by_cases e:(pls b.Design)[i].net_.toNat=q
     ·have e2:(pls b.Design)[i].net_=(q:Int):=by omega
      rw [if_pos e,e,hs q hq]
      simp [DZ,hd,e2]
     ·have e2:¬(pls b.Design)[i].net_=(q:Int):=by omega
      rw [if_neg e,hs q hq]
      simp [DZ,hd,e2]
   ·intro m s ⟨hc,hs⟩
    simp only [Hd.eq_2,Cb,cF]
    refine(Dm (L:=fun m i=>HK n b s _ m i) (Q:=True) b.Wires.length 0 (fun i=>∀(hi:i<b.Wires.length),MT b.Wires[i] (QW b.Design i)) ?_ ?_ n 0 (by omega) (by omega) (by omega) (fun j _ h=>by omega)).iff ⟨fun a=>⟨v,by omega,fun i hi=>a.1 i (by omega) hi hi⟩,fun a=>⟨fun i _ _ hi=>a.wire i hi,trivial⟩⟩
    ·intro m i _ hi
     have hw:=h.wires.2 _ (List.getElem_mem hi)
     obtain⟨r,e,hr⟩:=bM (n:=n) (w:=b.Wires[i]) (s:=(QW b.Design i:Int)) hw.2 hw.1.1.2 hw.1.2 hw.1.1.1 hn
     have hg:gd s i=(QW b.Design i:Int):=by rw [hs i hi,List.take_length];rfl
     simp only [HK.eq_2,CR hi,cT,AS hi,gI (show i<s.length by rw [hc.1];exact hi),hg,At,e,wT i]
     cases r with
     |true=>exact .inl ⟨fun _=>hr.1 rfl,by trivial⟩
     |false=>exact .inr ⟨fun g=>(by have:=hr.2 (g hi);cases this),by trivial⟩
    ·intro m i h1 h2 _
     obtain rfl:i=b.Wires.length:=by omega
     simp only [HK.eq_2,Cb,cF]
     exact AZ.yes trivial
 ·simp only [Bool.not_false,Bool.true_or,cT]
  exact AZ.no fun g=>v g.design
theorem GA{σ R:Type}{Q:R->Prop}{L:Nat->Int->σ->Option R}(N:Nat)(I:Nat->σ->Prop)
 (hs:∀(m i:Nat) (st:σ),i<N->I i st->∃st',I (i+1) st'∧L (m+1) (i:Int) st=L m ((i+1:Nat):Int) st')
 (he:∀(m:Nat) (st:σ),I N st->BZ Q (L (m+1) (N:Int) st)) (m:Nat) (st:σ) (hm:N<m) (h:I 0 st):BZ Q (L m 0 st):=
 loop N I (BZ Q) (fun m i st a b=>.inl (hs m i st a b)) he m 0 st (by omega) (by omega) h
theorem Ou{σ R:Type}{Q:R->Prop}{L:Nat->Int->σ->Option R}(s N:Nat)(I:Nat->σ->Prop)
 (hs:∀(m i:Nat) (st:σ),s<=i->i<N->I i st->∃st',I (i+1) st'∧L (m+1) (i:Int) st=L m ((i+1:Nat):Int) st')
 (he:∀(m:Nat) (st:σ),I N st->BZ Q (L (m+1) (N:Int) st)) (m:Nat) (st:σ) (hsN:s<=N) (hm:N<m) (h:I s st):BZ Q (L m (s:Int) st):=
 loop N (fun i st=>s<=i∧I i st) (BZ Q) (fun m i st a b=>by
  obtain⟨st',h1,h2⟩:=hs m i st b.1 a b.2
  exact .inl ⟨st',⟨by have:=b.1;omega,h1⟩,h2⟩) (fun m st h=>he m st h.2) m s st hsN (by omega) ⟨Nat.le_refl _,h⟩
theorem ZH{n:Nat}{l:Aq}{d:AO}(v:CC l d)(q:Int)(hn:1048577<=n):Ps n d q=some (EC d q):=by
 rw [Ps,SO v.short v.few.1 v.few.2.2 hn,At]
 have hl:=CJ v.short v.few.1 v.few.2.2
 have:=CM (xs:=pls d) (L:=fun m s i=>FL q (pls d) (fun l29 i33=>some l29) m s i) (k:=fun s=>some s) (fun i p=>if DZ q p=true then [(i:Int)]else []) 1 0 (fun j p _=>by split<;>simp) (by omega) (by
  intro m i hi s hs
  simp only [FL.eq_2,CR hi,cT,AS hi,At,wT i]
  rw [show((pls d)[i].net_==q&& !(pls d)[i].drives_)=DZ q (pls d)[i]from rfl]
  cases c:DZ q (pls d)[i]with
  |true=>rw [cT,if_pos rfl,BC (by simp;omega) (by omega),At]
  |false=>rw [cF,if_neg (by simp),List.append_nil]) (by
  intro m s
  simp only [FL.eq_2,Cb,cF]) n (by omega) [] (by simp)
 rw [this,List.nil_append];rfl
theorem HH{d:AO}{q:Int}:∀x∈EC d q,0<=x∧x<(pls d).length:=by
 refine Cw (Q:=fun x:Int=>0<=x∧x<(pls d).length) _ 0 fun j hj y hy=>?_
 split at hy
 ·simp only [Nat.zero_add,List.mem_singleton]at hy;omega
 ·cases hy
theorem CC.place{l:Aq}{d:AO}(v:CC l d):∀p∈pls d,0<=p.instance_->∃x c pin,AM d.Instances p.instance_=some x∧AM l.Cells x.Cell=some c∧AM c.Pins p.pin_=some pin:=by
 intro p hp
 simp only [pls,List.mem_append]at hp
 rcases hp with hp|hp
 ·refine Cw (Q:=fun p:Ar=>0<=p.instance_->∃x c pin,AM d.Instances p.instance_=some x∧AM l.Cells x.Cell=some c∧AM c.Pins p.pin_=some pin) d.Instances 0 (fun j hj y hy=>?_) p hp
  refine Cw (Q:=fun p:Ar=>0<=p.instance_->∃x c pin,AM d.Instances p.instance_=some x∧AM l.Cells x.Cell=some c∧AM c.Pins p.pin_=some pin) _ 0 (fun k hk z hz=>?_) y hy
  have vi:=v.inst _ (List.getElem_mem hj)
  simp only [Nat.zero_add,List.mem_singleton]at hz
  subst hz
  intro _
  obtain⟨c,ec,_⟩:=Dj (xs:=l.Cells) vi.cell.1 (by have:=vi.cell.2;omega)
  have hc:=vi.pins c ec
  exact⟨_,c,_,AS hj,ec,AS (show k<c.Pins.length by omega)⟩
 ·refine Cw (Q:=fun p:Ar=>0<=p.instance_->∃x c pin,AM d.Instances p.instance_=some x∧AM l.Cells x.Cell=some c∧AM c.Pins p.pin_=some pin) d.Ports 0 (fun j hj y hy=>?_) p hp
  simp only [PG,List.mem_singleton]at hy
  subst hy;intro h;exact absurd h (by show¬(0:Int)<= -1;decide)
theorem Zg{n:Nat}{l:Aq}{d:AO}(v:CC l d){p:Ar}(hp:p∈pls d):∃r,RK n d l p=some r:=by
 rw [RK]
 by_cases c:p.instance_<0
 ·rw [decide_eq_true c,cT];exact⟨_,rfl⟩
 ·obtain⟨x,c',pin,e1,e2,e3⟩:=v.place p hp (by omega)
  rw [decide_eq_false c,cF,e1,At,e2,At,e3,At];exact⟨_,rfl⟩
theorem EL{t:List Int}{i:Int}(h0:0<=i)(h1:i<t.length):∃x,AM t i=some x:=⟨_,OQ h0 h1⟩
theorem aS{n:Nat}{b:AP}(v:CW b){i:Nat}(hi:i<b.Wires.length)(hn:1048577<=n):BZ (fun r=>r.length=b.Wires[i].Parent.length) (Uz n b (i:Int)):=by
 have vd:=v.design
 have vw:=v.wire i hi
 have hm:=vw.many
 have hP:=vw.cap
 have hl:=CJ vd.short vd.few.1 vd.few.2.2
 rw [Uz,AS hi,At,NI,BC (by simp;omega) (by omega),At,At,SO vd.short vd.few.1 vd.few.2.2 hn,At,ZH vd _ hn,At,List.nil_append]
 have hsl:(EC b.Design (i:Int)).length=b.Wires[i].Sink.length:=by rw [EO];have:=vw.sink;omega
 have hsn:QW b.Design (i:Int)<=78:=Nat.le_trans List.countP_le_length hl
 have hsn2:=EO (d:=b.Design) (q:=(i:Int))
 refine GA (L:=fun m j s=>In n b b.Wires[i] (pls b.Design) (EC b.Design (i:Int)) _ m j s) (EC b.Design (i:Int)).length (fun _ s=>s.length=b.Wires[i].Parent.length) ?_ ?_ n _ (by omega) hP
 ·intro m j s hj hs
  have hj2:j<b.Wires[i].Sink.length:=by omega
  have hk:=vw.sinks j hj2
  have hq:=HH _ (List.getElem_mem hj)
  obtain⟨a,ea⟩:=EL (t:=s) hk.1 (by omega)
  obtain⟨p,ep,hp⟩:=Dj (xs:=pls b.Design) hq.1 hq.2
  obtain⟨r,er⟩:=Zg (n:=n) vd (List.mem_of_getElem? hp)
  simp only [In.eq_2,CR hj,cT,AS hj,gI hj2,At,ea,ep,er,wT j]
  exact⟨_,by simpa using hs,rfl⟩
 ·intro m s hs
  simp only [In.eq_2,Cb,cF]
  have wx:IntKind.wrap .i64 ((s.length:Int)-1)=((s.length-1:Nat):Int):=by rw [Af (by omega) (by omega)];omega
  rw [wx]
  have key:∀(m k:Nat) (s:List Int),k<b.Wires[i].Parent.length->s.length=b.Wires[i].Parent.length->k<m->BZ (fun r:List Int=>r.length=b.Wires[i].Parent.length) (HR b.Wires[i] (fun i91 l93=>some l93) m (k:Int) s):=by
   intro m
   induction m with
   |zero=>intro k s _ _ h;omega
   |succ m ih=>
    intro k s hk hs hm
    by_cases c:0<k
    ·have hd:decide ((k:Int)>0)=true:=decide_eq_true (by omega)
     have ht:=vw.tree k c hk
     obtain⟨a,ea⟩:=EL (t:=s) ht.1 (by omega)
     have wk:IntKind.wrap .i64 ((k:Int)-1)=((k-1:Nat):Int):=by rw [Af (by omega) (by omega)];omega
     simp only [HR.eq_2,hd,cT,gI hk,At,ea,gI (show k<s.length by omega),wk]
     exact ih (k-1) _ (by omega) (by simpa using hs) (by omega)
    ·have hd:decide ((k:Int)>0)=false:=decide_eq_false (by omega)
     simp only [HR.eq_2,hd,cF]
     exact⟨s,rfl,hs⟩
  exact key n (s.length-1) s (by omega) hs (by omega)
theorem dL{n:Nat}{b:AP}(v:CW b){i:Nat}(hi:i<b.Wires.length)(hn:1048577<=n):BZ (fun r=>r.length=b.Wires[i].Parent.length) (Qn n b (i:Int)):=by
 have vw:=v.wire i hi
 have hm:=vw.many
 have hR:=vw.res
 rw [Qn,AS hi,At]
 refine(aS v hi hn).bind fun r e hr=>?_
 rw [EU (by omega) (by omega),At]
 refine Ou (L:=fun m j s=>GM b.Wires[i] r _ m j s) 1 b.Wires[i].Parent.length (fun _ s=>s.length=b.Wires[i].Parent.length) ?_ ?_ n _ (by omega) (by omega) (by simpa using hr)
 ·intro m j s h1 hj hs
  have ht:=vw.tree j (by omega) hj
  obtain⟨a,ea⟩:=EL (t:=s) ht.1 (by omega)
  simp only [GM.eq_2,CR (show j<s.length by omega),cT,gI hj,gI (show j<b.Wires[i].Res.length by omega),gI (show j<r.length by omega),gI (show j<s.length by omega),At,ea,wT j]
  exact⟨_,by simpa using hs,rfl⟩
 ·intro m s hs
  rw [←hs]
  simp only [GM.eq_2,Cb,cF]
  exact⟨s,rfl,rfl⟩
theorem bC{n:Nat}{b:AP}(v:CW b){i:Nat}(hi:i<b.Wires.length)(hn:1048577<=n):BZ (fun _=>True) (Py n b (i:Int)):=by
 have vw:=v.wire i hi
 have vd:=v.design
 have hl:=CJ vd.short vd.few.1 vd.few.2.2
 have hsn:QW b.Design (i:Int)<=78:=Nat.le_trans List.countP_le_length hl
 have hsk:=vw.sink
 rw [Py]
 refine(dL v hi hn).bind fun r e hr=>?_
 rw [AS hi,At]
 refine GA (L:=fun m j s=>GI r b.Wires[i] _ m s j) b.Wires[i].Sink.length (fun j s=>s.length=j) ?_ ?_ n _ (by omega) rfl
 ·intro m j s hj hs
  have hk:=vw.sinks j hj
  obtain⟨a,ea⟩:=EL (t:=r) hk.1 (by omega)
  refine⟨s++[a],by simp;omega,?_⟩
  simp only [GI.eq_2,CR hj,cT,gI hj,At,ea,wT j]
  rw [BC (by simp;omega) (by omega),At]
 ·intro m s hs
  simp only [GI.eq_2,Cb,cF]
  exact⟨s,rfl,trivial⟩
def Kk(b:AP):Int:=2*((pls b.Design).length:Int)
theorem Zc{xs:List Int}{i:Nat}(h:i<xs.length):gd xs i=xs[i]:=If (by simp [h])
theorem HN{α β:Type}(h:Nat->α->β):∀(xs:List α) (s j:Nat),(Cl (fun j q=>[h j q]) s xs)[j]? =(xs[j]?).map (h (s+j))
 |[],s,j=>by simp [Cl]
 |x::xs,s,0=>by simp [Cl]
 |x::xs,s,j+1=>by
  have:=HN h xs (s+1) j
  simp only [Cl,List.singleton_append,List.getElem?_cons_succ,this]
  rw [show s+1+j=s+(j+1) by omega]
structure Lf{α:Type}(f:α->Bool)(ys:List α)(k:Nat):Prop where
 hit:∃y,ys[k]? =some y∧f y=true
 miss:∀j y,j<k->ys[j]? =some y->f y=false
theorem Lf.lt{α:Type}{f:α->Bool}{ys:List α}{k:Nat}(h:Lf f ys k):k<ys.length:=by
 obtain⟨y,e,_⟩:=h.hit
 exact(List.getElem?_eq_some_iff.1 e).1
def Cz(d:AO)(i:Nat):Nat:=(Cl Ji 0 (d.Instances.take i)).length
def QC(i q:Int)(p:Ar):Bool:=(p.instance_==i)&&(p.pin_==q)
theorem Sv{d:AO}{i:Nat}(hi:i<d.Instances.length):∃C,pls d=Cl Ji 0 (d.Instances.take i)++(Ji i d.Instances[i]++C):=by
 refine⟨Cl Ji (i+1) (d.Instances.drop (i+1))++Cl PG 0 d.Ports,?_⟩
 have e:d.Instances=d.Instances.take i++(d.Instances[i]::d.Instances.drop (i+1)):=by
  rw [←List.drop_eq_getElem_cons hi,List.take_append_drop]
 have e2:Cl Ji 0 d.Instances=Cl Ji 0 (d.Instances.take i)++(Ji i d.Instances[i]++Cl Ji (i+1) (d.Instances.drop (i+1))):=by
  conv=>lhs;rw [e]
  rw [Ir]
  simp [Cl,Nat.min_eq_left (Nat.le_of_lt hi)]
 unfold pls
 rw [e2];simp
theorem En{d:AO}{i q:Nat}(hi:i<d.Instances.length)(hq:q<d.Instances[i].Nets.length):Lf (QC i q) (pls d) (Cz d i+q):=by
 obtain⟨C,e⟩:=Sv hi
 have hp:∀j:Nat,(Ji i d.Instances[i])[j]? =(d.Instances[i].Nets[j]?).map fun x=>Ar.mk i j x ((j:Int)==(d.Instances[i].Nets.length:Int)-1):=by
  intro j
  have:=HN (fun j q=>Ar.mk i j q ((j:Int)==(d.Instances[i].Nets.length:Int)-1)) d.Instances[i].Nets 0 j
  rw [Nat.zero_add]at this
  exact this
 have hl:(Ji i d.Instances[i]).length=d.Instances[i].Nets.length:=by
  apply Nat.le_antisymm
  ·apply Nat.le_of_not_lt
   intro h
   have:=hp d.Instances[i].Nets.length
   rw [List.getElem?_eq_getElem h]at this
   simp at this
  ·apply Nat.le_of_not_lt
   intro h
   have:=hp (Ji i d.Instances[i]).length
   rw [List.getElem?_eq_getElem h]at this
   simp at this
 have hA:∀y∈Cl Ji 0 (d.Instances.take i),y.instance_<(i:Int):=by
  refine Cw (Q:=fun p:Ar=>p.instance_<(i:Int)) _ 0 (fun j hj y hy=>?_)
  have hji:j<i:=by simp at hj;omega
  refine Cw (Q:=fun p:Ar=>p.instance_<(i:Int)) _ 0 (fun k hk z hz=>?_) y hy
  simp only [List.mem_singleton]at hz
  subst hz
  show((0+j:Nat):Int)<i
  omega
 refine⟨⟨Ar.mk i q d.Instances[i].Nets[q] ((q:Int)==(d.Instances[i].Nets.length:Int)-1),?_,by simp [QC]⟩,?_⟩
 ·rw [e,Cz,List.getElem?_append_right (by omega),Nat.add_sub_cancel_left,List.getElem?_append_left (by omega),hp,List.getElem?_eq_getElem hq];rfl
 ·intro j y hj hy
  rw [e]at hy
  by_cases c:j<(Cl Ji 0 (d.Instances.take i)).length
  ·rw [List.getElem?_append_left c]at hy
   have:=hA y (List.mem_of_getElem? hy)
   simp only [QC,Bool.and_eq_false_iff,beq_eq_false_iff_ne];left;omega
  ·unfold Cz at hj
   rw [List.getElem?_append_right (by omega),List.getElem?_append_left (by omega),hp]at hy
   obtain⟨x,_,rfl⟩:=Option.map_eq_some_iff.1 hy
   simp only [QC,Bool.and_eq_false_iff,beq_eq_false_iff_ne];right
   show((j-(Cl Ji 0 (d.Instances.take i)).length:Nat):Int)≠q
   omega
theorem VR{n:Nat}{l:Aq}{d:AO}(v:CC l d){i q:Nat}(hi:i<d.Instances.length)(hq:q<d.Instances[i].Nets.length)(hn:1048577<=n):PD n d (i:Int) (q:Int)=some ((Cz d i+q:Nat):Int):=by
 have f:=En hi hq
 have hl:=CJ v.short v.few.1 v.few.2.2
 have fl:=f.lt
 rw [PD,LL v.short v.few.1 v.few.2.2 hn,At]
 refine loop (L:=fun m j (_:Unit)=>FN (i:Int) (q:Int) ((pls d).map Dv) (fun i26=>(some (-1))) m j) (Cz d i+q+1) (fun j _=>j<=Cz d i+q) (fun o=>o=some ((Cz d i+q:Nat):Int)) ?_ ?_ n 0 () (by omega) (by omega) (by omega)
 ·intro m j _ hj hI
  have hjl:j<(pls d).length:=by omega
  have hjm:j<((pls d).map Dv).length:=by simpa using hjl
  have hg:AM ((pls d).map Dv) (j:Int)=some (Dv (pls d)[j]):=by rw [AS hjm];simp
  have hb:(Option.bind (bif ((Dv (pls d)[j]).instance_==(i:Int))then some ((Dv (pls d)[j]).pin_==(q:Int))else some false) fun c35=>(bif c35 then(some (j:Int))else(FN (i:Int) (q:Int) ((pls d).map Dv) (fun i26=>(some (-1))) m (IntKind.wrap .i64 ((j:Int)+1)))))=(bif QC i q (pls d)[j]then some (j:Int)else FN (i:Int) (q:Int) ((pls d).map Dv) (fun i26=>(some (-1))) m ((j+1:Nat):Int)):=by
   rw [wT j,Ca,At];rfl
  simp only [FN.eq_2,CR hjm,cT,hg,At]
  rw [hb]
  by_cases c:j=Cz d i+q
  ·obtain⟨y,e,hy⟩:=f.hit
   rw [←c,List.getElem?_eq_getElem hjl]at e
   obtain rfl:=Option.some.inj e
   rw [hy,cT,←c];exact .inr rfl
  ·have:=f.miss j _ (by omega) (List.getElem?_eq_getElem hjl)
   rw [this,cF];exact .inl ⟨(),by omega,rfl⟩
 ·intro m _ hI
  omega
theorem CC.inst_at{l:Aq}{d:AO}(v:CC l d){i:Nat}(hi:i<d.Instances.length):∃k,∃h:k<l.Cells.length,d.Instances[i].Cell=(k:Int)∧AM l.Cells d.Instances[i].Cell=some l.Cells[k]∧d.Instances[i].Nets.length=l.Cells[k].Pins.length∧KX l.Cells[k]:=by
 have x:=v.inst _ (List.getElem_mem hi)
 obtain⟨k,hk⟩:=Int.eq_ofNat_of_zero_le x.cell.1
 have hk:d.Instances[i].Cell=(k:Int):=hk
 have h:k<l.Cells.length:=by have:=x.cell.2;omega
 have g:AM l.Cells d.Instances[i].Cell=some l.Cells[k]:=by rw [hk];exact AS h
 exact⟨k,h,hk,g,x.pins _ g,v.lib.cells k h⟩
theorem wk{k:Int}(h0:0<=k)(h1:k<=2305843009213693952):IntKind.wrap .i64 (k+1)=k+1:=Af (by omega) (by omega)
def GS(b:AP)(x:Al):List BJ:=match AM b.Library.Cells x.Cell with
 |some c=>c.Arcs
 |none=>[]
def DI(q:Int)(p:Ar):Bool:=p.net_==q&&p.drives_
theorem OX(i:Nat)(q L:Int):∀(xs:List Int) (s:Nat),xs≠[]->L=((s+xs.length:Nat):Int)-1->((Cl (fun j n=>[Ar.mk i j n ((j:Int)==L)]) s xs).countP (DI q):Int)=if gd xs (xs.length-1)=q then 1 else 0
 |[],_,h,_=>absurd rfl h
 |[x],s,_,hL=>by
  have e:((s:Int)==L)=true:=by rw [beq_iff_eq,hL];simp
  simp only [Cl,List.append_nil,e]
  by_cases c:x=q
  ·subst c;simp [DI,gd]
  ·have:(x==q)=false:=by rw [beq_eq_false_iff_ne];exact c
   simp [DI,gd,this,c]
 |x::y::zs,s,_,hL=>by
  have ih:=OX i q L (y::zs) (s+1) (by simp) (by rw [hL];simp only [List.length_cons];omega)
  have e:((s:Int)==L)=false:=by rw [beq_eq_false_iff_ne,hL];simp only [List.length_cons];omega
  rw [Cl,List.countP_append]
  have h0:List.countP (DI q) [Ar.mk i s x ((s:Int)==L)]=0:=by simp [DI,e]
  rw [h0,Nat.zero_add,ih]
  simp [gd]
theorem QI{q:Nat}{N:Nat}(hq:q<N):∀(xs:List Al) (t:List Int) (s:Nat),t.length=N->(∀x∈xs,x.Nets≠[]∧0<=HP x∧HP x<N)->gd (xs.foldl cI t) q=gd t q+((Cl Ji s xs).countP (DI q):Int)∧(xs.foldl cI t).length=N
 |[],t,s,ht,_=>by simp [Cl,ht]
 |x::xs,t,s,ht,hx=>by
  obtain⟨x1,x2,x3⟩:=hx x (by simp)
  obtain⟨h1,h2⟩:=QI hq xs (cI t x) (s+1) (by unfold cI Fy;simpa using ht) fun y hy=>hx y (by simp [hy])
  refine⟨?_,h2⟩
  rw [List.foldl_cons,h1,Cl,List.countP_append]
  have hc:=OX s q ((x.Nets.length:Int)-1) x.Nets 0 x1 (by simp)
  have hc:((Ji s x).countP (DI q):Int)=if gd x.Nets (x.Nets.length-1)=q then 1 else 0:=hc
  have hb:gd (cI t x) q=gd t q+if gd x.Nets (x.Nets.length-1)=q then 1 else 0:=by
   have hl:HP x=gd x.Nets (x.Nets.length-1):=rfl
   unfold cI Fy
   rw [Je (by omega),←hl]
   by_cases c:HP x=q
   ·rw [if_pos (by omega),if_pos c];have:(HP x).toNat=q:=by omega
    rw [this]
   ·rw [if_neg (by omega),if_neg c];omega
  rw [hb];push_cast;omega
theorem Pj{q:Nat}{N:Nat}(hq:q<N):∀(xs:List BL) (t:List Int) (s:Nat),t.length=N->(∀x∈xs,0<=x.Net∧x.Net<N)->gd (xs.foldl cP t) q=gd t q+((Cl PG s xs).countP (DI q):Int)
 |[],t,s,ht,_=>by simp [Cl]
 |x::xs,t,s,ht,hx=>by
  obtain⟨x2,x3⟩:=hx x (by simp)
  have h1:=Pj hq xs (cP t x) (s+1) (by unfold cP Fy;split<;>simpa using ht) fun y hy=>hx y (by simp [hy])
  rw [List.foldl_cons,h1,Cl,List.countP_append]
  have hb:gd (cP t x) q=gd t q+((PG s x).countP (DI q):Int):=by
   unfold cP PG
   by_cases d:x.Dir=1
   ·have:(x.Dir==1)=true:=by rw [beq_iff_eq];exact d
    rw [if_pos d];unfold Fy
    rw [Je (by omega)]
    by_cases c:x.Net=q
    ·have e:(x.Net==(q:Int))=true:=by rw [beq_iff_eq];exact c
     have e2:x.Net.toNat=q:=by omega
     rw [if_pos e2,e2];simp [DI,this,e]
    ·have e:(x.Net==(q:Int))=false:=by rw [beq_eq_false_iff_ne];exact c
     rw [if_neg (by omega)];simp [DI,this,e]
   ·have:(x.Dir==1)=false:=by rw [beq_eq_false_iff_ne];exact d
    rw [if_neg d];simp [DI,this]
  rw [hb];push_cast;omega
theorem SR{l:Aq}{d:AO}(v:CC l d){q:Nat}(hq:q<d.Nets.length):(pls d).countP (DI q)=1:=by
 obtain⟨h1,h2⟩:=QI (N:=d.Nets.length) hq d.Instances (List.replicate d.Nets.length 0) 0 (by simp) fun x hx=>by
  have a:=(v.inst x hx).long v.lib
  have b:=(v.inst x hx).last v.lib
  exact⟨fun e=>by rw [e]at a;simp at a,b⟩
 have h3:=Pj (N:=d.Nets.length) hq d.Ports _ 0 h2 fun x hx=>by have:=(v.port x hx).net;omega
 have h4:=v.one q hq
 unfold RH at h4
 rw [h3,h1,KU]at h4
 unfold pls
 rw [List.countP_append];omega
theorem LY{α:Type}(f:α->Bool):∀(xs:List α),xs.countP f=1->∃k,∃h:k<xs.length,f xs[k]=true∧∀j (h:j<xs.length),f xs[j]=true->j=k
 |[],h=>by simp at h
 |x::xs,h=>by
  rw [List.countP_cons]at h
  by_cases c:f x=true
  ·have h0:xs.countP f=0:=by simpa [c] using h
   refine⟨0,by simp,c,fun j hj hf=>?_⟩
   cases j with
   |zero=>rfl
   |succ j=>
    have hf:f (xs[j]'(by simpa using hj))=true:=hf
    rw [List.countP_eq_zero]at h0
    exact absurd hf (h0 _ (List.getElem_mem _))
  ·have h0:xs.countP f=1:=by simpa [c] using h
   obtain⟨k,hk,a,b⟩:=LY f xs h0
   refine⟨k+1,by simpa using hk,by simpa using a,fun j hj hf=>?_⟩
   cases j with
   |zero=>exact absurd hf c
   |succ j=>rw [b j (by simpa using hj) (by simpa using hf)]
def El(d:AO)(q:Nat):Nat:=(pls d).findIdx (DI q)
structure XL(d:AO)(q k:Nat):Prop where
 lt:k<(pls d).length
 hit:DI q (pls d)[k]=true
 only:∀j (h:j<(pls d).length),DI q (pls d)[j]=true->j=k
theorem JY{l:Aq}{d:AO}(v:CC l d){q:Nat}(hq:q<d.Nets.length):XL d q (El d q):=by
 obtain⟨k,hk,a,b⟩:=LY _ _ (SR v hq)
 have:El d q=k:=by
  unfold El
  rw [List.findIdx_eq hk]
  refine⟨a,fun j hj=>?_⟩
  cases c:DI q ((pls d)[j]'(by omega))with
  |false=>rfl
  |true=>have:=b j (by omega) c;omega
 rw [this];exact⟨hk,a,b⟩
theorem Xt{n:Nat}{l:Aq}{d:AO}(v:CC l d){q:Nat}(hq:q<d.Nets.length)(hn:1048577<=n):QH n d (q:Int)=some (El d q:Int):=by
 have hd:=JY v hq
 have hl:=CJ v.short v.few.1 v.few.2.2
 rw [QH,LL v.short v.few.1 v.few.2.2 hn,At]
 have hk:=hd.lt
 refine loop (L:=fun m i (_:Unit)=>Ho (q:Int) ((pls d).map Dv) (fun i26=>some (-1)) m i) ((pls d).map Dv).length (fun i _=>i<=El d q) (fun o=>o=some (El d q:Int)) ?_ ?_ n 0 () (by omega) (by simp;omega) (by omega)
 ·intro m i _ hi hI
  have hi2:i<(pls d).length:=by simpa using hi
  have e:((pls d).map Dv)[i]=Dv (pls d)[i]:=by simp
  simp only [Ho.eq_2,CR hi,cT,AS hi,At,Ca,e,wT i]
  have e2:((Dv (pls d)[i]).net_==(q:Int)&&(Dv (pls d)[i]).drives_)=DI q (pls d)[i]:=rfl
  rw [e2]
  cases c:DI q (pls d)[i]with
  |true=>rw [hd.only i hi2 c];exact .inr rfl
  |false=>
   refine .inl ⟨(),?_,rfl⟩
   rcases Nat.lt_or_ge i (El d q)with h|h
   ·omega
   ·obtain rfl:i=El d q:=by omega
    rw [hd.hit]at c;cases c
 ·intro m _ hI
  have:((pls d).map Dv).length=(pls d).length:=by simp
  omega
def Lu(a:BJ)(p:Int×Int):Bool:=bif a.Kind==1 then(a.Sense==3)||((a.Sense==1)==(p.1==p.2))else bif a.Kind==2 then p.1==0 else bif a.Kind==3 then p.1==1 else false
def NC(a:BJ):List (Int×Int):=[(0,0),(0,1),(1,0),(1,1)].filter (Lu a)
def Rr(o k:Nat)(a:BJ):List AR:=(NC a).map fun t=>⟨2*((o:Int)+a.From)+t.1,2*((o:Int)+a.To)+t.2,1,(k:Int)⟩
def MM(b:AP)(i:Nat)(x:Al):List AR:=Cl (Rr (Cz b.Design i)) 0 (GS b x)
def Rk(r:Int)(j:Nat)(s:Int):List AR:=[⟨2*r,2*s,2,(j:Int)⟩,⟨2*r+1,2*s+1,2,(j:Int)⟩]
def TO(d:AO)(q:Nat):List AR:=Cl (Rk (El d q:Int)) 0 (EC d (q:Int))
def Fa(b:AP):List AR:=Cl (MM b) 0 b.Design.Instances++Cl (fun q (_:ByteArray)=>TO b.Design q) 0 b.Design.Nets
theorem OJ(a:BJ):(NC a).length<=4:=Nat.le_trans (List.length_filter_le _ _) (by simp)
theorem Lt(o k:Nat)(a:BJ):(Rr o k a).length<=4:=by unfold Rr;rw [List.length_map];exact OJ a
theorem Hz{b:AP}(v:CW b)(i:Nat){x:Al}(hx:x∈b.Design.Instances):(MM b i x).length<=32:=by
 obtain⟨j,hj,rfl⟩:=List.getElem_of_mem hx
 obtain⟨k,hk,_,gc,_,vc⟩:=v.design.inst_at hj
 have:=Ce (c:=4) (g:=Rr (Cz b.Design i)) (GS b b.Design.Instances[j]) 0 fun j a _=>Lt _ _ a
 have few:=vc.few
 unfold MM
 unfold GS at this ⊢
 rw [gc]at this ⊢
 simp only at this ⊢
 omega
theorem Lg{l:Aq}{d:AO}(v:CC l d)(q:Nat):(TO d q).length<=156:=by
 have h1:=Ce (c:=2) (g:=Rk (El d q:Int)) (EC d (q:Int)) 0 fun j s _=>by simp [Rk]
 have h2:=EO (d:=d) (q:=(q:Int))
 have hl:=CJ v.short v.few.1 v.few.2.2
 have h3:QW d (q:Int)<=78:=Nat.le_trans List.countP_le_length hl
 unfold TO;omega
theorem Hm{b:AP}(v:CW b):(Fa b).length<=5128:=by
 have h1:=Ce (c:=32) (g:=MM b) b.Design.Instances 0 fun j x hx=>Hz v j hx
 have h2:=Ce (c:=156) (g:=fun q (_:ByteArray)=>TO b.Design q) b.Design.Nets 0 fun j x _=>Lg v.design j
 have:=v.design.few
 unfold Fa;rw [List.length_append];omega
theorem Ug{n:Nat}{l:List AR}{f t a b kd k:Int}(hl:l.length<=10000000)(hf:0<=f∧f<=100000)(ht:0<=t∧t<=100000)(ha:0<=a∧a<=1)(hb:0<=b∧b<=1):Lr n l f t a b kd k=some (l++[⟨2*f+a,2*t+b,kd,k⟩]):=by
 rw [Lr,Af (x:=2*f) (by omega) (by omega),Af (x:=2*t) (by omega) (by omega),Af (by omega) (by omega),Af (by omega) (by omega),BC (by simp;omega) (by omega),At]
theorem Tb{n:Nat}{a:BJ}{f t k i:Int}{k2:List AR->Int->Option (List AR)}(hf:0<=f∧f<=100000)(ht:0<=t∧t<=100000)(hi:0<=i∧i<=1){l:List AR}(hl:l.length<=9000000)(m:Nat):
 DW n a f t k i k2 (m+3) l 0=k2 (l++([(i,0),(i,1)].filter (Lu a)).map fun p=>⟨2*f+p.1,2*t+p.2,1,k⟩) 2:=by
 have w1:IntKind.wrap .i64 ((0:Int)+1)=1:=by decide
 have w2:IntKind.wrap .i64 ((1:Int)+1)=2:=by decide
 have step:∀(m:Nat) (l:List AR) (j:Int),l.length<=9500000->0<=j->j<=1->DW n a f t k i k2 (m+1) l j=DW n a f t k i k2 m (l++([(i,j)].filter (Lu a)).map fun p=>⟨2*f+p.1,2*t+p.2,1,k⟩) (IntKind.wrap .i64 (j+1)):=by
  intro m l j hl2 h0 h1
  have hp:=Ug (n:=n) (l:=l) (f:=f) (t:=t) (a:=i) (b:=j) (kd:=1) (k:=k) (by omega) hf ht hi ⟨h0,h1⟩
  have dj:decide (j<=1)=true:=decide_eq_true h1
  simp only [DW.eq_2,dj,cT,hp,At,List.filter_cons,List.filter_nil,Lu]
  by_cases k1:a.Kind=1
  ·have e1:(a.Kind==1)=true:=by rw [beq_iff_eq];exact k1
   simp only [e1,cT]
   by_cases c:((a.Sense==3)||((a.Sense==1)==(i==j)))=true
   ·rw [c];simp
   ·have c:((a.Sense==3)||((a.Sense==1)==(i==j)))=false:=by simpa using c
    rw [c];simp
  ·have e1:(a.Kind==1)=false:=by rw [beq_eq_false_iff_ne];exact k1
   simp only [e1,cF]
   by_cases k2:a.Kind=2
   ·have e2:(a.Kind==2)=true:=by rw [beq_iff_eq];exact k2
    simp only [e2,cT]
    by_cases c:i=0
    ·subst c;simp
    ·have c:(i==0)=false:=by rw [beq_eq_false_iff_ne];exact c
     rw [c];simp
   ·have e2:(a.Kind==2)=false:=by rw [beq_eq_false_iff_ne];exact k2
    simp only [e2,cF]
    by_cases k3:a.Kind=3
    ·have e3:(a.Kind==3)=true:=by rw [beq_iff_eq];exact k3
     simp only [e3,cT]
     by_cases c:i=1
     ·subst c;simp
     ·have c:(i==1)=false:=by rw [beq_eq_false_iff_ne];exact c
      rw [c];simp
    ·have e3:(a.Kind==3)=false:=by rw [beq_eq_false_iff_ne];exact k3
     simp only [e3,cF];simp
 have hl3:∀j:Int,(([(i,j)].filter (Lu a)).map fun p:Int×Int=>(⟨2*f+p.1,2*t+p.2,1,k⟩:AR)).length<=1:=fun j=>by rw [List.length_map];exact Nat.le_trans (List.length_filter_le _ _) (by simp)
 rw [step (m+2) l 0 (by omega) (by omega) (by omega),w1,step (m+1) _ 1 (by have:=hl3 0;rw [List.length_append];omega) (by omega) (by omega),w2,DW.eq_2]
 have d2:decide ((2:Int)<=1)=false:=by decide
 rw [d2,cF,List.append_assoc,←List.map_append,←List.filter_append]
 rfl
theorem Zl{n:Nat}{a:BJ}{f t k:Int}(hf:0<=f∧f<=100000)(ht:0<=t∧t<=100000){l:List AR}(hl:l.length<=8000000)(hn:1048577<=n):
 Vf n l a f t k=some (l++(NC a).map fun p=>⟨2*f+p.1,2*t+p.2,1,k⟩):=by
 obtain⟨m,rfl⟩:∃m,n=m+3:=⟨n-3,by omega⟩
 have w1:IntKind.wrap .i64 ((0:Int)+1)=1:=by decide
 have w2:IntKind.wrap .i64 ((1:Int)+1)=2:=by decide
 have d0:decide ((0:Int)<=1)=true:=by decide
 have d1:decide ((1:Int)<=1)=true:=by decide
 have d2:decide ((2:Int)<=1)=false:=by decide
 have hl3:(([((0:Int),(0:Int)),(0,1)].filter (Lu a)).map fun p:Int×Int=>(⟨2*f+p.1,2*t+p.2,1,k⟩:AR)).length<=2:=by rw [List.length_map];exact Nat.le_trans (List.length_filter_le _ _) (by simp)
 rw [Vf,HQ.eq_2,d0,cT,Tb hf ht (by omega) (by omega),w1,HQ.eq_2,d1,cT,Tb hf ht (by omega) (by rw [List.length_append];omega),w2,HQ.eq_2,d2,cF,List.append_assoc,←List.map_append,←List.filter_append]
 rfl
theorem ME{c:Ak}(vc:KX c){j:Nat}(hj:j<c.Arcs.length):(0<=c.Arcs[j].From∧c.Arcs[j].From<c.Pins.length)∧(0<=c.Arcs[j].To∧c.Arcs[j].To<c.Pins.length)∧(c.Arcs[j].Kind=1∧(1<=c.Arcs[j].Sense∧c.Arcs[j].Sense<=3)∨c.Arcs[j].Kind=2∨c.Arcs[j].Kind=3∨c.Arcs[j].Kind=4∨c.Arcs[j].Kind=5):=by
 have ar:=(vc.arcs j hj).1
 unfold Jv at ar
 refine⟨by omega,by omega,?_⟩
 obtain⟨_,ar⟩:=ar
 by_cases k1:c.Arcs[j].Kind=1
 ·rw [if_pos k1]at ar;exact .inl ⟨k1,ar.2.2.1⟩
 ·rw [if_neg k1]at ar
  by_cases k2:c.Arcs[j].Kind=2∨c.Arcs[j].Kind=3
  ·rcases k2 with k|k
   ·exact .inr (.inl k)
   ·exact .inr (.inr (.inl k))
  ·rw [if_neg k2]at ar
   by_cases k4:c.Arcs[j].Kind=4∨c.Arcs[j].Kind=5
   ·rcases k4 with k|k
    ·exact .inr (.inr (.inr (.inl k)))
    ·exact .inr (.inr (.inr (.inr k)))
   ·rw [if_neg k4]at ar;exact ar.elim
theorem MU{a:BJ}(h:3<a.Kind):NC a=[]:=by
 have e1:(a.Kind==1)=false:=by rw [beq_eq_false_iff_ne];omega
 have e2:(a.Kind==2)=false:=by rw [beq_eq_false_iff_ne];omega
 have e3:(a.Kind==3)=false:=by rw [beq_eq_false_iff_ne];omega
 simp [NC,Lu,e1,e2,e3]
theorem Sa{n:Nat}{b:AP}(v:CW b)(hn:1048577<=n):TQ n b=some (Fa b):=by
 have vd:=v.design
 have few:=vd.few
 have hl:=CJ vd.short vd.few.1 vd.few.2.2
 have hI:=Ce (c:=32) (g:=MM b) b.Design.Instances 0 fun j x hx=>Hz v j hx
 rw [TQ]
 rw [CM (xs:=b.Design.Instances) (L:=fun m s i=>GQ n b (fun l44 i48=>(Do n b (fun l55 i59=>(some l55)) n l44 0)) m s i) (k:=fun s=>Do n b (fun l55 i59=>some l55) n s 0) (MM b) 32 0 (fun j x hx=>Hz v j hx) (by omega) (by
  intro m i hi s hs
  obtain⟨k,hk,_,gc,hnl,vc⟩:=v.design.inst_at hi
  have fa:=vc.few
  have fp:=vc.pins.few
  have hoff:=(En (d:=b.Design) (q:=0) hi (by have:=(vd.inst _ (List.getElem_mem hi)).long vd.lib;omega)).lt
  simp only [GQ.eq_2,CR hi,cT,AS hi,gc,At,wT i]
  have ea:GS b b.Design.Instances[i]=b.Library.Cells[k].Arcs:=by unfold GS;rw [gc]
  rw [MM,ea]
  refine CM (xs:=b.Library.Cells[k].Arcs) (L:=fun m s j=>Hk n b (i:Int) b.Library.Cells[k] _ m s j) (k:=fun s=>GQ n b (fun l44 i48=>(Do n b (fun l55 i59=>(some l55)) n l44 0)) m s ((i+1:Nat):Int)) (Rr (Cz b.Design i)) 4 s.length (fun j a _=>Lt _ _ a) (by omega) ?_ ?_ n (by omega) s (by omega)
  ·intro m j hj s2 hs2
   obtain⟨⟨f0,f1⟩,⟨t0,t1⟩,kd⟩:=ME vc hj
   simp only [Hk.eq_2,CR hj,cT,AS hj,At,wT j]
   by_cases c:b.Library.Cells[k].Arcs[j].Kind<=3
   ·rw [decide_eq_true c,cT]
    obtain⟨F,eF⟩:=Int.eq_ofNat_of_zero_le f0
    have eF:b.Library.Cells[k].Arcs[j].From=(F:Int):=eF
    obtain⟨T,eT⟩:=Int.eq_ofNat_of_zero_le t0
    have eT:b.Library.Cells[k].Arcs[j].To=(T:Int):=eT
    have p1:=VR (n:=n) vd (q:=F) hi (by omega) hn
    have p2:=VR (n:=n) vd (q:=T) hi (by omega) hn
    rw [eF,eT,p1,At,p2,At,Zl (by omega) (by omega) (by omega) hn,At]
    congr 2
    unfold Rr
    rw [eF,eT]
    simp
   ·rw [decide_eq_false c,cF]
    unfold Rr
    rw [MU (by omega),List.map_nil,List.append_nil]
  ·intro m s
   simp only [Hk.eq_2,Cb,cF]) (by
  intro m s
  simp only [GQ.eq_2,Cb,cF]) n (by omega) [] (by simp)]
 rw [List.nil_append]
 rw [CM (xs:=b.Design.Nets) (L:=fun m s i=>Do n b (fun l55 i59=>(some l55)) m s i) (k:=fun s=>some s) (fun q _=>TO b.Design q) 156 (Cl (MM b) 0 b.Design.Instances).length (fun j x _=>Lg vd j) (by omega) (by
  intro m i hi s hs
  have hd:=(JY vd hi).lt
  have hsl:(EC b.Design (i:Int)).length<=78:=by
   rw [EO];exact Nat.le_trans List.countP_le_length hl
  simp only [Do.eq_2,CR hi,cT,Xt vd hi hn,UT vd (i:Int) hn,At,wT i]
  refine CM (xs:=EC b.Design (i:Int)) (L:=fun m s j=>Ie n (El b.Design i:Int) (EC b.Design (i:Int)) _ m s j) (k:=fun s=>Do n b (fun l55 i59=>(some l55)) m s ((i+1:Nat):Int)) (Rk (El b.Design i:Int)) 2 s.length (fun j a _=>by simp [Rk]) (by omega) ?_ ?_ n (by omega) s (by omega)
  ·intro m j hj s2 hs2
   have hq:=HH _ (List.getElem_mem hj)
   simp only [Ie.eq_2,CR hj,cT,AS hj,At,wT j]
   rw [Ug (by omega) (by omega) (by omega) (by omega) (by omega),At,Ug (by simp;omega) (by omega) (by omega) (by omega) (by omega),At]
   rw [List.append_assoc]
   congr 2
   simp [Rk]
  ·intro m s
   simp only [Ie.eq_2,Cb,cF]) (by
  intro m s
  simp only [Do.eq_2,Cb,cF]) n (by omega) _ (Nat.le_refl _)]
 rfl
theorem Hj{α β:Type}(h:Nat->α->β):∀(xs:List α) (s:Nat),(Cl (fun j q=>[h j q]) s xs).length=xs.length
 |[],_=>rfl
 |x::xs,s=>by simp [Cl,Hj h xs (s+1)]
theorem OE{α β:Type}(h:α->β):∀(xs:List α) (s:Nat),Cl (fun _ q=>[h q]) s xs=xs.map h
 |[],_=>rfl
 |x::xs,s=>by simp [Cl,OE h xs (s+1)]
theorem NS(i:Nat)(x:Al):(Ji i x).length=x.Nets.length:=Hj (fun j q=>Ar.mk i j q ((j:Int)==(x.Nets.length:Int)-1)) x.Nets 0
theorem Ow{d:AO}{i:Nat}(hi:i<d.Instances.length):Cz d (i+1)=Cz d i+d.Instances[i].Nets.length:=by
 unfold Cz;rw [Ey hi,List.length_append,NS]
theorem OO{a:BJ}:∀p∈NC a,(0<=p.1∧p.1<=1)∧0<=p.2∧p.2<=1:=fun p hp=>by
 have:=(List.mem_filter.1 hp).1
 simp only [List.mem_cons,List.not_mem_nil,or_false]at this
 rcases this with rfl|rfl|rfl|rfl<;>simp
theorem cO{n:Nat}{a:BJ}(h:a.Kind=1∧(1<=a.Sense∧a.Sense<=3)∨a.Kind=2∨a.Kind=3∨a.Kind=4∨a.Kind=5):RW n a=some ((NC a).map fun p=>(⟨p.1,p.2⟩:Bf)):=by
 unfold RW
 rcases h with ⟨k,s⟩|k|k|k|k
 ·rcases(by omega:a.Sense=1∨a.Sense=2∨a.Sense=3)with s|s|s<;>simp [NC,Lu,k,s]
 all_goals simp [NC,Lu,k]
theorem ZJ{n:Nat}{b:AP}(v:CW b){i:Nat}(hi:i<b.Design.Instances.length)(hn:1048577<=n):Vv n b b.Design.Instances[i] (Cz b.Design i:Int)=some (MM b i b.Design.Instances[i]):=by
 have vd:=v.design
 have hl:=CJ vd.short vd.few.1 vd.few.2.2
 obtain⟨k,hk,_,gc,hnl,vc⟩:=v.design.inst_at hi
 have fa:=vc.few
 have fp:=vc.pins.few
 have hoff:=(En (d:=b.Design) (q:=0) hi (by have:=(vd.inst _ (List.getElem_mem hi)).long vd.lib;omega)).lt
 have ea:GS b b.Design.Instances[i]=b.Library.Cells[k].Arcs:=by unfold GS;rw [gc]
 rw [Vv,gc,At,MM,ea]
 rw [CM (xs:=b.Library.Cells[k].Arcs) (L:=fun m s j=>Gk n (Cz b.Design i:Int) b.Library.Cells[k] (fun l47 i51=>(some l47)) m s j) (k:=fun s=>some s) (Rr (Cz b.Design i)) 4 0 (fun j a _=>Lt _ _ a) (by omega) (by
  intro m j hj s hs
  obtain⟨⟨f0,f1⟩,⟨t0,t1⟩,kd⟩:=ME vc hj
  simp only [Gk.eq_2,CR hj,cT,AS hj,At,cO kd,wT j]
  have e:Rr (Cz b.Design i) j b.Library.Cells[k].Arcs[j]=Cl (fun _ (t:Bf)=>[(⟨2*((Cz b.Design i:Int)+b.Library.Cells[k].Arcs[j].From)+t.e0,2*((Cz b.Design i:Int)+b.Library.Cells[k].Arcs[j].To)+t.e1,1,(j:Int)⟩:AR)]) 0 ((NC b.Library.Cells[k].Arcs[j]).map fun p=>(⟨p.1,p.2⟩:Bf)):=by
   rw [OE,List.map_map];rfl
  rw [e]
  have tl:=OJ b.Library.Cells[k].Arcs[j]
  refine CM (xs:=(NC b.Library.Cells[k].Arcs[j]).map fun p=>(⟨p.1,p.2⟩:Bf)) (L:=fun m s q=>Ik (Cz b.Design i:Int) (j:Int) b.Library.Cells[k].Arcs[j] ((NC b.Library.Cells[k].Arcs[j]).map fun p=>(⟨p.1,p.2⟩:Bf)) _ m s q) (k:=fun s=>Gk n (Cz b.Design i:Int) b.Library.Cells[k] (fun l47 i51=>(some l47)) m s ((j+1:Nat):Int)) _ 1 s.length (fun _ _ _=>by simp) (by rw [List.length_map];omega) ?_ ?_ n (by rw [List.length_map];omega) s (by omega)
  ·intro m q hq s2 hs2
   have hq2:q<(NC b.Library.Cells[k].Arcs[j]).length:=by simpa using hq
   have r:=OO _ (List.getElem_mem hq2)
   have e2:((NC b.Library.Cells[k].Arcs[j]).map fun p=>(⟨p.1,p.2⟩:Bf))[q]=⟨(NC b.Library.Cells[k].Arcs[j])[q].1,(NC b.Library.Cells[k].Arcs[j])[q].2⟩:=by simp
   simp only [Ik.eq_2,CR hq,cT,AS hq,At,e2,wT q]
   rw [Af (x:=(Cz b.Design i:Int)+b.Library.Cells[k].Arcs[j].From) (by omega) (by omega),Af (x:=(Cz b.Design i:Int)+b.Library.Cells[k].Arcs[j].To) (by omega) (by omega),Af (x:=2*((Cz b.Design i:Int)+b.Library.Cells[k].Arcs[j].From)) (by omega) (by omega),Af (x:=2*((Cz b.Design i:Int)+b.Library.Cells[k].Arcs[j].To)) (by omega) (by omega),Af (by omega) (by omega),Af (by omega) (by omega),BC (by simp;omega) (by omega),At]
  ·intro m s
   simp only [Ik.eq_2,Cb,cF]) (by
  intro m s
  simp only [Gk.eq_2,Cb,cF]) n (by omega) [] (by simp)]
 rw [List.nil_append]
def LG(d:AO)(q j:Nat):List Int:=Cl (fun i p=>if DZ (q:Int) p=true then [(i:Int)]else []) 0 ((pls d).take j)
theorem Qu(d:AO)(q:Nat):LG d q (pls d).length=EC d (q:Int):=by unfold LG EC;rw [List.take_length]
theorem RA(d:AO)(q j:Nat):(LG d q j).length<=j:=by
 have:=Ce (c:=1) (g:=fun i p=>if DZ (q:Int) p=true then [(i:Int)]else []) ((pls d).take j) 0 fun i p _=>by split<;>simp
 have h2:((pls d).take j).length<=j:=by simp;omega
 unfold LG;omega
theorem cY{n:Nat}{b:AP}(v:CW b)(hn:1048577<=n):BZ (fun r:BP=>r.places_=pls b.Design∧r.links_=Fa b) (VM n b):=by
 have vd:=v.design
 have f1:=vd.few.1;have f2:=vd.few.2.1
 have hl:=CJ vd.short vd.few.1 vd.few.2.2
 have hW:=v.many
 have hI:=Ce (c:=32) (g:=MM b) b.Design.Instances 0 fun j x hx=>Hz v j hx
 rw [VM,SO vd.short vd.few.1 vd.few.2.2 hn,At]
 refine GA (L:=fun m j (s:Int×List AR)=>Ii n b _ m s.1 j s.2) b.Design.Instances.length (fun j s=>s.1=(Cz b.Design j:Int)∧s.2=Cl (MM b) 0 (b.Design.Instances.take j)) ?_ ?_ n ((0:Int),[]) (by omega) ⟨by simp [Cz,Cl],by simp [Cl]⟩
 ·intro m j s hj ⟨hs1,hs2⟩
  have hlen:=(vd.inst _ (List.getElem_mem hj)).long vd.lib
  have hoff:=(En (d:=b.Design) (q:=0) hj (by omega)).lt
  have hsl:=Ce (c:=32) (g:=MM b) (b.Design.Instances.take j) 0 fun i x hx=>Hz v i (List.mem_of_mem_take hx)
  have htl:(b.Design.Instances.take j).length=j:=by simp;omega
  have h32:=Hz v j (List.getElem_mem hj)
  simp only [Ii.eq_2,CR hj,cT,AS hj,At,hs1,hs2,ZJ v hj hn,Kp,wT j]
  rw [BC (by omega) (by omega),At,Af (by omega) (by omega)]
  exact⟨((Cz b.Design (j+1):Int),Cl (MM b) 0 (b.Design.Instances.take (j+1))),⟨rfl,rfl⟩,by rw [Ey hj,Ow hj];rfl⟩
 ·intro m s ⟨_,hs2⟩
  rw [List.take_length]at hs2
  simp only [Ii.eq_2,Cb,cF]
  rw [EU (by omega) (by omega),At,EU (by omega) (by omega),At,hs2]
  refine GA (L:=fun m j (s:List Int×List (List Int))=>Ga (pls b.Design) _ m j s.1 s.2) (pls b.Design).length (fun j s=>(s.1.length=b.Wires.length∧s.2.length=b.Wires.length)∧(∀q (h:q<s.2.length),s.2[q]=LG b.Design q j)∧∀q,q<b.Wires.length->El b.Design q<j->gd s.1 q=(El b.Design q:Int)) ?_ ?_ n (List.replicate b.Wires.length 0,List.replicate b.Wires.length []) (by omega) ⟨⟨by simp,by simp⟩,fun q h=>by simp [LG,Cl],fun q _ h=>by omega⟩
  ·intro m j s hj ⟨⟨h1,h2⟩,h3,h4⟩
   have hp:=vd.net _ (List.getElem_mem hj)
   obtain⟨N,hN⟩:=Int.eq_ofNat_of_zero_le hp.1
   have hN:(pls b.Design)[j].net_=(N:Int):=hN
   have hNl:N<b.Wires.length:=by omega
   obtain⟨a,ea⟩:=EL (t:=s.1) (i:=(N:Int)) (by omega) (by omega)
   have ey:AM s.2 (N:Int)=some s.2[N]:=AS (by omega)
   have hyl:=RA b.Design N j
   simp only [Ga.eq_2,CR hj,cT,AS hj,At,hN,ea,ey,h3 N (by omega),Int.toNat_natCast,wT j]
   cases hdr:(pls b.Design)[j].drives_ with
   |true=>
    rw [cT]
    refine⟨(s.1.set N (j:Int),s.2),⟨⟨by simpa using h1,h2⟩,fun q hq=>?_,fun q hq hlt=>?_⟩,rfl⟩
    ·have:DZ (q:Int) (pls b.Design)[j]=false:=by simp [DZ,hdr]
     rw [h3 q hq];unfold LG
     rw [Ey hj,this];simp
    ·have hd:=JY vd (q:=q) (by omega)
     rw [Je (by omega)]
     by_cases c:N=q
     ·subst c
      rw [if_pos rfl,hd.only j hj (by simp [DI,hN,hdr])]
     ·rw [if_neg c]
      refine h4 q hq ?_
      rcases Nat.lt_or_ge (El b.Design q) j with h|h
      ·exact h
      ·exfalso
       have ej:El b.Design q=j:=by omega
       have hh:=hd.hit
       simp only [DI,Bool.and_eq_true,beq_iff_eq]at hh
       have h5:=hh.1
       simp only [ej]at h5
       rw [hN]at h5;omega
   |false=>
    rw [cF,BC (by simp;omega) (by omega),At]
    refine⟨(s.1,s.2.set N (LG b.Design N j++[(j:Int)])),⟨⟨h1,by simpa using h2⟩,fun q hq=>?_,fun q hq hlt=>?_⟩,rfl⟩
    ·simp only [List.length_set]at hq
     rw [List.getElem_set]
     unfold LG
     rw [Ey hj]
     by_cases c:N=q
     ·subst c
      have:DZ (N:Int) (pls b.Design)[j]=true:=by simp [DZ,hN,hdr]
      rw [if_pos rfl,this];simp
     ·have:DZ (q:Int) (pls b.Design)[j]=false:=by
       have:((N:Int)==(q:Int))=false:=by rw [beq_eq_false_iff_ne];omega
       simp [DZ,hN,this]
      rw [if_neg c,this,h3 q (by omega)];simp [LG]
    ·have hd:=JY vd (q:=q) (by omega)
     refine h4 q hq ?_
     rcases Nat.lt_or_ge (El b.Design q) j with h|h
     ·exact h
     ·exfalso
      have ej:El b.Design q=j:=by omega
      have hh:=hd.hit
      simp only [DI,Bool.and_eq_true]at hh
      have h5:=hh.2
      simp only [ej]at h5
      rw [hdr]at h5;cases h5
  ·intro m t ⟨⟨h1,h2⟩,h3,h4⟩
   simp only [Ga.eq_2,Cb,cF]
   refine GA (L:=fun m j (s:(List AR×List Int)×List Unit)=>EX n b t.1 t.2 _ m j s.1.1 s.1.2 s.2) b.Wires.length (fun j u=>(u.1.1=Cl (MM b) 0 b.Design.Instances++Cl (fun q (_:ByteArray)=>TO b.Design q) 0 (b.Design.Nets.take j)∧u.1.2.length=j)∧u.2.length=j) ?_ ?_ n ((Cl (MM b) 0 b.Design.Instances,[]),[]) (by omega) ⟨⟨by simp [Cl],rfl⟩,rfl⟩
   ·intro m j u hj ⟨⟨g1,g2⟩,g3⟩
    obtain⟨r,er,hr⟩:=aS (n:=n) v hj hn
    obtain⟨z,ez,_⟩:=bC (n:=n) v hj hn
    have hm:=(v.wire j hj).many
    have e0:AM r 0=some (gd r 0):=gI (i:=0) (by omega)
    have hj2:j<t.2.length:=by omega
    have hjN:j<b.Design.Nets.length:=by omega
    have hd:=(JY vd hjN).lt
    have a1:AM t.1 (j:Int)=some (El b.Design j:Int):=by rw [gI (by omega),h4 j hj hd]
    have hsk:t.2[j]=EC b.Design (j:Int):=by rw [h3 j hj2,Qu]
    have hgl:u.1.1.length<=448+156*j:=by
     have q1:=Ce (c:=156) (g:=fun q (_:ByteArray)=>TO b.Design q) (b.Design.Nets.take j) 0 fun i x _=>Lg vd i
     have q2:(b.Design.Nets.take j).length=j:=by simp;omega
     rw [g1,List.length_append];omega
    have hsl:(EC b.Design (j:Int)).length<=78:=by
     rw [EO];exact Nat.le_trans List.countP_le_length hl
    simp only [EX.eq_2,CR hj,cT,At,er,e0,ez,AS hj2,hsk]
    rw [BC (by simp;omega) (by omega),At,BC (by simp;omega) (by omega),At,wT j]
    refine⟨((u.1.1++TO b.Design j,u.1.2++[gd r 0]),u.2++List.map (fun _=>()) [z]),⟨⟨?_,by simp;omega⟩,by simp;omega⟩,?_⟩
    ·rw [g1,Ey hjN,List.append_assoc]
    ·refine CM (xs:=EC b.Design (j:Int)) (L:=fun m' s k=>HM n t.1 (j:Int) (EC b.Design (j:Int)) _ m' k s) (k:=fun s=>EX n b t.1 t.2 _ m ((j+1:Nat):Int) s (u.1.2++[gd r 0]) (u.2++List.map (fun _=>()) [z])) (Rk (El b.Design j:Int)) 2 u.1.1.length (fun j a _=>by simp [Rk]) (by omega) ?_ ?_ n (by omega) u.1.1 (by omega)
     ·intro m k hk s hs
      have hq:=HH _ (List.getElem_mem hk)
      obtain⟨n',rfl⟩:∃n',n=n'+3:=⟨n-3,by omega⟩
      have w1:IntKind.wrap .i64 ((0:Int)+1)=1:=by decide
      have w2:IntKind.wrap .i64 ((1:Int)+1)=2:=by decide
      simp only [HM.eq_2,CR hk,cT,AS hk,At,wT k]
      rw [Ig.eq_2,show decide ((0:Int)<2)=true from rfl,cT,a1,At,Af (x:=2*(El b.Design j:Int)) (by omega) (by omega),Af (x:=2*(EC b.Design (j:Int))[k]) (by omega) (by omega),Af (x:=2*(El b.Design j:Int)+0) (by omega) (by omega),Af (x:=2*(EC b.Design (j:Int))[k]+0) (by omega) (by omega),BC (by simp;omega) (by omega),At,w1,Ig.eq_2,show decide ((1:Int)<2)=true from rfl,cT,a1,At,Af (x:=2*(El b.Design j:Int)) (by omega) (by omega),Af (x:=2*(EC b.Design (j:Int))[k]) (by omega) (by omega),Af (x:=2*(El b.Design j:Int)+1) (by omega) (by omega),Af (x:=2*(EC b.Design (j:Int))[k]+1) (by omega) (by omega),BC (by simp;omega) (by omega),At,w2,Ig.eq_2,show decide ((2:Int)<2)=false from rfl,cF,List.append_assoc]
      congr 1
      simp [Rk]
     ·intro m s
      simp only [HM.eq_2,Cb,cF]
   ·intro m u ⟨⟨g1,_⟩,_⟩
    simp only [EX.eq_2,Cb,cF]
    refine⟨_,rfl,rfl,?_⟩
    show u.1.1=Fa b
    rw [g1,hW,List.take_length];rfl
def NF(N:Int)(br:List Int):Prop:=∀i,i<br.length->(0<=gd br i∧gd br i<=N-1)∧(0<i->gd br (i-1)<gd br i)
theorem aP{n:Nat}{br:List Int}{N:Int}(h:br.length<=1048576)(hN:0<=N∧N<=1048576)(hn:1048577<=n):AZ (NF N br) (QU n br N):=by
 rw [QU]
 refine(Dm (L:=fun m i=>Gf n br N _ m i) (Q:=True) br.length 0 (fun i=>(0<=gd br i∧gd br i<=N-1)∧(0<i->gd br (i-1)<gd br i)) ?_ ?_ n 0 (by omega) (by omega) (by omega) (fun j _ h=>by omega)).iff ?_
 ·intro m i _ hi
  simp only [Gf.eq_2,CR hi,cT,gI hi,At,HE,wT i,Af (x:=N-1) (by omega) (by omega)]
  by_cases c:0<=gd br i∧gd br i<=N-1
  ·have e:(decide (gd br i>=0)&&decide (gd br i<=N-1))=true:=IB.2 c
   rw [e]
   simp only [Bool.not_true,cF]
   by_cases c0:0<i
   ·have w1:IntKind.wrap .i64 ((i:Int)-1)=((i-1:Nat):Int):=by rw [Af (by omega) (by omega)];omega
    simp only [decide_eq_true (show(i:Int)>0 by omega),cT,w1,gI (show i-1<br.length by omega),At]
    by_cases c1:gd br (i-1)<gd br i
    ·rw [decide_eq_false (show¬gd br (i-1)>=gd br i by omega),cF];exact .inl ⟨⟨c,fun _=>c1⟩,rfl⟩
    ·rw [decide_eq_true (show gd br (i-1)>=gd br i by omega),cT];exact .inr ⟨fun h=>c1 (h.2 c0),rfl⟩
   ·simp only [decide_eq_false (show¬(i:Int)>0 by omega),cF,At]
    exact .inl ⟨⟨c,fun h=>absurd h c0⟩,by trivial⟩
  ·have e:(decide (gd br i>=0)&&decide (gd br i<=N-1))=false:=by
    cases q:(decide (gd br i>=0)&&decide (gd br i<=N-1))with
    |false=>rfl
    |true=>exact absurd (IB.1 q) c
   rw [e]
   simp only [Bool.not_false,cT,At]
   exact .inr ⟨fun h=>c h.1,by trivial⟩
 ·intro m i h1 h2 _
  obtain rfl:i=br.length:=by omega
  simp only [Gf.eq_2,Cb,cF]
  exact⟨true,rfl,by simp⟩
 ·exact⟨fun h i hi=>h.1 i (Nat.zero_le _) hi,fun h=>⟨fun i _ hi=>h i hi,trivial⟩⟩
theorem bH{n:Nat}{br:List Int}{v:BP}(h:br.length<=1048576)(hN:v.links_.length<=1048576)(hn:1048577<=n):AZ (NF (v.links_.length:Int) br) (RE n v br):=by
 rw [RE,Rp,At,Af (by omega) (by omega),AW h hn,At]
 have ha:(br.all fun k=>decide (k>=0)&&decide (k<=(v.links_.length:Int)-1))=true↔∀i,i<br.length->0<=gd br i∧gd br i<=(v.links_.length:Int)-1:=by
  rw [List.all_eq_true]
  refine⟨fun g i hi=>?_,fun g k hk=>?_⟩
  ·have:=g br[i] (List.getElem_mem hi)
   rw [Zc hi];exact IB.1 this
  ·obtain⟨i,hi,rfl⟩:=List.getElem_of_mem hk
   have:=g i hi
   rw [Zc hi]at this;exact IB.2 this
 cases c:(br.all fun k=>decide (k>=0)&&decide (k<=(v.links_.length:Int)-1))with
 |true=>
  have ha:=ha.1 c
  obtain⟨r,e,hr⟩:=aH (n:=n) h hn
  rw [cT,e,At,At]
  exact⟨r,rfl,hr.trans ⟨fun g i hi=>⟨ha i hi,g i hi⟩,fun g i hi=>(g i hi).2⟩⟩
 |false=>
  rw [cF,At]
  refine⟨false,rfl,by simp,fun g=>?_⟩
  rw [ha.2 fun i hi=>(g i hi).1]at c;cases c
theorem Yx{n:Nat}{br:List Int}{x:Int}(h:br.length<=1048576)(hn:1048577<=n):Pm n br x=some (br.any fun y=>y==x):=by
 rw [Pm]
 refine loop (L:=fun m i (_:Unit)=>GP br x (fun i5=>some false) m i) br.length (fun i _=>(br.any fun y=>y==x)=((br.drop i).any fun y=>y==x)) (fun o=>o=some (br.any fun y=>y==x)) ?_ ?_ n 0 () (by omega) (by omega) (by simp)
 ·intro m i _ hi hI
  simp only [GP.eq_2,CR hi,cT,AS hi,At,wT i]
  rw [List.drop_eq_getElem_cons hi,List.any_cons]at hI
  cases c:(br[i]==x)with
  |true=>rw [c,Bool.true_or]at hI;rw [hI];exact .inr rfl
  |false=>rw [c,Bool.false_or]at hI;exact .inl ⟨(),hI,rfl⟩
 ·intro m _ hI
  rw [List.drop_length]at hI
  simp only [GP.eq_2,Cb,cF,hI,List.any_nil]
def Of(b:AP)(x:AR):Option BJ:=Option.bind (AM (pls b.Design) (IntKind.wrap .i64 (Int.tdiv x.To 2))) fun p=>Option.bind (AM b.Design.Instances p.instance_) fun y=>Option.bind (AM b.Library.Cells y.Cell) fun c=>Option.bind (AM c.Arcs x.Index) fun a=>some a
def Jx(b:AP)(x:AR):Bool:=x.Kind==1&&match Of b x with
 |some a=>a.Kind==2||a.Kind==3
 |none=>false
structure Nm(b:AP)(x:AR):Prop where
 from_:0<=x.From∧x.From<Kk b
 to_:0<=x.To∧x.To<Kk b
 arc:x.Kind=1->∃p y c a,AM (pls b.Design) (IntKind.wrap .i64 (Int.tdiv x.To 2))=some p∧p∈pls b.Design∧AM b.Design.Instances p.instance_=some y∧AM b.Library.Cells y.Cell=some c∧AM c.Arcs x.Index=some a∧(a.Kind=1∨a.Kind=2∨a.Kind=3)
theorem Ko{b:AP}(v:CW b):∀x∈Fa b,Nm b x:=by
 have vd:=v.design
 have hl:=CJ vd.short vd.few.1 vd.few.2.2
 have nd:Kk b=2*((pls b.Design).length:Int):=rfl
 intro x hx
 simp only [Fa,List.mem_append]at hx
 rcases hx with hx|hx
 ·refine Cw (Q:=Nm b) b.Design.Instances 0 (fun i hi y hy=>?_) x hx
  rw [Nat.zero_add]at hy
  obtain⟨k,hk,_,gc,hnl,vc⟩:=vd.inst_at hi
  have ea:GS b b.Design.Instances[i]=b.Library.Cells[k].Arcs:=by unfold GS;rw [gc]
  rw [MM,ea]at hy
  refine Cw (Q:=Nm b) _ 0 (fun j hj z hz=>?_) y hy
  rw [Nat.zero_add]at hz
  obtain⟨⟨f0,f1⟩,⟨t0,t1⟩,kd⟩:=ME vc hj
  obtain⟨t,ht,rfl⟩:=List.mem_map.1 hz
  have tr:=OO t ht
  obtain⟨F,eF⟩:=Int.eq_ofNat_of_zero_le f0
  have eF:b.Library.Cells[k].Arcs[j].From=(F:Int):=eF
  obtain⟨T,eT⟩:=Int.eq_ofNat_of_zero_le t0
  have eT:b.Library.Cells[k].Arcs[j].To=(T:Int):=eT
  have b1:=(En (d:=b.Design) (q:=F) hi (by omega)).lt
  have pf:=En (d:=b.Design) (q:=T) hi (by omega)
  have b2:=pf.lt
  obtain⟨p,ep,hp⟩:=pf.hit
  have hp:(p.instance_==(i:Int)&&p.pin_==(T:Int))=true:=hp
  simp only [Bool.and_eq_true,beq_iff_eq]at hp
  have k3:¬3<b.Library.Cells[k].Arcs[j].Kind:=fun h=>by rw [MU h]at ht;cases ht
  refine⟨?_,?_,fun _=>⟨p,b.Design.Instances[i],b.Library.Cells[k],b.Library.Cells[k].Arcs[j],?_,List.mem_of_getElem? ep,?_,gc,?_,by omega⟩⟩
  ·have h1:0<=2*((Cz b.Design i:Int)+b.Library.Cells[k].Arcs[j].From)+t.1∧2*((Cz b.Design i:Int)+b.Library.Cells[k].Arcs[j].From)+t.1<Kk b:=by rw [eF];omega
   exact h1
  ·have h1:0<=2*((Cz b.Design i:Int)+b.Library.Cells[k].Arcs[j].To)+t.2∧2*((Cz b.Design i:Int)+b.Library.Cells[k].Arcs[j].To)+t.2<Kk b:=by rw [eT];omega
   exact h1
  ·show AM (pls b.Design) (IntKind.wrap .i64 (Int.tdiv (2*((Cz b.Design i:Int)+b.Library.Cells[k].Arcs[j].To)+t.2) 2))=some p
   rw [eT]
   have e1:Int.tdiv (2*((Cz b.Design i:Int)+(T:Int))+t.2) 2=((Cz b.Design i+T:Nat):Int):=by
    rw [Int.tdiv_eq_ediv_of_nonneg (by omega)];omega
   rw [e1,Af (by omega) (by omega),FH];exact ep
  ·rw [hp.1];exact AS hi
  ·exact AS hj
 ·refine Cw (Q:=Nm b) b.Design.Nets 0 (fun q hq y hy=>?_) x hx
  rw [Nat.zero_add]at hy
  have hd:=(JY vd hq).lt
  refine Cw (Q:=Nm b) _ 0 (fun j hj z hz=>?_) y hy
  have hs:=HH _ (List.getElem_mem hj)
  simp only [Rk,List.mem_cons,List.not_mem_nil,or_false]at hz
  rcases hz with rfl|rfl
  ·exact⟨⟨by show(0:Int)<=2*_;omega,by show(2:Int)*_<_;omega⟩,⟨by show(0:Int)<=2*_;omega,by show(2:Int)*_<_;omega⟩,fun h=>by have h:(2:Int)=1:=h;omega⟩
  ·exact⟨⟨by show(0:Int)<=2*_+1;omega,by show(2:Int)*_+1<_;omega⟩,⟨by show(0:Int)<=2*_+1;omega,by show(2:Int)*_+1<_;omega⟩,fun h=>by have h:(2:Int)=1:=h;omega⟩
theorem ZP{n:Nat}{b:AP}{w:BP}(hw:w.Block=b)(hp:w.places_=pls b.Design){x:AR}(ok:Nm b x):RR n w x=some (Jx b x):=by
 rw [RR]
 unfold Jx
 by_cases k:x.Kind=1
 ·have e1:(x.Kind !=1)=false:=by rw [bne_eq_false_iff_eq];exact k
  have e2:(x.Kind==1)=true:=by rw [beq_iff_eq];exact k
  obtain⟨p,y,c,a,g1,_,g2,g3,g4,_⟩:=ok.arc k
  rw [e1,e2,cF,SV,hp,hw]
  simp only [g1,g2,g3,g4,At,Of,Bool.true_and]
 ·have e1:(x.Kind !=1)=true:=by rw [bne_iff_ne];exact k
  have e2:(x.Kind==1)=false:=by rw [beq_eq_false_iff_ne];exact k
  rw [e1,e2,cT,Bool.false_and]
theorem Zs{n:Nat}{l:Aq}{d:AO}(v:CC l d){p:Ar}(hp:p∈pls d):∃r,Pd n l d (Dv p)=some r:=by
 rw [Pd]
 by_cases c:p.instance_<0
 ·rw [decide_eq_true (show(Dv p).instance_<0 from c),cT];exact⟨_,rfl⟩
 ·obtain⟨x,c',pin,e1,e2,e3⟩:=v.place p hp (by omega)
  have e1:AM d.Instances (Dv p).instance_=some x:=e1
  have e3:AM c'.Pins (Dv p).pin_=some pin:=e3
  rw [decide_eq_false (show¬(Dv p).instance_<0 from c),cF,e1,At,e2,At,e3,At];exact⟨_,rfl⟩
theorem dM{n:Nat}{b:AP}(v:CW b){i:Nat}(hi:i<b.Wires.length)(hn:1048577<=n):BZ (fun r=>r.length=b.Wires[i].Parent.length) (Vn n b (i:Int)):=by
 have vd:=v.design
 have vw:=v.wire i hi
 have hm:=vw.many
 have hP:=vw.cap
 have hl:=CJ vd.short vd.few.1 vd.few.2.2
 have hsl:(EC b.Design (i:Int)).length=b.Wires[i].Sink.length:=by rw [EO];have:=vw.sink;omega
 have hsn:QW b.Design (i:Int)<=78:=Nat.le_trans List.countP_le_length hl
 have hsn2:=EO (d:=b.Design) (q:=(i:Int))
 rw [Vn,AS hi,At,LC,BC (by simp;omega) (by omega),At,At,LL vd.short vd.few.1 vd.few.2.2 hn,At,UT vd (i:Int) hn,At]
 refine GA (L:=fun m j s=>Il n b b.Wires[i] ((pls b.Design).map Dv) (EC b.Design (i:Int)) _ m j s) (EC b.Design (i:Int)).length (fun _ s=>s.length=b.Wires[i].Parent.length) ?_ ?_ n _ (by omega) (by simp;omega)
 ·intro m j s hj hs
  have hj2:j<b.Wires[i].Sink.length:=by omega
  have hk:=vw.sinks j hj2
  have hq:=HH _ (List.getElem_mem hj)
  obtain⟨a,ea⟩:=EL (t:=s) hk.1 (by omega)
  obtain⟨p,ep,hp⟩:=Dj (xs:=pls b.Design) hq.1 hq.2
  obtain⟨r,er⟩:=Zs (n:=n) vd (List.mem_of_getElem? hp)
  have ep2:AM ((pls b.Design).map Dv) (EC b.Design (i:Int))[j]=some (Dv p):=by
   obtain⟨N,hN⟩:=Int.eq_ofNat_of_zero_le hq.1
   have hN:(EC b.Design (i:Int))[j]=(N:Int):=hN
   rw [hN]at hp ⊢
   rw [FH,List.getElem?_map]
   rw [Int.toNat_natCast]at hp
   rw [hp];rfl
  simp only [Il.eq_2,CR hj,cT,AS hj,gI hj2,At,ea,ep2,er,wT j]
  exact⟨_,by simpa using hs,rfl⟩
 ·intro m s hs
  simp only [Il.eq_2,Cb,cF]
  have wx:IntKind.wrap .i64 ((s.length:Int)-1)=((s.length-1:Nat):Int):=by rw [Af (by omega) (by omega)];omega
  rw [wx]
  have key:∀(m k:Nat) (s:List Int),k<b.Wires[i].Parent.length->s.length=b.Wires[i].Parent.length->k<m->BZ (fun r:List Int=>r.length=b.Wires[i].Parent.length) (HS b.Wires[i] (fun i92 l94=>(some l94)) m (k:Int) s):=by
   intro m
   induction m with
   |zero=>intro k s _ _ h;omega
   |succ m ih=>
    intro k s hk hs hm
    by_cases c:0<k
    ·have hd:decide ((k:Int)>0)=true:=decide_eq_true (by omega)
     have ht:=vw.tree k c hk
     obtain⟨a,ea⟩:=EL (t:=s) ht.1 (by omega)
     have wk:IntKind.wrap .i64 ((k:Int)-1)=((k-1:Nat):Int):=by rw [Af (by omega) (by omega)];omega
     simp only [HS.eq_2,hd,cT,gI hk,At,ea,gI (show k<s.length by omega),wk]
     exact ih (k-1) _ (by omega) (by simpa using hs) (by omega)
    ·have hd:decide ((k:Int)>0)=false:=decide_eq_false (by omega)
     simp only [HS.eq_2,hd,cF]
     exact⟨s,rfl,hs⟩
  exact key n (s.length-1) s (by omega) hs (by omega)
theorem Wj{n:Nat}{b:AP}(v:CW b){x:AR}(ok:Nm b x)(k:x.Kind=1)(hn:1048577<=n):∃a z,Om n b x=some (a,z)∧(a.Kind==1)= !Jx b x:=by
 have vd:=v.design
 obtain⟨p,y,c,a,g1,pm,g2,g3,g4,kd⟩:=ok.arc k
 have hp:=vd.net p pm
 have hW:=v.many
 obtain⟨N,hN⟩:=Int.eq_ofNat_of_zero_le hp.1
 have hN:p.net_=(N:Int):=hN
 have hNl:N<b.Wires.length:=by omega
 obtain⟨r,er,hr⟩:=dM (n:=n) v hNl hn
 have hm:=(v.wire N hNl).many
 have g1':AM ((pls b.Design).map Dv) (IntKind.wrap .i64 (Int.tdiv x.To 2))=some (Dv p):=by
  obtain⟨g0,g5,g6⟩:=DU g1
  obtain⟨M,hM⟩:=Int.eq_ofNat_of_zero_le g0
  have hM:IntKind.wrap .i64 (Int.tdiv x.To 2)=(M:Int):=hM
  rw [hM]at g6 ⊢
  rw [FH,List.getElem?_map]
  rw [Int.toNat_natCast]at g6
  rw [g6];rfl
 have g2':AM b.Design.Instances (Dv p).instance_=some y:=g2
 have hN':(Dv p).net_=(N:Int):=hN
 refine⟨a,gd r 0,?_,?_⟩
 ·rw [Om,LL vd.short vd.few.1 vd.few.2.2 hn]
  simp only [At,g1',g2',g3,g4,hN',er,gI (i:=0) (show 0<r.length by omega)]
  have e0:AM r 0=some (gd r 0):=gI (i:=0) (by omega)
  rw [e0];rfl
 ·have e2:(x.Kind==1)=true:=by rw [beq_iff_eq];exact k
  have ea:Of b x=some a:=by simp only [Of,g1,g2,g3,g4,At]
  unfold Jx
  rw [e2,ea,Bool.true_and]
  show(a.Kind==1)= !(a.Kind==2||a.Kind==3)
  rcases kd with h|h|h<;>rw [h]<;>rfl
theorem Eb{l:List Bool}{i:Nat}(h:i<l.length):AM l (i:Int)=some (gb l i):=by rw [AS h];simp [gb,h]
def Ed(L:List AR)(lv:List Bool)(u w:Int):Prop:=∃k,∃h:k<L.length,gb lv k=true∧L[k].From=u∧L[k].To=w
inductive Jw(L:List AR)(lv:List Bool)(src:Int->Prop):Int->Prop
 |src {u:Int}:src u->Jw L lv src u
 |step {u w:Int}:Jw L lv src u->Ed L lv u w->Jw L lv src w
theorem Jw.mono{L:List AR}{lv:List Bool}{s t:Int->Prop}(h:∀u,s u->t u){v:Int}(r:Jw L lv s v):Jw L lv t v:=by
 induction r with
 |src h1=>exact .src (h _ h1)
 |step _ e ih=>exact .step ih e
theorem Jw.or{L:List AR}{lv:List Bool}{s t:Int->Prop}{v:Int}(r:Jw L lv (fun u=>s u∨t u) v):Jw L lv s v∨Jw L lv t v:=by
 induction r with
 |src h=>exact h.elim (fun h=>.inl (.src h)) (fun h=>.inr (.src h))
 |step _ e ih=>exact ih.elim (fun h=>.inl (.step h e)) (fun h=>.inr (.step h e))
theorem Jw.closed{L:List AR}{lv:List Bool}{s:Int->Prop}{Q:Int->Prop}(h0:∀u,s u->Q u)(h1:∀u w,Q u->Ed L lv u w->Q w){v:Int}(r:Jw L lv s v):Q v:=by
 induction r with
 |src h=>exact h0 _ h
 |step _ e ih=>exact h1 _ _ ih e
structure IP(L:List AR)(lv:List Bool)(s:Int->Prop)(N:Nat)(out:List Bool):Prop where
 len:out.length=N
 iff:∀v:Nat,v<N->(gb out v=true↔Jw L lv s (v:Int))
def cf(l:List Bool):Nat:=l.countP (fun b=>!b)
theorem QP(l:List Bool):cf l<=l.length:=List.countP_le_length
theorem NK:∀{l:List Bool} {i:Nat},i<l.length->gb l i=false->cf (l.set i true)+1=cf l
 |[],i,h,_=>by simp at h
 |b::l,0,_,h=>by
  have h:b=false:=h
  subst h;simp [cf]
 |b::l,i+1,hi,h=>by
  have ih:=NK (l:=l) (i:=i) (by simpa using hi) h
  unfold cf at ih ⊢
  simp only [List.set_cons_succ,List.countP_cons];omega
structure Oi(L:List AR)(N:Nat):Prop where
 from_:∀k (h:k<L.length),0<=L[k].From∧L[k].From<(N:Int)
 to_:∀k (h:k<L.length),0<=L[k].To∧L[k].To<(N:Int)
theorem Xc{n:Nat}{L:List AR}{lv:List Bool}{N s:Nat}(hL:Oi L N)(hlv:lv.length=L.length)(hl:L.length<=10000)(hN:N<=1000)(hs:s<N)(hn:1048577<=n):
 ∃out,Rh n (N:Int) L lv (s:Int) true=some out∧IP L lv (fun u=>u=(s:Int)) N out:=by
 rw [Rh,EU (by omega) (by omega),At,AS (show s<(List.replicate N false).length by simpa using hs),At,Int.toNat_natCast]
 have key:=Pn (L:=fun m (st:Bool×List Bool)=>GT n L lv true (fun q33 l34=>(some l34)) m st.1 st.2) (fun st=>2*cf st.2+st.1.toNat)
  (fun st=>st.2.length=N∧gb st.2 s=true∧(∀v,v<N->gb st.2 v=true->Jw L lv (fun u=>u=(s:Int)) (v:Int))∧(st.1=false->∀k (h:k<L.length),gb lv k=true->gb st.2 L[k].From.toNat=true->gb st.2 L[k].To.toNat=true))
  (fun o=>∃out,o=some out∧IP L lv (fun u=>u=(s:Int)) N out) ?_ n (true,(List.replicate N false).set s true) ?_ ?_
 ·exact key
 ·rintro m ⟨q,out⟩ ⟨h1,h2,h3,h4⟩ ih
  have h1:out.length=N:=h1
  have h2:gb out s=true:=h2
  have h3:∀v,v<N->gb out v=true->Jw L lv (fun u=>u=(s:Int)) (v:Int):=h3
  simp only [GT.eq_2]
  cases q with
  |false=>
   have h4:=h4 rfl
   refine⟨out,rfl,h1,fun v hv=>⟨h3 v hv,fun r=>?_⟩⟩
   have:=Jw.closed (Q:=fun u=>0<=u∧u<(N:Int)∧gb out u.toNat=true) (fun u e=>by subst e;exact⟨by omega,by omega,by simpa using h2⟩) (fun u w hu e=>by
    obtain⟨k,hk,e1,e2,e3⟩:=e
    subst e2 e3
    have:=hL.to_ k hk
    exact⟨this.1,this.2,h4 k hk e1 hu.2.2⟩) r
   simpa using this.2.2
  |true=>
   rw [cT]
   have inner:=RM (L:=fun m' i (st:Bool×List Bool)=>Dw L lv true (fun q38 i39 l40=>(GT n L lv true (fun q33 l34=>(some l34)) m q38 l40)) m' st.1 i st.2) L.length
    (fun i st=>st.2.length=N∧gb st.2 s=true∧(∀v,v<N->gb st.2 v=true->Jw L lv (fun u=>u=(s:Int)) (v:Int))∧(∀v,gb out v=true->gb st.2 v=true)∧cf st.2<=cf out∧(st.1=true->cf st.2<cf out)∧(st.1=false->st.2=out∧∀k (h:k<L.length),k<i->gb lv k=true->gb out L[k].From.toNat=true->gb out L[k].To.toNat=true))
    (fun o=>∃out,o=some out∧IP L lv (fun u=>u=(s:Int)) N out) ?_ ?_ n 0 (false,out) (by omega) (by omega) ⟨h1,h2,h3,fun v h=>h,Nat.le_refl _,fun h=>Bool.noConfusion h,fun _=>⟨rfl,fun k _ h=>absurd h (Nat.not_lt_zero k)⟩⟩
   ·exact inner
   ·rintro m' i ⟨q,l⟩ hi ⟨g1,g2,g3,g4,g5,g6,g7⟩ kk
    have g1:l.length=N:=g1
    have g2:gb l s=true:=g2
    have g3:∀v,v<N->gb l v=true->Jw L lv (fun u=>u=(s:Int)) (v:Int):=g3
    have g4:∀v,gb out v=true->gb l v=true:=g4
    have g5:cf l<=cf out:=g5
    have g6:q=true->cf l<cf out:=g6
    have g7:q=false->l=out∧∀k (h:k<L.length),k<i->gb lv k=true->gb out L[k].From.toNat=true->gb out L[k].To.toNat=true:=g7
    have hF:=hL.from_ i hi
    have hT:=hL.to_ i hi
    obtain⟨F,eF⟩:=Int.eq_ofNat_of_zero_le hF.1
    have eF:L[i].From=(F:Int):=eF
    obtain⟨T,eT⟩:=Int.eq_ofNat_of_zero_le hT.1
    have eT:L[i].To=(T:Int):=eT
    have lF:F<l.length:=by omega
    have lT:T<l.length:=by omega
    show∃o',Dw L lv true _ (m'+1) q (i:Int) l=some o'∧_
    simp only [Dw.eq_2,CR hi,cT,AS hi,At,Bool.not_true,cF,Eb (show i<lv.length by omega),eF,eT,Eb lF,Eb lT,Ca,Int.toNat_natCast,wT i]
    have skip:(gb lv i=true->gb l F=true->gb l T=true)->∃o',Dw L lv true (fun q38 i39 l40=>(GT n L lv true (fun q33 l34=>(some l34)) m q38 l40)) m' q ((i+1:Nat):Int) l=some o'∧IP L lv (fun u=>u=(s:Int)) N o':=fun hc=>kk (q,l) ⟨g1,g2,g3,g4,g5,g6,fun hq=>by
     obtain⟨e,h⟩:=g7 hq
     refine⟨e,fun k hk hki a b=>?_⟩
     by_cases c:k=i
     ·subst c;subst e
      rw [eT,Int.toNat_natCast]
      rw [eF,Int.toNat_natCast]at b
      exact hc a b
     ·exact h k hk (by omega) a b⟩
    cases c1:(gb lv i&&gb l F)with
    |false=>
     simp only [Bool.false_and,cF]
     exact skip fun a b=>by rw [a,b]at c1;cases c1
    |true=>
     simp only [Bool.true_and]
     simp only [Bool.and_eq_true]at c1
     cases c2:gb l T with
     |true=>
      simp only [Bool.not_true,cF]
      exact skip fun _ _=>c2
     |false=>
      simp only [Bool.not_false,cT]
      have hcf:=NK lT c2
      refine kk (true,l.set T true) ⟨by simpa using g1,?_,?_,?_,by show cf (l.set T true)<=_;omega,fun _=>by show cf (l.set T true)<_;omega,fun h=>by cases h⟩
      ·show gb (l.set T true) s=true
       rw [Dk lT];split
       ·rfl
       ·exact g2
      ·intro v hv hg
       have hg:gb (l.set T true) v=true:=hg
       rw [Dk lT]at hg
       by_cases c:T=v
       ·subst c
        refine .step (g3 F (by omega) c1.2) ⟨i,hi,c1.1,eF,eT⟩
       ·rw [if_neg c]at hg;exact g3 v hv hg
      ·intro v hg
       show gb (l.set T true) v=true
       rw [Dk lT];split
       ·rfl
       ·exact g4 v hg
   ·rintro m' ⟨q,l⟩ ⟨g1,g2,g3,g4,g5,g6,g7⟩
    show∃o',Dw L lv true _ (m'+1) q (L.length:Int) l=some o'∧_
    simp only [Dw.eq_2,Cb,cF]
    refine ih (q,l) ⟨g1,g2,g3,fun hq=>?_⟩ ?_
    ·obtain⟨e,h⟩:=g7 hq
     have e:l=out:=e
     subst e
     exact fun k hk a b=>h k hk hk a b
    ·show 2*cf l+q.toNat<2*cf out+1
     cases q with
     |true=>have:=g6 rfl;have:cf l<cf out:=this;simp;omega
     |false=>have:cf l<=cf out:=g5;simp;omega
 ·have h1:=QP ((List.replicate N false).set s true)
  simp only [List.length_set,List.length_replicate]at h1
  show 2*cf ((List.replicate N false).set s true)+1<n
  omega
 ·have hl2:s<(List.replicate N false).length:=by simpa using hs
  refine⟨by simp,by show gb ((List.replicate N false).set s true) s=true;rw [Dk hl2,if_pos rfl],fun v hv hg=>?_,fun h=>by cases h⟩
  have hg:gb ((List.replicate N false).set s true) v=true:=hg
  rw [Dk hl2]at hg
  by_cases c:s=v
  ·subst c;exact .src rfl
  ·rw [if_neg c]at hg;simp [gb,hv]at hg
structure ZV(L:List AR)(lv:List Bool)(N i:Nat)(nx:List (List Int)):Prop where
 len:nx.length=N
 few:∀u (h:u<nx.length),nx[u].length<=i
 iff:∀u (h:u<nx.length) (w:Int),w∈nx[u]↔∃k,∃h:k<L.length,k<i∧gb lv k=true∧L[k].From=(u:Int)∧L[k].To=w
theorem PK{α:Type}{x:α}{xs:List α}:Dr (x::xs) 1 ((x::xs).length:Int)=some xs:=by
 unfold Dr
 rw [if_pos ⟨by omega,by simp only [List.length_cons];omega,Int.le_refl _⟩]
 simp
theorem dF{n:Nat}{g:CZ}{N a b:Nat}(hL:Oi g.view_.links_ N)(hlv:g.live_.length=g.view_.links_.length)(hl:g.view_.links_.length<=5128)(hN:N<=156)(hp:2*g.view_.places_.length=N)(ha:a<N)(hb:b<N)(hn:1048577<=n):
 ∃out,Un n g [(a:Int),(b:Int)]=some out∧IP g.view_.links_ g.live_ (fun u=>u=(a:Int)∨u=(b:Int)) N out:=by
 obtain⟨w,lv⟩:=g
 generalize hLL:(CZ.mk w lv).view_.links_=L at hL hlv hl ⊢
 have hLL:w.links_=L:=hLL
 have hlv:lv.length=L.length:=hlv
 show∃out,Un n ⟨w,lv⟩ [(a:Int),(b:Int)]=some out∧IP L lv (fun u=>u=(a:Int)∨u=(b:Int)) N out
 have hw:NY n w=some (N:Int):=by
  rw [NY,Ol,At,Af (by have:2*w.places_.length=N:=hp;omega) (by have:2*w.places_.length=N:=hp;omega)]
  congr 1
  have:2*w.places_.length=N:=hp
  omega
 rw [Un]
 simp only [hw,At]
 rw [EU (by omega) (by omega),At]
 refine loop (L:=fun m i nx=>HZ n ⟨w,lv⟩ _ m i nx) L.length (ZV L lv N) (fun o=>∃out,o=some out∧IP L lv (fun u=>u=(a:Int)∨u=(b:Int)) N out) ?_ ?_ n 0 (List.replicate N []) (by omega) (by omega) ⟨by simp,fun u h=>by simp,fun u h x=>by simp⟩
 ·intro m i nx hi hx
  refine .inl ?_
  have hF:=hL.from_ i hi
  obtain⟨F,eF⟩:=Int.eq_ofNat_of_zero_le hF.1
  have eF:L[i].From=(F:Int):=eF
  have lF:F<nx.length:=by rw [hx.len];omega
  have fw:=hx.few F lF
  simp only [HZ.eq_2,hLL,CR hi,cT,AS hi,At,SK,Eb (show i<lv.length by omega),eF,AS lF,Int.toNat_natCast,wT i]
  cases c:gb lv i with
  |false=>
   refine⟨nx,⟨hx.len,fun u h=>by have:=hx.few u h;omega,fun u h x=>(hx.iff u h x).trans ⟨fun⟨k,hk,h1,h2⟩=>⟨k,hk,by omega,h2⟩,fun⟨k,hk,h1,h2,h3⟩=>⟨k,hk,?_,h2,h3⟩⟩⟩,rfl⟩
   rcases Nat.lt_or_ge k i with h|h
   ·exact h
   ·obtain rfl:k=i:=by omega
    rw [c]at h2;cases h2
  |true=>
   rw [cT,BC (by simp;omega) (by omega),At]
   refine⟨nx.set F (nx[F]++[L[i].To]),⟨by simpa using hx.len,fun u h=>?_,fun u h x=>?_⟩,rfl⟩
   ·rw [List.getElem_set]
    split
    ·simp;omega
    ·have:=hx.few u (by simpa using h);omega
   ·have hu:u<nx.length:=by simpa using h
    rw [List.getElem_set]
    by_cases e:F=u
    ·subst e
     rw [if_pos rfl,List.mem_append,hx.iff F hu x,List.mem_singleton]
     refine⟨fun h=>?_,fun⟨k,hk,h1,h2,h3,h4⟩=>?_⟩
     ·rcases h with ⟨k,hk,h1,h2⟩|h
      ·exact⟨k,hk,by omega,h2⟩
      ·exact⟨i,hi,by omega,c,eF,h.symm⟩
     ·rcases Nat.lt_or_ge k i with h|h
      ·exact .inl ⟨k,hk,h,h2,h3,h4⟩
      ·obtain rfl:k=i:=by omega
       exact .inr h4.symm
    ·rw [if_neg e,hx.iff u hu x]
     refine⟨fun⟨k,hk,h1,h2⟩=>⟨k,hk,by omega,h2⟩,fun⟨k,hk,h1,h2,h3,h4⟩=>⟨k,hk,?_,h2,h3,h4⟩⟩
     rcases Nat.lt_or_ge k i with h|h
     ·exact h
     ·obtain rfl:k=i:=by omega
      rw [eF]at h3;omega
 ·intro m nx hx
  simp only [HZ.eq_2,hLL,Cb,cF]
  rw [EU (by omega) (by omega),At,NI,BC (by simp) (by omega),At,At,List.nil_append]
  have hnx:=hx.len
  have step:∀u w:Int,0<=u->u<(N:Int)->∀h:u.toNat<nx.length,(w∈nx[u.toNat]↔Ed L lv u w):=fun u w h0 h1 h=>by
   rw [hx.iff u.toNat h w]
   unfold Ed
   refine⟨fun⟨k,hk,_,h2,h3,h4⟩=>⟨k,hk,h2,by omega,h4⟩,fun⟨k,hk,h2,h3,h4⟩=>⟨k,hk,hk,h2,by omega,h4⟩⟩
  have edN:∀u w:Int,Ed L lv u w->0<=w∧w<(N:Int):=fun u w ⟨k,hk,_,_,h4⟩=>by rw [←h4];exact hL.to_ k hk
  refine Pn (L:=fun m (st:List Int×List Bool)=>Gu nx (fun l87 l92=>(some l92)) m st.1 st.2) (fun st=>st.1.length+cf st.2*(L.length+1))
   (fun st=>st.2.length=N∧(∀x∈st.1,(0<=x∧x<(N:Int))∧Jw L lv (fun u=>u=(a:Int)∨u=(b:Int)) x)∧(∀v,v<N->gb st.2 v=true->Jw L lv (fun u=>u=(a:Int)∨u=(b:Int)) (v:Int))∧(∀u:Nat,u=a∨u=b->gb st.2 u=true∨(u:Int)∈st.1)∧(∀u w:Int,0<=u->u<(N:Int)->gb st.2 u.toNat=true->Ed L lv u w->gb st.2 w.toNat=true∨w∈st.1)∧st.1.length+cf st.2*(L.length+1)<=810000)
   (fun o=>∃out,o=some out∧IP L lv (fun u=>u=(a:Int)∨u=(b:Int)) N out) ?_ n ([(a:Int),(b:Int)],List.replicate N false) ?_ ?_
  ·rintro m ⟨op,re⟩ ⟨h1,h2,h3,h4,h5,h6⟩ ih
   have h1:re.length=N:=h1
   have h3:∀v,v<N->gb re v=true->Jw L lv (fun u=>u=(a:Int)∨u=(b:Int)) (v:Int):=h3
   show∃o',Gu nx _ (m+1) op re=some o'∧_
   rw [Gu.eq_2]
   cases op with
   |nil=>
    have h4:∀u:Nat,u=a∨u=b->gb re u=true∨(u:Int)∈([]:List Int):=h4
    have h5:∀u w:Int,0<=u->u<(N:Int)->gb re u.toNat=true->Ed L lv u w->gb re w.toNat=true∨w∈([]:List Int):=h5
    refine⟨re,rfl,h1,fun v hv=>⟨h3 v hv,fun r=>?_⟩⟩
    have:=Jw.closed (Q:=fun u=>0<=u∧u<(N:Int)∧gb re u.toNat=true) (fun u e=>by
     rcases e with e|e
     ·subst e;exact⟨by omega,by omega,by have:=h4 a (.inl rfl);simpa using this⟩
     ·subst e;exact⟨by omega,by omega,by have:=h4 b (.inr rfl);simpa using this⟩) (fun u w hu e=>by
     have hw:=edN u w e
     exact⟨hw.1,hw.2,by have:=h5 u w hu.1 hu.2.1 hu.2.2 e;simpa using this⟩) r
    simpa using this.2.2
   |cons x rest=>
    have hxr:=h2 x (by simp)
    obtain⟨X,eX⟩:=Int.eq_ofNat_of_zero_le hxr.1.1
    have eX:x=(X:Int):=eX
    subst eX
    have lX:X<re.length:=by omega
    have lX2:X<nx.length:=by omega
    have hfx:=hx.few X lX2
    have d0:decide ((((X:Int)::rest).length:Int)>0)=true:=decide_eq_true (by simp only [List.length_cons];omega)
    have g0:AM ((X:Int)::rest) 0=some (X:Int):=rfl
    have h6:(rest.length+1)+cf re*(L.length+1)<=810000:=h6
    rw [d0,cT,g0,At,PK,At,Eb lX,At]
    cases c:gb re X with
    |true=>
     simp only [Bool.not_true,cF]
     refine ih (rest,re) ⟨h1,fun y hy=>h2 y (by simp [hy]),h3,fun u hu=>?_,fun u w q1 q2 q3 q4=>?_,by show rest.length+cf re*(L.length+1)<=810000;omega⟩ (by show rest.length+cf re*(L.length+1)<rest.length+1+cf re*(L.length+1);omega)
     ·rcases h4 u hu with h|h
      ·exact .inl h
      ·rcases List.mem_cons.1 h with h|h
       ·have:u=X:=by omega
        subst this;exact .inl c
       ·exact .inr h
     ·rcases h5 u w q1 q2 q3 q4 with h|h
      ·exact .inl h
      ·rcases List.mem_cons.1 h with h|h
       ·subst h;exact .inl (by simpa using c)
       ·exact .inr h
    |false=>
     simp only [Bool.not_false,cT,At]
     rw [AS lX2,At,BC (by omega) (by omega),At,Int.toNat_natCast]
     have hcf:=NK lX c
     have hmul:cf re*(L.length+1)=cf (re.set X true)*(L.length+1)+(L.length+1):=by rw [←hcf,Nat.add_mul,Nat.one_mul]
     refine ih (rest++nx[X],re.set X true) ⟨by simpa using h1,fun y hy=>?_,fun v hv hg=>?_,fun u hu=>?_,fun u w q1 q2 q3 q4=>?_,?_⟩ ?_
     ·rcases List.mem_append.1 hy with hy|hy
      ·exact h2 y (by simp [hy])
      ·have e:=(step (X:Int) y hxr.1.1 hxr.1.2 (by simpa using lX2)).1 (by simpa using hy)
       exact⟨edN _ _ e,.step hxr.2 e⟩
     ·have hg:gb (re.set X true) v=true:=hg
      rw [Dk lX]at hg
      by_cases e:X=v
      ·subst e;exact hxr.2
      ·rw [if_neg e]at hg;exact h3 v hv hg
     ·show gb (re.set X true) u=true∨(u:Int)∈rest++nx[X]
      rw [Dk lX]
      by_cases e:X=u
      ·rw [if_pos e];exact .inl rfl
      ·rw [if_neg e]
       rcases h4 u hu with h|h
       ·exact .inl h
       ·rcases List.mem_cons.1 h with h|h
        ·omega
        ·exact .inr (List.mem_append_left _ h)
     ·have q3:gb (re.set X true) u.toNat=true:=q3
      show gb (re.set X true) w.toNat=true∨w∈rest++nx[X]
      rw [Dk lX]at q3 ⊢
      by_cases e:X=w.toNat
      ·rw [if_pos e];exact .inl rfl
      ·rw [if_neg e]
       by_cases e2:X=u.toNat
       ·refine .inr (List.mem_append_right _ ?_)
        have:=(step u w q1 q2 (by omega)).2 q4
        simpa [←e2] using this
       ·rw [if_neg e2]at q3
        rcases h5 u w q1 q2 q3 q4 with h|h
        ·exact .inl h
        ·rcases List.mem_cons.1 h with h|h
         ·omega
         ·exact .inr (List.mem_append_left _ h)
     ·show(rest++nx[X]).length+cf (re.set X true)*(L.length+1)<=810000
      rw [List.length_append];omega
     ·show(rest++nx[X]).length+cf (re.set X true)*(L.length+1)<rest.length+1+cf re*(L.length+1)
      rw [List.length_append];omega
  ·have h1:=QP (List.replicate N false)
   simp only [List.length_replicate]at h1
   have h2:cf (List.replicate N false)*(L.length+1)<=156*5129:=Nat.mul_le_mul (by omega) (by omega)
   show 2+cf (List.replicate N false)*(L.length+1)<n
   omega
  ·have h1:=QP (List.replicate N false)
   simp only [List.length_replicate]at h1
   have h2:cf (List.replicate N false)*(L.length+1)<=156*5129:=Nat.mul_le_mul (by omega) (by omega)
   refine⟨by simp,fun x hx=>?_,fun v hv hg=>?_,fun u hu=>?_,fun u w _ _ hg=>?_,by show 2+cf (List.replicate N false)*(L.length+1)<=810000;omega⟩
   ·rcases List.mem_cons.1 hx with h|h
    ·subst h;exact⟨by omega,.src (.inl rfl)⟩
    ·rw [List.mem_singleton]at h;subst h;exact⟨by omega,.src (.inr rfl)⟩
   ·have hg:gb (List.replicate N false) v=true:=hg
    rw [RI]at hg;cases hg
   ·rcases hu with h|h
    ·subst h;exact .inr (by simp)
    ·subst h;exact .inr (by simp)
   ·have hg:gb (List.replicate N false) u.toNat=true:=hg
    rw [RI]at hg;cases hg
def JT(b:AP)(br:List Int):List Bool:=Cl (fun k x=>[!(br.any fun y=>y==(k:Int))&& !(Jx b x)]) 0 (Fa b)
theorem EQ(b:AP)(br:List Int):(JT b br).length=(Fa b).length:=Hj _ _ _
theorem Fw{b:AP}{br:List Int}{k:Nat}(h:k<(Fa b).length):gb (JT b br) k=(!(br.any fun y=>y==(k:Int))&& !(Jx b (Fa b)[k])):=by
 have:=HN (fun k x=>(!(br.any fun y=>y==((k:Nat):Int))&& !(Jx b x))) (Fa b) 0 k
 rw [List.getElem?_eq_getElem h,Nat.zero_add]at this
 unfold gb JT
 rw [List.getD_eq_getElem?_getD,this];rfl
theorem Nn{b:AP}(v:CW b):Oi (Fa b) (2*(pls b.Design).length):=
 ⟨fun k h=>by have:=(Ko v _ (List.getElem_mem h)).from_;unfold Kk at this;push_cast;omega,fun k h=>by have:=(Ko v _ (List.getElem_mem h)).to_;unfold Kk at this;push_cast;omega⟩
theorem aI{n:Nat}{L:List AR}{br:List Int}(hl:L.length<=1048576)(hb:br.length<=1048576)(hn:1048577<=n):PC n L br=some (Cl (fun k (_:AR)=>[!(br.any fun y=>y==(k:Int))]) 0 L):=by
 rw [PC]
 rw [CM (xs:=L) (L:=fun m s i=>Gm n L br (fun l19 i23=>(some l19)) m s i) (k:=fun s=>some s) (fun k (_:AR)=>[!(br.any fun y=>y==(k:Int))]) 1 0 (fun _ _ _=>by simp) (by omega) (by
  intro m i hi s hs
  simp only [Gm.eq_2,CR hi,cT,Yx hb hn,At,wT i]
  rw [BC (by simp;omega) (by omega),At]) (by
  intro m s
  simp only [Gm.eq_2,Cb,cF]) n (by omega) [] (by simp)]
 rw [List.nil_append]
def NU(b:AP)(br:List Int)(p:Nat)(out:List Bool):Prop:=IP (Fa b) (JT b br) (fun u=>u=((2*p:Nat):Int)∨u=((2*p+1:Nat):Int)) (2*(pls b.Design).length) out
theorem Zy{n:Nat}{b:AP}{br:List Int}{p:Nat}(v:CW b)(hb:br.length<=1048576)(hp:p<(pls b.Design).length)(hn:1048577<=n):∃out,VK n b br (p:Int)=some out∧NU b br p out:=by
 have vd:=v.design
 have hl:=CJ vd.short vd.few.1 vd.few.2.2
 have hL:=Hm v
 have hin:=Nn v
 rw [VK,Sa v hn,At,aI (by omega) hb hn,At]
 have w1:IntKind.wrap .i64 (2*(p:Int))=((2*p:Nat):Int):=by rw [Af (by omega) (by omega)];omega
 have w2:IntKind.wrap .i64 (((2*p:Nat):Int)+1)=((2*p+1:Nat):Int):=by rw [Af (by omega) (by omega)];omega
 have wc:Li n b=some ((2*(pls b.Design).length:Nat):Int):=by
  rw [Li,LL vd.short vd.few.1 vd.few.2.2 hn,At,List.length_map,Af (by omega) (by omega)]
  exact congrArg some (by omega)
 refine loop (L:=fun m i l=>IA n b (Fa b) _ m i l) (Fa b).length (fun i l=>l.length=(Fa b).length∧∀k (h:k<(Fa b).length),gb l k=if k<i then gb (JT b br) k else !(br.any fun y=>y==(k:Int))) (fun o=>∃out,o=some out∧NU b br p out) ?_ ?_ n 0 _ (by omega) (by omega) ⟨Hj _ _ _,fun k h=>?_⟩
 ·intro m i l hi ⟨h1,h2⟩
  refine .inl ?_
  have ok:=Ko v _ (List.getElem_mem hi)
  have h2i:=h2 i hi
  rw [if_neg (Nat.lt_irrefl i)]at h2i
  simp only [IA.eq_2,CR hi,cT,AS hi,At,wT i]
  by_cases c:(Fa b)[i].Kind=1
  ·have e1:((Fa b)[i].Kind==1)=true:=by rw [beq_iff_eq];exact c
   obtain⟨a,z,ea,ek⟩:=Wj (n:=n) v ok c hn
   simp only [e1,cT,ea,At,Eb (show i<l.length by omega),Int.toNat_natCast,ek]
   refine⟨_,⟨by simpa using h1,fun k hk=>?_⟩,rfl⟩
   rw [Dk (by omega)]
   by_cases e:i=k
   ·subst e
    rw [if_pos rfl,if_pos (by omega),Fw hk,h2i]
   ·rw [if_neg e,h2 k hk]
    by_cases q:k<i
    ·rw [if_pos q,if_pos (by omega)]
    ·rw [if_neg q,if_neg (by omega)]
  ·have e1:((Fa b)[i].Kind==1)=false:=by rw [beq_eq_false_iff_ne];exact c
   simp only [e1,cF]
   refine⟨l,⟨h1,fun k hk=>?_⟩,rfl⟩
   rw [h2 k hk]
   by_cases e:i=k
   ·subst e
    rw [if_neg (Nat.lt_irrefl i),if_pos (by omega),Fw hk]
    have:Jx b (Fa b)[i]=false:=by unfold Jx;rw [e1,Bool.false_and]
    rw [this];simp
   ·by_cases q:k<i
    ·rw [if_pos q,if_pos (by omega)]
    ·rw [if_neg q,if_neg (by omega)]
 ·intro m l ⟨h1,h2⟩
  have el:l=JT b br:=Nl (h1.trans (EQ b br).symm) fun j hj=>by rw [h2 j (by omega),if_pos (by omega)]
  subst el
  obtain⟨o1,f1,r1⟩:=Xc (n:=n) (s:=2*p) hin (EQ b br) (by omega) (by omega) (by omega) hn
  obtain⟨o2,f2,r2⟩:=Xc (n:=n) (s:=2*p+1) hin (EQ b br) (by omega) (by omega) (by omega) hn
  simp only [IA.eq_2,Cb,cF,wc,At,w1,w2,f1,f2]
  refine loop (L:=fun m i l=>Ix ((2*(pls b.Design).length:Nat):Int) o2 (fun i75 l76=>(some l76)) m i l) (2*(pls b.Design).length) (fun i l=>l.length=2*(pls b.Design).length∧∀k,k<2*(pls b.Design).length->gb l k=if k<i then(gb o1 k||gb o2 k)else gb o1 k) (fun o=>∃out,o=some out∧NU b br p out) ?_ ?_ n 0 o1 (by omega) (by omega) ⟨r1.len,fun k _=>by rw [if_neg (Nat.not_lt_zero k)]⟩
  ·intro m i l hi ⟨g1,g2⟩
   refine .inl ?_
   have g2i:=g2 i hi
   rw [if_neg (Nat.lt_irrefl i)]at g2i
   simp only [Ix.eq_2,CR hi,cT,Eb (show i<l.length by omega),Eb (show i<o2.length by have:=r2.len;omega),At,Dn,Int.toNat_natCast,wT i]
   refine⟨_,⟨by simpa using g1,fun k hk=>?_⟩,rfl⟩
   rw [Dk (by omega)]
   by_cases e:i=k
   ·subst e;rw [if_pos rfl,if_pos (by omega),g2i]
   ·rw [if_neg e,g2 k hk]
    by_cases q:k<i
    ·rw [if_pos q,if_pos (by omega)]
    ·rw [if_neg q,if_neg (by omega)]
  ·intro m l ⟨g1,g2⟩
   simp only [Ix.eq_2,Cb,cF]
   refine⟨l,rfl,g1,fun k hk=>?_⟩
   rw [g2 k hk,if_pos hk,Bool.or_eq_true,r1.iff k hk,r2.iff k hk]
   exact⟨fun h=>h.elim (fun h=>h.mono fun _ e=>.inl e) (fun h=>h.mono fun _ e=>.inr e),Jw.or⟩
 ·rw [if_neg (Nat.not_lt_zero k)]
  have:=HN (fun k (_:AR)=>!(br.any fun y=>y==((k:Nat):Int))) (Fa b) 0 k
  rw [List.getElem?_eq_getElem h,Nat.zero_add]at this
  unfold gb
  rw [List.getD_eq_getElem?_getD,this];rfl
theorem QO{br:List Int}{i:Nat}(hi:i<br.length)(k:Int):((br.take (i+1)).any fun y=>y==k)=(((br.take i).any fun y=>y==k)||(br[i]==k)):=by
 rw [List.take_succ_eq_append_getElem hi,List.any_append];simp
theorem aE{n:Nat}{w:BP}{br:List Int}(hl:w.links_.length<=1048576)(hb:br.length<=1048576)(hr:NF (w.links_.length:Int) br)(hn:1048577<=n):∃lv,XZ n w br=some ⟨w,lv⟩∧lv.length=w.links_.length∧∀k,k<w.links_.length->gb lv k= !(br.any fun y=>y==(k:Int)):=by
 rw [XZ,EU (by omega) (by omega),At]
 refine loop (L:=fun m i l=>IY w.links_.length _ m i l) (List.replicate w.links_.length false).length (fun i l=>l.length=w.links_.length∧∀k,k<i->gb l k=true) (fun o=>∃lv,o=some (⟨w,lv⟩:CZ)∧lv.length=w.links_.length∧∀k,k<w.links_.length->gb lv k= !(br.any fun y=>y==(k:Int))) ?_ ?_ n 0 (List.replicate w.links_.length false) (by omega) (by simp;omega) ⟨by simp,fun k h=>absurd h (Nat.not_lt_zero k)⟩
 ·intro m i l hi ⟨h1,h2⟩
  have hi2:i<l.length:=by rw [h1];simpa using hi
  simp only [IY.eq_2,CR hi,cT,Eb hi2,At,Int.toNat_natCast,wT i]
  refine .inl ⟨_,⟨by simpa using h1,fun k hk=>?_⟩,rfl⟩
  rw [Dk hi2]
  by_cases e:i=k
  ·rw [if_pos e]
  ·rw [if_neg e];exact h2 k (by omega)
 ·intro m l ⟨h1,h2⟩
  simp only [IY.eq_2,Cb,cF]
  simp only [List.length_replicate]at h2
  refine loop (L:=fun m i l=>HO br _ m i l) br.length (fun i l=>l.length=w.links_.length∧∀k,k<w.links_.length->gb l k= !((br.take i).any fun y=>y==(k:Int))) (fun o=>∃lv,o=some (⟨w,lv⟩:CZ)∧lv.length=w.links_.length∧∀k,k<w.links_.length->gb lv k= !(br.any fun y=>y==(k:Int))) ?_ ?_ n 0 l (by omega) (by omega) ⟨h1,fun k hk=>by rw [h2 k hk];simp⟩
  ·intro m i l hi ⟨g1,g2⟩
   have hx:=(hr i hi).1
   rw [Zc hi]at hx
   obtain⟨X,eX⟩:=Int.eq_ofNat_of_zero_le hx.1
   have eX:br[i]=(X:Int):=eX
   have lX:X<l.length:=by omega
   simp only [HO.eq_2,CR hi,cT,AS hi,At,eX,Eb lX,Int.toNat_natCast,wT i]
   refine .inl ⟨_,⟨by simpa using g1,fun k hk=>?_⟩,rfl⟩
   rw [Dk lX,QO hi,eX]
   by_cases e:X=k
   ·subst e;rw [if_pos rfl];simp
   ·have:((X:Int)==(k:Int))=false:=by rw [beq_eq_false_iff_ne];omega
    rw [if_neg e,g2 k hk,this,Bool.or_false]
  ·intro m l ⟨g1,g2⟩
   simp only [HO.eq_2,Cb,cF]
   refine⟨l,rfl,g1,fun k hk=>?_⟩
   rw [g2 k hk,List.take_length]
theorem Uh{n:Nat}{b:AP}{w:BP}{br:List Int}{p:Nat}(v:CW b)(hwb:w.Block=b)(hwp:w.places_=pls b.Design)(hwl:w.links_=Fa b)(hb:br.length<=1048576)(hr:NF ((Fa b).length:Int) br)(hp:p<(pls b.Design).length)(hn:1048577<=n):∃out,On n w br (p:Int)=some out∧NU b br p out:=by
 have vd:=v.design
 have hl:=CJ vd.short vd.few.1 vd.few.2.2
 have hL:=Hm v
 have hin:=Nn v
 have w1:IntKind.wrap .i64 (2*(p:Int))=((2*p:Nat):Int):=by rw [Af (by omega) (by omega)];omega
 have w2:IntKind.wrap .i64 (((2*p:Nat):Int)+1)=((2*p+1:Nat):Int):=by rw [Af (by omega) (by omega)];omega
 obtain⟨lv0,f0,l0,e0⟩:=aE (n:=n) (w:=w) (br:=br) (by rw [hwl];omega) hb (by rw [hwl];exact hr) hn
 rw [hwl]at l0 e0
 rw [On,f0,At]
 refine loop (L:=fun m i l=>FP n w _ m i l) (Fa b).length (fun i l=>l.length=(Fa b).length∧∀k (h:k<(Fa b).length),gb l k=if k<i then gb (JT b br) k else !(br.any fun y=>y==(k:Int))) (fun o=>∃out,o=some out∧NU b br p out) ?_ ?_ n 0 lv0 (by omega) (by omega) ⟨l0,fun k h=>by rw [if_neg (Nat.not_lt_zero k),e0 k h]⟩
 ·intro m i l hi ⟨h1,h2⟩
  refine .inl ?_
  have ok:=Ko v _ (List.getElem_mem hi)
  have h2i:=h2 i hi
  rw [if_neg (Nat.lt_irrefl i)]at h2i
  simp only [FP.eq_2,hwl,CR hi,cT,AS hi,At,ZP hwb hwp ok,wT i]
  cases c:Jx b (Fa b)[i]with
  |true=>
   simp only [cT,Eb (show i<l.length by omega),At,Int.toNat_natCast]
   refine⟨_,⟨by simpa using h1,fun k hk=>?_⟩,rfl⟩
   rw [Dk (by omega)]
   by_cases e:i=k
   ·subst e
    rw [if_pos rfl,if_pos (by omega),Fw hk,c];simp
   ·rw [if_neg e,h2 k hk]
    by_cases q:k<i
    ·rw [if_pos q,if_pos (by omega)]
    ·rw [if_neg q,if_neg (by omega)]
  |false=>
   simp only [cF]
   refine⟨l,⟨h1,fun k hk=>?_⟩,rfl⟩
   rw [h2 k hk]
   by_cases e:i=k
   ·subst e
    rw [if_neg (Nat.lt_irrefl i),if_pos (by omega),Fw hk,c];simp
   ·by_cases q:k<i
    ·rw [if_pos q,if_pos (by omega)]
    ·rw [if_neg q,if_neg (by omega)]
 ·intro m l ⟨h1,h2⟩
  have el:l=JT b br:=Nl (h1.trans (EQ b br).symm) fun j hj=>by rw [h2 j (by omega),if_pos (by omega)]
  subst el
  obtain⟨o1,f1,r1⟩:=dF (n:=n) (g:=⟨w,JT b br⟩) (N:=2*(pls b.Design).length) (a:=2*p) (b:=2*p+1) (by show Oi w.links_ _;rw [hwl];exact hin) (by show(JT b br).length=w.links_.length;rw [hwl];exact EQ b br) (by show w.links_.length<=5128;rw [hwl];omega) (by omega) (by show 2*w.places_.length=_;rw [hwp]) (by omega) (by omega) hn
  have r1:IP w.links_ (JT b br) (fun u=>u=((2*p:Nat):Int)∨u=((2*p+1:Nat):Int)) (2*(pls b.Design).length) o1:=r1
  rw [hwl]at r1
  simp only [FP.eq_2,hwl,Cb,cF,w1,w2,f1,At]
  exact⟨o1,rfl,r1⟩
def Gt(s:List Bool):List Int:=Cl (fun i (x:Bool)=>if x=true then [(i:Int)]else []) 0 s
theorem Qq(s:List Bool):(Gt s).length<=s.length:=by
 have:=Ce (c:=1) (g:=fun i (x:Bool)=>if x=true then [((i:Nat):Int)]else []) s 0 fun i x _=>by split<;>simp
 unfold Gt;omega
theorem Vg{n:Nat}{s:List Bool}(h:s.length<=1048576)(hn:1048577<=n):PJ n s=some (Gt s):=by
 rw [PJ]
 rw [CM (xs:=s) (L:=fun m l i=>FT s (fun l8 i12=>(some l8)) m l i) (k:=fun s=>some s) (fun i (x:Bool)=>if x=true then [(i:Int)]else []) 1 0 (fun i x _=>by split<;>simp) (by omega) (by
  intro m i hi l hs
  simp only [FT.eq_2,CR hi,cT,AS hi,At,wT i]
  cases c:s[i]with
  |true=>rw [cT,if_pos rfl,BC (by simp;omega) (by omega),At]
  |false=>rw [cF,if_neg (by simp),List.append_nil]) (by
  intro m l
  simp only [FT.eq_2,Cb,cF]) n (by omega) [] (by simp)]
 rw [List.nil_append];rfl
def Fk(C:Nat->Prop)(i:Nat)(l:List Int):Prop:=l.length<=i∧l.Pairwise (fun a b=>a<b)∧∀x,x∈l↔∃k:Nat,x=(k:Int)∧k<i∧C k
theorem Fk.zero{C:Nat->Prop}:Fk C 0 []:=⟨Nat.le_refl _,List.Pairwise.nil,fun x=>⟨fun h=>(nomatch h),fun⟨k,_,h,_⟩=>by omega⟩⟩
theorem Fk.yes{C:Nat->Prop}{i:Nat}{l:List Int}(h:Fk C i l)(c:C i):Fk C (i+1) (l++[(i:Int)]):=by
 obtain⟨h1,h2,h3⟩:=h
 refine⟨by simp;omega,List.pairwise_append.2 ⟨h2,List.pairwise_singleton ..,fun a ha b hb=>?_⟩,fun x=>?_⟩
 ·obtain⟨k,e,hk,_⟩:=(h3 a).1 ha
  rw [List.mem_singleton.1 hb];omega
 ·rw [List.mem_append,List.mem_singleton,h3 x]
  constructor
  ·rintro (⟨k,e,hk,ck⟩|e)
   ·exact⟨k,e,by omega,ck⟩
   ·exact⟨i,e,by omega,c⟩
  ·rintro ⟨k,e,hk,ck⟩
   by_cases q:k=i
   ·right;rw [e,q]
   ·exact .inl ⟨k,e,by omega,ck⟩
theorem Fk.no{C:Nat->Prop}{i:Nat}{l:List Int}(h:Fk C i l)(c:¬C i):Fk C (i+1) l:=by
 obtain⟨h1,h2,h3⟩:=h
 refine⟨by omega,h2,fun x=>?_⟩
 rw [h3 x]
 constructor
 ·rintro ⟨k,e,hk,ck⟩;exact⟨k,e,by omega,ck⟩
 ·rintro ⟨k,e,hk,ck⟩
  exact⟨k,e,by have:k≠i:=fun q=>c (q▸ck);omega,ck⟩
theorem Ms:∀{a b:List Int},a.Pairwise (fun x y=>x<y)->b.Pairwise (fun x y=>x<y)->(∀x,x∈a↔x∈b)->a=b
 |[],[],_,_,_=>rfl
 |[],y::b,_,_,h=>absurd ((h y).2 (List.mem_cons_self ..)) (fun h=>nomatch h)
 |x::a,[],_,_,h=>absurd ((h x).1 (List.mem_cons_self ..)) (fun h=>nomatch h)
 |x::a,y::b,ha,hb,h=>by
  have ha':=List.pairwise_cons.1 ha
  have hb':=List.pairwise_cons.1 hb
  have e:x=y:=by
   rcases List.mem_cons.1 ((h x).1 (List.mem_cons_self ..))with e|h1
   ·exact e
   ·rcases List.mem_cons.1 ((h y).2 (List.mem_cons_self ..))with e|h2
    ·exact e.symm
    ·have:=hb'.1 x h1;have:=ha'.1 y h2;omega
  subst e
  rw [Ms ha'.2 hb'.2 fun z=>?_]
  constructor
  ·intro hz
   rcases List.mem_cons.1 ((h z).1 (List.mem_cons_of_mem _ hz))with e|h1
   ·have:=ha'.1 z hz;omega
   ·exact h1
  ·intro hz
   rcases List.mem_cons.1 ((h z).2 (List.mem_cons_of_mem _ hz))with e|h1
   ·have:=hb'.1 z hz;omega
   ·exact h1
theorem Le(s:List Bool):∀i,i<=s.length->Fk (fun k=>gb s k=true) i (Cl (fun i (x:Bool)=>if x=true then [(i:Int)]else []) 0 (s.take i))
 |0,_=>by rw [List.take_zero];exact Fk.zero
 |i+1,h=>by
  have ih:=Le s i (by omega)
  have hg:gb s i=s[i]:=by simp [gb,List.getElem?_eq_getElem (show i<s.length by omega)]
  rw [Ey (show i<s.length by omega)]
  cases c:s[i]with
  |true=>rw [if_pos rfl];exact ih.yes (by rw [hg,c])
  |false=>rw [if_neg (by simp),List.append_nil];exact ih.no (by rw [hg,c];simp)
theorem ON(s:List Bool):Fk (fun k=>gb s k=true) s.length (Gt s):=by
 have:=Le s s.length (Nat.le_refl _)
 rw [List.take_length]at this;exact this
theorem MS{xs:List Int}{i:Nat}(hs:xs.Pairwise (fun a b=>a<=b))(h0:0<i)(hi:i<xs.length):∀a∈xs.take i,a<=xs[i-1]:=by
 intro a ha
 obtain⟨j,hj,rfl⟩:=List.mem_iff_getElem.1 ha
 rw [List.length_take]at hj
 rw [List.getElem_take]
 by_cases e:j=i-1
 ·subst e;exact Int.le_refl _
 ·exact List.pairwise_iff_getElem.1 hs j (i-1) (by omega) (by omega) (by omega)
theorem UJ{xs:List Int}{i:Nat}(hs:xs.Pairwise (fun a b=>a<=b))(hl:xs.length<=1048576)(h0:0<i)(hi:i<xs.length){k2:Int->Int->List Int->Option (List Int)}(hk:∀(p:Nat) (q:Int) (l:List Int),l.length=xs.length->p<=xs.length->k2 (p:Int) q l=some (l.take p)):
 ∀(m p q:Nat) (l:List Int),xs.length-i-q<m->l.length=xs.length->i<=p->p+1<=i+q->i+q<=xs.length->(∀j,i+q<=j+1->l[j]? =xs[j]?)->(l.take p).Pairwise (fun a b=>a<b)->(∀x,x∈l.take p↔x∈xs.take (i+q))->
 ∃r,IT (i:Int) k2 m (p:Int) (q:Int) l=some r∧r.Pairwise (fun a b=>a<b)∧∀x,x∈r↔x∈xs
 |0,p,q,l,hm,_,_,_,_,_,_,_=>by omega
 |m+1,p,q,l,hm,h1,h2,h3,h4,h5,h6,h7=>by
  have hd:(l.drop (i:Int).toNat).length=xs.length-i:=by rw [List.length_drop,h1];rfl
  have hx:∀j:Nat,j+i<xs.length->AM (l.drop (i:Int).toNat) (j:Int)=l[i+j]?:=fun j hj=>by
   rw [FH,List.getElem?_drop];rfl
  rw [IT.eq_2,hd]
  by_cases c:q<xs.length-i
  ·have e1:l[i+q]? =some xs[i+q]:=by rw [h5 _ (by omega)];exact List.getElem?_eq_getElem (by omega)
   have e2:l[i+(q-1)]? =some xs[i+q-1]:=by rw [h5 _ (by omega),show i+(q-1)=i+q-1 by omega];exact List.getElem?_eq_getElem (by omega)
   have w1:IntKind.wrap .i64 ((q:Int)-1)=((q-1:Nat):Int):=by rw [Af (by omega) (by omega)];omega
   have hpl:AM l (p:Int)=some l[p]:=AS (by omega)
   simp only [CR c,cT,hx q (by omega),e1,At,w1,hx (q-1) (by omega),e2,hpl,wT p,wT q]
   have tk:=List.take_succ_eq_append_getElem (show i+q<xs.length by omega)
   have ct:=MS hs (show 0<i+q by omega) (by omega)
   by_cases q1:xs[i+q]=xs[i+q-1]
   ·rw [show(xs[i+q] !=xs[i+q-1])=false by rw [q1];simp,cF]
    refine UJ hs hl h0 hi hk m p (q+1) l (by omega) h1 h2 (by omega) (by omega) (fun j hj=>h5 j (by omega)) h6 fun x=>?_
    rw [h7 x,←Nat.add_assoc,tk,List.mem_append,List.mem_singleton]
    refine⟨.inl,fun h=>h.elim id fun e=>?_⟩
    rw [e,q1]
    exact List.mem_iff_getElem.2 ⟨i+q-1,by rw [List.length_take];omega,by rw [List.getElem_take]⟩
   ·rw [show(xs[i+q] !=xs[i+q-1])=true by rw [bne_iff_ne];exact q1,cT,Int.toNat_natCast]
    have hle:xs[i+q-1]<=xs[i+q]:=List.pairwise_iff_getElem.1 hs _ _ (by omega) (by omega) (by omega)
    have tp:(l.set p xs[i+q]).take (p+1)=l.take p++[xs[i+q]]:=by
     rw [List.take_succ_eq_append_getElem (by rw [List.length_set];omega)]
     simp [List.take_set_of_le]
    refine UJ hs hl h0 hi hk m (p+1) (q+1) (l.set p xs[i+q]) (by omega) (by rw [List.length_set];exact h1) (by omega) (by omega) (by omega) (fun j hj=>?_) ?_ fun x=>?_
    ·rw [List.getElem?_set_ne (by omega)];exact h5 j (by omega)
    ·rw [tp]
     refine List.pairwise_append.2 ⟨h6,List.pairwise_singleton ..,fun a ha b hb=>?_⟩
     rw [List.mem_singleton.1 hb]
     have:=ct a ((h7 a).1 ha)
     omega
    ·rw [tp,←Nat.add_assoc,tk,List.mem_append,List.mem_append,h7 x]
  ·have ec:decide ((q:Int)<((xs.length-i:Nat):Int))=false:=decide_eq_false (by omega)
   rw [ec,cF,hk p q l h1 (by omega)]
   refine⟨_,rfl,h6,fun x=>?_⟩
   rw [h7 x,List.take_of_length_le (by omega)]
theorem VQ{n:Nat}{xs:List Int}(hs:xs.Pairwise (fun a b=>a<=b))(hl:xs.length<=1048576)(hn:1048577<=n):∀(m i:Nat),xs.length-i<m->0<i->i<=xs.length->(xs.take i).Pairwise (fun a b=>a<b)->
 ∃r,JX n xs (fun _=>some xs) m (i:Int)=some r∧r.Pairwise (fun a b=>a<b)∧∀x,x∈r↔x∈xs
 |0,i,hm,_,_,_=>by omega
 |m+1,i,hm,h0,hi,h=>by
  rw [JX.eq_2]
  by_cases c:i<xs.length
  ·have w1:IntKind.wrap .i64 ((i:Int)-1)=((i-1:Nat):Int):=by rw [Af (by omega) (by omega)];omega
   have tk:=List.take_succ_eq_append_getElem c
   simp only [CR c,cT,AS c,At,w1,AS (show i-1<xs.length by omega),wT i]
   by_cases q1:xs[i]=xs[i-1]
   ·rw [show(xs[i]==xs[i-1])=true by rw [beq_iff_eq];exact q1,cT,show Dr xs (i:Int) (xs.length:Int)=some ((xs.take (xs.length:Int).toNat).drop (i:Int).toNat)from if_pos ⟨by omega,by omega,by omega⟩,At]
    refine UJ hs hl h0 c (fun p q l e1 e2=>?_) n i 1 xs (by omega) rfl (Nat.le_refl _) (by omega) (by omega) (fun _ _=>rfl) h fun x=>?_
    ·have a1:Dr l (p:Int) (l.length:Int)=some ((l.take (l.length:Int).toNat).drop (p:Int).toNat):=if_pos ⟨by omega,by omega,by omega⟩
     have a2:Dr (l.take p++List.replicate (l.length-p) (0:Int)) 0 (p:Int)=some (((l.take p++List.replicate (l.length-p) (0:Int)).take (p:Int).toNat).drop (0:Int).toNat):=if_pos ⟨by omega,by omega,by simp;omega⟩
     simp only [a1,At,Int.toNat_natCast,a2]
     have:(l.take p).length=p:=by rw [List.length_take];omega
     rw [List.take_append_of_le_length (by omega)]
     simp
     rw [List.take_take,Nat.min_self]
    ·rw [tk,List.mem_append,List.mem_singleton]
     refine⟨.inl,fun h=>h.elim id fun e=>?_⟩
     rw [e,q1]
     exact List.mem_iff_getElem.2 ⟨i-1,by rw [List.length_take];omega,by rw [List.getElem_take]⟩
   ·rw [show(xs[i]==xs[i-1])=false by rw [beq_eq_false_iff_ne];exact q1,cF]
    have hle:xs[i-1]<=xs[i]:=List.pairwise_iff_getElem.1 hs _ _ (by omega) (by omega) (by omega)
    refine VQ hs hl hn m (i+1) (by omega) (by omega) c ?_
    rw [tk]
    refine List.pairwise_append.2 ⟨h,List.pairwise_singleton ..,fun a ha b hb=>?_⟩
    rw [List.mem_singleton.1 hb]
    have:=MS hs h0 c a ha
    omega
  ·have ec:decide ((i:Int)<(xs.length:Int))=false:=decide_eq_false (by omega)
   rw [ec,cF]
   rw [List.take_of_length_le (by omega)]at h
   exact⟨xs,rfl,h,fun _=>Iff.rfl⟩
theorem cA{n:Nat}{xs:List Int}(hs:xs.Pairwise (fun a b=>a<=b))(hl:xs.length<=1048576)(hn:1048577<=n):∃r,TB n xs=some r∧r.Pairwise (fun a b=>a<b)∧∀x,x∈r↔x∈xs:=by
 rw [TB]
 by_cases c:(xs.length:Int)<2
 ·rw [decide_eq_true c,cT]
  refine⟨xs,rfl,?_,fun _=>Iff.rfl⟩
  match xs,c with
  |[],_=>exact List.Pairwise.nil
  |[x],_=>exact List.pairwise_singleton ..
  |_::_::_,c=>simp at c;omega
 ·rw [decide_eq_false c,cF]
  refine VQ hs hl hn n 1 (by omega) (by omega) (by omega) ?_
  match xs,c with
  |[],c=>simp at c
  |x::xs,_=>simp
def Sl(b:AP)(p:Ar):Bool:=decide (p.instance_>=0)&&match AM b.Design.Instances p.instance_ with
 |some x=>match AM b.Library.Cells x.Cell with
  |some c=>match AM c.Pins p.pin_ with
   |some q=>q.Clock
   |none=>false
  |none=>false
 |none=>false
theorem PX{b:AP}(v:CW b){p:Ar}(hp:p∈pls b.Design):(bif decide (p.instance_>=0)then(Option.bind (AM b.Design.Instances p.instance_) fun x=>(Option.bind (AM b.Library.Cells x.Cell) fun c=>(Option.bind (AM c.Pins p.pin_) fun q=>(some q.Clock))))else(some false))=some (Sl b p):=by
 by_cases h:p.instance_>=0
 ·obtain⟨x,c,q,e1,e2,e3⟩:=v.design.place p hp h
  simp only [Sl,decide_eq_true h,cT,e1,e2,e3,At,Bool.true_and]
 ·simp only [Sl,decide_eq_false h,cF,Bool.false_and]
def Oo(b:AP)(o:List Bool)(k:Nat):Prop:=(∃h:k<(pls b.Design).length,Sl b (pls b.Design)[k]=true)∧(gb o (2*k)||gb o (2*k+1))=true
theorem YJ{b:AP}{o o1 o2:List Bool}(v:CW b)(h1:o1.length=2*(pls b.Design).length)(h2:o2.length=2*(pls b.Design).length)(ho:∀k,k<2*(pls b.Design).length->gb o k=(gb o1 k||gb o2 k)){n:Nat}(hn:1048577<=n):
 ∃r,EB b ((pls b.Design).map Dv) o1 o2 (fun l i=>(some (l,0))) n ([]:List Int) 0=some (r,0)∧Fk (Oo b o) (pls b.Design).length r:=by
 have vd:=v.design
 have hl:=CJ vd.short vd.few.1 vd.few.2.2
 refine loop (L:=fun m i l=>EB b ((pls b.Design).map Dv) o1 o2 (fun l i=>(some (l,0))) m l i) (pls b.Design).length (fun i l=>Fk (Oo b o) i l) (fun z=>∃r,z=some (r,0)∧Fk (Oo b o) (pls b.Design).length r) ?_ ?_ n 0 [] (by omega) (by omega) Fk.zero
 ·intro m i l hi hu
  refine .inl ?_
  have w1:IntKind.wrap .i64 (2*(i:Int))=((2*i:Nat):Int):=by rw [Af (by omega) (by omega)];omega
  have w2:IntKind.wrap .i64 (((2*i:Nat):Int)+1)=((2*i+1:Nat):Int):=by rw [Af (by omega) (by omega)];omega
  have hi':i<((pls b.Design).map Dv).length:=by rw [List.length_map];exact hi
  have eg:((pls b.Design).map Dv)[i]=Dv (pls b.Design)[i]:=by rw [List.getElem_map]
  have ck:=PX v (List.getElem_mem hi)
  simp only [EB.eq_2,CR hi',cT,AS hi',eg,Dv,At,w1,w2,Eb (show 2*i<o1.length by omega),Eb (show 2*i+1<o1.length by omega),Eb (show 2*i<o2.length by omega),Eb (show 2*i+1<o2.length by omega),Dn,wT i]
  have hC:Oo b o i↔(Sl b (pls b.Design)[i]=true∧(((gb o1 (2*i)||gb o1 (2*i+1))||gb o2 (2*i))||gb o2 (2*i+1))=true):=by
   unfold Oo
   rw [ho _ (show 2*i<_ by omega),ho _ (show 2*i+1<_ by omega)]
   constructor
   ·rintro ⟨⟨_,a⟩,q⟩
    refine⟨a,?_⟩
    revert q;cases gb o1 (2*i)<;>cases gb o1 (2*i+1)<;>cases gb o2 (2*i)<;>cases gb o2 (2*i+1)<;>simp
   ·rintro ⟨a,q⟩
    refine⟨⟨hi,a⟩,?_⟩
    revert q;cases gb o1 (2*i)<;>cases gb o1 (2*i+1)<;>cases gb o2 (2*i)<;>cases gb o2 (2*i+1)<;>simp
  have fin:∀c:Bool,(c=true↔Oo b o i)->∃st',Fk (Oo b o) (i+1) st'∧(bif c then(Option.bind (BW l [(i:Int)] 8) fun z=>(EB b ((pls b.Design).map Dv) o1 o2 (fun l i=>(some (l,0))) m z ((i+1:Nat):Int)))else(EB b ((pls b.Design).map Dv) o1 o2 (fun l i=>(some (l,0))) m l ((i+1:Nat):Int)))=EB b ((pls b.Design).map Dv) o1 o2 (fun l i=>(some (l,0))) m st' ((i+1:Nat):Int):=by
   intro c hc
   have:=hu.1
   cases c with
   |true=>
    refine⟨l++[(i:Int)],hu.yes (hc.1 rfl),?_⟩
    rw [cT,BC (by simp;omega) (by omega),At]
   |false=>exact⟨l,hu.no (fun q=>absurd (hc.2 q) (by simp)),by rw [cF]⟩
  by_cases hp:(pls b.Design)[i].instance_>=0
  ·simp only [decide_eq_true hp,cT,At]at ck ⊢
   cases c:(((gb o1 (2*i)||gb o1 (2*i+1))||gb o2 (2*i))||gb o2 (2*i+1))with
   |true=>
    rw [cT,ck,At]
    exact fin _ (by rw [hC,c];simp)
   |false=>
    rw [cF,At]
    exact fin _ (by rw [hC,c];simp)
  ·simp only [decide_eq_false hp,cF,At]at ck ⊢
   have ck:false=Sl b (pls b.Design)[i]:=Option.some.inj ck
   exact fin false (by rw [hC,←ck];simp)
 ·intro m l hu
  have:decide (((pls b.Design).length:Int)<(((pls b.Design).map Dv).length:Int))=false:=by rw [List.length_map];exact Cb _
  simp only [EB.eq_2,this,cF]
  exact⟨l,rfl,hu⟩
theorem Zt{n:Nat}{b:AP}{w:BP}(v:CW b)(hw:w.Block=b){p:Ar}(hp:p∈pls b.Design):QQ n w p=some (Sl b p):=by
 have ck:=PX v hp
 simp only [QQ,hw,ck,At]
def dH(C:Nat->Prop)(ns:List Int)(j:Nat)(l:List Int):Prop:=l.length<=j∧l.Pairwise (fun a b=>a<=b)∧∀x,x∈l↔∃t k:Nat,t<j∧ns[t]? =some (k:Int)∧x=((k/2:Nat):Int)∧C (k/2)
theorem YM{b:AP}{w:BP}{o:List Bool}(v:CW b)(hw:w.places_=pls b.Design)(ho:o.length=2*(pls b.Design).length){n:Nat}(hn:1048577<=n):
 ∃r,Eh n b w (Gt o) (fun l i=>(Option.bind (TB n l) fun r=>(some (r,0)))) n ([]:List Int) 0=some (r,0)∧Fk (Oo b o) (pls b.Design).length r:=by
 have vd:=v.design
 have hl:=CJ vd.short vd.few.1 vd.few.2.2
 obtain⟨n1,n2,n3⟩:=ON o
 have hk:∀t (h:t<(Gt o).length),∃k:Nat,(Gt o)[t]=(k:Int)∧k<2*(pls b.Design).length∧gb o k=true:=fun t h=>by
  obtain⟨k,e,h1,h2⟩:=(n3 _).1 (List.getElem_mem h)
  exact⟨k,e,by omega,h2⟩
 let C:Nat->Prop:=fun k=>∃h:k<(pls b.Design).length,Sl b (pls b.Design)[k]=true
 refine loop (L:=fun m i l=>Eh n b w (Gt o) (fun l i=>(Option.bind (TB n l) fun r=>(some (r,0)))) m l i) (Gt o).length (fun j l=>dH C (Gt o) j l) (fun z=>∃r,z=some (r,0)∧Fk (Oo b o) (pls b.Design).length r) ?_ ?_ n 0 [] (by omega) (by omega) ⟨Nat.le_refl _,List.Pairwise.nil,fun x=>⟨fun h=>(nomatch h),fun⟨t,k,h,_⟩=>by omega⟩⟩
 ·intro m j l hj ⟨d1,d2,d3⟩
  refine .inl ?_
  obtain⟨k,ek,lk,gk⟩:=hk j hj
  have w1:IntKind.wrap .i64 (Int.tdiv (k:Int) 2)=((k/2:Nat):Int):=by
   rw [show Int.tdiv (k:Int) 2=((k/2:Nat):Int)from rfl,Af (by omega) (by omega)]
  have hp:k/2<(pls b.Design).length:=by omega
  have ej:(Gt o)[j]? =some (k:Int):=by rw [List.getElem?_eq_getElem hj,ek]
  simp only [Eh.eq_2,CR hj,cT,AS hj,ek,At,w1,hw,AS hp,Zt (n:=n) (w:=⟨b,pls b.Design,w.links_,w.loads_,w.delays_,w.extras_⟩) v rfl (List.getElem_mem hp),wT j]
  cases c:Sl b (pls b.Design)[k/2]with
  |true=>
   rw [cT,BC (by simp;omega) (by omega),At]
   refine⟨_,⟨by simp;omega,List.pairwise_append.2 ⟨d2,List.pairwise_singleton ..,fun a ha z hz=>?_⟩,fun x=>?_⟩,rfl⟩
   ·obtain⟨t,q,ht,eq,rfl,_⟩:=(d3 a).1 ha
    rw [List.mem_singleton.1 hz]
    have lt:t<(Gt o).length:=by omega
    rw [List.getElem?_eq_getElem lt]at eq
    have:=List.pairwise_iff_getElem.1 n2 t j lt hj ht
    rw [Option.some.inj eq,ek]at this
    have:q<=k:=by omega
    exact Int.ofNat_le.2 (Nat.div_le_div_right this)
   ·rw [List.mem_append,List.mem_singleton,d3 x]
    constructor
    ·rintro (⟨t,q,ht,eq,e,cq⟩|e)
     ·exact⟨t,q,by omega,eq,e,cq⟩
     ·exact⟨j,k,by omega,ej,e,hp,c⟩
    ·rintro ⟨t,q,ht,eq,e,cq⟩
     by_cases y:t=j
     ·subst y
      rw [ej]at eq
      have:k=q:=by have:=Option.some.inj eq;omega
      subst this
      exact .inr e
     ·exact .inl ⟨t,q,by omega,eq,e,cq⟩
  |false=>
   rw [cF]
   refine⟨l,⟨by omega,d2,fun x=>?_⟩,rfl⟩
   rw [d3 x]
   constructor
   ·rintro ⟨t,q,ht,eq,e,cq⟩;exact⟨t,q,by omega,eq,e,cq⟩
   ·rintro ⟨t,q,ht,eq,e,cq⟩
    refine⟨t,q,?_,eq,e,cq⟩
    by_cases y:t=j
    ·subst y
     rw [ej]at eq
     have:k=q:=by have:=Option.some.inj eq;omega
     subst this
     obtain⟨_,cq⟩:=cq
     rw [c]at cq;cases cq
    ·omega
 ·intro m l ⟨d1,d2,d3⟩
  obtain⟨r,f,r1,r2⟩:=cA (n:=n) (xs:=l) d2 (by omega) hn
  simp only [Eh.eq_2,Cb,cF,f,At]
  have rm:∀x,x∈r↔∃k:Nat,x=(k:Int)∧k<(pls b.Design).length∧Oo b o k:=fun x=>by
   rw [r2 x,d3 x]
   constructor
   ·rintro ⟨t,k,ht,ek,e,cq⟩
    have lt:t<(Gt o).length:=by omega
    obtain⟨q,e2,lq,gq⟩:=hk t lt
    rw [List.getElem?_eq_getElem lt,e2]at ek
    have:q=k:=by have:=Option.some.inj ek;omega
    subst this
    refine⟨q/2,e,by omega,cq,?_⟩
    rcases Nat.mod_two_eq_zero_or_one q with y|y
    ·rw [show 2*(q/2)=q by omega,gq];rfl
    ·rw [show 2*(q/2)+1=q by omega,gq];simp
   ·rintro ⟨k,rfl,lk,cq,g⟩
    have:∃q,q<2*(pls b.Design).length∧gb o q=true∧q/2=k:=by
     rw [Bool.or_eq_true]at g
     rcases g with g|g
     ·exact⟨_,by omega,g,by omega⟩
     ·exact⟨_,by omega,g,by omega⟩
    obtain⟨q,lq,gq,rfl⟩:=this
    obtain⟨t,lt,et⟩:=List.mem_iff_getElem.1 ((n3 (q:Int)).2 ⟨q,rfl,by omega,gq⟩)
    exact⟨t,q,lt,by rw [List.getElem?_eq_getElem lt,et],rfl,cq⟩
  have hlen:r.length<=(pls b.Design).length:=by
   have key:∀(r:List Int) (N lo:Nat),r.Pairwise (fun a b=>a<b)->(∀x∈r,(lo:Int)<=x∧x<(N:Int))->r.length<=N-lo:=by
    intro r
    induction r with
    |nil=>intros;simp
    |cons x r ih=>
     intro N lo hp hx
     have hp':=List.pairwise_cons.1 hp
     have h1:=hx x (List.mem_cons_self ..)
     have:=ih N (x.toNat+1) hp'.2 fun y hy=>by
      have:=hp'.1 y hy;have:=hx y (List.mem_cons_of_mem _ hy);omega
     rw [List.length_cons];omega
   have:=key r (pls b.Design).length 0 r1 fun x hx=>by
    obtain⟨k,e,lk,_⟩:=(rm x).1 hx;omega
   omega
  exact⟨r,rfl,hlen,r1,rm⟩
theorem dB{n:Nat}{b:AP}{br:List Int}{p:Nat}{o:List Bool}(v:CW b)(hb:br.length<=1048576)(hr:NF ((Fa b).length:Int) br)(hp:p<(pls b.Design).length)(ho:NU b br p o)(hs:NJ b)(hn:1048577<=n):∃r,Su n b br (p:Int)=some (r,0)∧Fk (Oo b o) (pls b.Design).length r:=by
 have vd:=v.design
 have hl:=CJ vd.short vd.few.1 vd.few.2.2
 have hL:=Hm v
 have hin:=Nn v
 obtain⟨c,e1,hc⟩:=Zj (n:=n) hs hn
 obtain rfl:c=true:=hc.2 v
 obtain⟨r,f1,hr1⟩:=aP (n:=n) (br:=br) (N:=((Fa b).length:Int)) hb (by omega) hn
 obtain rfl:r=true:=hr1.2 hr
 have w1:IntKind.wrap .i64 (2*(p:Int))=((2*p:Nat):Int):=by rw [Af (by omega) (by omega)];omega
 have w2:IntKind.wrap .i64 (((2*p:Nat):Int)+1)=((2*p+1:Nat):Int):=by rw [Af (by omega) (by omega)];omega
 have wx:IntKind.wrap .i64 (((pls b.Design).length:Int)-1)=((pls b.Design).length:Int)-1:=Af (by omega) (by omega)
 have wc:Li n b=some ((2*(pls b.Design).length:Nat):Int):=by
  rw [Li,LL vd.short vd.few.1 vd.few.2.2 hn,At,List.length_map,Af (by omega) (by omega)]
  exact congrArg some (by omega)
 have q:(decide ((p:Int)>=0)&&decide ((p:Int)<=((pls b.Design).length:Int)-1))=true:=IB.2 ⟨by omega,by omega⟩
 rw [Su,Qz,e1]
 simp only [At,Bool.not_true,cF,Sa v hn,f1,bne_self_eq_false,LL vd.short vd.few.1 vd.few.2.2 hn,List.length_map,HE,wx,q,aI (n:=n) (L:=Fa b) (br:=br) (by omega) hb hn]
 refine loop (L:=fun m i l=>Hf n b (Fa b) _ m i l) (Fa b).length (fun i l=>l.length=(Fa b).length∧∀k (h:k<(Fa b).length),gb l k=if k<i then gb (JT b br) k else !(br.any fun y=>y==(k:Int))) (fun z=>∃r,z=some (r,0)∧Fk (Oo b o) (pls b.Design).length r) ?_ ?_ n 0 _ (by omega) (by omega) ⟨Hj _ _ _,fun k h=>?_⟩
 ·intro m i l hi ⟨h1,h2⟩
  refine .inl ?_
  have ok:=Ko v _ (List.getElem_mem hi)
  have h2i:=h2 i hi
  rw [if_neg (Nat.lt_irrefl i)]at h2i
  simp only [Hf.eq_2,CR hi,cT,AS hi,At,wT i]
  by_cases c:(Fa b)[i].Kind=1
  ·have e1:((Fa b)[i].Kind==1)=true:=by rw [beq_iff_eq];exact c
   obtain⟨a,z,ea,ek⟩:=Wj (n:=n) v ok c hn
   simp only [e1,cT,ea,At,Eb (show i<l.length by omega),Int.toNat_natCast,ek]
   refine⟨_,⟨by simpa using h1,fun k hk=>?_⟩,rfl⟩
   rw [Dk (by omega)]
   by_cases e:i=k
   ·subst e
    rw [if_pos rfl,if_pos (by omega),Fw hk,h2i]
   ·rw [if_neg e,h2 k hk]
    by_cases q:k<i
    ·rw [if_pos q,if_pos (by omega)]
    ·rw [if_neg q,if_neg (by omega)]
  ·have e1:((Fa b)[i].Kind==1)=false:=by rw [beq_eq_false_iff_ne];exact c
   simp only [e1,cF]
   refine⟨l,⟨h1,fun k hk=>?_⟩,rfl⟩
   rw [h2 k hk]
   by_cases e:i=k
   ·subst e
    rw [if_neg (Nat.lt_irrefl i),if_pos (by omega),Fw hk]
    have:Jx b (Fa b)[i]=false:=by unfold Jx;rw [e1,Bool.false_and]
    rw [this];simp
   ·by_cases q:k<i
    ·rw [if_pos q,if_pos (by omega)]
    ·rw [if_neg q,if_neg (by omega)]
 ·intro m l ⟨h1,h2⟩
  have el:l=JT b br:=Nl (h1.trans (EQ b br).symm) fun j hj=>by rw [h2 j (by omega),if_pos (by omega)]
  subst el
  obtain⟨o1,f1,r1⟩:=Xc (n:=n) (s:=2*p) hin (EQ b br) (by omega) (by omega) (by omega) hn
  obtain⟨o2,f2,r2⟩:=Xc (n:=n) (s:=2*p+1) hin (EQ b br) (by omega) (by omega) (by omega) hn
  simp only [Hf.eq_2,Cb,cF,wc,At,w1,w2,f1,f2]
  exact YJ v r1.len r2.len (fun k hk=>by
   rw [Bool.eq_iff_iff,Bool.or_eq_true,ho.iff k hk,r1.iff k hk,r2.iff k hk]
   exact⟨Jw.or,fun h=>h.elim (fun h=>h.mono fun _ e=>.inl e) (fun h=>h.mono fun _ e=>.inr e)⟩) hn
 ·rw [if_neg (Nat.not_lt_zero k)]
  have:=HN (fun k (_:AR)=>!(br.any fun y=>y==((k:Nat):Int))) (Fa b) 0 k
  rw [List.getElem?_eq_getElem h,Nat.zero_add]at this
  unfold gb
  rw [List.getD_eq_getElem?_getD,this];rfl
theorem bK{n:Nat}{b:AP}{br:List Int}{p:Int}(hb:NJ b)(hbr:br.length<=1048576)(hn:1048577<=n):
 (CW b∧NF ((Fa b).length:Int) br∧(∃P:Nat,p=(P:Int)∧P<(pls b.Design).length)∧∃w:BP,NT n b br p=some (some w,0)∧w.Block=b∧w.places_=pls b.Design∧w.links_=Fa b)∨
 (∃c:Int,(c !=0)=true∧Su n b br p=some ([],c)∧NT n b br p=some (none,c)):=by
 obtain⟨c,e1,hc⟩:=Zj hb hn
 obtain⟨c2,e2,hc2⟩:=cE hb hn
 obtain rfl:c=c2:=by rw [Bool.eq_iff_iff,hc,hc2]
 rw [Su,Qz,NT,e1,e2]
 simp only [At]
 cases c with
 |false=>exact .inr ⟨1,rfl,rfl,rfl⟩
 |true=>
  have v:=hc.1 rfl
  have vd:=v.design
  have hl:=CJ vd.short vd.few.1 vd.few.2.2
  have hL:=Hm v
  obtain⟨w,ew,hw1,hw2⟩:=cY (n:=n) v hn
  obtain⟨r,f1,hr⟩:=aP (n:=n) (br:=br) (N:=((Fa b).length:Int)) hbr (by omega) hn
  obtain⟨r2,f2,hr2⟩:=bH (n:=n) (br:=br) (v:=⟨b,w.places_,w.links_,w.loads_,w.delays_,w.extras_⟩) hbr (by show w.links_.length<=_;rw [hw2];omega) hn
  have hr2:r2=true↔NF (w.links_.length:Int) br:=hr2
  rw [hw2]at hr2
  obtain rfl:r=r2:=by rw [Bool.eq_iff_iff,hr,hr2]
  simp only [Bool.not_true,cF,Sa v hn,At,f1,ew,f2]
  cases r with
  |false=>exact .inr ⟨2,rfl,rfl,rfl⟩
  |true=>
   have wx:IntKind.wrap .i64 (((pls b.Design).length:Int)-1)=((pls b.Design).length:Int)-1:=Af (by omega) (by omega)
   simp only [Bool.not_true,cF,At,bne_self_eq_false,LL vd.short vd.few.1 vd.few.2.2 hn,List.length_map,HE,Ol,hw1,Is,wx]
   cases q:(decide (p>=0)&&decide (p<=((pls b.Design).length:Int)-1))with
   |false=>exact .inr ⟨4,rfl,rfl,rfl⟩
   |true=>
    have:=IB.1 q
    exact .inl ⟨v,hr.1 rfl,⟨p.toNat,by omega,by omega⟩,_,rfl,rfl,hw1▸rfl,hw2⟩
theorem XK{n:Nat}{c:List Int}(hc:IK c){s0:AA}(e0:s0.code_=c)(st:Int):∀(m k:Nat) (l:List Int) (x a d:Int),k<m->l.length+k<=3->DO c (AA.mk s0.code_ a d)->
 BZ (fun r=>r.1.length=l.length+k∧DO c r.2) (HA n s0 st (fun l38 i42 i43 i45 i46=>(some (l38,(AA.mk s0.code_ i45 i46)))) m l x (k:Int) a d)
 |0,k,l,x,a,d,hm,_,_=>by omega
 |m+1,0,l,x,a,d,hm,hl,hs=>by
  rw [HA.eq_2]
  exact BZ.some ⟨rfl,hs⟩
 |m+1,k+1,l,x,a,d,hm,hl,hs=>by
  have hp:decide (((k+1:Nat):Int)>0)=true:=decide_eq_true (by omega)
  have w:IntKind.wrap .i64 (((k+1:Nat):Int)-1)=(k:Int):=by rw [Af (by omega) (by omega)];omega
  rw [HA.eq_2,hp,cT,BC (by simp;omega) (by omega),At]
  refine BZ.bind (Nx hc hs st) fun r _ ⟨h1,_⟩=>?_
  rw [w]
  exact(XK hc e0 st m k (l++[x]) _ _ _ (by omega) (by simp;omega) (h1.mk2 e0)).weaken fun r ⟨q1,q2⟩=>⟨by rw [q1];simp;omega,q2⟩
theorem aX{n:Nat}{c:List Int}(hc:IK c){s:AA}(hs:DO c s)(st:Int)(hn:1048577<=n):BZ (fun r=>(1<=r.1.length∧r.1.length<=3)∧DO c r.2) (PN n s st):=by
 rw [PN]
 refine BZ.bind (Nx hc hs st) fun r _ ⟨h1,_⟩=>BZ.bind (Nx hc (h1.mk2 hs.code) 3) fun q _ ⟨k1,k2,k3⟩=>?_
 have w:IntKind.wrap .i64 (1+q.1)=((1+q.1.toNat:Nat):Int):=by rw [Af (by omega) (by omega)];omega
 rw [w]
 exact(XK hc hs.code st n _ [] _ _ _ (by omega) (by simp;omega) (k1.mk2 hs.code)).weaken fun r ⟨q1,q2⟩=>⟨⟨by rw [q1];simp,by rw [q1];simp;omega⟩,q2⟩
theorem WA{n:Nat}{c:List Int}(hc:IK c){s0:AA}(e0:s0.code_=c)(base:Int){r15 r26:List Int×AA}(h15:r15.1.length<=3)(h26:1<=r26.1.length∧r26.1.length<=3):∀(m i:Nat) (l:List Int) (a d:Int),r15.1.length*r26.1.length-i<m->i<=r15.1.length*r26.1.length->l.length=i->DO c (AA.mk s0.code_ a d)->
 BZ (fun r=>Pg r.1∧DO c r.2) (EM n s0 base r15 r26 (fun l52 i56 i58 i59=>(some ((BI.mk r15.1 r26.1 l52),(AA.mk s0.code_ i58 i59)))) m l (i:Int) a d)
 |0,i,l,a,d,hm,_,_,_=>by omega
 |m+1,i,l,a,d,hm,hi,hl,hs=>by
  have hprod:r15.1.length*r26.1.length<=3*3:=Nat.mul_le_mul h15 h26.2
  have wp:IntKind.wrap .i64 ((r15.1.length:Int)*(r26.1.length:Int))=((r15.1.length*r26.1.length:Nat):Int):=by
   rw [←Int.natCast_mul,Af (by omega) (by omega)]
  rw [EM.eq_2,wp]
  by_cases c0:i<r15.1.length*r26.1.length
  ·rw [CR c0,cT]
   refine BZ.bind (Nx hc hs 10) fun r _ ⟨h1,_⟩=>?_
   have hz:((r26.1.length:Int)==0)=false:=by rw [beq_eq_false_iff_ne];omega
   have tm:Int.tmod (i:Int) (r26.1.length:Int)=((i%r26.1.length:Nat):Int):=rfl
   have go1:∀(z:Int) (s':AA),DO c s'->BZ (fun r=>Pg r.1∧DO c r.2) (Option.bind (BW l [z] 8) fun z1=>EM n s0 base r15 r26 (fun l52 i56 i58 i59=>(some ((BI.mk r15.1 r26.1 l52),(AA.mk s0.code_ i58 i59)))) m z1 (IntKind.wrap .i64 ((i:Int)+1)) s'.at_ s'.seed_):=fun z s' h'=>by
    rw [BC (by simp;omega) (by omega),At,wS (by omega)]
    exact WA hc e0 base h15 h26 m (i+1) _ _ _ (by omega) (by omega) (by simp;omega) (h'.mk2 e0)
   have g2:(i:Int)>=(r26.1.length:Int)->∃x,AM l (IntKind.wrap .i64 ((i:Int)-(r26.1.length:Int)))=some x:=fun h=>by
    rw [Af (by omega) (by omega)]
    obtain⟨x,hx,_⟩:=Dj (xs:=l) (i:=(i:Int)-(r26.1.length:Int)) (by omega) (by omega)
    exact⟨x,hx⟩
   rw [hz,cF,tm]
   refine BZ.bif (fun q1=>?_) fun q1=>?_
   ·have q1:=of_decide_eq_true q1
    have hi0:0<i:=by
     rcases Nat.eq_zero_or_pos i with e|e
     ·subst e;simp at q1
     ·exact e
    have w1:IntKind.wrap .i64 ((i:Int)-1)=((i-1:Nat):Int):=by rw [Af (by omega) (by omega)];omega
    rw [w1,AS (show i-1<l.length by omega),At]
    refine BZ.bind (Nx hc (h1.mk2 e0) 20) fun r2 _ ⟨h2,_⟩=>BZ.bif (fun q2=>?_) fun _=>go1 _ _ h2
    obtain⟨x,hx⟩:=g2 (of_decide_eq_true q2)
    rw [hx,At]
    exact BZ.bind (Nx hc (h2.mk2 e0) 20) fun r3 _ ⟨h3,_⟩=>go1 _ _ h3
   ·refine BZ.bif (fun q2=>?_) fun _=>go1 _ _ h1
    obtain⟨x,hx⟩:=g2 (of_decide_eq_true q2)
    rw [hx,At]
    exact BZ.bind (Nx hc (h1.mk2 e0) 20) fun r3 _ ⟨h3,_⟩=>go1 _ _ h3
  ·rw [show decide ((i:Int)<((r15.1.length*r26.1.length:Nat):Int))=false from decide_eq_false (by omega),cF]
   exact BZ.some ⟨⟨by show r15.1.length<=_;omega,by show r26.1.length<=_;omega,by show l.length<=_;omega⟩,hs⟩
theorem aV{n:Nat}{c:List Int}(hc:IK c){s:AA}(hs:DO c s)(base:Int)(hn:1048577<=n):BZ (fun r=>Pg r.1∧DO c r.2) (PI n s base):=by
 rw [PI]
 refine BZ.bind (aX hc hs 60 hn) fun r _ ⟨h1,h2⟩=>BZ.bind (aX hc (h2.mk2 hs.code) 40 hn) fun q _ ⟨k1,k2⟩=>?_
 have:r.1.length*q.1.length<=3*3:=Nat.mul_le_mul h1.2 k1.2
 exact WA hc hs.code base h1.2 k1 n 0 [] _ _ (by omega) (by omega) rfl (k2.mk2 hs.code)
theorem Ya{n:Nat}{c:List Int}(hc:IK c){s:AA}(hs:DO c s)(base:Int)(hn:1048577<=n):BZ (fun r=>(r.1.length<=1048576∧∀t∈r.1,Pg t)∧DO c r.2) (NO n s base):=by
 rw [NO]
 refine BZ.bind (aV hc hs base hn) fun r _ ⟨h1,h2⟩=>BZ.bind (aV hc (h2.mk2 hs.code) base hn) fun q _ ⟨k1,k2⟩=>BZ.some ⟨⟨by simp,fun t ht=>?_⟩,k2.mk2 hs.code⟩
 rcases List.mem_cons.1 ht with e|ht
 ·rw [e];exact h1
 ·rw [List.mem_singleton.1 ht];exact k1
theorem WQ{n:Nat}{c:List Int}(hc:IK c){s:AA}(hs:DO c s)(kd f t z:Int)(hn:1048577<=n):BZ (fun r=>XU r.1∧DO c r.2) (Lo n s kd f t z):=by
 rw [Lo]
 refine BZ.bif (fun _=>?_) fun _=>?_
 ·exact BZ.bind (Nx hc hs 10) fun r _ ⟨h1,_⟩=>BZ.bind (Ya hc (h1.mk2 hs.code) _ hn) fun q _ ⟨k1,k2⟩=>BZ.some ⟨⟨k1,by simp⟩,k2.mk2 hs.code⟩
 ·exact BZ.bind (Nx hc hs 20) fun r _ ⟨h1,_⟩=>BZ.bind (Ya hc (h1.mk2 hs.code) _ hn) fun q _ ⟨k1,k2⟩=>BZ.bind (Ya hc (k2.mk2 hs.code) 10 hn) fun p _ ⟨p1,p2⟩=>BZ.some ⟨⟨k1,p1⟩,p2.mk2 hs.code⟩
theorem YQ:∀k:Nat,k<4->∀i:Nat,i<2^k->∀b:Nat,b<k->(RV .i64 (i:Int) (Fi .i64 1 (IntKind.wrap IntKind.u64 (b:Int))) !=0)=true∨(0<=IntKind.wrap .i64 ((i:Int)+(Fi .i64 1 (IntKind.wrap IntKind.u64 (b:Int))))∧IntKind.wrap .i64 ((i:Int)+(Fi .i64 1 (IntKind.wrap IntKind.u64 (b:Int))))<((2^k:Nat):Int)):=by decide+kernel
theorem cZ{n:Nat}{cl:Ak}{k b:Nat}(hk:k<4)(ht:cl.Truth.length=2^k)(hb:b<k)(hn:1048577<=n):BZ (fun _=>True) (QX n cl (b:Int)):=by
 have h16:2^k<=2^4:=Nat.pow_le_pow_right (by omega) (by omega)
 have wb:IntKind.wrap IntKind.u64 (b:Int)=(b:Int):=by
  have:∀b:Nat,b<4->IntKind.wrap IntKind.u64 (b:Int)=(b:Int):=by decide+kernel
  exact this b (by omega)
 rw [QX,wb,decide_eq_false (by omega),cF]
 refine loop (L:=fun m i (p:Bool×Bool)=>FS cl (b:Int) _ m p.1 p.2 i) cl.Truth.length (fun _ _=>True) (fun o=>BZ (fun _=>True) o) ?_ ?_ n 0 (false,false) (by omega) (by omega) trivial
 ·intro m i p hi _
  have h8:=YQ k hk i (by omega) b hb
  simp only [FS.eq_2,CR hi,cT,wT i]
  rcases h8 with h8|h8
  ·simp only [h8,cT]
   exact .inl ⟨p,trivial,rfl⟩
  ·obtain⟨y,hy,_⟩:=Dj (xs:=cl.Truth) h8.1 (by rw [ht];exact h8.2)
   cases hx:(RV .i64 (i:Int) (Fi .i64 1 (IntKind.wrap IntKind.u64 (b:Int))) !=0)with
   |true=>simp only [cT];exact .inl ⟨p,trivial,rfl⟩
   |false=>
    simp only [cF,AS hi,hy,At]
    obtain⟨p1,p2⟩:=p
    cases p1<;>cases p2<;>exact .inl ⟨(_,_),trivial,rfl⟩
 ·intro m p _
  simp only [FS.eq_2,Cb,cF]
  obtain⟨p1,p2⟩:=p
  cases p1<;>cases p2<;>exact BZ.some trivial
theorem cX{j:Nat}(h:j<4):∃x:ByteArray,AM ([(ByteArray.mk #[97]),(ByteArray.mk #[98]),(ByteArray.mk #[99]),(ByteArray.mk #[100])]) (j:Int)=some x∧x.size<=1048576:=by
 match j,h with
 |0,_=>exact⟨_,rfl,by decide⟩
 |1,_=>exact⟨_,rfl,by decide⟩
 |2,_=>exact⟨_,rfl,by decide⟩
 |3,_=>exact⟨_,rfl,by decide⟩
theorem XX{n:Nat}{c:List Int}(hc:IK c){s0:AA}(e0:s0.code_=c){T:List Int}{k:Nat}(hk:k<4)(hT:T.length=2^k){Q:Ak×AA->Prop}{k0:List BY->Int->Int->Int->Option (Ak×AA)}
 (h0:∀l i a d,l.length=k->Ut l->DO c (AA.mk s0.code_ a d)->BZ Q (k0 l i a d)):∀(m j:Nat) (l:List BY) (a d:Int),k-j<m->j<=k->l.length=j->Ut l->DO c (AA.mk s0.code_ a d)->
 BZ Q (Jl n s0 T k0 m l ((2^j:Nat):Int) a d)
 |0,j,l,a,d,hm,_,_,_,_=>by omega
 |m+1,j,l,a,d,hm,hj,hl,hp,hs=>by
  rw [Jl.eq_2,hT]
  by_cases q:j<k
  ·have h2:2^j<2^k:=Nat.pow_lt_pow_right (by omega) q
   have h16:2^k<=2^4:=Nat.pow_le_pow_right (by omega) (by omega)
   have hw:IntKind.wrap .i64 (2*((2^j:Nat):Int))=((2^(j+1):Nat):Int):=by
    rw [Nat.pow_succ]
    generalize 2^j=P at h2 ⊢
    rw [Af (by omega) (by omega)];omega
   obtain⟨x,hx,hz⟩:=cX (j:=j) (by omega)
   rw [CR h2,cT,hl,hx,At,hw]
   refine BZ.bind (Nx hc hs 9) fun r _ ⟨h1,_⟩=>?_
   rw [BC (by simp;omega) (by omega),At]
   refine XX hc e0 hk hT h0 m (j+1) _ _ _ (by omega) (by omega) (by simp;omega) ⟨by simp;omega,fun p hp2=>?_⟩ (h1.mk2 e0)
   rcases List.mem_append.1 hp2 with h|h
   ·exact hp.2 p h
   ·rw [List.mem_singleton.1 h];exact hz
  ·obtain rfl:j=k:=by omega
   rw [Cb,cF]
   exact h0 l _ a d hl hp hs
theorem Up{n:Nat}(hn:1048577<=n){c:List Int}(hc:IK c){s0:AA}(e0:s0.code_=c){T:List Int}{k:Nat}(hk:k<4)(hT:T.length=2^k){nm:ByteArray}(hnm:nm.size<=1048576){r33 r41:Int×AA}{ps z:List BY}(hps:ps.length=k)(hz:Ut z):∀(m i:Nat) (l:List BJ) (a d:Int),k-i<m->i<=k->l.length<=i->(∀x∈l,XU x)->DO c (AA.mk s0.code_ a d)->
 BZ (fun r=>PV r.1∧DO c r.2) (GX n s0 nm T r33 r41 ps z (fun l144 i148 i150 i151=>(some ((Ak.mk nm 1 z l144 T r33.1 r41.1),(AA.mk s0.code_ i150 i151)))) m l (i:Int) a d)
 |0,i,l,a,d,hm,_,_,_,_=>by omega
 |m+1,i,l,a,d,hm,hi,hl,hA,hs=>by
  have h16:2^k<=2^4:=Nat.pow_le_pow_right (by omega) (by omega)
  rw [GX.eq_2,hps]
  by_cases q:i<k
  ·rw [CR q,cT,wS (by omega)]
   refine BZ.bind (cZ (cl:=Ak.mk nm 1 z [] T r33.1 r41.1) hk hT q hn) fun sn _ _=>BZ.bif (fun _=>?_) fun _=>Up hn hc e0 hk hT hnm hps hz m (i+1) l a d (by omega) (by omega) (by omega) hA hs
   refine BZ.bind (WQ hc hs 1 _ _ _ hn) fun r _ ⟨h1,h2⟩=>?_
   rw [BC (by simp;omega) (by omega),At]
   refine Up hn hc e0 hk hT hnm hps hz m (i+1) _ _ _ (by omega) (by omega) (by simp;omega) (fun x hx=>?_) (h2.mk2 e0)
   rcases List.mem_append.1 hx with h|h
   ·exact hA x h
   ·rw [List.mem_singleton.1 h];exact h1
  ·obtain rfl:i=k:=by omega
   rw [Cb,cF]
   exact BZ.some ⟨⟨hnm,hz,⟨by show l.length<=_;omega,hA⟩,by show T.length<=_;omega⟩,hs⟩
theorem XT{n:Nat}{c:List Int}(hc:IK c){s:AA}(hs:DO c s){nm:ByteArray}(hnm:nm.size<=1048576){T:List Int}{k:Nat}(hk:k<4)(hT:T.length=2^k)(hn:1048577<=n):BZ (fun r=>PV r.1∧DO c r.2) (SN n s nm T):=by
 rw [SN]
 refine BZ.bind (Nx hc hs 50) fun r _ ⟨h1,_⟩=>BZ.bind (Nx hc (h1.mk2 hs.code) 80) fun q _ ⟨h2,_⟩=>?_
 have:=XX (n:=n) (s0:=s) (Q:=fun r=>PV r.1∧DO c r.2) hc hs.code hk hT (k0:=fun l75 i79 i81 i82=>(Option.bind (BW l75 ([(BY.mk ((ByteArray.mk #[121])) 2 0 false)]) 40) fun z106=>(GX n s nm T r q l75 z106 (fun l144 i148 i150 i151=>(some ((Ak.mk nm 1 z106 l144 T r.1 q.1),(AA.mk s.code_ i150 i151)))) n (([]:List BJ)) 0 i81 i82))) (fun l i a d hl hp hs2=>by
  rw [BC (by simp;omega) (by omega),At]
  refine Up hn hc hs.code hk hT hnm hl ⟨by simp;omega,fun p hp2=>?_⟩ n 0 [] a d (by omega) (by omega) (by simp) (by simp) hs2
  rcases List.mem_append.1 hp2 with h|h
  ·exact hp.2 p h
  ·rw [List.mem_singleton.1 h];exact(by decide:(ByteArray.mk #[121]).size<=1048576)) n 0 [] q.2.at_ q.2.seed_ (by omega) (by omega) rfl ⟨by simp,by simp⟩ (h2.mk2 hs.code)
 exact this
theorem aC{n:Nat}{c:List Int}(hc:IK c){s:AA}(hs:DO c s){nm:ByteArray}(hnm:nm.size<=1048576)(kd ed:Int)(hn:1048577<=n):BZ (fun r=>PV r.1∧DO c r.2) (Nf n s nm kd ed):=by
 have e:=hs.code
 have pins:∀x y:Int,Ut [(BY.mk ((ByteArray.mk #[100])) 1 x false),(BY.mk ((ByteArray.mk #[99,107])) 1 y true),(BY.mk ((ByteArray.mk #[113])) 2 0 false)]:=fun x y=>⟨by simp,fun p hp=>by
  rcases List.mem_cons.1 hp with h|hp
  ·rw [h];exact(by decide:(ByteArray.mk #[100]).size<=1048576)
  ·rcases List.mem_cons.1 hp with h|hp
   ·rw [h];exact(by decide:(ByteArray.mk #[99,107]).size<=1048576)
   ·rw [List.mem_singleton.1 hp];exact(by decide:(ByteArray.mk #[113]).size<=1048576)⟩
 rw [Nf]
 refine BZ.bind (Nx hc hs 50) fun r1 _ ⟨h1,_⟩=>BZ.bind (Nx hc (h1.mk2 e) 80) fun r2 _ ⟨h2,_⟩=>BZ.bind (Nx hc (h2.mk2 e) 9) fun r3 _ ⟨h3,_⟩=>BZ.bind (Nx hc (h3.mk2 e) 9) fun r4 _ ⟨h4,_⟩=>BZ.bind (WQ hc (h4.mk2 e) _ _ _ _ hn) fun r5 _ ⟨a5,h5⟩=>BZ.bind (WQ hc (h5.mk2 e) _ _ _ _ hn) fun r6 _ ⟨a6,h6⟩=>BZ.bind (WQ hc (h6.mk2 e) _ _ _ _ hn) fun r7 _ ⟨a7,h7⟩=>BZ.bif (fun _=>?_) fun _=>?_
 ·refine BZ.bind (WQ hc (h7.mk2 e) _ _ _ _ hn) fun r8 _ ⟨a8,h8⟩=>?_
  rw [BC (by simp) (by omega),At]
  refine BZ.some ⟨⟨hnm,pins _ _,⟨by simp,fun x hx=>?_⟩,by simp⟩,h8.mk2 e⟩
  simp only [List.cons_append,List.nil_append,List.mem_cons,List.not_mem_nil,or_false]at hx
  rcases hx with h|h|h|h<;>rw [h]<;>assumption
 ·refine BZ.some ⟨⟨hnm,pins _ _,⟨by simp,fun x hx=>?_⟩,by simp⟩,h7.mk2 e⟩
  simp only [List.mem_cons,List.not_mem_nil,or_false]at hx
  rcases hx with h|h|h<;>rw [h]<;>assumption
theorem PV.re{cl:Ak}(h:PV cl){T:List Int}(hT:T.length<=1048576):PV (Ak.mk cl.Name cl.Kind cl.Pins cl.Arcs T cl.Leak cl.Energy):=⟨h.name,h.pins,h.arcs,hT⟩
theorem dJ{n:Nat}{c:List Int}(hc:IK c){s:AA}(hs:DO c s)(hn:1048577<=n):BZ (fun r=>Ng r.1∧DO c r.2) (Qk n s):=by
 have e:=hs.code
 rw [Qk]
 refine BZ.bind (XT hc hs (k:=1) (by decide) (by decide) (by decide) hn) fun r1 _ ⟨a1,h1⟩=>BZ.bind (XT hc (h1.mk2 e) (k:=1) (by decide) (by decide) (by decide) hn) fun r2 _ ⟨a2,h2⟩=>BZ.bind (XT hc (h2.mk2 e) (k:=2) (by decide) (by decide) (by decide) hn) fun r3 _ ⟨a3,h3⟩=>BZ.bind (XT hc (h3.mk2 e) (k:=2) (by decide) (by decide) (by decide) hn) fun r4 _ ⟨a4,h4⟩=>BZ.bind (XT hc (h4.mk2 e) (k:=3) (by decide) (by decide) (by decide) hn) fun r5 _ ⟨a5,h5⟩=>BZ.bind (aC hc (h5.mk2 e) (by decide) _ _ hn) fun r6 _ ⟨a6,h6⟩=>BZ.bind (aC hc (h6.mk2 e) (by decide) _ _ hn) fun r7 _ ⟨a7,h7⟩=>BZ.bind (aC hc (h7.mk2 e) (by decide) _ _ hn) fun r8 _ ⟨a8,h8⟩=>?_
 have b1:=a1.re (T:=[1,0]) (by decide)
 have b2:=a2.re (T:=[0,1]) (by decide)
 have b3:=a3.re (T:=[1,1,1,0]) (by decide)
 have b4:=a4.re (T:=[0,1,1,0]) (by decide)
 have b5:=a5.re (T:=[0,1,0,1,0,0,1,1]) (by decide)
 refine BZ.some ⟨⟨by simp,fun x hx=>?_⟩,h8.mk2 e⟩
 simp only [List.mem_cons,List.not_mem_nil,or_false]at hx
 rcases hx with h|h|h|h|h|h|h|h<;>rw [h]<;>assumption
theorem Jp{α:Type}{A:α->Prop}{o:Option α}{f:α->Option Unit}(h:BZ A o)(k:∀v,A v->f v=some ()):Option.bind o f=some ():=by
 obtain⟨v,e,hv⟩:=h
 rw [e];exact k v hv
theorem Dh{b:Bool}{x y:Option Unit}(h1:b=true->x=some ())(h2:b=false->y=some ()):(bif b then x else y)=some ():=by
 cases b
 ·exact h2 rfl
 ·exact h1 rfl
theorem QZ{α:Type}{l y:List α}(h:De Eq l y):y=l:=by
 apply List.ext_getElem?
 intro i
 by_cases c:i<l.length
 ·have h1:l[i]? =some l[i]:=List.getElem?_eq_getElem c
  have h2:y[i]? =some (y[i]'(by have:=h.1;omega)):=List.getElem?_eq_getElem _
  rw [h1,h2,h.2 i _ _ h1 h2]
 ·rw [List.getElem?_eq_none (by have:=h.1;omega),List.getElem?_eq_none (by omega)]
theorem NH{α:Type}{r:α->α->Prop}{Q R:α->Prop}{l y:List α}(h:De r l y)(hl:∀x∈l,Q x)(hr:∀x z,r x z->Q x->R z):∀z∈y,R z:=fun z hz=>by
 obtain⟨i,hi,rfl⟩:=List.mem_iff_getElem.1 hz
 have hi2:i<l.length:=by have:=h.1;omega
 exact hr l[i] y[i] (h.2 i _ _ (List.getElem?_eq_getElem hi2) (List.getElem?_eq_getElem hi)) (hl _ (List.getElem_mem hi2))
def IH(x:Al):Prop:=x.Name.size<=1000∧1<=x.Nets.length∧x.Nets.length<=5
structure JG(d:AO):Prop where
 inst:d.Instances.length<=6∧∀x∈d.Instances,IH x
 nets:(3<=d.Nets.length∧d.Nets.length<=9)∧∀x∈d.Nets,x.size<=1000
 ports:(3<=d.Ports.length∧d.Ports.length<=5)∧∀p∈d.Ports,p.Name.size<=1000
theorem IH.shp{l y:List Al}(h:De Ek l y)(hl:∀x∈l,IH x):∀z∈y,IH z:=
 NH h hl fun x z hr hx=>⟨by rw [←hr.1];exact hx.1,by rw [hr.2.2.1];exact hx.2.1,by rw [hr.2.2.1];exact hx.2.2⟩
theorem KE{x y:ByteArray}(h:x.size+y.size<=1000):JV x y=some (x++y)∧(x++y).size=x.size+y.size:=by
 refine⟨?_,ByteArray.size_append⟩
 unfold JV
 rw [if_neg (by
  have:IntKind.i64.max=9223372036854775807:=rfl
  rw [this];omega)]
theorem Wn{j:Nat}(h:j<12):∃(x:Int) (p:Nat),AM [0,1,2,2,3,4,5,5,5,6,7,1] (j:Int)=some x∧AM [2,2,3,3,4,3,3,3] x=some (p:Int)∧2<=p∧p<=4:=by
 match j,h with
 |0,_=>exact⟨0,2,rfl,rfl,by omega,by omega⟩
 |1,_=>exact⟨1,2,rfl,rfl,by omega,by omega⟩
 |2,_=>exact⟨2,3,rfl,rfl,by omega,by omega⟩
 |3,_=>exact⟨2,3,rfl,rfl,by omega,by omega⟩
 |4,_=>exact⟨3,3,rfl,rfl,by omega,by omega⟩
 |5,_=>exact⟨4,4,rfl,rfl,by omega,by omega⟩
 |6,_=>exact⟨5,3,rfl,rfl,by omega,by omega⟩
 |7,_=>exact⟨5,3,rfl,rfl,by omega,by omega⟩
 |8,_=>exact⟨5,3,rfl,rfl,by omega,by omega⟩
 |9,_=>exact⟨6,3,rfl,rfl,by omega,by omega⟩
 |10,_=>exact⟨7,3,rfl,rfl,by omega,by omega⟩
 |11,_=>exact⟨1,2,rfl,rfl,by omega,by omega⟩
theorem WM{n:Nat}{c:List Int}(hc:IK c){s0:AA}(e0:s0.code_=c){nets:List ByteArray}{cell:Int}{p:Nat}(hp:AM [2,2,3,3,4,3,3,3] cell=some (p:Int))(hp2:2<=p∧p<=4){k2:Int->Int->Int->ByteArray->Int->List Int->Option Unit}{t:ByteArray}{i2:Int}
 (hk:∀a d l,l.length=p-1->DO c (AA.mk s0.code_ a d)->k2 ((p-1:Nat):Int) a d t i2 l=some ()):∀(m i:Nat) (a d:Int) (l:List Int),p-1-i<m->i<=p-1->l.length=i->DO c (AA.mk s0.code_ a d)->
 Fg n s0 nets cell k2 m (i:Int) a d t i2 l=some ()
 |0,i,a,d,l,hm,_,_,_=>by omega
 |m+1,i,a,d,l,hm,hi,hl,hs=>by
  have wp:IntKind.wrap .i64 ((p:Int)-1)=((p-1:Nat):Int):=by rw [Af (by omega) (by omega)];omega
  rw [Fg.eq_2,hp,At,wp]
  by_cases q:i<p-1
  ·have go1:∀(x:Int) (s':AA),DO c s'->(Option.bind (BW (([]:List Int)) l 8) fun z=>(Option.bind (BW z [x] 8) fun z2=>(Fg n s0 nets cell k2 m (IntKind.wrap .i64 ((i:Int)+1)) s'.at_ s'.seed_ t i2 z2)))=some ():=fun x s' h'=>by
    rw [BC (by simp;omega) (by omega),At,List.nil_append,BC (by simp;omega) (by omega),At,wS (by omega)]
    exact WM hc e0 hp hp2 hk m (i+1) _ _ _ (by omega) (by omega) (by simp;omega) (h'.mk2 e0)
   rw [CR q,cT]
   exact Jp (Nx hc hs _) fun r1 ⟨h1,_⟩=>Jp (Nx hc (h1.mk2 e0) 3) fun r2 ⟨h2,_⟩=>Dh (fun _=>Dh (fun _=>go1 _ _ h2) fun _=>go1 _ _ h2) fun _=>Dh (fun _=>go1 _ _ h2) fun _=>go1 _ _ h2
  ·obtain rfl:i=p-1:=by omega
   rw [Cb,cF]
   exact hk a d l hl hs
theorem We{n:Nat}(hn:1048577<=n){c:List Int}(hc:IK c){s0:AA}(e0:s0.code_=c){k0:List Al->List ByteArray->Int->Int->Int->Option Unit}
 (hk:∀l nets i a d,l.length<=6->nets.length=3+l.length->(∀x∈l,IH x)->(∀x∈nets,ByteArray.size x<=1000)->DO c (AA.mk s0.code_ a d)->k0 l nets i a d=some ()):∀(m k:Nat) (l:List Al) (nets:List ByteArray) (a d:Int),k<m->l.length+k<=6->nets.length=3+l.length->(∀x∈l,IH x)->(∀x∈nets,ByteArray.size x<=1000)->DO c (AA.mk s0.code_ a d)->
 HI n s0 k0 m l nets (k:Int) a d=some ()
 |0,k,l,nets,a,d,hm,_,_,_,_,_=>by omega
 |m+1,0,l,nets,a,d,hm,hl,hnl,hI,hN,hs=>by
  rw [HI.eq_2]
  exact hk l nets _ a d (by omega) hnl hI hN hs
 |m+1,k+1,l,nets,a,d,hm,hl,hnl,hI,hN,hs=>by
  have hp:decide (((k+1:Nat):Int)>0)=true:=decide_eq_true (by omega)
  have w:IntKind.wrap .i64 (((k+1:Nat):Int)-1)=(k:Int):=by rw [Af (by omega) (by omega)];omega
  rw [HI.eq_2,hp,cT]
  refine Jp (Nx hc hs 12) fun r ⟨h1,r0,r1⟩=>?_
  obtain⟨x,p,ex,ep,p2,p4⟩:=Wn (j:=r.1.toNat) (by omega)
  rw [Int.toNat_of_nonneg r0]at ex
  rw [ex,At]
  refine Jp (aN (n:=n) (k:=l.length) (by omega) hn) fun t ht=>?_
  obtain⟨c1,c2⟩:=KE (x:=ByteArray.mk #[117]) (y:=t) (by have:(ByteArray.mk #[117]).size=1:=rfl;omega)
  have z1:(ByteArray.mk #[117]).size=1:=rfl
  have z2:(ByteArray.mk #[110]).size=1:=rfl
  rw [c1,At]
  refine WM hc e0 ep ⟨p2,p4⟩ (fun a2 d2 l2 hl2 hs2=>?_) n 0 _ _ [] (by omega) (by omega) rfl (h1.mk2 e0)
  rw [BC (by simp;omega) (by omega),At,List.nil_append,BC (by simp;omega) (by omega),At]
  refine Jp (aN (n:=n) (k:=nets.length) (by omega) hn) fun t2 ht2=>?_
  obtain⟨c3,c4⟩:=KE (x:=ByteArray.mk #[110]) (y:=t2) (by omega)
  rw [c3,At,BC (by simp;omega) (by omega),At,BC (by simp;omega) (by omega),At,w]
  refine We hn hc e0 hk m k _ _ _ _ (by omega) (by simp;omega) (by simp;omega) (fun y hy=>?_) (fun y hy=>?_) hs2
  ·rcases List.mem_append.1 hy with h|h
   ·exact hI y h
   ·rw [List.mem_singleton.1 h]
    exact⟨by show(_:ByteArray).size<=1000;rw [c2];omega,by simp,by simp;omega⟩
  ·rcases List.mem_append.1 hy with h|h
   ·exact hN y h
   ·rw [List.mem_singleton.1 h,c4];omega
theorem Uo{n:Nat}{c:List Int}(hc:IK c){s0:AA}(e0:s0.code_=c){O:Kh}{wild:Bool}{L:Nat}(hL:L<=6){nets ps:List ByteArray}{k4:Int->Int->Int->List Al->List ByteArray->List ByteArray->Option Unit}
 (hk:∀i a d l,l.length=L->(∀x∈l,IH x)->DO c (AA.mk s0.code_ a d)->k4 i a d l nets ps=some ()):∀(m i:Nat) (a d:Int) (l:List Al),L-i<m->i<=L->l.length=L->(∀x∈l,IH x)->DO c (AA.mk s0.code_ a d)->
 GY n s0 wild O k4 m (i:Int) a d l nets ps=some ()
 |0,i,a,d,l,hm,_,_,_,_=>by omega
 |m+1,i,a,d,l,hm,hi,hl,hI,hs=>by
  rw [GY.eq_2]
  by_cases q:i<l.length
  ·have hx:=hI _ (List.getElem_mem q)
   rw [CR q,cT,wS (by omega)]
   refine Jp (Nx hc hs 4) fun r ⟨h1,_⟩=>Jp (A:=fun _=>True) (BZ.bif (fun _=>?_) fun _=>BZ.some trivial) fun b _=>Dh (fun _=>?_) fun _=>Uo hc e0 hL hk m (i+1) _ _ l (by omega) (by omega) hl hI (h1.mk2 e0)
   ·rw [AS q,At]
    exact BZ.bind (A:=fun _=>True) (BZ.bif (fun _=>BZ.some trivial) fun _=>BZ.some trivial) fun _ _ _=>BZ.some trivial
   ·rw [AS q,At]
    refine Jp (Nx hc (h1.mk2 e0) _) fun r2 ⟨h2,_⟩=>?_
    rw [show(0:Int)=((0:Nat):Int)from rfl,AS (show 0<l[i].Nets.length by have:=hx.2.1;omega),At]
    refine O.inn fun y hy=>O.inn fun y2 hy2=>O.inn fun y3 hy3=>?_
    obtain rfl:=QZ hy2
    obtain rfl:=QZ hy3
    exact Uo hc e0 hL hk m (i+1) _ _ y (by omega) (by omega) (by rw [hy.1];exact hl) (IH.shp hy hI) (h2.mk2 e0)
  ·obtain rfl:i=l.length:=by omega
   rw [Cb,cF]
   exact hk _ a d l hl hI hs
theorem aZ{n:Nat}(hn:1048577<=n){c:List Int}(hc:IK c){s:AA}(hs:DO c s){O:Kh}{most:Int}(hm:2<=most∧most<=6){wild:Bool}{g:AO×AA->Option Unit}(hg:∀d s',JG d->DO c s'->g (d,s')=some ()):Wi n O s most wild g=some ():=by
 have e:=hs.code
 have wm:IntKind.wrap .i64 (most-1)=most-1:=Af (by omega) (by omega)
 have n3:∀x∈[(ByteArray.mk #[110,99,107]),(ByteArray.mk #[110,97]),(ByteArray.mk #[110,98])],ByteArray.size x<=1000:=by decide
 rw [Wi,BC (by simp) (by omega),At,List.nil_append,wm]
 refine Jp (Nx hc hs _) fun r ⟨h1,r0,r1⟩=>?_
 have wr:IntKind.wrap .i64 (2+r.1)=((2+r.1.toNat:Nat):Int):=by rw [Af (by omega) (by omega)];omega
 rw [wr]
 refine We hn hc e (fun l nets i a d hl hnl hI hN hs2=>?_) n _ [] _ _ _ (by omega) (by simp;omega) rfl (by simp) n3 (h1.mk2 e)
 have p3:∀x:Int,∀p∈[(BL.mk ((ByteArray.mk #[99,107])) 1 0),(BL.mk ((ByteArray.mk #[97])) 1 1),(BL.mk ((ByteArray.mk #[98])) 1 2),(BL.mk ((ByteArray.mk #[121])) 2 x)],p.Name.size<=1000:=fun x p hp=>by
  simp only [List.mem_cons,List.not_mem_nil,or_false]at hp
  rcases hp with h|h|h|h
  ·rw [h];exact(by decide:(ByteArray.mk #[99,107]).size<=1000)
  ·rw [h];exact(by decide:(ByteArray.mk #[97]).size<=1000)
  ·rw [h];exact(by decide:(ByteArray.mk #[98]).size<=1000)
  ·rw [h];exact(by decide:(ByteArray.mk #[121]).size<=1000)
 refine Uo hc e hl (fun i a d l2 hl2 hI2 hs3=>?_) n 0 a d l (by omega) (by omega) rfl hI hs2
 rw [BC (by simp) (by omega),At,List.nil_append,BC (by simp) (by omega),At]
 refine Jp (Nx hc hs3 2) fun q ⟨k1,_⟩=>Dh (fun _=>Jp (Nx hc (k1.mk2 e) _) fun q2 ⟨k2,_⟩=>?_) fun _=>hg _ _ ⟨⟨by show l2.length<=6;omega,hI2⟩,⟨⟨by show 3<=nets.length;omega,by show nets.length<=9;omega⟩,hN⟩,⟨⟨by simp,by simp⟩,p3 _⟩⟩ (k1.mk2 e)
 rw [BC (by simp) (by omega),At]
 refine hg _ _ ⟨⟨by show l2.length<=6;omega,hI2⟩,⟨⟨by show 3<=nets.length;omega,by show nets.length<=9;omega⟩,hN⟩,⟨⟨by simp,by simp⟩,fun p hp=>?_⟩⟩ (k2.mk2 e)
 rcases List.mem_append.1 hp with h|h
 ·exact p3 _ p h
 ·rw [List.mem_singleton.1 h];exact(by decide:(ByteArray.mk #[122]).size<=1000)
theorem JG.short{d:AO}(h:JG d):∀x∈d.Instances,x.Nets.length<=5:=fun x hx=>(h.inst.2 x hx).2.2
theorem JG.pls{d:AO}(h:JG d):(pls d).length<=78:=CJ h.short (by have:=h.inst.1;omega) (by have:=h.ports.1.2;omega)
theorem UB{n:Nat}{d:AO}(h:JG d)(hn:1048577<=n):OA n d=some ((pls d).map Dv):=LL h.short (by have:=h.inst.1;omega) (by have:=h.ports.1.2;omega) hn
theorem YT{n:Nat}{d:AO}(h:JG d)(q:Int)(hn:1048577<=n):∃r,Ri n d q=some r∧r.length<=78:=by
 have hl:=h.pls
 rw [Ri,UB h hn,At]
 have e:((pls d).map Dv).length=(pls d).length:=by simp
 refine loop (L:=fun m i s=>Eo q ((pls d).map Dv) (fun l38 i42=>some l38) m s i) ((pls d).map Dv).length (fun i s=>s.length<=i) (fun o=>∃r,o=some r∧r.length<=78) ?_ ?_ n 0 [] (by omega) (by omega) (Nat.le_refl _)
 ·intro m i s hi hs
  refine .inl ?_
  simp only [Eo.eq_2,CR hi,cT,AS hi,At,Ca,wT i]
  cases c:(((pls d).map Dv)[i].net_==q&& !((pls d).map Dv)[i].drives_)with
  |true=>rw [cT,BC (by simp;omega) (by omega),At];exact⟨_,by simp;omega,rfl⟩
  |false=>rw [cF];exact⟨s,by omega,rfl⟩
 ·intro m s hs
  simp only [Eo.eq_2,Cb,cF]
  exact⟨s,rfl,by omega⟩
def IL(w:BH):Prop:=(1<=w.Parent.length∧w.Parent.length<=4)∧(1<=w.Res.length∧w.Res.length<=4)∧(1<=w.Cap.length∧w.Cap.length<=4)∧w.Sink.length<=200
theorem IL.shp{l y:List BH}(h:De FJ l y)(hl:∀x∈l,IL x):∀z∈y,IL z:=
 NH h hl fun x z hr hx=>by
  have h1:=hr.1.1;have h2:=hr.2.1.1;have h3:=hr.2.2.1.1;have h4:=hr.2.2.2.1
  obtain⟨⟨a1,a2⟩,⟨b1,b2⟩,⟨c1,c2⟩,d1⟩:=hx
  exact⟨⟨by omega,by omega⟩,⟨by omega,by omega⟩,⟨by omega,by omega⟩,by omega⟩
theorem OM{n:Nat}{l:List Int}(h:l.length<=1000):LC n l=some l:=by
 rw [LC,BC (by simp;omega) (by omega)];rfl
theorem WD{n:Nat}{c:List Int}(hc:IK c){s0:AA}(e0:s0.code_=c){Q:BH×AA->Prop}{k0:Int->Int->Int->List Int->List Int->List Int->Option (BH×AA)}
 (hk:∀i a d (l1 l2 l3:List Int),(1<=l1.length∧l1.length<=4)->l2.length=l1.length->l3.length=l1.length->DO c (AA.mk s0.code_ a d)->BZ Q (k0 i a d l1 l2 l3)):∀(m k:Nat) (a d:Int) (l1 l2 l3:List Int),k<m->1<=l1.length->l1.length+k<=4->l2.length=l1.length->l3.length=l1.length->DO c (AA.mk s0.code_ a d)->
 BZ Q (Ia n s0 k0 m (k:Int) a d l1 l2 l3)
 |0,k,a,d,l1,l2,l3,hm,_,_,_,_,_=>by omega
 |m+1,0,a,d,l1,l2,l3,hm,h1,h2,h3,h4,hs=>by
  rw [Ia.eq_2]
  exact hk _ a d l1 l2 l3 ⟨h1,by omega⟩ h3 h4 hs
 |m+1,k+1,a,d,l1,l2,l3,hm,h1,h2,h3,h4,hs=>by
  have hp:decide (((k+1:Nat):Int)>0)=true:=decide_eq_true (by omega)
  have w:IntKind.wrap .i64 (((k+1:Nat):Int)-1)=(k:Int):=by rw [Af (by omega) (by omega)];omega
  rw [Ia.eq_2,hp,cT,OM (show l1.length<=1000 by omega),At]
  refine BZ.bind (Nx hc hs _) fun r1 _ ⟨q1,_⟩=>?_
  rw [BC (by simp;omega) (by omega),At,OM (show l2.length<=1000 by omega),At]
  refine BZ.bind (Nx hc (q1.mk2 e0) _) fun r2 _ ⟨q2,_⟩=>?_
  rw [BC (by simp;omega) (by omega),At,OM (show l3.length<=1000 by omega),At]
  refine BZ.bind (Nx hc (q2.mk2 e0) _) fun r3 _ ⟨q3,_⟩=>?_
  rw [BC (by simp;omega) (by omega),At,w]
  exact WD hc e0 hk m k _ _ _ _ _ (by omega) (by simp) (by simp;omega) (by simp;omega) (by simp;omega) (q3.mk2 e0)
theorem VS{n:Nat}{c:List Int}(hc:IK c){s0:AA}(e0:s0.code_=c){l1 l2 l3:List Int}(h1:1<=l1.length∧l1.length<=4)(h2:l2.length=l1.length)(h3:l3.length=l1.length){L:Nat}(hL:L<=100):∀(m i:Nat) (a d:Int) (l:List Int),L-i<m->i<=L->l.length=L->DO c (AA.mk s0.code_ a d)->
 BZ (fun r=>(IL r.1∧r.1.Sink.length<=100)∧DO c r.2) (HT n s0 l1 (fun i115 i117 i118 l124=>(some ((BH.mk l1 l2 l3 l124),(AA.mk s0.code_ i117 i118)))) m (i:Int) a d l)
 |0,i,a,d,l,hm,_,_,_=>by omega
 |m+1,i,a,d,l,hm,hi,hl,hs=>by
  rw [HT.eq_2]
  by_cases q:i<l.length
  ·rw [CR q,cT]
   refine BZ.bind (Nx hc hs _) fun r _ ⟨q1,_⟩=>?_
   rw [AS q,At,wS (by omega)]
   exact VS hc e0 h1 h2 h3 hL m (i+1) _ _ _ (by omega) (by omega) (by rw [List.length_set];exact hl) (q1.mk2 e0)
  ·obtain rfl:i=l.length:=by omega
   rw [Cb,cF]
   exact BZ.some ⟨⟨⟨h1,⟨by show 1<=l2.length;omega,by show l2.length<=4;omega⟩,⟨by show 1<=l3.length;omega,by show l3.length<=4;omega⟩,by show l.length<=200;omega⟩,by show l.length<=100;omega⟩,hs⟩
theorem bA{n:Nat}(hn:1048577<=n){c:List Int}(hc:IK c){s:AA}(hs:DO c s){q:Nat}(hq:q<=100):BZ (fun r=>(IL r.1∧r.1.Sink.length<=100)∧DO c r.2) (WI n s (q:Int)):=by
 have e:=hs.code
 rw [WI]
 refine BZ.bind (Nx hc hs 6) fun r _ ⟨h1,_⟩=>?_
 rw [Sp,EU (by omega) (by omega),At,At]
 refine BZ.bind (Nx hc (h1.mk2 e) 4) fun r2 _ ⟨h2,z0,z1⟩=>?_
 have:=WD (n:=n) (s0:=s) (Q:=fun r=>(IL r.1∧r.1.Sink.length<=100)∧DO c r.2) hc e (k0:=fun i75 i77 i78 l80 l84 l88=>(HT n s l80 (fun i115 i117 i118 l124=>(some ((BH.mk l80 l84 l88 l124),(AA.mk s.code_ i117 i118)))) n 0 i77 i78 (List.replicate q 0))) (fun i a d l1 l2 l3 k1 k2 k3 hs2=>
  VS hc e k1 k2 k3 hq n 0 a d _ (by omega) (by omega) (by simp) hs2) n r2.1.toNat r2.2.at_ r2.2.seed_ [(-1)] [0] [r.1] (by omega) (by simp) (by simp;omega) rfl rfl (h2.mk2 e)
 rw [Int.toNat_of_nonneg z0]at this
 exact this
structure Ku(b:AP):Prop where
 lib:Ng b.Library
 dsg:JG b.Design
 wires:b.Wires.length<=9∧∀w∈b.Wires,IL w
theorem Ku.sm{b:AP}(h:Ku b):NJ b:=
 ⟨h.lib,⟨⟨by have:=h.dsg.inst.1;omega,fun x hx=>⟨by have:=(h.dsg.inst.2 x hx).1;omega,by have:=(h.dsg.inst.2 x hx).2.2;omega⟩⟩,⟨by have:=h.dsg.nets.1;omega,fun x hx=>by have:=h.dsg.nets.2 x hx;omega⟩,⟨by have:=h.dsg.ports.1;omega,fun p hp=>by have:=h.dsg.ports.2 p hp;omega⟩⟩,
  ⟨by have:=h.wires.1;omega,fun w hw=>by obtain⟨⟨_,a⟩,⟨_,b⟩,⟨_,c⟩,d⟩:=h.wires.2 w hw;exact⟨⟨⟨by omega,by omega⟩,by omega⟩,by omega⟩⟩⟩
theorem Vx{n:Nat}(hn:1048577<=n){c:List Int}(hc:IK c){s0:AA}(e0:s0.code_=c){r38:AO×AA}(hd:JG r38.1){k0:List BH->Int->Int->Int->Option Unit}
 (hk:∀l i a d,l.length=r38.1.Nets.length->(∀w∈l,IL w∧w.Sink.length<=100)->DO c (AA.mk s0.code_ a d)->k0 l i a d=some ()):∀(m i:Nat) (l:List BH) (a d:Int),r38.1.Nets.length-i<m->i<=r38.1.Nets.length->l.length=i->(∀w∈l,IL w∧w.Sink.length<=100)->DO c (AA.mk s0.code_ a d)->
 Hl n s0 r38 k0 m l (i:Int) a d=some ()
 |0,i,l,a,d,hm,_,_,_,_=>by omega
 |m+1,i,l,a,d,hm,hi,hl,hw,hs=>by
  have hb:=hd.nets.1
  rw [Hl.eq_2]
  by_cases q:i<r38.1.Nets.length
  ·obtain⟨r,f,hr⟩:=YT (n:=n) hd (i:Int) hn
   rw [CR q,cT,f,At]
   refine Jp (bA hn hc hs (by omega)) fun r2 ⟨h1,h2⟩=>?_
   rw [BC (by simp;omega) (by omega),At,wS (by omega)]
   refine Vx hn hc e0 hd hk m (i+1) _ _ _ (by omega) (by omega) (by simp;omega) (fun w h=>?_) (h2.mk2 e0)
   rcases List.mem_append.1 h with h|h
   ·exact hw w h
   ·rw [List.mem_singleton.1 h];exact h1
  ·obtain rfl:i=r38.1.Nets.length:=by omega
   rw [Cb,cF]
   exact hk l _ a d hl hw hs
theorem aO{n:Nat}(hn:1048577<=n){c:List Int}(hc:IK c){s:AA}(hs:DO c s){O:Kh}{most:Int}(hm:2<=most∧most<=6){wild:Bool}{g:AP×AA->Option Unit}(hg:∀b s',Ku b->b.Wires.length=b.Design.Nets.length->(∀w∈b.Wires,w.Sink.length<=100)->DO c s'->g (b,s')=some ()):Lx n O s most wild g=some ():=by
 have e:=hs.code
 rw [Lx]
 refine Jp (dJ hc hs hn) fun r ⟨h1,h2⟩=>aZ hn hc (h2.mk2 e) hm fun d s' hd hs'=>?_
 have hb:=hd.nets.1
 exact Vx (r38:=(d,s')) hn hc e hd (fun l i a d2 hl hw hs2=>hg _ _ ⟨h1,hd,by show l.length<=9;rw [hl];exact hb.2,fun w h=>(hw w h).1⟩ hl (fun w h=>(hw w h).2) hs2) n 0 [] _ _ (by show d.Nets.length-0<n;omega) (by omega) rfl (by simp) (hs'.mk2 e)
theorem Zr{n:Nat}(hn:1048577<=n){c:List Int}(hc:IK c){s:AA}(hs:DO c s){O:Kh}{g:AP×AA->Option Unit}(hg:∀b s',Ku b->DO c s'->g (b,s')=some ()):Pc n O s g=some ():=by
 have e:=hs.code
 rw [Pc]
 refine Jp (Nx hc hs 3) fun r ⟨h1,_⟩=>aO hn hc (h1.mk2 e) (by omega) fun b s' hb hw hk hs'=>Jp (Nx hc (hs'.mk2 e) _) fun r2 ⟨h2,z0,z1⟩=>Jp (Nx hc (h2.mk2 e) 20) fun r3 ⟨h3,_⟩=>?_
 have wl:=hb.wires.1
 have nl:=hb.dsg.nets.1
 have z1:r2.1<(b.Wires.length:Int):=by
  have z1:r2.1<(b.Wires.length:Int)∨r2.1=0∧(b.Wires.length:Int)<=1:=z1
  omega
 obtain⟨k,ek⟩:=Int.eq_ofNat_of_zero_le z0
 have ek:r2.1=(k:Int):=ek
 have kl:k<b.Wires.length:=by omega
 have gk:AM b.Wires r2.1=some b.Wires[k]:=by rw [ek];exact AS kl
 have wk:=hb.wires.2 _ (List.getElem_mem kl)
 have fin:=fun(y:List BH) (hy:De FJ b.Wires y)=>(⟨hb.lib,hb.dsg,⟨by show y.length<=9;rw [hy.1];exact wl,IL.shp hy hb.wires.2⟩⟩:Ku (AP.mk b.Library b.Design y))
 refine Dh (fun _=>?_) fun _=>Dh (fun _=>?_) fun _=>Dh (fun _=>?_) fun _=>Dh (fun _=>?_) fun _=>Dh (fun _=>?_) fun _=>Dh (fun _=>?_) fun _=>hg _ _ hb (h3.mk2 e)
 ·rw [show Dr b.Wires 1 (b.Wires.length:Int)=some ((b.Wires.take (b.Wires.length:Int).toNat).drop (1:Int).toNat)from if_pos ⟨by omega,by omega,by omega⟩,At]
  exact hg _ _ ⟨hb.lib,hb.dsg,⟨by simp;omega,fun w hw2=>hb.wires.2 w (List.mem_of_mem_take (List.mem_of_mem_drop hw2))⟩⟩ (h3.mk2 e)
 ·have sl:=wk.2.2.2
  simp only [gk,At,OM (n:=n) (show b.Wires[k].Sink.length<=1000 by omega),BC (show b.Wires[k].Sink.length+[(0:Int)].length<=16777216 by simp;omega) (show 8<=1048576 by omega)]
  refine hg _ _ ⟨hb.lib,hb.dsg,⟨by rw [List.length_set];exact wl,fun w hw2=>?_⟩⟩ (h3.mk2 e)
  have hk1:=hk _ (List.getElem_mem kl)
  rcases List.mem_or_eq_of_mem_set hw2 with h|h
  ·exact hb.wires.2 w h
  ·rw [h];exact⟨wk.1,wk.2.1,wk.2.2.1,by rw [List.length_append];simp;omega⟩
 ·obtain⟨⟨p1,p2⟩,⟨r1,r2'⟩,⟨c1,c2⟩,s1⟩:=wk
  rw [gk,At,show(0:Int)=((0:Nat):Int)from rfl,AS (show 0<b.Wires[k].Res.length by omega),At]
  exact O.inn fun y hy=>hg _ _ (fin y hy) (h3.mk2 e)
 ·obtain⟨⟨p1,p2⟩,⟨r1,r2'⟩,⟨c1,c2⟩,s1⟩:=wk
  rw [gk,At]
  refine Jp (Nx hc (h3.mk2 e) 3) fun r4 ⟨h4,y0,y1⟩=>?_
  obtain⟨v,hv,_⟩:=Dj (xs:=[(-1:Int),500,501]) y0 (by simp;omega)
  rw [hv,At,show(0:Int)=((0:Nat):Int)from rfl,AS (show 0<b.Wires[k].Cap.length by omega),At]
  exact O.inn fun y hy=>hg _ _ (fin y hy) (h4.mk2 e)
 ·obtain⟨⟨p1,p2⟩,⟨r1,r2'⟩,⟨c1,c2⟩,s1⟩:=wk
  rw [gk,At,At]
  refine Jp (Nx hc (h3.mk2 e) 5) fun r4 ⟨h4,_⟩=>?_
  have w1:IntKind.wrap .i64 ((b.Wires[k].Parent.length:Int)-1)=((b.Wires[k].Parent.length-1:Nat):Int):=by rw [Af (by omega) (by omega)];omega
  rw [w1,AS (show b.Wires[k].Parent.length-1<b.Wires[k].Parent.length by omega),At]
  exact O.inn fun y hy=>hg _ _ (fin y hy) (h4.mk2 e)
 ·rw [show(0:Int)=((0:Nat):Int)from rfl,AS (show 0<b.Design.Ports.length by have:=hb.dsg.ports.1;omega),At]
  refine O.inn fun y1 hy1=>O.inn fun y2 hy2=>O.inn fun y3 hy3=>?_
  obtain rfl:=QZ hy2
  exact hg _ _ ⟨hb.lib,⟨⟨by show y1.length<=6;rw [hy1.1];exact hb.dsg.inst.1,IH.shp hy1 hb.dsg.inst.2⟩,hb.dsg.nets,⟨by show 3<=y3.length∧y3.length<=5;rw [hy3.1];exact hb.dsg.ports.1,NH hy3 hb.dsg.ports.2 fun x z hr hx=>by rw [←hr.1];exact hx⟩⟩,hb.wires⟩ (h3.mk2 e)
theorem cQ{n:Nat}(hn:1048577<=n){c:List Int}(hc:IK c){s:AA}(hs:DO c s){O:Kh}{g:AP×AA->Option Unit}(hg:∀b s',Ku b->DO c s'->g (b,s')=some ()):Rg n O s g=some ():=by
 have e:=hs.code
 rw [Rg]
 refine Jp (Nx hc hs 12) fun r ⟨h1,_⟩=>Dh (fun _=>Zr hn hc (h1.mk2 e) fun b s' hb hs'=>hg _ _ hb (hs'.mk2 e)) fun _=>Dh (fun _=>Dh (fun _=>?_) fun _=>?_) fun _=>Dh (fun _=>?_) fun _=>?_
 all_goals exact aO hn hc (h1.mk2 e) (by omega) fun b s' hb _ _ hs'=>hg _ _ hb (hs'.mk2 e)
theorem Vb{n:Nat}{c:List Int}(hc:IK c){s0:AA}(e0:s0.code_=c){lk:List AR}(hlk:lk.length<=5128){r90:Int×AA}(h90:0<=r90.1∧r90.1<8):∀(m i:Nat) (l:List Int) (a d:Int),lk.length-i<m->l.length<=i->i<=6000->DO c (AA.mk s0.code_ a d)->
 BZ (fun r=>r.1.length<=6001∧DO c r.2) (Hq n s0 lk r90 (fun l110 i114 i116 i117=>(Option.bind (DV n ((AA.mk s0.code_ i116 i117)) 12) fun r121=>(bif (r121.1==0)then(Option.bind (DV n ((AA.mk s0.code_ r121.2.at_ r121.2.seed_)) 2) fun r129=>(Option.bind (BW l110 ([IntKind.wrap .i64 (((lk.length:Int))*r129.1)]) 8) fun z149=>(some (z149,(AA.mk s0.code_ r129.2.at_ r129.2.seed_)))))else(some (l110,(AA.mk s0.code_ r121.2.at_ r121.2.seed_)))))) m l (i:Int) a d)
 |0,i,l,a,d,hm,_,_,_=>by omega
 |m+1,i,l,a,d,hm,hl,hi,hs=>by
  rw [Hq.eq_2]
  by_cases q:i<lk.length
  ·have w9:IntKind.wrap .i64 (1+r90.1)=1+r90.1:=Af (by omega) (by omega)
   rw [CR q,cT,BC (by simp;omega) (by omega),At,w9]
   refine BZ.bind (Nx hc hs _) fun r _ ⟨h1,z0,z1⟩=>?_
   have z2:r.1<=8:=by omega
   have wi:IntKind.wrap .i64 ((i:Int)+(IntKind.wrap .i64 (1+r.1)))=((i+1+r.1.toNat:Nat):Int):=by
    rw [Af (x:=1+r.1) (by omega) (by omega),Af (by omega) (by omega)];omega
   rw [wi]
   exact Vb hc e0 hlk h90 m _ _ _ _ (by omega) (by simp;omega) (by omega) (h1.mk2 e0)
  ·rw [show decide ((i:Int)<(lk.length:Int))=false from decide_eq_false (by omega),cF]
   refine BZ.bind (Nx hc hs 12) fun r _ ⟨h1,_⟩=>BZ.bif (fun _=>?_) fun _=>BZ.some ⟨by show l.length<=6001;omega,h1.mk2 e0⟩
   refine BZ.bind (Nx hc (h1.mk2 e0) 2) fun r2 _ ⟨h2,_⟩=>?_
   rw [BC (by simp;omega) (by omega),At]
   exact BZ.some ⟨by simp;omega,h2.mk2 e0⟩
theorem bG{n:Nat}(hn:1048577<=n){c:List Int}(hc:IK c){s:AA}(hs:DO c s){b:AP}(hb:NJ b):BZ (fun r=>r.1.length<=6001∧DO c r.2) (QT n s b):=by
 have e:=hs.code
 obtain⟨v,e1,hv⟩:=Zj (n:=n) hb hn
 rw [QT,e1,At]
 refine BZ.bind (A:=fun x=>DO c (AA.mk s.code_ x.2.1 x.2.2)∧(x.1=false->v=true)) (BZ.bif (fun _=>BZ.some ⟨hs,fun h=>by cases h⟩) fun q=>BZ.bind (Nx hc hs 3) fun r _ ⟨h1,_⟩=>BZ.some ⟨h1.mk2 e,fun _=>by cases v<;>simp_all⟩) fun x _ ⟨hx,hv2⟩=>BZ.bif (fun _=>BZ.some ⟨by simp,hx⟩) fun q=>?_
 have vb:=hv.1 (hv2 q)
 rw [Sa vb hn,At]
 refine BZ.bind (Nx hc hx 8) fun r _ ⟨h1,z0,z1⟩=>BZ.bind (Nx hc (h1.mk2 e) _) fun r2 _ ⟨h2,y0,y1⟩=>?_
 have w9:IntKind.wrap .i64 (1+r.1)=1+r.1:=Af (by omega) (by omega)
 rw [w9]at y1
 have:=Vb (n:=n) hc e (Hm vb) (r90:=r) ⟨z0,by omega⟩ n r2.1.toNat [] r2.2.at_ r2.2.seed_ (by have:=Hm vb;omega) (by simp) (by omega) (h2.mk2 e)
 rw [Int.toNat_of_nonneg y0]at this
 exact this
theorem Wl{n:Nat}{c:List Int}(hc:IK c){r19:AP×AA}{r85:List Int×AA}{ps:List Av}(hps:ps.length<=1000){g:AP×List Int×Int->Option Unit}(hg:∀p,g (r19.1,r85.1,p)=some ()){k0:Int->Int->Int->Option Unit}
 (hk:∀i a d,DO c (AA.mk c a d)->k0 i a d=some ()):∀(m i:Nat) (a d:Int),ps.length-i<m->i<=ps.length->DO c (AA.mk c a d)->Hu n c g r19 r85 ps k0 m (i:Int) a d=some ()
 |0,i,a,d,hm,_,_=>by omega
 |m+1,i,a,d,hm,hi,hs=>by
  rw [Hu.eq_2]
  by_cases q:i<ps.length
  ·rw [CR q,cT,AS q,At,wS (by omega)]
   exact Jp (A:=fun x=>DO c (AA.mk c x.2.1 x.2.2)) (BZ.bif (fun _=>BZ.bind (Nx hc hs 2) fun r _ ⟨h1,_⟩=>BZ.some (h1.mk2 rfl)) fun _=>BZ.some hs) fun x hx=>Dh (fun _=>hg _) fun _=>Wl hc hps hg hk m (i+1) _ _ (by omega) (by omega) hx
  ·obtain rfl:i=ps.length:=by omega
   rw [Cb,cF]
   exact hk _ a d hs
theorem Vj{n:Nat}{c:List Int}(hc:IK c){r19:AP×AA}{ps:List Av}(hps:ps.length<=1000){g:AP×List Int×Int->Option Unit}(hg:∀p,g (r19.1,[],p)=some ()){k0:Int->Int->Int->Option Unit}
 (hk:∀i a d,DO c (AA.mk c a d)->k0 i a d=some ()):∀(m i:Nat) (a d:Int),ps.length-i<m->i<=ps.length->DO c (AA.mk c a d)->Fu n c g r19 ps k0 m (i:Int) a d=some ()
 |0,i,a,d,hm,_,_=>by omega
 |m+1,i,a,d,hm,hi,hs=>by
  rw [Fu.eq_2]
  by_cases q:i<ps.length
  ·rw [CR q,cT,AS q,At,wS (by omega)]
   exact Jp (A:=fun x=>DO c (AA.mk c x.2.1 x.2.2)) (BZ.bif (fun _=>BZ.bind (Nx hc hs 2) fun r _ ⟨h1,_⟩=>BZ.some (h1.mk2 rfl)) fun _=>BZ.some hs) fun x hx=>Dh (fun _=>hg _) fun _=>Vj hc hps hg hk m (i+1) _ _ (by omega) (by omega) hx
  ·obtain rfl:i=ps.length:=by omega
   rw [Cb,cF]
   exact hk _ a d hs
theorem bR{n:Nat}(hn:1048577<=n){c:List Int}(hc:IK c){O:Kh}{g:AP×List Int×Int->Option Unit}(hg:∀b br p,Ku b->br.length<=6001->g (b,br,p)=some ()):RQ n O c g=some ():=by
 rw [RQ]
 refine Jp (Fr hc hn) fun s hs=>cQ hn hc (hs.mk2 rfl) fun b s' hb hs'=>Jp (Nx hc (hs'.mk2 rfl) 4) fun r ⟨h1,_⟩=>?_
 have hp:=hb.dsg.pls
 have hl:((pls b.Design).map Dv).length<=1000:=by rw [List.length_map];omega
 refine Dh (fun _=>Jp (bG hn hc (h1.mk2 rfl) hb.sm) fun br ⟨hbr,h2⟩=>?_) fun _=>?_
 ·rw [UB hb.dsg hn,At]
  exact Wl hc hl (fun p=>hg _ _ _ hb hbr) (fun i a d h3=>Jp (Nx hc h3 _) fun _ _=>hg _ _ _ hb hbr) n 0 _ _ (by omega) (by omega) (h2.mk2 rfl)
 ·rw [UB hb.dsg hn,At]
  exact Vj hc hl (fun p=>hg _ _ _ hb (by simp)) (fun i a d h3=>Jp (Nx hc h3 _) fun _ _=>hg _ _ _ hb (by simp)) n 0 _ _ (by omega) (by omega) (h1.mk2 rfl)
theorem aT{n:Nat}{l:List Int}{x:Int}(h:l.length<=1048576)(hn:1048577<=n):Rm n l x=some (l.any fun y=>y==x):=by
 rw [Rm]
 refine loop (L:=fun m i (_:Unit)=>Ic l x (fun i5=>(some false)) m i) l.length (fun i _=>l.any (fun y=>y==x)=(l.drop i).any (fun y=>y==x)) (fun o=>o=some (l.any fun y=>y==x)) ?_ ?_ n 0 () (by omega) (by omega) (by simp)
 ·intro m i _ hi hI
  rw [List.drop_eq_getElem_cons hi,List.any_cons]at hI
  simp only [Ic.eq_2,CR hi,cT,AS hi,At,wT i]
  cases c:(l[i]==x)with
  |true=>rw [cT];exact .inr (by rw [hI,c];rfl)
  |false=>rw [cF];exact .inl ⟨(),by rw [hI,c];rfl,rfl⟩
 ·intro m _ hI
  rw [List.drop_length]at hI
  simp only [Ic.eq_2,Cb,cF]
  rw [hI];rfl
theorem aG{n:Nat}{l:List Int}(h:l.length<=1048576)(hn:1048577<=n):RD n l l=some true:=by
 rw [RD,bne_self_eq_false,cF]
 refine loop (L:=fun m i (_:Unit)=>GO l l (fun i7=>(some true)) m i) l.length (fun _ _=>True) (fun o=>o=some true) ?_ ?_ n 0 () (by omega) (by omega) trivial
 ·intro m i _ hi _
  refine .inl ⟨(),trivial,?_⟩
  simp only [GO.eq_2,CR hi,cT,AS hi,At,bne_self_eq_false,cF,wT i]
 ·intro m _ _
  simp only [GO.eq_2,Cb,cF]
theorem Iw{o:List Bool}{k:Nat}(h:k<o.length)(g:gb o k=true):(Gt o).any (fun y=>y==(k:Int))=true:=by
 obtain⟨_,_,h3⟩:=ON o
 exact List.any_eq_true.2 ⟨(k:Int),(h3 _).2 ⟨k,rfl,h,g⟩,by simp⟩
theorem Xu{n:Nat}{b:AP}{br:List Int}{p:Int}(hb:NJ b)(hbr:br.length<=1048576)(hn:1048577<=n):
 (∃(P:Nat) (o:List Bool) (r:List Int),p=(P:Int)∧P<(pls b.Design).length∧(pls b.Design).length<=78∧NU b br P o∧Fk (Oo b o) (pls b.Design).length r∧Su n b br p=some (r,0)∧Ov n b br p=some (r,0)∧Qg n b br p=some (Gt o,0))∨
 (∃c:Int,(c !=0)=true∧Su n b br p=some ([],c)∧Ov n b br p=some ([],c)):=by
 rw [Ov,Qg]
 rcases bK (n:=n) (br:=br) (p:=p) hb hbr hn with ⟨v,hr,⟨P,rfl,hP⟩,w,f2,w1,w2,w3⟩|⟨c,hc,f1,f2⟩
 ·have vd:=v.design
  have hl:=CJ vd.short vd.few.1 vd.few.2.2
  obtain⟨o,g2,r2⟩:=Uh (n:=n) (w:=⟨b,w.places_,w.links_,w.loads_,w.delays_,w.extras_⟩) v rfl w2 w3 hbr hr hP hn
  have ol:=r2.len
  obtain⟨rs,e1,u1⟩:=dB v hbr hr hP r2 hb hn
  obtain⟨ri,e2,u2⟩:=YM (w:=w) (o:=o) v w2 ol hn
  obtain rfl:rs=ri:=Ms u1.2.1 u2.2.1 fun x=>(u1.2.2 x).trans (u2.2.2 x).symm
  refine .inl ⟨P,o,rs,rfl,hP,hl,r2,u1,e1,?_,?_⟩
  ·simp only [f2,At,bne_self_eq_false,cF,Kv,g2,Vg (n:=n) (s:=o) (by omega) hn,e2]
  ·simp only [f2,At,bne_self_eq_false,cF,Kv,g2,Vg (n:=n) (s:=o) (by omega) hn]
 ·refine .inr ⟨c,hc,f1,?_⟩
  simp only [f2,At,hc,cT,Kv]
theorem SY{code:List Int}(hR:code.length<=9223372036854775807∧∀x∈code,VE .u8 x):∃n O,Sd n O code (fun r=>bif r then some ()else none)=some ():=by
 obtain⟨n,hn⟩:∃n,1048577<=n:=⟨_,Nat.le_refl _⟩
 obtain⟨O⟩:=Kh.is
 refine⟨n,O,?_⟩
 rw [Sd,Sb,At]
 refine Dh (fun _=>rfl) fun hb=>?_
 have hc:=IK.of hR (of_decide_eq_false hb)
 refine bR hn hc fun b br p hB hbr=>?_
 rcases Xu (n:=n) (br:=br) (p:=p) hB.sm (by omega) hn with ⟨P,o,r,rfl,hP,hl,ho,hu,e1,e2,e3⟩|⟨c,hc,e1,e2⟩
 ·have rl:=hu.1
  have ol:=ho.len
  have ll:=Qq o
  have sP:∀q,q=2*P∨q=2*P+1->gb o q=true:=fun q hq=>(ho.iff q (by omega)).2 (Jw.src (by rcases hq with h|h<;>subst h<;>simp))
  have w0:IntKind.wrap .i64 (2*(P:Int))=((2*P:Nat):Int):=by rw [Af (by omega) (by omega)];omega
  have w1:IntKind.wrap .i64 (((2*P:Nat):Int)+1)=((2*P+1:Nat):Int):=by rw [Af (by omega) (by omega)];omega
  simp only [e1,e2,At,bne_self_eq_false,cF,aG (n:=n) (l:=r) (by omega) hn,Bool.not_true,e3]
  refine loop (L:=fun m i (_:Unit)=>GN n _ (r,0) (Gt o,0) _ m i) r.length (fun _ _=>True) (fun z=>z=some ()) ?_ ?_ n 0 () (by omega) (by omega) trivial
  ·intro m i _ hi _
   refine .inl ⟨(),trivial,?_⟩
   obtain⟨k,ek,hk,⟨_,ck⟩⟩:=(hu.2.2 _).1 (List.getElem_mem hi)
   have v0:IntKind.wrap .i64 (2*(k:Int))=((2*k:Nat):Int):=by rw [Af (by omega) (by omega)];omega
   have v1:IntKind.wrap .i64 (((2*k:Nat):Int)+1)=((2*k+1:Nat):Int):=by rw [Af (by omega) (by omega)];omega
   simp only [GN.eq_2,CR hi,cT,AS hi,At,ek,v0,v1,aT (n:=n) (l:=Gt o) (by omega) hn,wT i]
   rw [Bool.or_eq_true]at ck
   cases q:gb o (2*k)with
   |true=>rw [Iw (show 2*k<o.length by omega) q];rfl
   |false=>
    rw [q]at ck
    have ck:gb o (2*k+1)=true:=ck.elim (fun h=>by cases h) id
    rw [Iw (show 2*k+1<o.length by omega) ck]
    cases(Gt o).any (fun y=>y==((2*k:Nat):Int))<;>rfl
  ·intro m _ _
   simp only [GN.eq_2,Cb,cF,w0,w1,aT (n:=n) (l:=Gt o) (by omega) hn,At,beq_self_eq_true,cT]
   rw [Iw (show 2*P<o.length by omega) (sP _ (.inl rfl)),Iw (show 2*P+1<o.length by omega) (sP _ (.inr rfl))]
   rfl
 ·simp only [e1,e2,At,bne_self_eq_false,cF,aG (n:=n) (l:=[]) (by simp) hn,Bool.not_true,hc,cT]
end Go.Proofs.YtbcnjcjcdknhhaaGreatDoor
