/- The plain law behind FnGateList: the plain function answers true; no condition. -/
import Derived.Test.YtbcnjcjcdknhhaaGreatDoorWalkFnGateList
set_option linter.all false
namespace Go.Proofs.YtbcnjcjcdknhhaaGreatDoor
open Go Go.RowKit Go.Eng
theorem DU{b c:Bool}:(bif b then some true else some c)=some (b||c):=by cases b<;>rfl
theorem CS{b c:Bool}:(bif b then some c else some false)=some (b&&c):=by cases b<;>rfl
theorem CV{i N:Nat}(h:i<N):decide ((i:Int)<(N:Int))=true:=decide_eq_true (by omega)
theorem Cc(N:Nat):decide ((N:Int)<(N:Int))=false:=decide_eq_false (by omega)
theorem wS{i:Nat}(h:i<4611686018427387904):IntKind.wrap .i64 ((i:Int)+1)=((i+1:Nat):Int):=by rw [Af (by omega) (by omega)];simp
theorem Ab{α:Type}{xs:List α}{i:Nat}(h:i<xs.length):AO xs (i:Int)=some xs[i]:=by rw [Fp];exact List.getElem?_eq_getElem h
theorem Dn{α:Type}{xs:List α}{i:Int}(h0:0<=i)(h1:i<xs.length):∃x,AO xs i=some x∧xs[i.toNat]? =some x:=by
 obtain⟨x,hx,_⟩:=EG h0 h1
 exact⟨x,hx,(Dm hx).2.2⟩
theorem loop{σ R:Type}{L:Nat->Int->σ->Option R}(N:Nat)(I:Nat->σ->Prop)(Post:Option R->Prop)
 (hs:∀(m i:Nat) (st:σ),i<N->I i st->(∃st',I (i+1) st'∧L (m+1) (i:Int) st=L m ((i+1:Nat):Int) st')∨Post (L (m+1) (i:Int) st))
 (he:∀(m:Nat) (st:σ),I N st->Post (L (m+1) (N:Int) st)):∀(m i:Nat) (st:σ),i<=N->N-i<m->I i st->Post (L m (i:Int) st)
 |0,i,st,_,hm,_=>by omega
 |m+1,i,st,hi,hm,h=>by
  by_cases hlt:i<N
  ·rcases hs m i st hlt h with ⟨st',h1,h2⟩|h1
   ·rw [h2];exact loop N I Post hs he m (i+1) st' (by omega) (by omega) h1
   ·exact h1
  ·obtain rfl:i=N:=by omega
   exact he m st h
theorem Lk{α σ R:Type}{xs:List α}{L:Nat->Int->σ->Option R}{k:σ->Option R}(f:σ->α->σ)(I:Nat->σ->Prop)
 (hs:∀(m i:Nat) (h:i<xs.length) (st:σ),I i st->L (m+1) (i:Int) st=L m ((i+1:Nat):Int) (f st xs[i])∧I (i+1) (f st xs[i]))
 (he:∀(m:Nat) (st:σ),I xs.length st->L (m+1) (xs.length:Int) st=k st) (m:Nat) (st:σ) (h:I 0 st) (hm:xs.length<m):L m 0 st=k (xs.foldl f st)∧I xs.length (xs.foldl f st):=by
 refine loop xs.length (fun i s=>I i s∧(xs.drop i).foldl f s=xs.foldl f st) (fun o=>o=k (xs.foldl f st)∧I xs.length (xs.foldl f st)) ?_ ?_ m 0 st (by omega) (by omega) ⟨h,by simp⟩
 ·intro m i s hi ⟨h1,h2⟩
  obtain⟨e,h3⟩:=hs m i hi s h1
  exact .inl ⟨_,⟨h3,by rw [List.drop_eq_getElem_cons hi]at h2;exact h2⟩,e⟩
 ·intro m s ⟨h1,h2⟩
  rw [List.drop_length]at h2
  have h2:s=xs.foldl f st:=h2
  rw [←h2]
  exact⟨he m s h1,h1⟩
theorem BA{α:Type}{xs ys:List α}{b:Nat}(h:xs.length+ys.length<=16777216)(hb:b<=1048576):BV xs ys b=some (xs++ys):=by
 unfold BV
 have:(xs.length+ys.length)*b<=16777216*1048576:=Nat.mul_le_mul h hb
 rw [if_pos ⟨by omega,by omega⟩]
theorem Kr{α R:Type}{xs:List α}{L:Nat->Int->Option R}{k no:Option R}(p:α->Bool)(hs:∀(m i:Nat) (h:i<xs.length),L (m+1) (i:Int)=bif p xs[i]then L m ((i+1:Nat):Int)else no)
 (he:∀m:Nat,L (m+1) (xs.length:Int)=k) (m:Nat) (hm:xs.length<m):L m 0=bif xs.all p then k else no:=by
 refine loop (L:=fun m i (_:Unit)=>L m i) xs.length (fun i _=>xs.all p=(xs.drop i).all p) (fun o=>o=bif xs.all p then k else no) ?_ ?_ m 0 () (by omega) (by omega) (by simp)
 ·intro m i _ hi h
  rw [List.drop_eq_getElem_cons hi,List.all_cons]at h
  cases hp:p xs[i]with
  |false=>refine .inr ?_;rw [h,hp];simp only [hs m i hi,hp,cF,Bool.false_and]
  |true=>refine .inl ⟨(),by rw [h,hp];simp,?_⟩;simp only [hs m i hi,hp,cT]
 ·intro m _ h
  rw [List.drop_length]at h
  rw [h];simp [he m]
theorem RU{σ R:Type}{L:Nat->σ->Option R}(μ:σ->Nat)(I:σ->Prop)(Post:Option R->Prop)
 (hs:∀(m:Nat) (st:σ),I st->(∀st',I st'->μ st'<μ st->Post (L m st'))->Post (L (m+1) st)):∀(m:Nat) (st:σ),μ st<m->I st->Post (L m st)
 |0,st,h,_=>by omega
 |m+1,st,h,hI=>hs m st hI fun st' h1 h2=>RU μ I Post hs m st' (by omega) h1
theorem RN{σ R:Type}{L:Nat->Int->σ->Option R}(N:Nat)(I:Nat->σ->Prop)(Post:Option R->Prop)
 (hs:∀(m i:Nat) (st:σ),i<N->I i st->(∀st',I (i+1) st'->Post (L m ((i+1:Nat):Int) st'))->Post (L (m+1) (i:Int) st))
 (he:∀(m:Nat) (st:σ),I N st->Post (L (m+1) (N:Int) st)):∀(m i:Nat) (st:σ),i<=N->N-i<m->I i st->Post (L m (i:Int) st)
 |0,i,st,_,hm,_=>by omega
 |m+1,i,st,hi,hm,h=>by
  by_cases hlt:i<N
  ·exact hs m i st hlt h fun st' h'=>RN N I Post hs he m (i+1) st' (by omega) (by omega) h'
  ·obtain rfl:i=N:=by omega
   exact he m st h
def Ba{α:Type}(Q:α->Prop)(o:Option α):Prop:=∃v,o=some v∧Q v
theorem Ba.some{α:Type}{Q:α->Prop}{v:α}(h:Q v):Ba Q (some v):=⟨v,rfl,h⟩
theorem Ba.bind{α β:Type}{A:α->Prop}{Q:β->Prop}{o:Option α}{f:α->Option β}(h:Ba A o)(k:∀v,o=Option.some v->A v->Ba Q (f v)):Ba Q (Option.bind o f):=by
 obtain⟨v,e,hv⟩:=h
 rw [e];exact k v e hv
theorem Ba.bif{α:Type}{Q:α->Prop}{c:Bool}{x y:Option α}(h1:c=true->Ba Q x)(h2:c=false->Ba Q y):Ba Q (bif c then x else y):=by
 cases c
 ·exact h2 rfl
 ·exact h1 rfl
theorem Ba.weaken{α:Type}{Q Q':α->Prop}{o:Option α}(h:Ba Q o)(hq:∀v,Q v->Q' v):Ba Q' o:=by
 obtain⟨v,e,hv⟩:=h
 exact⟨v,e,hq v hv⟩
theorem Ba.get{α:Type}{Q:α->Prop}{xs:List α}{i:Int}(h0:0<=i)(h1:i<xs.length)(h:∀x∈xs,Q x):Ba Q (AO xs i):=by
 obtain⟨x,hx,hm⟩:=EG h0 h1
 exact⟨x,hx,h x hm⟩
theorem HR{α:Type}{xs:List α}{L:Nat->Int->Option Int}(p:α->Bool)(hs:∀(m i:Nat) (h:i<xs.length),L (m+1) (i:Int)=bif p xs[i]then some (i:Int)else L m ((i+1:Nat):Int))
 (he:∀m:Nat,L (m+1) (xs.length:Int)=some (-1)) (m:Nat) (hm:xs.length<m):∃r,L m 0=some r∧decide (r>=0)=xs.any p:=by
 refine loop (L:=fun m i (_:Unit)=>L m i) xs.length (fun i _=>xs.any p=(xs.drop i).any p) (fun o=>∃r,o=some r∧decide (r>=0)=xs.any p) ?_ ?_ m 0 () (by omega) (by omega) (by simp)
 ·intro m i _ hi h
  rw [List.drop_eq_getElem_cons hi,List.any_cons]at h
  cases hp:p xs[i]with
  |false=>refine .inl ⟨(),by rw [h,hp];simp,?_⟩;simp only [hs m i hi,hp,cF]
  |true=>refine .inr ⟨(i:Int),?_,?_⟩
         ·simp only [hs m i hi,hp,cT]
         ·rw [h,hp];simp
 ·intro m _ h
  rw [List.drop_length]at h
  exact⟨-1,he m,by rw [h];rfl⟩
structure Db(c:List Int)(s:AA):Prop where
 code:s.code_=c
 at0:0<=s.at_∧s.at_<=c.length
 sd:0<=s.seed_∧s.seed_<2147483647
def IL(c:List Int):Prop:=c.length<=4096∧∀x∈c,0<=x∧x<=255
theorem Em{a b:Int}(ha:0<=a)(hb:0<b):0<=Int.tmod a b∧Int.tmod a b<b:=⟨Int.tmod_nonneg _ ha,Int.tmod_lt_of_pos _ hb⟩
theorem Nx{n:Nat}{c:List Int}(hc:IL c){s:AA}(h:Db c s)(k:Int):Ba (fun r=>Db c r.2∧0<=r.1∧(r.1<k∨r.1=0∧k<=1)) (Di n s k):=by
 obtain⟨h1,h2,h3⟩:=h
 have hl:=hc.1
 rw [Di]
 refine Ba.bif (fun hk=>Ba.some ⟨⟨h1,h2,h3⟩,Int.le_refl _,.inr ⟨rfl,of_decide_eq_true hk⟩⟩) fun hk=>?_
 have hk:=of_decide_eq_false hk
 have hk0:(k==0)=false:=by rw [beq_eq_false_iff_ne];omega
 refine Ba.bif (fun ha=>?_) fun ha=>?_
 ·have ha:=of_decide_eq_true ha
  rw [h1]at ha ⊢
  refine Ba.bind (Ba.get h2.1 ha hc.2) fun x _ hx=>?_
  have wx:IntKind.wrap .i64 x=x:=Af (by omega) (by omega)
  have wa:IntKind.wrap .i64 (s.at_+1)=s.at_+1:=Af (by omega) (by omega)
  have wm:IntKind.wrap .i64 (s.seed_*48271)=s.seed_*48271:=Af (by omega) (by omega)
  simp only [hk0,cF,wx,wa,wm,Af (x:=s.seed_*48271+x) (by omega) (by omega),Af (x:=s.seed_*48271+x+1) (by omega) (by omega)]
  have m1:=Em (a:=s.seed_*48271+x+1) (b:=2147483647) (by omega) (by omega)
  refine Ba.bif (fun _=>Ba.some ⟨⟨rfl,⟨?_,?_⟩,h3⟩,?_⟩) fun _=>Ba.some ⟨⟨rfl,⟨?_,?_⟩,m1⟩,?_⟩
  ·show 0<=s.at_+1;omega
  ·show s.at_+1<=_;omega
  ·exact⟨(Em hx.1 (by omega)).1,.inl (Em hx.1 (by omega)).2⟩
  ·show 0<=s.at_+1;omega
  ·show s.at_+1<=_;omega
  ·exact⟨(Em m1.1 (by omega)).1,.inl (Em m1.1 (by omega)).2⟩
 ·have wm:IntKind.wrap .i64 (s.seed_*48271)=s.seed_*48271:=Af (by omega) (by omega)
  have m1:=Em (a:=s.seed_*48271+11) (b:=2147483647) (by omega) (by omega)
  simp only [hk0,cF,wm,Af (x:=s.seed_*48271+11) (by omega) (by omega)]
  generalize Int.tmod (s.seed_*48271+11) 2147483647=q at*
  have d0:0<=Int.tdiv q 7:=Int.tdiv_nonneg m1.1 (by omega)
  have d1:Int.tdiv q 7<=q:=Int.tdiv_le_self _ m1.1
  rw [Af (x:=Int.tdiv q 7) (by omega) (by omega)]
  exact Ba.some ⟨⟨h1,h2,m1⟩,(Em d0 (by omega)).1,.inl (Em d0 (by omega)).2⟩
theorem Db.mk2{c d:List Int}{s:AA}(h:Db c s)(e:d=c):Db c (AA.mk d s.at_ s.seed_):=⟨e,h.at0,h.sd⟩
theorem Fr{n:Nat}{c:List Int}(hc:IL c)(hn:1048577<=n):Ba (fun r=>Db c r) (Qv n c):=by
 have hl:=hc.1
 rw [Qv]
 refine RN (L:=fun m i (p:Int×Int)=>GX c (fun i12 i14 i15=>(some ((AA.mk c i14 i15)))) m i p.1 p.2) (min c.length 64) (fun _ p=>p.1=0∧0<=p.2∧p.2<2147483647) _ ?_ ?_ n 0 (0,12345) (by omega) (by omega) ⟨rfl,by omega,by omega⟩
 ·intro m i ⟨a,sd⟩ hi ⟨h1,h2⟩ ih
  dsimp only at h1 h2 ⊢
  have hi1:i<c.length:=by omega
  have hx:=hc.2 _ (List.getElem_mem hi1)
  simp only [GX.eq_2,CV hi1,CV (show i<64 by omega),Bool.and_self,cT,Ab hi1,Ar,show((64:Int))=((64:Nat):Int)from rfl,wT i]
  generalize c[i]=x at*
  rw [Af (x:=sd*31) (by omega) (by omega),Af (x:=x) (by omega) (by omega),Af (x:=sd*31+x) (by omega) (by omega)]
  have m1:=Em (a:=sd*31+x) (b:=2147483647) (by omega) (by omega)
  exact ih (a,_) ⟨h1,m1⟩
 ·intro m ⟨a,sd⟩ ⟨h1,h2⟩
  dsimp only at h1 h2 ⊢
  have:(decide (((min c.length 64:Nat):Int)<(c.length:Int))&&decide (((min c.length 64:Nat):Int)<64))=false:=by
   rw [Bool.and_eq_false_iff,decide_eq_false_iff_not,decide_eq_false_iff_not];omega
  simp only [GX.eq_2,this,cF]
  exact Ba.some ⟨rfl,⟨by subst h1;exact Int.le_refl _,by subst h1;exact Int.natCast_nonneg _⟩,h2⟩
theorem IL.of{code:List Int}(hR:code.length<=9223372036854775807∧∀x∈code,Vr .u8 x)(h:¬(code.length:Int)>4096):IL code:=⟨by omega,fun x hx=>hR.2 x hx⟩
def gd(t:List Int)(j:Nat):Int:=t.getD j 0
theorem IV{t:List Int}{j:Nat}{v:Int}(h:t[j]? =some v):gd t j=v:=by simp [gd,h]
theorem VL{t:List Int}{j:Nat}(h:j<t.length):t[j]? =some (gd t j):=by simp [gd,h]
theorem Jf{t:List Int}{i j:Nat}{v:Int}(h:i<t.length):gd (t.set i v) j=if i=j then v else gd t j:=by
 unfold gd
 rw [List.getD_eq_getElem?_getD,List.getD_eq_getElem?_getD,List.getElem?_set]
 by_cases e:i=j
 ·subst e;simp [h]
 ·simp [e]
theorem OY{t:List Int}{i:Int}(h0:0<=i)(h1:i<t.length):AO t i=some (gd t i.toNat):=by
 obtain⟨x,hx,h⟩:=Dn h0 h1
 rw [hx,IV h]
def gb(t:List Bool)(j:Nat):Bool:=t.getD j false
theorem Dx{t:List Bool}{i j:Nat}{v:Bool}(h:i<t.length):gb (t.set i v) j=if i=j then v else gb t j:=by
 unfold gb
 rw [List.getD_eq_getElem?_getD,List.getD_eq_getElem?_getD,List.getElem?_set]
 by_cases e:i=j
 ·subst e;simp [h]
 ·simp [e]
theorem OH{t u:List Bool}(h:t.length=u.length)(e:∀j,j<t.length->gb t j=gb u j):t=u:=by
 apply List.ext_getElem?
 intro j
 by_cases hj:j<t.length
 ·have:=e j hj
  simp only [gb,List.getD_eq_getElem?_getD,List.getElem?_eq_getElem hj,List.getElem?_eq_getElem (h▸hj),Option.getD_some]at this
  rw [List.getElem?_eq_getElem hj,List.getElem?_eq_getElem (h▸hj),this]
 ·rw [List.getElem?_eq_none (by omega),List.getElem?_eq_none (by omega)]
theorem SC{n j:Nat}:gb (List.replicate n false) j=false:=by
 simp only [gb,List.getD_eq_getElem?_getD,List.getElem?_replicate];split<;>rfl
theorem Ki{n j:Nat}:gd (List.replicate n 0) j=0:=by
 simp only [gd,List.getD_eq_getElem?_getD,List.getElem?_replicate];split<;>rfl
def IB(b:UInt8):Bool:=decide ((b.toNat:Int)>=97)&&decide ((b.toNat:Int)<=122)
def MM(b:UInt8):Bool:=decide ((b.toNat:Int)>=48)&&decide ((b.toNat:Int)<=57)
def DH(s:ByteArray):Bool:=(decide ((s.size:Int)>=1)&&decide ((s.size:Int)<=8))&&(s.data.toList.all fun b=>IB b||MM b)&&(s.data.toList.take 1).all IB
theorem Js(s:ByteArray):s.size=s.data.toList.length:=by rw [Array.length_toList];rfl
theorem PH{s:ByteArray}{i:Nat}(h:i<s.data.toList.length):Lx s (i:Int)=some ((s.data.toList[i].toNat:Nat):Int):=by
 unfold Lx
 rw [if_pos (by omega),Int.toNat_natCast]
 have:s[i]? =some s.data.toList[i]:=by
  have hs:i<s.size:=by rw [Js];exact h
  rw [show s[i]? =some s[i]from getElem?_pos s i hs]
  rfl
 rw [this];rfl
theorem Qt(p q:UInt8->Bool)(h:(List.range 256).all (fun i=>p (UInt8.ofNat i)==q (UInt8.ofNat i))=true)(b:UInt8):p b=q b:=by
 have:=List.all_eq_true.1 h b.toNat (List.mem_range.2 b.toNat_lt)
 rw [UInt8.ofNat_toNat]at this
 exact eq_of_beq this
def lettersL:List UInt8:=[97,98,99,100,101,102,103,104,105,106,107,108,109,110,111,112,113,114,115,116,117,118,119,120,121,122]
def nameL:List UInt8:=[97,98,99,100,101,102,103,104,105,106,107,108,109,110,111,112,113,114,115,116,117,118,119,120,121,122,48,49,50,51,52,53,54,55,56,57]
theorem QM(b:UInt8):nameL.contains b=(IB b||MM b):=Qt (fun b=>nameL.contains b) (fun b=>IB b||MM b) (by decide+kernel) b
theorem NU(b:UInt8):lettersL.contains b=IB b:=Qt (fun b=>lettersL.contains b) (fun b=>IB b) (by decide+kernel) b
theorem Jj{p:UInt8->Bool}:∀{l:List UInt8} (h:0<l.length),(l.take 1).all p=p l[0]
 |[],h=>by simp at h
 |a::r,_=>by simp
theorem EJ{p:UInt8->Bool}:∀(l:List UInt8),(l.dropWhile p=[])↔l.all p=true
 |[]=>by simp
 |a::l=>by
  rw [List.dropWhile_cons,List.all_cons]
  cases h:p a with
  |true=>simpa using EJ l
  |false=>simp
theorem HP{p:UInt8->Bool}:∀{l:List UInt8} {a:UInt8} {r:List UInt8},l.dropWhile p=a::r->p a=false
 |b::l,a,r,h=>by
  rw [List.dropWhile_cons]at h
  split at h
  ·exact HP h
  ·next q=>simp only [List.cons.injEq]at h;rw [←h.1];simpa using q
theorem QT(l cs:List UInt8):(Lib.trimS l cs==[])=l.all (cs.contains ·):=by
 rw [Bool.eq_iff_iff,beq_iff_eq]
 unfold Lib.trimS Lib.trimLeftS Lib.trimRightS
 rw [EJ,List.all_reverse]
 rw [show l.all (cs.contains ·)=l.reverse.all (cs.contains ·) by rw [List.all_reverse]]
 constructor
 ·intro h
  cases hd:l.reverse.dropWhile (cs.contains ·)with
  |nil=>exact(EJ _).1 hd
  |cons a r=>
   have h1:=HP hd
   rw [hd,List.all_cons,h1]at h
   cases h
 ·intro h
  rw [(EJ _).2 h];rfl
theorem JH:∀(l:List UInt8) (c:UInt8),decide (Lib.indexByte l c>=0)=l.contains c∧Lib.indexByte l c>= -1
 |[],c=>by simp [Lib.indexByte]
 |b::l,c=>by
  obtain⟨h1,h2⟩:=JH l c
  rw [Lib.indexByte,List.contains_cons]
  by_cases e:b=c
  ·subst e;simp
  ·have e1:(b==c)=false:=beq_eq_false_iff_ne.2 e
   have e2:(c==b)=false:=beq_eq_false_iff_ne.2 fun q=>e q.symm
   rw [e1,e2,Bool.false_or,←h1]
   by_cases h:Lib.indexByte l c= -1
   ·rw [h];simp
   ·have:(Lib.indexByte l c== -1)=false:=beq_eq_false_iff_ne.2 h
    rw [this]
    have hge:Lib.indexByte l c>=0:=by omega
    rw [decide_eq_true hge]
    simp only [Bool.false_eq_true,if_false]
    exact⟨decide_eq_true (by omega),by omega⟩
theorem cD{n:Nat}{s:ByteArray}(hs:s.size<=1048576)(hn:1048577<=n):Pg n s=some (DH s):=by
 rw [Pg,It,Ar]
 unfold DH
 cases hw:(decide ((s.size:Int)>=1)&&decide ((s.size:Int)<=8))with
 |false=>simp
 |true=>
  have hsz:1<=s.size:=by simp only [Bool.and_eq_true,decide_eq_true_eq]at hw;omega
  have ht:QD n s ((ByteArray.mk #[97,98,99,100,101,102,103,104,105,106,107,108,109,110,111,112,113,114,115,116,117,118,119,120,121,122,48,49,50,51,52,53,54,55,56,57]))=some ⟨(Lib.trimS s.data.toList nameL).toArray⟩:=by
   unfold QD
   rw [if_pos ⟨by omega,by decide,by decide⟩];rfl
  simp only [cT,ht,Ar,Bool.true_and]
  have hb:((⟨(Lib.trimS s.data.toList nameL).toArray⟩:ByteArray).toList==((ByteArray.mk #[])).toList)=(s.data.toList.all fun b=>IB b||MM b):=by
   rw [Lib.toList_data,Lib.toList_data]
   show((Lib.trimS s.data.toList nameL)==[])=_
   rw [QT]
   congr 1
   funext b;exact QM b
  rw [hb]
  cases(s.data.toList.all fun b=>IB b||MM b)with
  |false=>simp
  |true=>
   rw [Js]at hsz
   have hg:=PH (s:=s) (i:=0) (by omega)
   simp only [cT,show((0:Int))=((0:Nat):Int)from rfl,hg,Ar,Vn,Bool.true_and]
   have h1:=(JH lettersL (s.data.toList[0])).1
   rw [NU]at h1
   have e1:(((s.data.toList[0].toNat:Nat):Int).toNat.toUInt8)=s.data.toList[0]:=by rw [Int.toNat_natCast];exact UInt8.ofNat_toNat
   rw [e1]
   have e2:(s.data.toList.take 1).all IB=IB s.data.toList[0]:=Jj (by omega)
   rw [e2,←h1];rfl
theorem ZE{n:Nat}{s:ByteArray}(hs:s.size<=1048576)(hn:1048577<=n):Tg n s=some (DH s):=by
 rw [Tg]
 have hl:=Js s
 refine loop (L:=fun m i (_:Unit)=>EZ s _ m i) s.data.toList.length (fun i _=>DH s=((decide ((s.size:Int)>=1)&&decide ((s.size:Int)<=8))&&((s.data.toList.drop i).all fun b=>IB b||MM b)&&((s.data.toList.take 1).drop i).all IB)) (fun r=>r=some (DH s)) ?_ ?_ n 0 () (by omega) (by omega) (by simp [DH])
 ·intro m i _ hi hI
  have g:=PH hi
  have hd:decide ((i:Int)<(s.size:Int))=true:=decide_eq_true (by omega)
  have key:EZ s (fun i3=>(some (((decide ((s.size:Int)>=1))&&(decide ((s.size:Int)<=8)))))) (m+1) (i:Int)=bif (!IB s.data.toList[i]&& !(MM s.data.toList[i]&&decide (0<i)))then some false else EZ s (fun i3=>(some (((decide ((s.size:Int)>=1))&&(decide ((s.size:Int)<=8)))))) m ((i+1:Nat):Int):=by
   have e0:decide ((i:Int)>0)=decide (0<i):=by by_cases h:0<i<;>simp [h]<;>omega
   simp only [EZ.eq_2,hd,cT,g,Ar,CS,wT i,e0]
   rfl
  by_cases hc:(!IB s.data.toList[i]&& !(MM s.data.toList[i]&&decide (0<i)))=true
  ·refine .inr ?_
   show EZ s _ (m+1) (i:Int)=_
   rw [key,hc,cT]
   have:DH s=false:=by
    rw [hI,List.drop_eq_getElem_cons hi,List.all_cons]
    simp only [Bool.and_eq_true,Bool.not_eq_true',Bool.and_eq_false_iff,decide_eq_false_iff_not]at hc
    obtain⟨h1,h2⟩:=hc
    rw [h1]
    rcases h2 with h2|h2
    ·rw [h2];simp
    ·obtain rfl:i=0:=by omega
     rw [List.drop_zero,Jj hi,h1];simp
   rw [this]
  ·refine .inl ⟨(),?_,?_⟩
   ·rw [hI,List.drop_eq_getElem_cons hi,List.all_cons]
    have hc:=Bool.eq_false_iff.2 hc
    simp only [Bool.and_eq_false_iff,Bool.not_eq_false',Bool.and_eq_true,decide_eq_true_eq]at hc
    by_cases h0:i=0
    ·subst h0
     have h1:IB s.data.toList[0]=true:=by
      rcases hc with h|h
      ·exact h
      ·omega
     have e2:(s.data.toList.take 1).drop (0+1)=[]:=List.drop_eq_nil_of_le (by simp;omega)
     rw [List.drop_zero,Jj hi,e2,h1];simp
    ·have e1:(s.data.toList.take 1).drop i=[]:=List.drop_eq_nil_of_le (by simp;omega)
     have e2:(s.data.toList.take 1).drop (i+1)=[]:=List.drop_eq_nil_of_le (by simp;omega)
     rw [e1,e2]
     have:(IB s.data.toList[i]||MM s.data.toList[i])=true:=by
      rcases hc with h|h
      ·rw [h];rfl
      ·rw [h.1];simp
     rw [this];simp
   ·show EZ s _ (m+1) (i:Int)=EZ s _ m ((i+1:Nat):Int)
    rw [key,Bool.eq_false_iff.2 hc,cF]
 ·intro m _ hI
  have hd:decide (((s.data.toList.length:Nat):Int)<(s.size:Int))=false:=decide_eq_false (by omega)
  simp only [EZ.eq_2,hd,cF]
  rw [hI,List.drop_length,List.drop_eq_nil_of_le (by simp;omega)]
  simp
def AV(P:Prop)(r:Option Bool):Prop:=∃b:Bool,r=some b∧(b=true↔P)
theorem AV.no{P:Prop}(h:¬P):AV P (some false):=⟨false,rfl,by simp [h]⟩
theorem AV.yes{P:Prop}(h:P):AV P (some true):=⟨true,rfl,by simp [h]⟩
theorem eC{n:Nat}{xs:List ByteArray}{x:ByteArray}(h:xs.length<=1048576)(hn:1048577<=n):QN n xs x=some (xs.any fun y=>x.toList==y.toList):=by
 rw [QN,Sg]
 obtain⟨r,e1,e2⟩:=HR (xs:=xs) (L:=fun m i=>FS xs x (fun i5=>(some (-1))) m i) (fun y=>x.toList==y.toList) (fun m i hi=>by
  simp only [FS.eq_2,CV hi,cT,Ab hi,Ar,wT i]) (fun m=>by
  simp only [FS.eq_2,Cc,cF]) n (by omega)
 have e1:FS xs x (fun i5=>(some (-1))) n 0=some r:=e1
 rw [e1,Ar,e2]
theorem AN{n:Nat}{xs:List ByteArray}(h:xs.length<=1048576)(hs:∀x∈xs,x.size<=1048576)(hn:1048577<=n):AV (∀k (h:k<xs.length),DH xs[k]=true∧∀i (hi:i<k),(xs[i].toList==xs[k].toList)=false) (NN n xs):=by
 rw [NN]
 refine loop (L:=fun m i (_:Unit)=>IW n xs _ m i) xs.length (fun i _=>∀k (h:k<xs.length),k<i->DH xs[k]=true∧∀i (hi:i<k),(xs[i].toList==xs[k].toList)=false) _ ?_ ?_ n 0 () (by omega) (by omega) (fun k h hk=>by omega)
 ·intro m i _ hi hI
  have hsub:HI xs 0 (i:Int)=some (xs.take i):=by
   unfold HI
   rw [if_pos ⟨by omega,by omega,by omega⟩];simp
  have hct:=eC (n:=n) (xs:=xs.take i) (x:=xs[i]) (by simp;omega) hn
  simp only [IW.eq_2,CV hi,cT,Ab hi,Ar,cD (hs _ (List.getElem_mem hi)) hn,hsub,hct,DU,wT i]
  cases hb:(!DH xs[i]||(xs.take i).any fun y=>xs[i].toList==y.toList)with
  |true=>
   refine .inr (AV.no fun hv=>?_)
   obtain⟨h1,h2⟩:=hv i hi
   rw [h1,Bool.not_true,Bool.false_or,List.any_eq_true]at hb
   obtain⟨y,hy,he⟩:=hb
   obtain⟨j,hj,rfl⟩:=List.mem_iff_getElem.1 hy
   rw [List.length_take]at hj
   rw [List.getElem_take]at he
   have:=h2 j (by omega)
   rw [beq_eq_false_iff_ne]at this
   exact this (eq_of_beq he).symm
  |false=>
   simp only [Bool.or_eq_false_iff,Bool.not_eq_false']at hb
   refine .inl ⟨(),fun k h hk=>?_,rfl⟩
   by_cases e:k=i
   ·subst e
    refine⟨hb.1,fun j hj=>?_⟩
    rw [beq_eq_false_iff_ne]
    intro he
    have:=List.any_eq_false.1 hb.2 xs[j] (List.mem_iff_getElem.2 ⟨j,by rw [List.length_take];omega,by rw [List.getElem_take]⟩)
    exact this (by rw [he];simp)
   ·exact hI k h (by omega)
 ·intro m _ hI
  simp only [IW.eq_2,Cc,cF]
  exact AV.yes fun k h=>hI k h h
theorem AW{n:Nat}{ks:List Int}{lo hi:Int}(h:ks.length<=1048576)(hn:1048577<=n):Ir n ks lo hi=some (ks.all fun k=>decide (k>=lo)&&decide (k<=hi)):=by
 rw [Ir,Rb,QZ]
 obtain⟨r,e1,e2⟩:=HR (xs:=ks) (L:=fun m i=>Ds n ks lo hi (fun i7=>(some (-1))) m i) (fun k=>!(decide (k>=lo)&&decide (k<=hi))) (fun m i hi=>by
  simp only [Ds.eq_2,CV hi,cT,Ab hi,Ar,Rs,It,wT i]) (fun m=>by
  simp only [Ds.eq_2,Cc,cF]) n (by omega)
 have e1:Ds n ks lo hi (fun i7=>(some (-1))) n 0=some r:=e1
 rw [e1,Ar,Ar,e2]
 congr 1
 rw [List.not_any_eq_all_not]
 congr 1
 funext k;rw [Bool.not_not]
theorem Nb{n0:Nat}:∀(j n:Nat) (k:Int),0<=k->k<(10:Int)^(j+1)->k<=1000000000000000000->j<n->j<=100->Ba (fun t=>t.size<=j+1) (KC n k)
 |j,0,k,_,_,_,h,_=>by omega
 |j,n+1,k,k0,k1,k2,h,hj=>by
  rw [Wz,decide_eq_false (show¬k<0 by omega),cF]
  by_cases hk:k<10
  ·rw [decide_eq_true hk,cT]
   exact Ba.some (by rw [Jr];simp)
  ·rw [decide_eq_false hk,cF]
   match j,k1 with
   |0,k1=>simp at k1;omega
   |j+1,k1=>
    have e:IntKind.wrap .i64 (Int.tdiv k 10)=k/10:=by rw [Int.tdiv_eq_ediv_of_nonneg k0];exact Af (by omega) (by omega)
    rw [e]
    rw [Int.pow_succ]at k1
    refine Ba.bind (Nb (n0:=n0) j n (k/10) (by omega) (by omega) (by omega) (by omega) (by omega)) fun r _ hr=>?_
    rw [KH (by rw [Jr];simp;omega)]
    exact Ba.some (by rw [ByteArray.size_append,Jr];simp;omega)
theorem cY{n:Nat}{k:Nat}(hk:k<=1000)(hn:1048577<=n):Ba (fun t=>t.size<=4) (KC n (k:Int)):=
 (Nb (n0:=0) 3 n k (by omega) (by show _<(10000:Int);omega) (by omega) (by omega) (by omega))
theorem AV.iff{P Q:Prop}{o:Option Bool}(h:AV P o)(e:P↔Q):AV Q o:=by
 obtain⟨b,rfl,h⟩:=h;exact⟨b,rfl,h.trans e⟩
theorem AV.val{P:Prop}{b:Bool}(h:b=true↔P):AV P (some b):=⟨b,rfl,h⟩
theorem AV.bind{P R:Prop}{o:Option Bool}{f:Bool->Option Bool}(h:AV P o)(h1:P->AV R (f true))(h0:¬P->AV R (f false)):AV R (Option.bind o f):=by
 obtain⟨b,rfl,h⟩:=h
 cases b with
 |true=>exact h1 (h.1 rfl)
 |false=>exact h0 fun p=>by have:=h.2 p;cases this
theorem AV.bif{R:Prop}{c:Bool}{x y:Option Bool}(h1:c=true->AV R x)(h0:c=false->AV R y):AV R (bif c then x else y):=by
 cases c
 ·exact h0 rfl
 ·exact h1 rfl
theorem Dp{L:Nat->Int->Option Bool}{Q:Prop}(N s:Nat)(p:Nat->Prop)
 (hs:∀(m i:Nat),s<=i->i<N->(p i∧L (m+1) (i:Int)=L m ((i+1:Nat):Int))∨(¬p i∧L (m+1) (i:Int)=some false))
 (he:∀(m i:Nat),N<=i->i<=N+s->(∀j,s<=j->j<N->p j)->AV Q (L (m+1) (i:Int))):∀(m i:Nat),s<=i->i<=N+s->N-i<m->(∀j,s<=j->j<i->j<N->p j)->AV ((∀i,s<=i->i<N->p i)∧Q) (L m (i:Int))
 |0,i,_,_,hm,_=>by omega
 |m+1,i,hi,hi2,hm,hI=>by
  by_cases hlt:i<N
  ·rcases hs m i hi hlt with ⟨h1,h2⟩|⟨h1,h2⟩
   ·rw [h2]
    refine Dp N s p hs he m (i+1) (by omega) (by omega) (by omega) fun j h3 h4 h5=>?_
    by_cases e:j=i
    ·subst e;exact h1
    ·exact hI j h3 (by omega) h5
   ·rw [h2];exact AV.no fun h=>h1 (h.1 i hi hlt)
  ·have ha:∀j,s<=j->j<N->p j:=fun j h3 h4=>hI j h3 (by omega) h4
   exact(he m i (by omega) hi2 ha).iff ⟨fun q=>⟨ha,q⟩,fun q=>q.2⟩
theorem JQ{α:Type}{xs:List α}{L:Nat->Int->Option Int}{f:α->Option Bool}{P:α->Prop}(hf:∀x∈xs,AV (P x) (f x))(hs:∀(m i:Nat) (h:i<xs.length),L (m+1) (i:Int)=Option.bind (f xs[i]) fun r=>bif r then some (i:Int)else L m ((i+1:Nat):Int))
 (he:∀m:Nat,L (m+1) (xs.length:Int)=some (-1)) (m:Nat) (hm:xs.length<m):∃r,L m 0=some r∧(r>=0↔∃x∈xs,P x)∧(r= -1∨∃j:Nat,r=(j:Int)∧∃h:j<xs.length,P xs[j]∧∀i (hi:i<xs.length),i<j->¬P xs[i]):=by
 refine loop (L:=fun m i (_:Unit)=>L m i) xs.length (fun i _=>∀j (h:j<xs.length),j<i->¬P xs[j]) (fun o=>∃r,o=some r∧(r>=0↔∃x∈xs,P x)∧(r= -1∨∃j:Nat,r=(j:Int)∧∃h:j<xs.length,P xs[j]∧∀i (hi:i<xs.length),i<j->¬P xs[i])) ?_ ?_ m 0 () (by omega) (by omega) (fun j _ h=>by omega)
 ·intro m i _ hi hI
  obtain⟨b,e,hb⟩:=hf _ (List.getElem_mem hi)
  rw [hs m i hi,e,Ar]
  cases b with
  |true=>exact .inr ⟨(i:Int),rfl,⟨fun _=>⟨_,List.getElem_mem hi,hb.1 rfl⟩,fun _=>by omega⟩,.inr ⟨i,rfl,hi,hb.1 rfl,hI⟩⟩
  |false=>
   refine .inl ⟨(),fun j h hj=>?_,by trivial⟩
   by_cases ej:j=i
   ·subst ej;intro hp;have:=hb.2 hp;cases this
   ·exact hI j h (by omega)
 ·intro m _ hI
  refine⟨-1,he m,⟨fun h=>by omega,fun⟨x,hx,hp⟩=>?_⟩,.inl rfl⟩
  obtain⟨j,hj,rfl⟩:=List.getElem_of_mem hx
  exact absurd hp (hI j hj hj)
theorem gI{l:List Int}{i:Nat}(h:i<l.length):AO l (i:Int)=some (gd l i):=by rw [Fp];exact VL h
def Yj(l:List Int):Prop:=(1<=l.length∧l.length<=4)∧(∀i,i<l.length->0<=gd l i∧gd l i<=100000)∧∀i,i<l.length->0<i->gd l (i-1)<gd l i
def VT(t:BK):Prop:=(Yj t.Slews∧Yj t.Loads)∧t.Values.length=t.Slews.length*t.Loads.length∧∀i,i<t.Values.length-> -1000000<=gd t.Values i∧gd t.Values i<=1000000
theorem LI{l:List Int}{lo hi:Int}:(l.all fun k=>decide (k>=lo)&&decide (k<=hi))=true↔∀i,i<l.length->lo<=gd l i∧gd l i<=hi:=by
 rw [List.all_eq_true]
 constructor
 ·intro h i hi
  have:=h _ (List.getElem_mem hi)
  simp only [Bool.and_eq_true,decide_eq_true_eq]at this
  rw [IV (List.getElem?_eq_getElem hi)];omega
 ·intro h x hx
  obtain⟨j,hj,rfl⟩:=List.getElem_of_mem hx
  have:=h j hj
  rw [IV (List.getElem?_eq_getElem hj)]at this
  simp only [Bool.and_eq_true,decide_eq_true_eq];omega
theorem cQ{n:Nat}{l:List Int}(h:l.length<=1048576)(hn:1048577<=n):AV (Yj l) (Pr n l):=by
 rw [Pr]
 refine(Dp (L:=fun m i=>Gi n l _ m i) (Q:=1<=l.length∧l.length<=4) l.length 0 (fun i=>(0<=gd l i∧gd l i<=100000)∧(0<i->gd l (i-1)<gd l i)) ?_ ?_ n 0 (by omega) (by omega) (by omega) (fun j _ h=>by omega)).iff ?_
 ·intro m i _ hi
  have w1:0<i->IntKind.wrap .i64 ((i:Int)-1)=((i-1:Nat):Int):=fun h0=>by rw [Af (by omega) (by omega)];omega
  simp only [Gi.eq_2,CV hi,cT,gI hi,Ar,HF,wT i]
  by_cases c1:0<=gd l i∧gd l i<=100000
  ·have d1:(decide (gd l i>=0)&&decide (gd l i<=100000))=true:=by simp only [Bool.and_eq_true,decide_eq_true_eq];omega
   simp only [d1,Bool.not_true,cF]
   by_cases h0:0<i
   ·have d2:decide ((i:Int)>0)=true:=decide_eq_true (by omega)
    simp only [d2,cT,w1 h0,gI (show i-1<l.length by omega),Ar]
    by_cases c2:gd l (i-1)<gd l i
    ·have d3:decide (gd l (i-1)>=gd l i)=false:=decide_eq_false (by omega)
     simp only [d3,cF]
     exact .inl ⟨⟨c1,fun _=>c2⟩,by trivial⟩
    ·have d3:decide (gd l (i-1)>=gd l i)=true:=decide_eq_true (by omega)
     simp only [d3,cT]
     exact .inr ⟨fun h=>c2 (h.2 h0),by trivial⟩
   ·have d2:decide ((i:Int)>0)=false:=decide_eq_false (by omega)
    simp only [d2,cF,Ar]
    exact .inl ⟨⟨c1,fun h=>absurd h h0⟩,by trivial⟩
  ·have d1:(decide (gd l i>=0)&&decide (gd l i<=100000))=false:=by
    rw [Bool.and_eq_false_iff,decide_eq_false_iff_not,decide_eq_false_iff_not];omega
   simp only [d1,Bool.not_false,cT,Ar]
   exact .inr ⟨fun h=>c1 h.1,by trivial⟩
 ·intro m i h1 h2 _
  obtain rfl:i=l.length:=by omega
  simp only [Gi.eq_2,Cc,cF]
  exact AV.val (by simp only [Bool.and_eq_true,decide_eq_true_eq];omega)
 ·exact⟨fun⟨a,b⟩=>⟨b,fun i hi=>(a i (by omega) hi).1,fun i hi h0=>(a i (by omega) hi).2 h0⟩,fun⟨a,b,c⟩=>⟨fun i _ hi=>⟨b i hi,c i hi⟩,a⟩⟩
theorem cE{n:Nat}{l:List Int}(h:l.length<=1048576)(hn:1048577<=n):AV (∀i,i<l.length->0<i->gd l (i-1)<gd l i) (Pe n l):=by
 rw [Pe]
 refine(Dp (L:=fun m i=>GC l _ m i) (Q:=True) l.length 1 (fun i=>gd l (i-1)<gd l i) ?_ ?_ n 1 (by omega) (by omega) (by omega) (fun j _ h=>by omega)).iff ?_
 ·intro m i h0 hi
  have w1:IntKind.wrap .i64 ((i:Int)-1)=((i-1:Nat):Int):=by rw [Af (by omega) (by omega)];omega
  simp only [GC.eq_2,CV hi,cT,w1,gI hi,gI (show i-1<l.length by omega),Ar,wT i]
  by_cases c2:gd l (i-1)<gd l i
  ·have d3:decide (gd l (i-1)>=gd l i)=false:=decide_eq_false (by omega)
   simp only [d3,cF]
   exact .inl ⟨c2,by trivial⟩
  ·have d3:decide (gd l (i-1)>=gd l i)=true:=decide_eq_true (by omega)
   simp only [d3,cT]
   exact .inr ⟨c2,by trivial⟩
 ·intro m i h1 h2 _
  have:decide ((i:Int)<(l.length:Int))=false:=decide_eq_false (by omega)
  simp only [GC.eq_2,this,cF]
  exact AV.yes trivial
 ·exact⟨fun a i hi h0=>a.1 i h0 hi,fun a=>⟨fun i h0 hi=>a i hi h0,trivial⟩⟩
theorem cN{n:Nat}{l:List Int}(h:l.length<=1048576)(hn:1048577<=n):AV (Yj l) (PV n l):=by
 obtain⟨b,e,hb⟩:=cE (n:=n) h hn
 rw [PV]
 simp only [JU,It,AW (n:=n) h hn,e,Ar,CS]
 refine AV.val ?_
 rw [Bool.and_eq_true,Bool.and_eq_true,LI,hb]
 simp only [Bool.and_eq_true,decide_eq_true_eq]
 exact⟨fun⟨⟨a,b⟩,c⟩=>⟨by omega,b,c⟩,fun⟨a,b,c⟩=>⟨⟨by omega,b⟩,c⟩⟩
theorem WL{a b:Nat}(ha:a<=4)(hb:b<=4):IntKind.wrap .i64 ((a:Int)*(b:Int))=((a*b:Nat):Int):=by
 have:a*b<=4*4:=Nat.mul_le_mul ha hb
 have e:((a*b:Nat):Int)=(a:Int)*b:=by simp
 rw [←e,Af (by omega) (by omega)]
def Qu(t:BK):Prop:=t.Slews.length<=1048576∧t.Loads.length<=1048576∧t.Values.length<=1048576
theorem eU{n:Nat}{t:BK}(h:Qu t)(hn:1048577<=n):AV (VT t) (Qh n t):=by
 rw [Qh]
 refine AV.bind (cQ h.1 hn) (fun v1=>?_) fun v1=>?_
 ·simp only [Bool.not_true,cF]
  obtain⟨b,e,hb⟩:=cQ (n:=n) h.2.1 hn
  rw [e,Ar,Ar]
  cases b with
  |false=>
   simp only [Bool.not_false,Bool.true_or,cT]
   exact AV.no fun v=>by have:=hb.2 v.1.2;cases this
  |true=>
   have v2:=hb.1 rfl
   rw [WL v1.1.2 v2.1.2]
   simp only [Bool.not_true,Bool.false_or]
   refine AV.bif (fun c=>?_) fun c=>?_
   ·refine AV.no fun v=>?_
    rw [v.2.1]at c;simp at c
   ·have c:t.Values.length=t.Slews.length*t.Loads.length:=by
     rw [bne_eq_false_iff_eq]at c;omega
    have hv:=h.2.2
    refine(Dp (L:=fun m i=>Gk n t _ m i) (Q:=True) t.Values.length 0 (fun i=>-1000000<=gd t.Values i∧gd t.Values i<=1000000) ?_ ?_ n 0 (by omega) (by omega) (by omega) (fun j _ h=>by omega)).iff ?_
    ·intro m i _ hi
     simp only [Gk.eq_2,CV hi,cT,gI hi,Ar,HF,wT i]
     by_cases c1:-1000000<=gd t.Values i∧gd t.Values i<=1000000
     ·have d1:(decide (gd t.Values i>= -1000000)&&decide (gd t.Values i<=1000000))=true:=by simp only [Bool.and_eq_true,decide_eq_true_eq];omega
      simp only [d1,Bool.not_true,cF]
      exact .inl ⟨c1,by trivial⟩
     ·have d1:(decide (gd t.Values i>= -1000000)&&decide (gd t.Values i<=1000000))=false:=by
       rw [Bool.and_eq_false_iff,decide_eq_false_iff_not,decide_eq_false_iff_not];omega
      simp only [d1,Bool.not_false,cT]
      exact .inr ⟨c1,by trivial⟩
    ·intro m i h1 h2 _
     obtain rfl:i=t.Values.length:=by omega
     simp only [Gk.eq_2,Cc,cF]
     exact AV.yes trivial
    ·exact⟨fun a=>⟨⟨v1,v2⟩,c,fun i hi=>a.1 i (by omega) hi⟩,fun a=>⟨fun i _ hi=>a.2.2 i hi,trivial⟩⟩
 ·simp only [Bool.not_false,cT,Ar,Bool.true_or]
  exact AV.no fun v=>v1 v.1.1
theorem fD{n:Nat}{t:BK}(h:Qu t)(hn:1048577<=n):AV (VT t) (Rz n t):=by
 rw [Rz]
 refine AV.bind (cN h.1 hn) (fun v1=>?_) fun v1=>?_
 ·simp only [cT]
  obtain⟨b,e,hb⟩:=cN (n:=n) h.2.1 hn
  rw [e,Ar,Ar]
  cases b with
  |false=>
   simp only [Bool.false_and,cF,Ar]
   exact AV.no fun v=>by have:=hb.2 v.1.2;cases this
  |true=>
   have v2:=hb.1 rfl
   rw [WL v1.1.2 v2.1.2,AW (n:=n) h.2.2 hn]
   simp only [Bool.true_and,Ar,CS]
   refine AV.val ?_
   rw [Bool.and_eq_true,LI,beq_iff_eq]
   exact⟨fun⟨a,b⟩=>⟨⟨v1,v2⟩,by omega,b⟩,fun a=>⟨by have:=a.2.1;omega,a.2.2⟩⟩
 ·simp only [cF,Ar,Bool.false_and]
  exact AV.no fun v=>v1 v.1.1
theorem VT.pos{t:BK}(h:VT t):0<t.Values.length∧t.Values.length<=16:=by
 have a:=h.1.1.1
 have b:=h.1.2.1
 rw [h.2.1]
 exact⟨Nat.mul_pos (by omega) (by omega),(Nat.mul_le_mul a.2 b.2:_<=4*4)⟩
def VP(t:BK):Prop:=∀j,j<t.Values.length->0<=gd t.Values j
theorem fM{n:Nat}{t:BK}(h:Qu t)(hn:1048577<=n):(¬VT t∧∃s:FD,PN n t=some (s,1))∨(VT t∧∃s:FD,PN n t=some (s,0)∧(s.Early<0↔¬VP t)):=by
 obtain⟨b,e,hb⟩:=eU (n:=n) h hn
 rw [PN,e,Ar]
 cases b with
 |false=>exact .inl ⟨fun v=>(by have:=hb.2 v;cases this),_,rfl⟩
 |true=>
  have v:=hb.1 rfl
  have hp:=v.pos
  have g0:AO t.Values 0=some (gd t.Values 0):=gI (i:=0) (by omega)
  refine .inr ⟨v,?_⟩
  simp only [Bool.not_true,cF,g0,Ar]
  refine loop (L:=fun m i (p:Int×Int)=>GR t (fun i93 i97 i98=>(some ((FD.mk i97 i98),0))) m i p.1 p.2) t.Values.length (fun i p=>(p.1<0↔¬∀j,j<i->0<=gd t.Values j)) (fun o=>∃s:FD,o=some (s,0)∧(s.Early<0↔¬VP t)) ?_ ?_ n 1 (gd t.Values 0,gd t.Values 0) (by omega) (by omega) ?_
  ·intro m i ⟨a,c⟩ hi hI
   dsimp only at hI ⊢
   refine .inl ⟨(min a (gd t.Values i),max c (gd t.Values i)),?_,?_⟩
   ·dsimp only
    constructor
    ·intro hm hall
     by_cases ha:a<0
     ·exact hI.1 ha fun j hj=>hall j (by omega)
     ·have:=hall i (by omega);omega
    ·intro hna
     by_cases ha:a<0
     ·omega
     ·have hall:∀j,j<i->0<=gd t.Values j:=fun j hj=>by
       by_cases q:0<=gd t.Values j
       ·exact q
       ·exact absurd (hI.2 fun hh=>q (hh j hj)) ha
      by_cases q:0<=gd t.Values i
      ·exfalso;apply hna;intro j hj
       by_cases ej:j=i
       ·subst ej;exact q
       ·exact hall j (by omega)
      ·omega
   ·simp only [GR.eq_2,CV hi,cT,gI hi,Ar,wT i]
  ·intro m ⟨a,c⟩ hI
   dsimp only at hI ⊢
   simp only [GR.eq_2,Cc,cF]
   exact⟨_,rfl,hI⟩
  ·dsimp only
   constructor
   ·intro h0 hall;have:=hall 0 (by omega);omega
   ·intro h0
    by_cases q:gd t.Values 0<0
    ·exact q
    ·exfalso;apply h0;intro j hj;obtain rfl:j=0:=by omega
     omega
theorem Mn{n:Nat}{l:List Int}(h0:0<l.length)(h:l.length<=1048576)(hn:1048577<=n):∃r,Rq n l=some r∧(r<0↔¬∀j,j<l.length->0<=gd l j):=by
 have g0:AO l 0=some (gd l 0):=gI (i:=0) (by omega)
 have d0:decide ((l.length:Int)<1)=false:=decide_eq_false (by omega)
 rw [Rq,d0,cF,g0,Ar]
 refine loop (L:=fun m i (a:Int)=>Gp l (fun i15 i16=>(some i15)) m a i) l.length (fun i a=>(a<0↔¬∀j,j<i->0<=gd l j)) (fun o=>∃r,o=some r∧(r<0↔¬∀j,j<l.length->0<=gd l j)) ?_ ?_ n 1 (gd l 0) (by omega) (by omega) ?_
 ·intro m i a hi hI
  refine .inl ⟨min a (gd l i),?_,?_⟩
  ·constructor
   ·intro hm hall
    by_cases ha:a<0
    ·exact hI.1 ha fun j hj=>hall j (by omega)
    ·have:=hall i (by omega);omega
   ·intro hna
    by_cases ha:a<0
    ·omega
    ·have hall:∀j,j<i->0<=gd l j:=fun j hj=>by
      by_cases q:0<=gd l j
      ·exact q
      ·exact absurd (hI.2 fun hh=>q (hh j hj)) ha
     by_cases q:0<=gd l i
     ·exfalso;apply hna;intro j hj
      by_cases ej:j=i
      ·subst ej;exact q
      ·exact hall j (by omega)
     ·omega
  ·simp only [Gp.eq_2,CV hi,cT,gI hi,Ar,wT i]
 ·intro m a hI
  simp only [Gp.eq_2,Cc,cF]
  exact⟨_,rfl,hI⟩
 ·constructor
  ·intro h0 hall;have:=hall 0 (by omega);omega
  ·intro h0
   by_cases q:gd l 0<0
   ·exact q
   ·exfalso;apply h0;intro j hj;obtain rfl:j=0:=by omega
    omega
def Ow(l:List BK)(pos:Bool):Prop:=l.length=2∧∀t∈l,VT t∧(pos=true->VP t)
theorem bZ{n:Nat}{l:List BK}{pos:Bool}(h:∀t∈l,Qu t)(hn:1048577<=n):AV (Ow l pos) (Oq n l pos):=by
 rw [Oq]
 refine AV.bif (fun c=>?_) fun c=>?_
 ·refine AV.no fun v=>?_
  rw [v.1]at c;simp at c
 ·have c:l.length=2:=by rw [bne_eq_false_iff_eq]at c;omega
  refine(Dp (L:=fun m i=>Ie n l pos _ m i) (Q:=True) 2 0 (fun i=>∀t,l[i]? =some t->VT t∧(pos=true->VP t)) ?_ ?_ n 0 (by omega) (by omega) (by omega) (fun j _ h=>by omega)).iff ?_
  ·intro m i _ hi
   have hil:i<l.length:=by omega
   have g:=List.getElem?_eq_getElem hil
   have d1:decide ((i:Int)<2)=true:=decide_eq_true (by omega)
   simp only [Ie.eq_2,d1,cT,Ab hil,Ar,wT i,g]
   rcases fM (n:=n) (h _ (List.getElem_mem hil)) hn with ⟨v,s,e⟩|⟨v,s,e,hs⟩
   ·rw [e]
    exact .inr ⟨fun q=>v (q _ rfl).1,by trivial⟩
   ·rw [e]
    simp only [Ar,bne_self_eq_false,Bool.false_or]
    by_cases hp:pos=true
    ·subst hp
     by_cases q:s.Early<0
     ·rw [decide_eq_true q]
      exact .inr ⟨fun r=>(hs.1 q) ((r _ rfl).2 rfl),by trivial⟩
     ·rw [decide_eq_false q]
      refine .inl ⟨fun t ht=>?_,by trivial⟩
      obtain rfl:=Option.some.inj ht
      exact⟨v,fun _=>Classical.byContradiction fun r=>q (hs.2 r)⟩
    ·have hp:pos=false:=by simpa using hp
     subst hp
     refine .inl ⟨fun t ht=>?_,by trivial⟩
     obtain rfl:=Option.some.inj ht
     exact⟨v,fun h=>by cases h⟩
  ·intro m i h1 h2 _
   obtain rfl:i=2:=by omega
   simp only [Ie.eq_2,show decide (((2:Nat):Int)<2)=false from rfl,cF]
   exact AV.yes trivial
  ·constructor
   ·rintro ⟨a,_⟩
    refine⟨c,fun t ht=>?_⟩
    obtain⟨j,hj⟩:=List.getElem?_of_mem ht
    have hjl:j<l.length:=(List.getElem?_eq_some_iff.1 hj).1
    exact a j (by omega) (by omega) t hj
   ·rintro ⟨_,a⟩
    exact⟨fun i _ _ t ht=>a t (List.mem_of_getElem? ht),trivial⟩
theorem cA{n:Nat}{l:List BK}{pos:Bool}(h:∀t∈l,Qu t)(hl:l.length<=1048576)(hn:1048577<=n):AV (Ow l pos) (Nz n l pos):=by
 rw [Nz]
 have hf:∀t∈l,AV (¬(VT t∧(pos=true->VP t))) (PO n t pos):=by
  intro t ht
  have hm:=h t ht
  rw [PO]
  refine AV.bind (fD hm hn) (fun v=>?_) fun v=>?_
  ·simp only [Bool.not_true,cF]
   by_cases hp:pos=true
   ·subst hp
    obtain⟨r,e,hr⟩:=Mn (n:=n) v.pos.1 hm.2.2 hn
    simp only [cT,e,Ar]
    refine AV.val ?_
    rw [decide_eq_true_eq,hr]
    exact⟨fun a b=>a (b.2 trivial),fun a b=>a ⟨v,fun _=>b⟩⟩
   ·have hp:pos=false:=by simpa using hp
    subst hp
    exact AV.no fun a=>a ⟨v,fun h=>by cases h⟩
  ·simp only [Bool.not_false,cT,Ar]
   exact AV.yes fun a=>v a.1
 obtain⟨r,e,hr,_⟩:=JQ (xs:=l) (L:=fun m i=>FT n l pos (fun i6=>(some (-1))) m i) (f:=fun t=>PO n t pos) hf (fun m i hi=>by
  simp only [FT.eq_2,CV hi,cT,Ab hi,Ar,wT i]) (fun m=>by
  simp only [FT.eq_2,Cc,cF]) n (by omega)
 have e:FT n l pos (fun i6=>(some (-1))) n 0=some r:=e
 rw [Sc,TG,e]
 simp only [Ar]
 by_cases c:l.length=2
 ·have:((l.length:Int)==2)=true:=by simp;omega
  rw [this]
  simp only [cT,Ar]
  refine AV.val ?_
  rw [Bool.not_eq_true',decide_eq_false_iff_not,hr]
  exact⟨fun a=>⟨c,fun t ht=>Classical.byContradiction fun q=>a ⟨t,ht,q⟩⟩,fun a ⟨t,ht,q⟩=>q (a.2 t ht)⟩
 ·have:((l.length:Int)==2)=false:=by rw [beq_eq_false_iff_ne];omega
  rw [this]
  exact AV.no fun v=>c v.1
def NM(N i:Nat)(p:BM):Prop:=(0<=p.Cap∧p.Cap<=500)∧(i+1=N->p.Dir=2∧p.Cap=0∧p.Clock=false)∧(i+1<N->p.Dir=1)
structure IS(l:List BM):Prop where
 few:2<=l.length∧l.length<=5
 pin:∀i (h:i<l.length),NM l.length i l[i]
 nm:∀k (h:k<l.length),DH l[k].Name=true∧∀i (hi:i<k),(l[i].Name.toList==l[k].Name.toList)=false
def cnt(l:List BM):Nat:=l.countP (·.Clock)
def VS(l:List BM):Prop:=l.length<=1048576∧∀p∈l,p.Name.size<=1048576
theorem ND{l:List BM}{i:Nat}(h:i<l.length):cnt (l.take (i+1))=cnt (l.take i)+if l[i].Clock=true then 1 else 0:=by
 unfold cnt
 rw [List.take_succ_eq_append_getElem h,List.countP_append]
 congr 1
 by_cases e:l[i].Clock=true
 ·rw [if_pos e];simp [e]
 ·rw [if_neg e];simp [e]
theorem fB{n:Nat}{c:AY}(h:VS c.Pins)(hn:1048577<=n):∃r:Int×Bool,Xf n c=some r∧(r.2=true↔IS c.Pins)∧(r.2=true->r.1=cnt c.Pins):=by
 rw [Xf]
 by_cases hl:2<=c.Pins.length∧c.Pins.length<=5
 ·have d:(decide ((c.Pins.length:Int)<2)||decide ((c.Pins.length:Int)>5))=false:=by
   simp only [Bool.or_eq_false_iff,decide_eq_false_iff_not];omega
  rw [d,cF]
  have wl:IntKind.wrap .i64 ((c.Pins.length:Int)-1)=(c.Pins.length:Int)-1:=Af (by omega) (by omega)
  refine loop (L:=fun m i (q:Int)=>FZ n c (fun i23 i24=>(some (i23,true))) m q i) c.Pins.length (fun i q=>q=cnt (c.Pins.take i)∧∀k (h:k<c.Pins.length),k<i->NM c.Pins.length k c.Pins[k]∧DH c.Pins[k].Name=true∧∀j (hj:j<k),(c.Pins[j].Name.toList==c.Pins[k].Name.toList)=false)
   (fun o=>∃r:Int×Bool,o=some r∧(r.2=true↔IS c.Pins)∧(r.2=true->r.1=cnt c.Pins)) ?_ ?_ n 0 0 (by omega) (by omega) ⟨by simp [cnt],fun k _ hk=>by omega⟩
  ·intro m i q hi ⟨hq,hI⟩
   have no:∀o:Option (Int×Bool),o=some (0,false)->¬IS c.Pins->∃r:Int×Bool,o=some r∧(r.2=true↔IS c.Pins)∧(r.2=true->r.1=cnt c.Pins):=fun o e hv=>⟨_,e,by simp [hv],fun h=>by cases h⟩
   have wi:decide ((i:Int)<(c.Pins.length:Int))=true:=CV hi
   rw [FZ.eq_2]
   simp only [wi,cT,Ab hi,Ar]
   have inner:∀k2:Int->Option (Int×Bool),(∀j (hj:j<i),(c.Pins[j].Name.toList==c.Pins[i].Name.toList)=false)∧HA c i c.Pins[i] k2 n 0=k2 i∨(¬∀j (hj:j<i),(c.Pins[j].Name.toList==c.Pins[i].Name.toList)=false)∧HA c i c.Pins[i] k2 n 0=some (0,false):=by
    intro k2
    refine loop (L:=fun m j (_:Unit)=>HA c i c.Pins[i] k2 m j) i (fun b _=>∀j (hj:j<i),j<b->(c.Pins[j].Name.toList==c.Pins[i].Name.toList)=false) (fun o=>(∀j (hj:j<i),(c.Pins[j].Name.toList==c.Pins[i].Name.toList)=false)∧o=k2 i∨(¬∀j (hj:j<i),(c.Pins[j].Name.toList==c.Pins[i].Name.toList)=false)∧o=some (0,false)) ?_ ?_ n 0 () (by omega) (by omega) (fun j _ hj=>by omega)
    ·intro m j _ hj hJ
     simp only [HA.eq_2,CV hj,cT,Ab (show j<c.Pins.length by omega),Ar,wT j]
     cases e:(c.Pins[j].Name.toList==c.Pins[i].Name.toList)with
     |true=>exact .inr (.inr ⟨fun h=>(by rw [h j hj]at e;cases e),by trivial⟩)
     |false=>
      refine .inl ⟨(),fun a ha hb=>?_,by trivial⟩
      by_cases ea:a=j
      ·subst ea;exact e
      ·exact hJ a ha (by omega)
    ·intro m _ hJ
     simp only [HA.eq_2,Cc,cF]
     exact .inl ⟨fun j hj=>hJ j hj hj,by trivial⟩
   rcases inner _ with ⟨g1,g2⟩|⟨g1,g2⟩
   ·rw [g2]
    have hsz:=h.2 _ (List.getElem_mem hi)
    simp only [ZE hsz hn,Ar,HF,DU,wl]
    cases hnm:DH c.Pins[i].Name with
    |false=>
     simp only [Bool.not_false,Bool.true_or,cT]
     exact .inr (no _ rfl fun v=>by have:=(v.nm i hi).1;rw [hnm]at this;cases this)
    |true=>
     simp only [Bool.not_true,Bool.false_or]
     by_cases c1:0<=c.Pins[i].Cap∧c.Pins[i].Cap<=500
     ·have d1:(decide (c.Pins[i].Cap>=0)&&decide (c.Pins[i].Cap<=500))=true:=by simp only [Bool.and_eq_true,decide_eq_true_eq];omega
      simp only [d1,Bool.not_true,cF]
      have pI:NM c.Pins.length i c.Pins[i]↔((((i:Int)==(c.Pins.length:Int)-1)&&((((c.Pins[i].Dir !=2))||((c.Pins[i].Cap !=0)))||c.Pins[i].Clock))||((decide ((i:Int)<(c.Pins.length:Int)-1))&&((c.Pins[i].Dir !=1))))=false:=by
       unfold NM
       by_cases e1:i+1=c.Pins.length
       ·have t1:((i:Int)==(c.Pins.length:Int)-1)=true:=by rw [beq_iff_eq];omega
        have t2:decide ((i:Int)<(c.Pins.length:Int)-1)=false:=decide_eq_false (by omega)
        simp only [t1,t2,Bool.true_and,Bool.false_and,Bool.or_false,Bool.or_eq_false_iff,bne_eq_false_iff_eq]
        exact⟨fun⟨_,a,_⟩=>⟨⟨(a e1).1,(a e1).2.1⟩,(a e1).2.2⟩,fun⟨⟨a,b⟩,d⟩=>⟨c1,fun _=>⟨a,b,d⟩,fun h=>by omega⟩⟩
       ·have t1:((i:Int)==(c.Pins.length:Int)-1)=false:=by rw [beq_eq_false_iff_ne];omega
        have t2:decide ((i:Int)<(c.Pins.length:Int)-1)=true:=decide_eq_true (by omega)
        simp only [t1,t2,Bool.true_and,Bool.false_and,Bool.false_or,bne_eq_false_iff_eq]
        exact⟨fun⟨_,_,a⟩=>a (by omega),fun a=>⟨c1,fun h=>absurd h e1,fun _=>a⟩⟩
      cases hc:((((i:Int)==(c.Pins.length:Int)-1)&&((((c.Pins[i].Dir !=2))||((c.Pins[i].Cap !=0)))||c.Pins[i].Clock))||((decide ((i:Int)<(c.Pins.length:Int)-1))&&((c.Pins[i].Dir !=1))))with
      |true=>
       rw [hc]at pI
       simp only [cT]
       exact .inr (no _ rfl fun v=>by have:=pI.1 (v.pin i hi);cases this)
      |false=>
       have hp:=pI.2 hc
       simp only [cF]
       have hI':∀k (h:k<c.Pins.length),k<i+1->NM c.Pins.length k c.Pins[k]∧DH c.Pins[k].Name=true∧∀j (hj:j<k),(c.Pins[j].Name.toList==c.Pins[k].Name.toList)=false:=fun k hk hki=>by
        by_cases ek:k=i
        ·subst ek;exact⟨hp,hnm,g1⟩
        ·exact hI k hk (by omega)
       have ct:=ND hi
       have cl:cnt (c.Pins.take i)<=5:=Nat.le_trans List.countP_le_length (by simp;omega)
       cases hk:c.Pins[i].Clock with
       |true=>
        rw [hk,if_pos rfl]at ct
        refine .inl ⟨q+1,⟨by rw [ct,hq];simp,hI'⟩,?_⟩
        simp only [cT,wT i,Af (x:=q+1) (by omega) (by omega)]
       |false=>
        rw [hk]at ct
        refine .inl ⟨q,⟨by rw [ct,hq];simp,hI'⟩,?_⟩
        simp only [cF,wT i]
     ·have d1:(decide (c.Pins[i].Cap>=0)&&decide (c.Pins[i].Cap<=500))=false:=by
       rw [Bool.and_eq_false_iff,decide_eq_false_iff_not,decide_eq_false_iff_not];omega
      simp only [d1,Bool.not_false,cT]
      exact .inr (no _ rfl fun v=>c1 (v.pin i hi).1)
   ·rw [g2]
    exact .inr (no _ rfl fun v=>g1 (v.nm i hi).2)
  ·intro m q ⟨hq,hI⟩
   simp only [FZ.eq_2,Cc,cF]
   rw [List.take_length]at hq
   exact⟨_,rfl,⟨fun _=>⟨hl,fun i h=>(hI i h h).1,fun k h=>(hI k h h).2⟩,fun _=>rfl⟩,fun _=>hq⟩
 ·have d:(decide ((c.Pins.length:Int)<2)||decide ((c.Pins.length:Int)>5))=true:=by
   rw [Bool.or_eq_true,decide_eq_true_eq,decide_eq_true_eq];omega
  rw [d,cT]
  exact⟨_,rfl,⟨fun h=>(by cases h),fun v=>absurd v.few hl⟩,fun h=>(by cases h)⟩
theorem fT{n:Nat}{l:List BM}(h:VS l)(hn:1048577<=n):AV (IS l) (SO n l):=by
 have hl:=h.1
 rw [SO]
 have wl:0<l.length->IntKind.wrap .i64 ((l.length:Int)-1)=(l.length:Int)-1:=fun h0=>Af (by omega) (by omega)
 refine loop (L:=fun m i (q:List ByteArray)=>FV n l _ m q i) l.length (fun i q=>q=(l.take i).map (·.Name)∧∀k (h:k<l.length),k<i->NM l.length k l[k]) _ ?_ ?_ n 0 [] (by omega) (by omega) ⟨by simp,fun k _ hk=>by omega⟩
 ·intro m i q hi ⟨hq,hI⟩
  have hql:q.length<=1048576:=by rw [hq];simp;omega
  have ha:=BA (xs:=q) (ys:=[l[i].Name]) (b:=16) (by simp;omega) (by omega)
  have hq':q++[l[i].Name]=(l.take (i+1)).map (·.Name):=by rw [hq,List.take_succ_eq_append_getElem hi,List.map_append];rfl
  simp only [FV.eq_2,CV hi,cT,Ab hi,Ar,ha,wl (by omega),It,wT i]
  have stepI:NM l.length i l[i]->∀k (h:k<l.length),k<i+1->NM l.length k l[k]:=fun hp k hk hki=>by
   by_cases ek:k=i
   ·subst ek;exact hp
   ·exact hI k hk (by omega)
  by_cases e1:i+1=l.length
  ·have t1:((i:Int)==(l.length:Int)-1)=true:=by rw [beq_iff_eq];omega
   simp only [t1,cT]
   cases hc:((((l[i].Dir !=2))||((l[i].Cap !=0)))||l[i].Clock)with
   |true=>
    refine .inr (AV.no fun v=>?_)
    have:=(v.pin i hi).2.1 e1
    rw [this.1,this.2.1,this.2.2]at hc;cases hc
   |false=>
    simp only [Bool.or_eq_false_iff,bne_eq_false_iff_eq]at hc
    exact .inl ⟨_,⟨hq',stepI ⟨by omega,fun _=>⟨hc.1.1,hc.1.2,hc.2⟩,fun h=>by omega⟩⟩,by trivial⟩
  ·have t1:((i:Int)==(l.length:Int)-1)=false:=by rw [beq_eq_false_iff_ne];omega
   simp only [t1,cF,DU,Ar]
   by_cases c1:l[i].Dir=1∧0<=l[i].Cap∧l[i].Cap<=500
   ·have d1:((l[i].Dir !=1)|| !(decide (l[i].Cap>=0)&&decide (l[i].Cap<=500)))=false:=by
     simp only [Bool.or_eq_false_iff,bne_eq_false_iff_eq,Bool.not_eq_false',Bool.and_eq_true,decide_eq_true_eq];omega
    simp only [d1,cF]
    exact .inl ⟨_,⟨hq',stepI ⟨by omega,fun h=>absurd h e1,fun _=>c1.1⟩⟩,by trivial⟩
   ·have d1:((l[i].Dir !=1)|| !(decide (l[i].Cap>=0)&&decide (l[i].Cap<=500)))=true:=by
     simp only [Bool.or_eq_true,bne_iff_ne,Bool.not_eq_true',Bool.and_eq_false_iff,decide_eq_false_iff_not];omega
    simp only [d1,cT]
    exact .inr (AV.no fun v=>c1 ⟨(v.pin i hi).2.2 (by omega),(v.pin i hi).1⟩)
 ·intro m q ⟨hq,hI⟩
  rw [List.take_length]at hq
  obtain⟨b,e,hb⟩:=AN (n:=n) (xs:=q) (by rw [hq];simpa using hl) (by rw [hq];intro x hx;obtain⟨p,hp,rfl⟩:=List.mem_map.1 hx;exact h.2 p hp) hn
  simp only [FV.eq_2,Cc,cF,LY,It,e,Ar,CS]
  refine AV.val ?_
  rw [Bool.and_eq_true,hb,Bool.and_eq_true,decide_eq_true_eq,decide_eq_true_eq]
  subst hq
  simp only [List.length_map,List.getElem_map]
  exact⟨fun⟨a,b⟩=>⟨by omega,fun i hi=>hI i hi hi,b⟩,fun v=>⟨by have:=v.few;omega,v.nm⟩⟩
def HQ(l:List BM)(i:Int):Bool:=((l[i.toNat]?).map (·.Clock)).getD false
theorem Uk{l:List BM}{i:Int}(h0:0<=i)(h1:i<l.length):∃x,AO l i=some x∧x.Clock=HQ l i:=by
 obtain⟨x,e,h⟩:=Dn h0 h1
 exact⟨x,e,by simp [HQ,h]⟩
theorem Na{l:List BM}{j:Nat}(h:j<l.length):HQ l (j:Int)=l[j].Clock:=by simp [HQ,h]
theorem OV{l:List BM}(hc:cnt l<=1){i j:Nat}(hi:i<l.length)(hj:j<l.length)(h1:l[i].Clock=true)(h2:l[j].Clock=true):i=j:=by
 have key:∀i j:Nat,∀(hi:i<l.length) (hj:j<l.length),l[i].Clock=true->l[j].Clock=true->¬i<j:=by
  intro i j hi hj h1 h2 hlt
  have e:cnt l=cnt (l.take (i+1))+cnt (l.drop (i+1)):=by unfold cnt;rw [←List.countP_append,List.take_append_drop]
  have p1:0<cnt (l.take (i+1)):=List.countP_pos_iff.2 ⟨l[i],by rw [List.mem_take_iff_getElem];exact⟨i,by omega,rfl⟩,h1⟩
  have p2:0<cnt (l.drop (i+1)):=List.countP_pos_iff.2 ⟨l[j],by rw [List.mem_drop_iff_getElem];exact⟨j-(i+1),by omega,by congr 1;omega⟩,h2⟩
  omega
 have a:=key i j hi hj h1 h2
 have b:=key j i hj hi h2 h1
 omega
theorem Ck{n:Nat}{c:AY}(h:c.Pins.length<=1048576)(hn:1048577<=n):∃r,OJ n c=some r∧(r>=0↔∃x∈c.Pins,x.Clock=true)∧(r= -1∨∃j:Nat,r=(j:Int)∧∃h:j<c.Pins.length,c.Pins[j].Clock=true∧∀i (hi:i<c.Pins.length),i<j->¬c.Pins[i].Clock=true):=by
 obtain⟨r,e,hr⟩:=JQ (xs:=c.Pins) (L:=fun m i=>FL n c.Pins (fun i5=>(some (-1))) m i) (f:=fun p=>RZ n p) (P:=fun p=>p.Clock=true) (fun p _=>by rw [RZ];exact AV.val Iff.rfl) (fun m i hi=>by
  simp only [FL.eq_2,CV hi,cT,Ab hi,Ar,wT i]) (fun m=>by
  simp only [FL.eq_2,Cc,cF]) n (by omega)
 have e:FL n c.Pins (fun i5=>(some (-1))) n 0=some r:=e
 exact⟨r,by rw [OJ,SY,e];rfl,hr⟩
def XV(a:BL):Prop:=(a.Delay.length<=1048576∧∀t∈a.Delay,Qu t)∧(a.Slew.length<=1048576∧∀t∈a.Slew,Qu t)
structure PL(c:AY):Prop where
 name:c.Name.size<=1048576
 pins:VS c.Pins
 arcs:c.Arcs.length<=1048576∧∀a∈c.Arcs,XV a
 truth:c.Truth.length<=1048576
def KF(c:AY)(a:BL):Prop:=((0<=a.From∧a.From+2<=c.Pins.length)∧(0<=a.To∧a.To+1<=c.Pins.length))∧
 if a.Kind=1 then HQ c.Pins a.From=false∧a.To+1=c.Pins.length∧(1<=a.Sense∧a.Sense<=3)∧Ow a.Delay true∧Ow a.Slew true
 else if a.Kind=2∨a.Kind=3 then HQ c.Pins a.From=true∧a.To+1=c.Pins.length∧a.Sense=0∧Ow a.Delay true∧Ow a.Slew true
 else if a.Kind=4∨a.Kind=5 then HQ c.Pins a.From=true∧a.To+1<c.Pins.length∧HQ c.Pins a.To=false∧a.Sense=0∧Ow a.Delay false∧a.Slew.length=0
 else False
def Pf(c:AY)(a:BL)(r:Int):Prop:=
 if a.Kind=4∨a.Kind=5 then a.Sense=0∧a.Slew.length=0∧Ow a.Delay false∧a.From=r∧0<=a.From∧(0<=a.To∧a.To+2<=c.Pins.length)∧a.To≠a.From
 else Ow a.Delay true∧Ow a.Slew true∧a.To+1=c.Pins.length∧(0<=a.From∧a.From+2<=c.Pins.length)∧
  if a.Kind=1 then HQ c.Pins a.From=false∧1<=a.Sense∧a.Sense<=3 else if a.Kind=2∨a.Kind=3 then HQ c.Pins a.From=true∧a.Sense=0 else False
theorem Tw(k:Int):k=1∨k=2∨k=3∨k=4∨k=5∨(k≠1∧k≠2∧k≠3∧k≠4∧k≠5):=by omega
theorem Gx{x lo hi:Int}:(decide (x>=lo)&&decide (x<=hi))=true↔lo<=x∧x<=hi:=by simp only [Bool.and_eq_true,decide_eq_true_eq,ge_iff_le]
theorem bY{n:Nat}{c:AY}{a:BL}(hp:c.Pins.length<=5)(h2:2<=c.Pins.length)(h:XV a)(hn:1048577<=n):AV (KF c a) (RA n c a):=by
 have w1:IntKind.wrap .i64 ((c.Pins.length:Int)-1)=(c.Pins.length:Int)-1:=Af (by omega) (by omega)
 have w2:IntKind.wrap .i64 ((c.Pins.length:Int)-1-1)=(c.Pins.length:Int)-1-1:=Af (by omega) (by omega)
 obtain⟨t1,e1,h1⟩:=bZ (n:=n) (pos:=true) h.1.2 hn
 obtain⟨t2,e2,h2'⟩:=bZ (n:=n) (pos:=true) h.2.2 hn
 obtain⟨t3,e3,h3⟩:=bZ (n:=n) (pos:=false) h.1.2 hn
 rw [RA]
 simp only [HF,Ar,w1,w2,DU]
 by_cases c1:(0<=a.From∧a.From+2<=c.Pins.length)∧(0<=a.To∧a.To+1<=c.Pins.length)
 ·have d1:(decide (a.From>=0)&&decide (a.From<=(c.Pins.length:Int)-1-1))=true:=Gx.2 (by omega)
  have d2:(decide (a.To>=0)&&decide (a.To<=(c.Pins.length:Int)-1))=true:=Gx.2 (by omega)
  obtain⟨x,ex,hx⟩:=Uk (l:=c.Pins) c1.1.1 (by omega)
  obtain⟨y,ey,hy⟩:=Uk (l:=c.Pins) c1.2.1 (by omega)
  simp only [d1,d2,Bool.not_true,Bool.or_self,cF,ex,ey,Ar,hx,hy,e1,e2,e3,CS]
  have to1:(a.To==(c.Pins.length:Int)-1)=true↔a.To+1=c.Pins.length:=by rw [beq_iff_eq];omega
  have to2:decide (a.To<(c.Pins.length:Int)-1)=true↔a.To+1<c.Pins.length:=by rw [decide_eq_true_eq];omega
  have sl:((a.Slew.length:Int)==0)=true↔a.Slew.length=0:=by rw [beq_iff_eq];omega
  have nb:∀b:Bool,(!b)=true↔b=false:=by simp
  rcases Tw a.Kind with k|k|k|k|k|k
  ·have:KF c a↔_:=Iff.rfl
   simp only [k,show((1:Int)==1)=true from rfl,cT]
   refine AV.val ?_
   unfold KF
   simp only [k,if_true,Bool.and_eq_true,nb,to1,Gx,h1,h2']
   exact⟨fun⟨⟨⟨⟨p,q⟩,s⟩,u⟩,v⟩=>⟨c1,p,q,by simpa using s,u,v⟩,fun⟨_,p,q,s,u,v⟩=>⟨⟨⟨⟨p,q⟩,by simpa using s⟩,u⟩,v⟩⟩
  ·simp only [k,show((2:Int)==1)=false from rfl,show((2:Int)==2)=true from rfl,cT,cF]
   refine AV.val ?_
   unfold KF
   simp only [k,show¬((2:Int)=1) by omega,if_false,true_or,if_true,Bool.and_eq_true,beq_iff_eq,to1,h1,h2']
   exact⟨fun⟨⟨⟨⟨p,q⟩,s⟩,u⟩,v⟩=>⟨c1,p,by omega,s,u,v⟩,fun⟨_,p,q,s,u,v⟩=>⟨⟨⟨⟨p,by omega⟩,s⟩,u⟩,v⟩⟩
  ·simp only [k,show((3:Int)==1)=false from rfl,show((3:Int)==2)=false from rfl,show((3:Int)==3)=true from rfl,cT,cF]
   refine AV.val ?_
   unfold KF
   simp only [k,show¬((3:Int)=1) by omega,if_false,or_true,if_true,Bool.and_eq_true,beq_iff_eq,to1,h1,h2']
   exact⟨fun⟨⟨⟨⟨p,q⟩,s⟩,u⟩,v⟩=>⟨c1,p,by omega,s,u,v⟩,fun⟨_,p,q,s,u,v⟩=>⟨⟨⟨⟨p,by omega⟩,s⟩,u⟩,v⟩⟩
  ·simp only [k,show((4:Int)==1)=false from rfl,show((4:Int)==2)=false from rfl,show((4:Int)==3)=false from rfl,show((4:Int)==4)=true from rfl,cT,cF]
   refine AV.val ?_
   unfold KF
   simp only [k,show¬((4:Int)=1) by omega,show¬((4:Int)=2∨(4:Int)=3) by omega,if_false,true_or,if_true,Bool.and_eq_true,beq_iff_eq,nb,to2,sl,h3,true_and]
   exact⟨fun⟨⟨⟨⟨⟨p,q⟩,z⟩,s⟩,u⟩,v⟩=>⟨c1,p,q,z,s,u,by omega⟩,fun⟨_,p,q,z,s,u,v⟩=>⟨⟨⟨⟨⟨p,q⟩,z⟩,s⟩,u⟩,by omega⟩⟩
  ·simp only [k,show((5:Int)==1)=false from rfl,show((5:Int)==2)=false from rfl,show((5:Int)==3)=false from rfl,show((5:Int)==4)=false from rfl,show((5:Int)==5)=true from rfl,cT,cF]
   refine AV.val ?_
   unfold KF
   simp only [k,show¬((5:Int)=1) by omega,show¬((5:Int)=2∨(5:Int)=3) by omega,if_false,or_true,if_true,Bool.and_eq_true,beq_iff_eq,nb,to2,sl,h3,true_and]
   exact⟨fun⟨⟨⟨⟨⟨p,q⟩,z⟩,s⟩,u⟩,v⟩=>⟨c1,p,q,z,s,u,by omega⟩,fun⟨_,p,q,z,s,u,v⟩=>⟨⟨⟨⟨⟨p,q⟩,z⟩,s⟩,u⟩,by omega⟩⟩
  ·obtain⟨k1,k2,k3,k4,k5⟩:=k
   simp only [beq_eq_false_iff_ne.2 k1,beq_eq_false_iff_ne.2 k2,beq_eq_false_iff_ne.2 k3,beq_eq_false_iff_ne.2 k4,beq_eq_false_iff_ne.2 k5,cF]
   refine AV.no fun v=>?_
   have:=v.2
   rw [if_neg k1,if_neg (by omega),if_neg (by omega)]at this
   exact this
 ·have d1:(!(decide (a.From>=0)&&decide (a.From<=(c.Pins.length:Int)-1-1))|| !(decide (a.To>=0)&&decide (a.To<=(c.Pins.length:Int)-1)))=true:=by
   rw [Bool.or_eq_true,Bool.not_eq_true',Bool.not_eq_true',Bool.and_eq_false_iff,Bool.and_eq_false_iff,decide_eq_false_iff_not,decide_eq_false_iff_not,decide_eq_false_iff_not,decide_eq_false_iff_not]
   omega
  simp only [d1,cT]
  exact AV.no fun v=>c1 v.1
theorem bO{n:Nat}{c:AY}{a:BL}{r:Int}(hp:c.Pins.length<=5)(h2:2<=c.Pins.length)(h:XV a)(hr:OJ n c=some r)(hn:1048577<=n):AV (Pf c a r) (QB n c a):=by
 have w1:IntKind.wrap .i64 ((c.Pins.length:Int)-1)=(c.Pins.length:Int)-1:=Af (by omega) (by omega)
 have w2:IntKind.wrap .i64 ((c.Pins.length:Int)-1-1)=(c.Pins.length:Int)-1-1:=Af (by omega) (by omega)
 obtain⟨t1,e1,h1⟩:=cA (n:=n) (pos:=true) h.1.2 h.1.1 hn
 obtain⟨t2,e2,h2'⟩:=cA (n:=n) (pos:=true) h.2.2 h.2.1 hn
 obtain⟨t3,e3,h3⟩:=cA (n:=n) (pos:=false) h.1.2 h.1.1 hn
 rw [QB]
 simp only [Ss,MU,JP,LY,It,Ar,w1,w2,e1,e2,e3,hr,CS,DU]
 unfold Pf
 by_cases k:a.Kind=4∨a.Kind=5
 ·have kb:((a.Kind==4)||(a.Kind==5))=true:=by rw [Bool.or_eq_true,beq_iff_eq,beq_iff_eq];exact k
  simp only [kb,cT,if_pos k]
  refine AV.val ?_
  simp only [Bool.and_eq_true,beq_iff_eq,bne_iff_ne,decide_eq_true_eq,h3]
  exact⟨fun⟨⟨⟨⟨⟨⟨p,q⟩,s⟩,t⟩,u⟩,v⟩,x⟩=>⟨p,by omega,s,t,by omega,by omega,x⟩,fun⟨p,q,s,t,u,v,x⟩=>⟨⟨⟨⟨⟨⟨p,by omega⟩,s⟩,t⟩,by omega⟩,by omega⟩,x⟩⟩
 ·have kb:((a.Kind==4)||(a.Kind==5))=false:=by rw [Bool.or_eq_false_iff,beq_eq_false_iff_ne,beq_eq_false_iff_ne];omega
  simp only [kb,cF,if_neg k]
  by_cases g:(Ow a.Delay true∧Ow a.Slew true)∧a.To+1=c.Pins.length∧(0<=a.From∧a.From+2<=c.Pins.length)
  ·have gb:(((!t1|| !t2)||(a.To !=(c.Pins.length:Int)-1))|| !(decide (a.From>=0)&&decide (a.From<=(c.Pins.length:Int)-1-1)))=false:=by
    rw [h1.2 g.1.1,h2'.2 g.1.2]
    simp only [Bool.not_true,Bool.or_self,Bool.false_or,Bool.or_eq_false_iff,bne_eq_false_iff_eq,Bool.not_eq_false',Gx];omega
   obtain⟨x,ex,hx⟩:=Uk (l:=c.Pins) g.2.2.1 (by omega)
   simp only [gb,cF,ex,Ar,hx]
   have nb:∀b:Bool,(!b)=true↔b=false:=by simp
   have red:∀R:Prop,(Ow a.Delay true∧Ow a.Slew true∧a.To+1=c.Pins.length∧(0<=a.From∧a.From+2<=c.Pins.length)∧R)↔R:=fun R=>⟨fun q=>q.2.2.2.2,fun q=>⟨g.1.1,g.1.2,g.2.1,g.2.2,q⟩⟩
   rw [red]
   by_cases k1:a.Kind=1
   ·simp only [k1,show((1:Int)==1)=true from rfl,cT,if_true]
    refine AV.val ?_
    simp only [Bool.and_eq_true,nb,decide_eq_true_eq]
   ·simp only [beq_eq_false_iff_ne.2 k1,cF,if_neg k1]
    by_cases k2:a.Kind=2
    ·simp only [k2,show((2:Int)==2)=true from rfl,cT,true_or,if_true]
     refine AV.val ?_
     simp only [Bool.and_eq_true,beq_iff_eq]
    ·simp only [beq_eq_false_iff_ne.2 k2,cF]
     by_cases k3:a.Kind=3
     ·simp only [k3,show((3:Int)==3)=true from rfl,cT,or_true,if_true]
      refine AV.val ?_
      simp only [Bool.and_eq_true,beq_iff_eq]
     ·simp only [beq_eq_false_iff_ne.2 k3,cF]
      rw [if_neg (by omega)]
      exact AV.no fun v=>v
  ·have gb:(((!t1|| !t2)||(a.To !=(c.Pins.length:Int)-1))|| !(decide (a.From>=0)&&decide (a.From<=(c.Pins.length:Int)-1-1)))=true:=by
    cases hq:(((!t1|| !t2)||(a.To !=(c.Pins.length:Int)-1))|| !(decide (a.From>=0)&&decide (a.From<=(c.Pins.length:Int)-1-1)))with
    |true=>rfl
    |false=>
     exfalso;apply g
     simp only [Bool.or_eq_false_iff,Bool.not_eq_false',bne_eq_false_iff_eq,Gx]at hq
     exact⟨⟨h1.1 hq.1.1.1,h2'.1 hq.1.1.2⟩,by omega,by omega⟩
   simp only [gb,cT]
   exact AV.no fun v=>g ⟨⟨v.1,v.2.1⟩,v.2.2.1,v.2.2.2.1⟩
theorem Og{c:AY}{a:BL}{r:Int}(hv:IS c.Pins)(hc:cnt c.Pins<=1)(hr:r= -1∨∃j:Nat,r=(j:Int)∧∃h:j<c.Pins.length,c.Pins[j].Clock=true∧∀i (hi:i<c.Pins.length),i<j->¬c.Pins[i].Clock=true)(hr0:r>=0↔∃x∈c.Pins,x.Clock=true):KF c a↔Pf c a r:=by
 have few:=hv.few
 unfold KF Pf
 by_cases k:a.Kind=4∨a.Kind=5
 ·rw [if_neg (by omega),if_neg (by omega),if_pos k,if_pos k]
  constructor
  ·rintro ⟨⟨⟨a1,a2⟩,a3,a4⟩,b1,b2,b3,b4,b5,b6⟩
   obtain⟨f,hf⟩:=Int.eq_ofNat_of_zero_le a1
   have hf:a.From=(f:Int):=hf
   have hfl:f<c.Pins.length:=by omega
   have cf:c.Pins[f].Clock=true:=by rw [hf,Na hfl]at b1;exact b1
   have hge:r>=0:=hr0.2 ⟨_,List.getElem_mem hfl,cf⟩
   rcases hr with hr|⟨j,rfl,hj,hj1,_⟩
   ·omega
   ·have:=OV hc hfl hj cf hj1
    subst this
    refine⟨b4,b6,b5,hf,a1,by omega,fun e=>?_⟩
    rw [e,b1]at b3;cases b3
  ·rintro ⟨b1,b2,b3,b4,b5,⟨b6,b7⟩,b8⟩
   rcases hr with hr|⟨j,hj0,hj,hj1,_⟩
   ·omega
   ·have cf:HQ c.Pins a.From=true:=by rw [b4,hj0,Na hj];exact hj1
    have hjl:j+1<c.Pins.length:=by
     by_cases q:j+1<c.Pins.length
     ·exact q
     ·have:=(hv.pin j hj).2.1 (by omega)
      rw [this.2.2]at hj1;cases hj1
    obtain⟨t,ht⟩:=Int.eq_ofNat_of_zero_le b6
    have ht:a.To=(t:Int):=ht
    have htl:t<c.Pins.length:=by omega
    refine⟨⟨⟨by omega,by omega⟩,by omega,by omega⟩,cf,by omega,?_,b1,b3,b2⟩
    rw [ht,Na htl]
    cases hq:c.Pins[t].Clock with
    |false=>rfl
    |true=>have:=OV hc htl hj hq hj1;omega
 ·rw [if_neg k,if_neg k]
  by_cases k1:a.Kind=1
  ·rw [if_pos k1,if_pos k1]
   exact⟨fun⟨p,q,s,t,u,v⟩=>⟨u,v,s,p.1,q,t⟩,fun⟨u,v,s,p,q,t⟩=>⟨⟨p,by omega,by omega⟩,q,s,t,u,v⟩⟩
  ·rw [if_neg k1,if_neg k1]
   by_cases k2:a.Kind=2∨a.Kind=3
   ·rw [if_pos k2,if_pos k2]
    exact⟨fun⟨p,q,s,t,u,v⟩=>⟨u,v,s,p.1,q,t⟩,fun⟨u,v,s,p,q,t⟩=>⟨⟨p,by omega,by omega⟩,q,s,t,u,v⟩⟩
   ·rw [if_neg k2,if_neg k2]
    exact⟨fun h=>h.2.elim,fun h=>h.2.2.2.2.elim⟩
def Fv(a b:BL):Prop:=(a.Kind=b.Kind∧a.From=b.From)∧a.To=b.To
def Dy(l:List BL)(k:Int):Prop:=∃a∈l,a.Kind=k
def FC(c:AY):Prop:=
 (c.Kind=1∧cnt c.Pins=0∧c.Truth.length=2^(c.Pins.length-1)∧∀i,i<c.Truth.length->0<=gd c.Truth i∧gd c.Truth i<=1)∨
 (c.Kind=2∧cnt c.Pins=1∧c.Truth.length=0∧¬Dy c.Arcs 1∧¬(Dy c.Arcs 2↔Dy c.Arcs 3))∨
 (c.Kind=3∧cnt c.Pins=1∧c.Truth.length=0∧Dy c.Arcs 1∧Dy c.Arcs 2∧¬Dy c.Arcs 3)
def Rh(A:BL->Prop)(l:List BL):Prop:=∀i (h:i<l.length),A l[i]∧∀j (hj:j<i),¬Fv l[j] l[i]
structure HE(c:AY):Prop where
 name:DH c.Name=true
 pins:IS c.Pins
 few:c.Arcs.length<=8
 leak:0<=c.Leak∧c.Leak<=100000
 energy:0<=c.Energy∧c.Energy<=100000
 arcs:Rh (KF c) c.Arcs
 kind:FC c
theorem FC.cnt{c:AY}(h:FC c):cnt c.Pins<=1:=by
 rcases h with h|h|h<;>omega
theorem Kd{n:Nat}{c:AY}(hl:c.Arcs.length<=1048576)(hk:∀a∈c.Arcs,0<=a.Kind∧a.Kind<6)(hn:1048577<=n):∃l,Nn n c=some l∧l.length=6∧∀k:Nat,k<6->0<=gd l k∧(gd l k>0↔Dy c.Arcs k):=by
 have m6:KJ 6 8=some 6:=EX (n:=6) (by omega) (by omega)
 rw [Nn,m6,Ar]
 refine loop (L:=fun m i (l:List Int)=>GU c (fun i31 l33=>(some l33)) m i l) c.Arcs.length (fun i l=>l.length=6∧∀k:Nat,k<6->(0<=gd l k∧gd l k<=i)∧(gd l k>0↔Dy (c.Arcs.take i) k)) (fun o=>∃l,o=some l∧l.length=6∧∀k:Nat,k<6->0<=gd l k∧(gd l k>0↔Dy c.Arcs k)) ?_ ?_ n 0 (List.replicate 6 0) (by omega) (by omega) ⟨by simp,fun k hk=>?_⟩
 ·intro m i l hi ⟨hll,hI⟩
  have hx:=hk _ (List.getElem_mem hi)
  obtain⟨q,hq⟩:=Int.eq_ofNat_of_zero_le hx.1
  have hq:c.Arcs[i].Kind=(q:Int):=hq
  have hq6:q<6:=by omega
  have hg:AO l c.Arcs[i].Kind=some (gd l q):=by rw [hq];exact gI (by omega)
  have hb:=(hI q hq6).1
  refine .inl ⟨l.set q (gd l q+1),⟨by simpa using hll,fun k hk6=>?_⟩,?_⟩
  ·have h1:=hI k hk6
   rw [Jf (by omega)]
   have hs:Dy (c.Arcs.take (i+1)) k↔Dy (c.Arcs.take i) k∨c.Arcs[i].Kind=(k:Int):=by
    rw [List.take_succ_eq_append_getElem hi]
    unfold Dy
    constructor
    ·rintro ⟨a,ha,e⟩
     rcases List.mem_append.1 ha with ha|ha
     ·exact .inl ⟨a,ha,e⟩
     ·obtain rfl:=List.mem_singleton.1 ha;exact .inr e
    ·rintro (⟨a,ha,e⟩|e)
     ·exact⟨a,List.mem_append.2 (.inl ha),e⟩
     ·exact⟨_,List.mem_append.2 (.inr (List.mem_singleton.2 rfl)),e⟩
   rw [hs]
   by_cases e:q=k
   ·subst e
    rw [if_pos rfl]
    exact⟨⟨by omega,by omega⟩,⟨fun _=>.inr hq,fun _=>by omega⟩⟩
   ·rw [if_neg e]
    refine⟨⟨by omega,by omega⟩,h1.2.trans ⟨.inl,fun h=>h.resolve_right fun h=>e (by omega)⟩⟩
  ·simp only [GU.eq_2,CV hi,cT,Ab hi,Ar,hg,wT i,Af (x:=gd l q+1) (by omega) (by omega)]
   rw [hq,Int.toNat_natCast]
 ·intro m l ⟨hll,hI⟩
  simp only [GU.eq_2,Cc,cF]
  refine⟨l,rfl,hll,fun k hk6=>?_⟩
  have:=hI k hk6
  rw [List.take_length]at this
  exact⟨this.1.1,this.2⟩
 ·have:gd (List.replicate 6 0) k=0:=by simp only [gd,List.getD_eq_getElem?_getD,List.getElem?_replicate];split<;>rfl
  rw [this]
  refine⟨by omega,⟨fun h=>by omega,fun⟨a,ha,_⟩=>by simp at ha⟩⟩
theorem Hs{n:Nat}{c:AY}(hl:c.Arcs.length<=1048576)(k:Int)(hn:1048577<=n):AV (Dy c.Arcs k) (LR n c k):=by
 obtain⟨r,e,hr,_⟩:=JQ (xs:=c.Arcs) (L:=fun m i=>FK n c.Arcs k (fun i6=>(some (-1))) m i) (f:=fun a=>SN n a k) (P:=fun a=>a.Kind=k) (fun p _=>by rw [SN];exact AV.val beq_iff_eq) (fun m i hi=>by
  simp only [FK.eq_2,CV hi,cT,Ab hi,Ar,wT i]) (fun m=>by
  simp only [FK.eq_2,Cc,cF]) n (by omega)
 have e:FK n c.Arcs k (fun i6=>(some (-1))) n 0=some r:=e
 rw [LR,Sf,TN,e]
 exact AV.val (by rw [decide_eq_true_eq];exact hr)
theorem RR{L:Nat}(h1:2<=L)(h2:L<=5):Eb .i64 1 ((L:Int)-1)=((2^(L-1):Nat):Int)∧Eb .i64 1 (IntKind.wrap IntKind.u64 ((L:Int)-1))=((2^(L-1):Nat):Int)∧decide (IntKind.wrap IntKind.u64 ((L:Int)-1)<0)=false:=by
 have:L=2∨L=3∨L=4∨L=5:=by omega
 rcases this with rfl|rfl|rfl|rfl<;>decide
theorem eQ{n:Nat}{c:AY}{o:Option Bool}{Q:Prop}(h:c.Truth.length<=1048576)(hn:1048577<=n)(hQ:AV Q o):AV ((∀i,i<c.Truth.length->0<=gd c.Truth i∧gd c.Truth i<=1)∧Q) (Fe n c (fun _=>o) n 0):=by
 refine(Dp (L:=fun m i=>Fe n c (fun _=>o) m i) (Q:=Q) c.Truth.length 0 (fun i=>0<=gd c.Truth i∧gd c.Truth i<=1) ?_ ?_ n 0 (by omega) (by omega) (by omega) (fun j _ h=>by omega)).iff ⟨fun a=>⟨fun i hi=>a.1 i (by omega) hi,a.2⟩,fun a=>⟨fun i _ hi=>a.1 i hi,a.2⟩⟩
 ·intro m i _ hi
  simp only [Fe.eq_2,CV hi,cT,gI hi,Ar,HF,wT i]
  by_cases c1:0<=gd c.Truth i∧gd c.Truth i<=1
  ·have d1:(decide (gd c.Truth i>=0)&&decide (gd c.Truth i<=1))=true:=Gx.2 c1
   simp only [d1,Bool.not_true,cF]
   exact .inl ⟨c1,by trivial⟩
  ·have d1:(decide (gd c.Truth i>=0)&&decide (gd c.Truth i<=1))=false:=by
    rw [Bool.and_eq_false_iff,decide_eq_false_iff_not,decide_eq_false_iff_not];omega
   simp only [d1,Bool.not_false,cT]
   exact .inr ⟨c1,by trivial⟩
 ·intro m i h1 h2 _
  obtain rfl:i=c.Truth.length:=by omega
  simp only [Fe.eq_2,Cc,cF]
  exact hQ
theorem dS{n:Nat}{c:AY}{i:Nat}(hi:i<c.Arcs.length)(hl:c.Arcs.length<=1048576)(hn:1048577<=n)(k2:Int->Option Bool):(∀j (hj:j<i),¬Fv c.Arcs[j] c.Arcs[i])∧Gc c i c.Arcs[i] k2 n 0=k2 i∨(¬∀j (hj:j<i),¬Fv c.Arcs[j] c.Arcs[i])∧Gc c i c.Arcs[i] k2 n 0=some false:=by
 refine loop (L:=fun m j (_:Unit)=>Gc c i c.Arcs[i] k2 m j) i (fun b _=>∀j (hj:j<i),j<b->¬Fv c.Arcs[j] c.Arcs[i]) (fun o=>(∀j (hj:j<i),¬Fv c.Arcs[j] c.Arcs[i])∧o=k2 i∨(¬∀j (hj:j<i),¬Fv c.Arcs[j] c.Arcs[i])∧o=some false) ?_ ?_ n 0 () (by omega) (by omega) (fun j _ hj=>by omega)
 ·intro m j _ hj hJ
  have e1:Fv c.Arcs[j] c.Arcs[i]↔(((c.Arcs[j].Kind==c.Arcs[i].Kind)&&(c.Arcs[j].From==c.Arcs[i].From))&&(c.Arcs[j].To==c.Arcs[i].To))=true:=by
   unfold Fv;simp only [Bool.and_eq_true,beq_iff_eq]
  simp only [Gc.eq_2,CV hj,cT,Ab (show j<c.Arcs.length by omega),Ar,CS,wT j]
  cases e:(((c.Arcs[j].Kind==c.Arcs[i].Kind)&&(c.Arcs[j].From==c.Arcs[i].From))&&(c.Arcs[j].To==c.Arcs[i].To))with
  |true=>exact .inr (.inr ⟨fun h=>h j hj (e1.2 e),by trivial⟩)
  |false=>
   refine .inl ⟨(),fun a ha hb=>?_,by trivial⟩
   by_cases ea:a=j
   ·subst ea;intro hs;rw [e1.1 hs]at e;cases e
   ·exact hJ a ha (by omega)
 ·intro m _ hJ
  simp only [Gc.eq_2,Cc,cF]
  exact .inl ⟨fun j hj=>hJ j hj hj,by trivial⟩
theorem aD{n:Nat}{c:AY}(h:PL c)(hn:1048577<=n):AV (HE c) (WO n c):=by
 obtain⟨r,e,hr,hc⟩:=fB (n:=n) h.pins hn
 rw [WO,e]
 simp only [Ar,ZE h.name hn,HF,DU]
 by_cases g:(IS c.Pins∧DH c.Name=true)∧c.Arcs.length<=8∧(0<=c.Leak∧c.Leak<=100000)∧(0<=c.Energy∧c.Energy<=100000)
 ·have rt:r.2=true:=hr.2 g.1.1
  have gb:((((!r.2|| !DH c.Name)||decide ((c.Arcs.length:Int)>8))|| !(decide (c.Leak>=0)&&decide (c.Leak<=100000)))|| !(decide (c.Energy>=0)&&decide (c.Energy<=100000)))=false:=by
   rw [rt,g.1.2]
   simp only [Bool.not_true,Bool.or_self,Bool.false_or,Bool.or_eq_false_iff,decide_eq_false_iff_not,Bool.not_eq_false',Gx];omega
  simp only [gb,cF]
  have few:=g.1.1.few
  have hal:=h.arcs.1
  have hcnt:=hc rt
  refine(Dp (L:=fun m i=>GV n c _ m i) (Q:=FC c) c.Arcs.length 0 (fun i=>∀(hi:i<c.Arcs.length),KF c c.Arcs[i]∧∀j (hj:j<i),¬Fv c.Arcs[j] c.Arcs[i]) ?_ ?_ n 0 (by omega) (by omega) (by omega) (fun j _ h=>by omega)).iff ?_
  ·intro m i _ hi
   obtain⟨b,e,hb⟩:=bY (n:=n) (c:=c) few.2 few.1 (h.arcs.2 _ (List.getElem_mem hi)) hn
   simp only [GV.eq_2,CV hi,cT,Ab hi,Ar,e]
   cases b with
   |false=>exact .inr ⟨fun q=>(by have:=hb.2 (q hi).1;cases this),by trivial⟩
   |true=>
    simp only [Bool.not_true,cF,wT i]
    rcases dS (n:=n) hi hal hn (fun _=>GV n c _ m ((i+1:Nat):Int))with ⟨q1,q2⟩|⟨q1,q2⟩
    ·exact .inl ⟨fun _=>⟨hb.1 rfl,q1⟩,q2⟩
    ·exact .inr ⟨fun q=>q1 (q hi).2,q2⟩
  ·intro m i h1 h2 hA
   obtain rfl:i=c.Arcs.length:=by omega
   simp only [GV.eq_2,Cc,cF]
   obtain⟨l,e,hl6,hl⟩:=Kd (n:=n) hal (fun a ha=>by
    obtain⟨j,hj,rfl⟩:=List.getElem_of_mem ha
    have:=(hA j (by omega) hj hj).1.2
    rcases Tw c.Arcs[j].Kind with k|k|k|k|k|k<;>first|omega|skip
    obtain⟨k1,k2,k3,k4,k5⟩:=k
    rw [if_neg k1,if_neg (by omega),if_neg (by omega)]at this
    exact this.elim) hn
   have g1:AO l 1=some (gd l 1):=gI (i:=1) (by omega)
   have g2:AO l 2=some (gd l 2):=gI (i:=2) (by omega)
   have g3:AO l 3=some (gd l 3):=gI (i:=3) (by omega)
   have k1:0<=gd l 1∧(gd l 1>0↔Dy c.Arcs 1):=hl 1 (by omega)
   have k2:0<=gd l 2∧(gd l 2>0↔Dy c.Arcs 2):=hl 2 (by omega)
   have k3:0<=gd l 3∧(gd l 3>0↔Dy c.Arcs 3):=hl 3 (by omega)
   have wl:IntKind.wrap .i64 ((c.Pins.length:Int)-1)=(c.Pins.length:Int)-1:=Af (by omega) (by omega)
   obtain⟨s1,s2,s3⟩:=RR few.1 few.2
   rw [e,Ar]
   simp only [g1,g2,g3,Ar,wl,s2,s3,cF,CS]
   have tl:((c.Truth.length:Int)==0)=true↔c.Truth.length=0:=by rw [beq_iff_eq];omega
   have tw:((c.Truth.length:Int)==((2^(c.Pins.length-1):Nat):Int))=true↔c.Truth.length=2^(c.Pins.length-1):=by rw [beq_iff_eq];omega
   have c0:(r.1==0)=true↔cnt c.Pins=0:=by rw [beq_iff_eq,hcnt];omega
   have c1:(r.1==1)=true↔cnt c.Pins=1:=by rw [beq_iff_eq,hcnt];omega
   have kk1:(gd l 1==0)=true↔¬Dy c.Arcs 1:=by rw [beq_iff_eq,←k1.2];omega
   have kk3:(gd l 3==0)=true↔¬Dy c.Arcs 3:=by rw [beq_iff_eq,←k3.2];omega
   have p1:decide (gd l 1>0)=true↔Dy c.Arcs 1:=by rw [decide_eq_true_eq];exact k1.2
   have p2:decide (gd l 2>0)=true↔Dy c.Arcs 2:=by rw [decide_eq_true_eq];exact k2.2
   have p3:decide (gd l 3>0)=true↔Dy c.Arcs 3:=by rw [decide_eq_true_eq];exact k3.2
   have x23:(decide (gd l 2>0) !=decide (gd l 3>0))=true↔¬(Dy c.Arcs 2↔Dy c.Arcs 3):=by
    rw [←p2,←p3];cases decide (gd l 2>0)<;>cases decide (gd l 3>0)<;>simp
   by_cases q1:c.Kind=1
   ·simp only [q1,show((1:Int)==1)=true from rfl,cT]
    refine(eQ (c:=c) (o:=some ((r.1==0)&&((c.Truth.length:Int)==((2^(c.Pins.length-1):Nat):Int)))) (Q:=cnt c.Pins=0∧c.Truth.length=2^(c.Pins.length-1)) h.truth hn (AV.val (by rw [Bool.and_eq_true,c0,tw]))).iff ?_
    unfold FC
    constructor
    ·rintro ⟨a,b,d⟩;exact .inl ⟨q1,b,d,a⟩
    ·rintro (⟨_,b,d,a⟩|⟨a,_⟩|⟨a,_⟩)
     ·exact⟨a,b,d⟩
     ·omega
     ·omega
   ·simp only [beq_eq_false_iff_ne.2 q1,cF]
    by_cases q2:c.Kind=2
    ·simp only [q2,show((2:Int)==2)=true from rfl,cT]
     refine AV.val ?_
     rw [Bool.and_eq_true,Bool.and_eq_true,Bool.and_eq_true,c1,kk1,x23,tl]
     unfold FC
     constructor
     ·rintro ⟨⟨⟨a,b⟩,d⟩,f⟩;exact .inr (.inl ⟨q2,a,f,b,d⟩)
     ·rintro (⟨a,_⟩|⟨_,a,f,b,d⟩|⟨a,_⟩)
      ·omega
      ·exact⟨⟨⟨a,b⟩,d⟩,f⟩
      ·omega
    ·simp only [beq_eq_false_iff_ne.2 q2,cF]
     by_cases q3:c.Kind=3
     ·simp only [q3,show((3:Int)==3)=true from rfl,cT]
      refine AV.val ?_
      simp only [Bool.and_eq_true,true_and,c1,p1,p2,kk3,tl]
      unfold FC
      constructor
      ·rintro ⟨⟨⟨⟨a,b⟩,d⟩,x⟩,f⟩;exact .inr (.inr ⟨q3,a,f,b,d,x⟩)
      ·rintro (⟨a,_⟩|⟨a,_⟩|⟨_,a,f,b,d,x⟩)
       ·omega
       ·omega
       ·exact⟨⟨⟨⟨a,b⟩,d⟩,x⟩,f⟩
     ·simp only [beq_eq_false_iff_ne.2 q3,cF]
      refine AV.no ?_
      rintro (⟨a,_⟩|⟨a,_⟩|⟨a,_⟩)
      ·exact q1 a
      ·exact q2 a
      ·exact q3 a
  ·constructor
   ·rintro ⟨a,b⟩
    exact⟨g.1.2,g.1.1,g.2.1,g.2.2.1,g.2.2.2,fun i hi=>a i (by omega) hi hi,b⟩
   ·rintro v
    exact⟨fun i _ _ hi=>v.arcs i hi,v.kind⟩
 ·have gb:((((!r.2|| !DH c.Name)||decide ((c.Arcs.length:Int)>8))|| !(decide (c.Leak>=0)&&decide (c.Leak<=100000)))|| !(decide (c.Energy>=0)&&decide (c.Energy<=100000)))=true:=by
   cases hq:((((!r.2|| !DH c.Name)||decide ((c.Arcs.length:Int)>8))|| !(decide (c.Leak>=0)&&decide (c.Leak<=100000)))|| !(decide (c.Energy>=0)&&decide (c.Energy<=100000)))with
   |true=>rfl
   |false=>
    exfalso;apply g
    simp only [Bool.or_eq_false_iff,Bool.not_eq_false',decide_eq_false_iff_not,Gx]at hq
    exact⟨⟨hr.1 hq.1.1.1.1,hq.1.1.1.2⟩,by omega,by simpa using hq.1.2,by simpa using hq.2⟩
  simp only [gb,cT]
  exact AV.no fun v=>g ⟨⟨v.pins,v.name⟩,v.few,v.leak,v.energy⟩
theorem Cn{n:Nat}{l:List BM}{K:Int->Option Bool}{c:AY}(hc:c.Pins=l)(hl:l.length<=1048576)(hn:1048577<=n):EF c (fun i _=>K i) n 0 0=K (cnt l):=by
 subst hc
 refine loop (L:=fun m i (q:Int)=>EF c (fun i _=>K i) m q i) c.Pins.length (fun i q=>q=cnt (c.Pins.take i)) (fun o=>o=K (cnt c.Pins)) ?_ ?_ n 0 0 (by omega) (by omega) (by simp [cnt])
 ·intro m i q hi hq
  have ct:=ND hi
  have cl:cnt (c.Pins.take i)<=1048576:=Nat.le_trans List.countP_le_length (by simp;omega)
  cases hk:c.Pins[i].Clock with
  |true=>
   rw [hk,if_pos rfl]at ct
   refine .inl ⟨q+1,by rw [ct,hq];simp,?_⟩
   simp only [EF.eq_2,CV hi,cT,Ab hi,Ar,hk,wT i,Af (x:=q+1) (by omega) (by omega)]
  |false=>
   rw [hk]at ct
   refine .inl ⟨q,by rw [ct,hq];simp,?_⟩
   simp only [EF.eq_2,CV hi,cT,Ab hi,Ar,hk,cF,wT i]
 ·intro m q hq
  rw [List.take_length]at hq
  simp only [EF.eq_2,Cc,cF,hq]
theorem eG{n:Nat}{c:AY}(h:PL c)(hv:IS c.Pins)(hn:1048577<=n):AV (FC c) (RH n c):=by
 have few:=hv.few
 obtain⟨b1,e1,h1⟩:=Hs (n:=n) h.arcs.1 1 hn
 obtain⟨b2,e2,h2⟩:=Hs (n:=n) h.arcs.1 2 hn
 obtain⟨b3,e3,h3⟩:=Hs (n:=n) h.arcs.1 3 hn
 have wl:IntKind.wrap .i64 ((c.Pins.length:Int)-1)=(c.Pins.length:Int)-1:=Af (by omega) (by omega)
 have o:=(Cn (n:=n) (c:=c) (l:=c.Pins) (K:=fun i16=>(bif (c.Kind==1)then(Option.bind (bif (i16==0)then(Option.bind (JP n c) fun r20=>(bif decide (r20<0)then none else(some ((((c.Truth.length:Int))==(Eb .i64 1 r20))))))else(some false)) fun c20=>(Option.bind (bif c20 then(Option.bind (Ir n c.Truth 0 1) fun r26=>(some r26))else(some false)) fun c26=>(some c26)))else(bif (c.Kind==2)then(Option.bind (bif (((i16==1))&&((((c.Truth.length:Int))==0)))then(Option.bind (LR n c 1) fun r38=>(some (!r38)))else(some false)) fun c38=>(Option.bind (bif c38 then(Option.bind (LR n c 2) fun r43=>(Option.bind (LR n c 3) fun r45=>(some ((r43 !=r45)))))else(some false)) fun c43=>(some c43)))else(bif (c.Kind==3)then(Option.bind (bif (((i16==1))&&((((c.Truth.length:Int))==0)))then(Option.bind (LR n c 1) fun r61=>(some r61))else(some false)) fun c61=>(Option.bind (bif c61 then(Option.bind (LR n c 2) fun r74=>(some r74))else(some false)) fun c74=>(Option.bind (bif c74 then(Option.bind (LR n c 3) fun r87=>(some (!r87)))else(some false)) fun c87=>(some c87))))else(some false))))) rfl h.pins.1 hn)
 have o2:RH n c=_:=o
 rw [o2]
 obtain⟨s1,s2,s3⟩:=RR few.1 few.2
 have d0:decide ((c.Pins.length:Int)-1<0)=false:=decide_eq_false (by omega)
 simp only [JP,LY,Ar,wl,d0,cF,s1,AW (n:=n) h.truth hn,e1,e2,e3,CS]
 have tl:((c.Truth.length:Int)==0)=true↔c.Truth.length=0:=by rw [beq_iff_eq];omega
 have tw:((c.Truth.length:Int)==((2^(c.Pins.length-1):Nat):Int))=true↔c.Truth.length=2^(c.Pins.length-1):=by rw [beq_iff_eq];omega
 have c0:((cnt c.Pins:Int)==0)=true↔cnt c.Pins=0:=by rw [beq_iff_eq];omega
 have c1:((cnt c.Pins:Int)==1)=true↔cnt c.Pins=1:=by rw [beq_iff_eq];omega
 have n1:(!b1)=true↔¬Dy c.Arcs 1:=by rw [←h1];cases b1<;>simp
 have n3:(!b3)=true↔¬Dy c.Arcs 3:=by rw [←h3];cases b3<;>simp
 have x23:(b2 !=b3)=true↔¬(Dy c.Arcs 2↔Dy c.Arcs 3):=by rw [←h2,←h3];cases b2<;>cases b3<;>simp
 by_cases q1:c.Kind=1
 ·simp only [q1,show((1:Int)==1)=true from rfl,cT]
  refine AV.val ?_
  rw [Bool.and_eq_true,Bool.and_eq_true,c0,tw,LI]
  unfold FC
  constructor
  ·rintro ⟨⟨a,b⟩,d⟩;exact .inl ⟨q1,a,b,d⟩
  ·rintro (⟨_,a,b,d⟩|⟨a,_⟩|⟨a,_⟩)
   ·exact⟨⟨a,b⟩,d⟩
   ·omega
   ·omega
 ·simp only [beq_eq_false_iff_ne.2 q1,cF]
  by_cases q2:c.Kind=2
  ·simp only [q2,show((2:Int)==2)=true from rfl,cT]
   refine AV.val ?_
   simp only [Bool.and_eq_true,c1,tl,n1,x23]
   unfold FC
   constructor
   ·rintro ⟨⟨⟨a,b⟩,d⟩,f⟩;exact .inr (.inl ⟨q2,a,b,d,f⟩)
   ·rintro (⟨a,_⟩|⟨_,a,b,d,f⟩|⟨a,_⟩)
    ·omega
    ·exact⟨⟨⟨a,b⟩,d⟩,f⟩
    ·omega
  ·simp only [beq_eq_false_iff_ne.2 q2,cF]
   by_cases q3:c.Kind=3
   ·simp only [q3,show((3:Int)==3)=true from rfl,cT]
    refine AV.val ?_
    simp only [Bool.and_eq_true,true_and,c1,tl,h1,h2,n3]
    unfold FC
    constructor
    ·rintro ⟨⟨⟨⟨a,b⟩,d⟩,x⟩,f⟩;exact .inr (.inr ⟨q3,a,b,d,x,f⟩)
    ·rintro (⟨a,_⟩|⟨a,_⟩|⟨_,a,b,d,x,f⟩)
     ·omega
     ·omega
     ·exact⟨⟨⟨⟨a,b⟩,d⟩,x⟩,f⟩
   ·simp only [beq_eq_false_iff_ne.2 q3,cF]
    refine AV.no ?_
    rintro (⟨a,_⟩|⟨a,_⟩|⟨a,_⟩)
    ·exact q1 a
    ·exact q2 a
    ·exact q3 a
theorem eH{n:Nat}{c:AY}{r:Int}(h:PL c)(hv:IS c.Pins)(hr:OJ n c=some r)(hn:1048577<=n):AV (Rh (fun a=>Pf c a r) c.Arcs∧c.Arcs.length<=8) (Qg n c):=by
 have few:=hv.few
 have hal:=h.arcs.1
 rw [Qg]
 refine(Dp (L:=fun m i=>Gu n c _ m i) (Q:=c.Arcs.length<=8) c.Arcs.length 0 (fun i=>∀(hi:i<c.Arcs.length),Pf c c.Arcs[i] r∧∀j (hj:j<i),¬Fv c.Arcs[j] c.Arcs[i]) ?_ ?_ n 0 (by omega) (by omega) (by omega) (fun j _ h=>by omega)).iff ⟨fun a=>⟨fun i hi=>a.1 i (by omega) hi hi,a.2⟩,fun a=>⟨fun i _ _ hi=>a.1 i hi,a.2⟩⟩
 ·intro m i _ hi
  obtain⟨b,e,hb⟩:=bO (n:=n) (c:=c) few.2 few.1 (h.arcs.2 _ (List.getElem_mem hi)) hr hn
  have hsub:HI c.Arcs 0 (i:Int)=some (c.Arcs.take i):=by
   unfold HI
   rw [if_pos ⟨by omega,by omega,by omega⟩];simp
  obtain⟨q,e2,hq,_⟩:=JQ (xs:=c.Arcs.take i) (L:=fun m j=>FW n (c.Arcs.take i) c.Arcs[i] (fun i6=>(some (-1))) m j) (f:=fun a=>Qo n a c.Arcs[i]) (P:=fun a=>Fv a c.Arcs[i]) (fun p _=>by rw [Qo];exact AV.val (by unfold Fv;simp only [Bool.and_eq_true,beq_iff_eq])) (fun m j hj=>by
   simp only [FW.eq_2,CV hj,cT,Ab hj,Ar,wS (show j<4611686018427387904 by have:=hj;simp at this;omega)]) (fun m=>by
   simp only [FW.eq_2,Cc,cF]) n (by simp;omega)
  have e2:FW n (c.Arcs.take i) c.Arcs[i] (fun i6=>(some (-1))) n 0=some q:=e2
  simp only [Gu.eq_2,CV hi,cT,Ab hi,Ar,e,hsub,Sx,Sa,e2,DU,wT i]
  have hd:(decide (q>=0))=true↔¬∀j (hj:j<i),¬Fv c.Arcs[j] c.Arcs[i]:=by
   rw [decide_eq_true_eq,hq]
   constructor
   ·rintro ⟨x,hx,hs⟩ hall
    obtain⟨j,hj,rfl⟩:=List.mem_take_iff_getElem.1 hx
    exact hall j (by omega) hs
   ·intro hna
    refine Classical.byContradiction fun hne=>hna fun j hj hs=>hne ⟨c.Arcs[j],List.mem_take_iff_getElem.2 ⟨j,by omega,rfl⟩,hs⟩
  cases hc:(!b||decide (q>=0))with
  |true=>
   refine .inr ⟨fun g=>?_,by trivial⟩
   have:=g hi
   rw [Bool.or_eq_true]at hc
   rcases hc with hc|hc
   ·rw [hb.2 this.1]at hc;cases hc
   ·exact hd.1 hc this.2
  |false=>
   rw [Bool.or_eq_false_iff]at hc
   refine .inl ⟨fun _=>⟨hb.1 (by simpa using hc.1),Classical.byContradiction fun g=>?_⟩,by trivial⟩
   have:=hd.2 g
   rw [hc.2]at this;cases this
 ·intro m i h1 h2 _
  obtain rfl:i=c.Arcs.length:=by omega
  simp only [Gu.eq_2,Cc,cF]
  exact AV.val (by rw [decide_eq_true_eq];omega)
theorem WZ{n:Nat}{c:AY}(h:PL c)(hn:1048577<=n):AV (HE c) (Pq n c):=by
 obtain⟨r,hr,hr0,hr1⟩:=Ck (n:=n) h.pins.1 hn
 rw [Pq,cD h.name hn,Ar]
 cases hnm:DH c.Name with
 |false=>
  simp only [cF,Ar]
  exact AV.no fun v=>(by have:=v.name;rw [hnm]at this;cases this)
 |true=>
  obtain⟨b,e,hb⟩:=fT (n:=n) h.pins hn
  simp only [cT,e,Ar]
  cases b with
  |false=>
   simp only [cF,Ar]
   exact AV.no fun v=>(by have:=hb.2 v.pins;cases this)
  |true=>
   have hv:=hb.1 rfl
   obtain⟨b1,e1,h1⟩:=eH (n:=n) h hv hr hn
   obtain⟨b2,e2,h2⟩:=eG (n:=n) h hv hn
   simp only [cT,e1,e2,It,Ar,CS]
   refine AV.val ?_
   rw [Bool.and_eq_true,Bool.and_eq_true,Bool.and_eq_true,h1,h2,Gx,Gx]
   constructor
   ·rintro ⟨⟨⟨⟨a,a8⟩,b⟩,d⟩,f⟩
    exact⟨hnm,hv,a8,b,d,fun i hi=>⟨(Og hv f.cnt hr1 hr0).2 (a i hi).1,(a i hi).2⟩,f⟩
   ·rintro v
    exact⟨⟨⟨⟨fun i hi=>⟨(Og hv v.kind.cnt hr1 hr0).1 (v.arcs i hi).1,(v.arcs i hi).2⟩,v.few⟩,v.leak⟩,v.energy⟩,v.kind⟩
def bt(i b:Nat):Nat:=i/2^b%2
def KT(i b:Nat):Nat:=if bt i b=0 then i+2^b else i-2^b
theorem Lz:∀i:Nat,i<16->∀b:Nat,b<4->KG .i64 (MI .i64 (i:Int) (b:Int)) 1=(bt i b:Int)∧KG .i64 (MI .i64 (i:Int) (IntKind.wrap IntKind.u64 (b:Int))) 1=(bt i b:Int)∧Sd .i64 (i:Int) (Eb .i64 1 (b:Int))=(KT i b:Int)∧IntKind.wrap .i64 ((i:Int)+Eb .i64 1 (IntKind.wrap IntKind.u64 (b:Int)))=((i+2^b:Nat):Int)∧decide (IntKind.wrap IntKind.u64 (b:Int)<0)=false:=by decide+kernel
theorem Ya:∀i:Nat,i<16->∀b:Nat,b<4->KT (KT i b) b=i∧(bt i b=0->i+2^b=KT i b)∧(bt i b≠0->bt (KT i b) b=0):=by decide+kernel
theorem Wo:∀i:Nat,i<16->∀b:Nat,b<4->∀a:Nat,a<4->a≠b->bt (KT i b) a=bt i a:=by decide+kernel
theorem YM:∀i:Nat,i<16->∀b:Nat,b<4->∀k:Nat,k<5->b<k->i<2^k->KT i b<2^k:=by decide+kernel
theorem QH(k:Nat)(hk:k<5)(b:Nat)(hb:b<k)(i:Nat)(hi:i<2^k):KT i b<2^k∧KT (KT i b) b=i∧(bt i b=0->i+2^b=KT i b)∧(bt i b≠0->bt (KT i b) b=0)∧∀a,a<k->a≠b->bt (KT i b) a=bt i a:=by
 have h16:2^k<=2^4:=Nat.pow_le_pow_right (by omega) (by omega)
 have hi':i<16:=by omega
 have b0:=Ya i hi' b (by omega)
 exact⟨YM i hi' b (by omega) k hk hb hi,b0.1,b0.2.1,b0.2.2,fun a ha hne=>Wo i hi' b (by omega) a (by omega) hne⟩
def cJ(t:List Int)(p q l:Nat):Prop:=∃i,i<t.length∧bt i p=l∧gd t i≠gd t (KT i q)
theorem cL{n:Nat}{c:AY}{p q l k:Nat}(hk:k<5)(ht:c.Truth.length=2^k)(hp:p<k)(hq:q<k)(hpq:p≠q)(hn:1048577<=n):AV (cJ c.Truth p q l) (Mx n c p q l):=by
 have h16:2^k<=2^4:=Nat.pow_le_pow_right (by omega) (by omega)
 have h16':c.Truth.length<=16:=by rw [ht];exact h16
 rw [Mx]
 have B:=QH k hk q hq
 refine loop (L:=fun m i (_:Unit)=>Gf c p q l _ m i) c.Truth.length (fun i _=>∀j,j<c.Truth.length->j<i->¬(bt j p=l∧bt j q=0∧gd c.Truth j≠gd c.Truth (KT j q))) _ ?_ ?_ n 0 () (by omega) (by omega) (fun j _ hj=>by omega)
 ·intro m i _ hi hI
  obtain⟨_,r2,_,_,r5⟩:=Lz i (by omega) p (by omega)
  obtain⟨_,s2,_,s4,s5⟩:=Lz i (by omega) q (by omega)
  have hb:=B i (by omega)
  simp only [Gf.eq_2,CV hi,cT,r2,r5,s2,s4,s5,cF,CS,Ar,gI hi,wT i]
  by_cases c1:bt i p=l∧bt i q=0
  ·have d1:(((bt i p:Int)==(l:Int))&&((bt i q:Int)==0))=true:=by simp only [Bool.and_eq_true,beq_iff_eq];omega
   have e1:=hb.2.2.1 c1.2
   simp only [d1,cT,e1,gI (show KT i q<c.Truth.length by omega),Ar]
   by_cases c2:gd c.Truth i=gd c.Truth (KT i q)
   ·simp only [c2,bne_self_eq_false,cF]
    refine .inl ⟨(),fun j hj hji=>?_,by trivial⟩
    by_cases ej:j=i
    ·subst ej;exact fun h=>h.2.2 c2
    ·exact hI j hj (by omega)
   ·have:(gd c.Truth i !=gd c.Truth (KT i q))=true:=by rw [bne_iff_ne];exact c2
    simp only [this,cT]
    exact .inr (AV.yes ⟨i,hi,c1.1,c2⟩)
  ·have d1:(((bt i p:Int)==(l:Int))&&((bt i q:Int)==0))=false:=by
    rw [Bool.and_eq_false_iff,beq_eq_false_iff_ne,beq_eq_false_iff_ne];omega
   simp only [d1,cF,Ar]
   refine .inl ⟨(),fun j hj hji=>?_,by trivial⟩
   by_cases ej:j=i
   ·subst ej;exact fun h=>c1 ⟨h.1,h.2.1⟩
   ·exact hI j hj (by omega)
 ·intro m _ hI
  simp only [Gf.eq_2,Cc,cF]
  refine AV.no ?_
  rintro ⟨i,hi,h1,h2⟩
  have hb:=B i (by omega)
  by_cases h0:bt i q=0
  ·exact hI i hi hi ⟨h1,h0,h2⟩
  ·have hf:KT i q<c.Truth.length:=by omega
   refine hI (KT i q) hf hf ⟨by rw [hb.2.2.2.2 p hp hpq];exact h1,hb.2.2.2.1 h0,?_⟩
   rw [hb.2.1];exact fun e=>h2 e.symm
theorem cK{n:Nat}{c:AY}{p q l k:Nat}(hk:k<5)(ht:c.Truth.length=2^k)(hp:p<k)(hq:q<k)(hn:1048577<=n):AV (cJ c.Truth p q l) (Ml n c p q l):=by
 have h16:2^k<=2^4:=Nat.pow_le_pow_right (by omega) (by omega)
 have h16':c.Truth.length<=16:=by rw [ht];exact h16
 rw [Ml]
 have B:=QH k hk q hq
 have d0:decide ((p:Int)<0)=false:=decide_eq_false (by omega)
 have d0':decide ((q:Int)<0)=false:=decide_eq_false (by omega)
 refine loop (L:=fun m i (_:Unit)=>GL c p q l _ m i) c.Truth.length (fun i _=>∀j,j<c.Truth.length->j<i->¬(bt j p=l∧gd c.Truth j≠gd c.Truth (KT j q))) _ ?_ ?_ n 0 () (by omega) (by omega) (fun j _ hj=>by omega)
 ·intro m i _ hi hI
  obtain⟨r1,_⟩:=Lz i (by omega) p (by omega)
  obtain⟨_,_,s3,_⟩:=Lz i (by omega) q (by omega)
  have hb:=B i (by omega)
  simp only [GL.eq_2,CV hi,cT,gI hi,d0,d0',r1,s3,cF,Ar,wT i]
  by_cases c1:bt i p=l
  ·have d1:(((bt i p:Int)==(l:Int)))=true:=by rw [beq_iff_eq];omega
   simp only [d1,cT,gI (show KT i q<c.Truth.length by omega),Ar]
   by_cases c2:gd c.Truth i=gd c.Truth (KT i q)
   ·simp only [c2,bne_self_eq_false,cF]
    refine .inl ⟨(),fun j hj hji=>?_,by trivial⟩
    by_cases ej:j=i
    ·subst ej;exact fun h=>h.2 c2
    ·exact hI j hj (by omega)
   ·have:(gd c.Truth i !=gd c.Truth (KT i q))=true:=by rw [bne_iff_ne];exact c2
    simp only [this,cT]
    exact .inr (AV.yes ⟨i,hi,c1,c2⟩)
  ·have d1:(((bt i p:Int)==(l:Int)))=false:=by rw [beq_eq_false_iff_ne];omega
   simp only [d1,cF,Ar]
   refine .inl ⟨(),fun j hj hji=>?_,by trivial⟩
   by_cases ej:j=i
   ·subst ej;exact fun h=>c1 h.1
   ·exact hI j hj (by omega)
 ·intro m _ hI
  simp only [GL.eq_2,Cc,cF]
  exact AV.no fun⟨i,hi,h1,h2⟩=>hI i hi hi ⟨h1,h2⟩
def EI(xs:List ByteArray):Prop:=∀k (h:k<xs.length),DH xs[k]=true∧∀i (hi:i<k),(xs[i].toList==xs[k].toList)=false
theorem UX{n:Nat}{xs:List ByteArray}(h:xs.length<=1048576)(hs:∀x∈xs,x.size<=1048576)(hn:1048577<=n):AV (EI xs) (Pk n xs):=by
 rw [Pk]
 refine(Dp (L:=fun m i=>Er n xs _ m i) (Q:=True) xs.length 0 (fun i=>∀(hi:i<xs.length),DH xs[i]=true∧∀j (hj:j<i),(xs[j].toList==xs[i].toList)=false) ?_ ?_ n 0 (by omega) (by omega) (by omega) (fun j _ h=>by omega)).iff ⟨fun a k hk=>a.1 k (by omega) hk hk,fun a=>⟨fun i _ _ hi=>a i hi,trivial⟩⟩
 ·intro m i _ hi
  simp only [Er.eq_2,CV hi,cT,Ab hi,Ar,ZE (hs _ (List.getElem_mem hi)) hn]
  cases hb:DH xs[i]with
  |false=>simp only [Bool.not_false,cT];exact .inr ⟨fun g=>(by have:=(g hi).1;rw [hb]at this;cases this),trivial⟩
  |true=>
   simp only [Bool.not_true,cF]
   have key:Hf xs (i:Int) (fun i22=>Er n xs (fun i5=>some true) m (IntKind.wrap .i64 ((i:Int)+1))) n 0=bif (xs.take i).all (fun x=>!(x.toList==xs[i].toList))then Er n xs (fun i5=>some true) m (IntKind.wrap .i64 ((i:Int)+1))else some false:=by
    refine Kr (xs:=xs.take i) (L:=fun q j=>Hf xs (i:Int) (fun i22=>Er n xs (fun i5=>some true) m (IntKind.wrap .i64 ((i:Int)+1))) q j) (fun x=>!(x.toList==xs[i].toList)) ?_ ?_ n (by simp;omega)
    ·intro q j hj
     have hj':j<i:=by simp at hj;omega
     have hd:decide ((j:Int)<(i:Int))=true:=decide_eq_true (by omega)
     simp only [Hf.eq_2,hd,cT,Ab (show j<xs.length by omega),Ab hi,Ar,List.getElem_take,wT j]
     cases(xs[j].toList==xs[i].toList)<;>rfl
    ·intro q
     have hl:(xs.take i).length=i:=by simp;omega
     have hd:decide (((xs.take i).length:Int)<(i:Int))=false:=decide_eq_false (by rw [hl];omega)
     simp only [Hf.eq_2,hd,cF]
   rw [key]
   cases ha:(xs.take i).all (fun x=>!(x.toList==xs[i].toList))with
   |true=>
    rw [cT,wT i]
    refine .inl ⟨fun _=>⟨hb,fun j hj=>?_⟩,rfl⟩
    have:=List.all_eq_true.1 ha xs[j] (List.mem_take_iff_getElem.2 ⟨j,by omega,rfl⟩)
    simpa using this
   |false=>
    rw [cF]
    refine .inr ⟨fun g=>?_,rfl⟩
    have:(xs.take i).all (fun x=>!(x.toList==xs[i].toList))=true:=by
     rw [List.all_eq_true]
     intro x hx
     obtain⟨j,hj,rfl⟩:=List.mem_take_iff_getElem.1 hx
     have:=(g hi).2 j (by omega)
     simp [this]
    rw [ha]at this;cases this
 ·intro m i h1 h2 _
  obtain rfl:i=xs.length:=by omega
  simp only [Er.eq_2,Cc,cF]
  exact AV.yes trivial
structure Mp(l:Ap):Prop where
 few:l.Cells.length<=8
 cells:∀i (h:i<l.Cells.length),HE l.Cells[i]
 names:∀k (h:k<l.Cells.length),∀i (hi:i<k),(l.Cells[i].Name.toList==l.Cells[k].Name.toList)=false
def Nc(l:Ap):Prop:=l.Cells.length<=1048576∧∀c∈l.Cells,PL c
theorem dP{n:Nat}{l:Ap}(h:Nc l)(hn:1048577<=n):AV (Mp l) (YF n l):=by
 have h1:=h.1
 rw [YF]
 refine(Dp (L:=fun m i=>Ex n l _ m i) (Q:=l.Cells.length<=8) l.Cells.length 0 (fun i=>∀(hi:i<l.Cells.length),HE l.Cells[i]∧∀j (hj:j<i),(l.Cells[j].Name.toList==l.Cells[i].Name.toList)=false) ?_ ?_ n 0 (by omega) (by omega) (by omega) (fun j _ h=>by omega)).iff ⟨fun a=>⟨a.2,fun i hi=>(a.1 i (by omega) hi hi).1,fun k hk=>(a.1 k (by omega) hk hk).2⟩,fun a=>⟨fun i _ _ hi=>⟨a.cells i hi,a.names i hi⟩,a.few⟩⟩
 ·intro m i _ hi
  obtain⟨b,e,hb⟩:=aD (n:=n) (h.2 _ (List.getElem_mem hi)) hn
  simp only [Ex.eq_2,CV hi,cT,Ab hi,Ar,e]
  cases b with
  |false=>simp only [Bool.not_false,cT];exact .inr ⟨fun g=>(by have:=hb.2 (g hi).1;cases this),trivial⟩
  |true=>
   simp only [Bool.not_true,cF]
   have key:HY l (i:Int) (fun i36=>Ex n l (fun i12=>some (decide ((l.Cells.length:Int)<=8))) m (IntKind.wrap .i64 ((i:Int)+1))) n 0=bif (l.Cells.take i).all (fun x=>!(x.Name.toList==l.Cells[i].Name.toList))then Ex n l (fun i12=>some (decide ((l.Cells.length:Int)<=8))) m (IntKind.wrap .i64 ((i:Int)+1))else some false:=by
    refine Kr (xs:=l.Cells.take i) (L:=fun q j=>HY l (i:Int) (fun i36=>Ex n l (fun i12=>some (decide ((l.Cells.length:Int)<=8))) m (IntKind.wrap .i64 ((i:Int)+1))) q j) (fun x=>!(x.Name.toList==l.Cells[i].Name.toList)) ?_ ?_ n (by simp;omega)
    ·intro q j hj
     have hj':j<i:=by simp at hj;omega
     have hd:decide ((j:Int)<(i:Int))=true:=decide_eq_true (by omega)
     simp only [HY.eq_2,hd,cT,Ab (show j<l.Cells.length by omega),Ab hi,Ar,List.getElem_take,wT j]
     cases(l.Cells[j].Name.toList==l.Cells[i].Name.toList)<;>rfl
    ·intro q
     have hl:(l.Cells.take i).length=i:=by simp;omega
     have hd:decide (((l.Cells.take i).length:Int)<(i:Int))=false:=decide_eq_false (by rw [hl];omega)
     simp only [HY.eq_2,hd,cF]
   rw [key]
   cases ha:(l.Cells.take i).all (fun x=>!(x.Name.toList==l.Cells[i].Name.toList))with
   |true=>
    rw [cT,wT i]
    refine .inl ⟨fun _=>⟨hb.1 rfl,fun j hj=>?_⟩,rfl⟩
    have:=List.all_eq_true.1 ha l.Cells[j] (List.mem_take_iff_getElem.2 ⟨j,by omega,rfl⟩)
    simpa using this
   |false=>
    rw [cF]
    refine .inr ⟨fun g=>?_,rfl⟩
    have:(l.Cells.take i).all (fun x=>!(x.Name.toList==l.Cells[i].Name.toList))=true:=by
     rw [List.all_eq_true]
     intro x hx
     obtain⟨j,hj,rfl⟩:=List.mem_take_iff_getElem.1 hx
     have:=(g hi).2 j (by omega)
     simp [this]
    rw [ha]at this;cases this
 ·intro m i h1 h2 _
  obtain rfl:i=l.Cells.length:=by omega
  simp only [Ex.eq_2,Cc,cF]
  exact AV.val (by rw [decide_eq_true_eq];omega)
theorem fE{n:Nat}{l:Ap}(h:Nc l)(hn:1048577<=n):AV (Mp l) (QI n l):=by
 have h1:=h.1
 rw [QI]
 refine loop (L:=fun m i (s:List ByteArray)=>GJ n l _ m s i) l.Cells.length (fun i s=>s=(l.Cells.take i).map (·.Name)∧∀j (hj:j<l.Cells.length),j<i->HE l.Cells[j]) (fun o=>AV (Mp l) o) ?_ ?_ n 0 [] (by omega) (by omega) ⟨by simp,fun j _ h=>by omega⟩
 ·intro m i s hi ⟨hs,hI⟩
  obtain⟨b,e,hb⟩:=WZ (n:=n) (h.2 _ (List.getElem_mem hi)) hn
  have hsl:s.length=i:=by rw [hs];simp;omega
  simp only [GJ.eq_2,CV hi,cT,Ab hi,Ar,e]
  cases b with
  |false=>simp only [Bool.not_false,cT];exact .inr (AV.no fun v=>by have:=hb.2 (v.cells i hi);cases this)
  |true=>
   simp only [Bool.not_true,cF,BA (show s.length+[l.Cells[i].Name].length<=16777216 by simp;omega) (show 16<=1048576 by omega),Ar,wT i]
   refine .inl ⟨_,⟨?_,fun j hj hji=>?_⟩,rfl⟩
   ·rw [hs,List.take_succ_eq_append_getElem hi,List.map_append];rfl
   ·by_cases ej:j=i
    ·subst ej;exact hb.1 rfl
    ·exact hI j hj (by omega)
 ·intro m s ⟨hs,hI⟩
  rw [List.take_length]at hs
  have hsl:s.length=l.Cells.length:=by rw [hs];simp
  simp only [GJ.eq_2,Cc,cF]
  by_cases c:l.Cells.length<=8
  ·have d:decide ((l.Cells.length:Int)<=8)=true:=decide_eq_true (by omega)
   obtain⟨b,e,hb⟩:=AN (n:=n) (xs:=s) (by omega) (fun x hx=>by
    rw [hs]at hx
    obtain⟨c,hc,rfl⟩:=List.mem_map.1 hx
    exact(h.2 c hc).name) hn
   simp only [d,cT,e,Ar]
   refine AV.val (hb.trans ⟨fun g=>⟨c,fun i hi=>hI i hi hi,fun k hk i hi=>?_⟩,fun v k hk=>⟨?_,fun i hi=>?_⟩⟩)
   ·have:=(g k (by omega)).2 i hi
    simpa [hs] using this
   ·have:=(v.cells k (by omega)).name
    simpa [hs] using this
   ·have:=v.names k (by omega) i hi
    simpa [hs] using this
  ·have d:decide ((l.Cells.length:Int)<=8)=false:=decide_eq_false (by omega)
   simp only [d,cF,Ar]
   exact AV.no fun v=>c v.few
def TH(l:List Int)(lo hi:Int):Prop:=∀i,i<l.length->lo<=gd l i∧gd l i<=hi
theorem RY{n:Nat}{l:List Int}{lo hi:Int}(h:l.length<=1048576)(hn:1048577<=n):AV (TH l lo hi) (Ir n l lo hi):=by
 rw [Ir,Rb,QZ]
 obtain⟨r,e,h⟩:=HR (xs:=l) (L:=fun m i=>Ds n l lo hi (fun i7=>(some (-1))) m i) (fun x=>!((decide (x>=lo))&&(decide (x<=hi)))) (by
  intro m i hi
  simp only [Ds.eq_2,CV hi,cT,Ab hi,Ar,Rs,It,wT i]) (by
  intro m
  simp only [Ds.eq_2,Cc,cF]) n (by omega)
 simp only [e,Ar]
 refine AV.val ?_
 rw [h,List.any_eq_not_all_not,Bool.not_not]
 simp only [Bool.not_not]
 exact LI
structure NW(w:BI)(s:Int):Prop where
 many:1<=w.Parent.length∧w.Parent.length<=8
 res:w.Res.length=w.Parent.length
 cap:w.Cap.length=w.Parent.length
 sink:(w.Sink.length:Int)=s
 root:gd w.Parent 0= -1∧gd w.Res 0=0
 tree:∀i,0<i->i<w.Parent.length->0<=gd w.Parent i∧gd w.Parent i<=(i:Int)-1
 ress:TH w.Res 0 1000
 caps:TH w.Cap 0 500
 sinks:TH w.Sink 0 ((w.Parent.length:Int)-1)
def Py(w:BI)(i:Nat):Prop:=(i=0->gd w.Parent 0= -1∧gd w.Res 0=0)∧(0<i->0<=gd w.Parent i∧gd w.Parent i<=(i:Int)-1)
theorem dZ{n:Nat}{w:BI}{s:Int}(h:w.Sink.length<=1048576)(hn:1048577<=n):AV (NW w s) (WJ n w s):=by
 rw [WJ]
 refine AV.bif (fun c=>AV.no fun v=>?_) (fun c=>?_)
 ·have:=v.many;have:=v.res;have:=v.cap;have:=v.sink
  simp only [Bool.or_eq_true,decide_eq_true_eq,bne_iff_ne,ne_eq]at c;omega
 ·simp only [Bool.or_eq_false_iff,decide_eq_false_iff_not,bne_eq_false_iff_eq]at c
  obtain⟨⟨⟨⟨c1,c2⟩,c3⟩,c4⟩,c5⟩:=c
  refine(Dp (L:=fun m i=>Iq n w _ m i) (Q:=TH w.Sink 0 ((w.Parent.length:Int)-1)) w.Parent.length 0 (fun i=>(0<=gd w.Cap i∧gd w.Cap i<=500)∧(0<=gd w.Res i∧gd w.Res i<=1000)∧Py w i) ?_ ?_ n 0 (by omega) (by omega) (by omega) (fun j _ h=>by omega)).iff ⟨fun a=>⟨by omega,by omega,by omega,c5,(a.1 0 (by omega) (by omega)).2.2.1 rfl,fun i h1 h2=>(a.1 i (by omega) h2).2.2.2 h1,fun i hi=>(a.1 i (by omega) (by omega)).2.1,fun i hi=>(a.1 i (by omega) (by omega)).1,a.2⟩,fun v=>⟨fun i _ hi=>⟨v.caps i (by omega),v.ress i (by omega),fun _=>v.root,fun h=>v.tree i h hi⟩,v.sinks⟩⟩
  ·intro m i _ hi
   have w1:IntKind.wrap .i64 ((i:Int)-1)=(i:Int)-1:=Af (by omega) (by omega)
   simp only [Iq.eq_2,CV hi,cT,gI (show i<w.Parent.length by omega),gI (show i<w.Res.length by omega),gI (show i<w.Cap.length by omega),Ar,HF,DU,CS,w1,wT i]
   cases e1:(!(decide (gd w.Cap i>=0)&&decide (gd w.Cap i<=500))|| !(decide (gd w.Res i>=0)&&decide (gd w.Res i<=1000)))with
   |true=>
    rw [cT]
    refine .inr ⟨fun g=>?_,rfl⟩
    simp only [Bool.or_eq_true,Bool.not_eq_true',Bool.and_eq_false_iff,decide_eq_false_iff_not]at e1;omega
   |false=>
    rw [cF]
    simp only [Bool.or_eq_false_iff,Bool.not_eq_false',Bool.and_eq_true,decide_eq_true_eq]at e1
    cases e2:((((i:Int)==0)&&((gd w.Parent i != -1)||(gd w.Res i !=0)))||(decide ((i:Int)>0)&& !(decide (gd w.Parent i>=0)&&decide (gd w.Parent i<=(i:Int)-1))))with
    |true=>
     rw [cT]
     refine .inr ⟨fun g=>?_,rfl⟩
     obtain⟨_,_,g1,g2⟩:=g
     simp only [Bool.or_eq_true,Bool.not_eq_true',Bool.and_eq_false_iff,Bool.and_eq_true,decide_eq_false_iff_not,decide_eq_true_eq,beq_iff_eq,bne_iff_ne,ne_eq]at e2
     by_cases z:i=0
     ·subst z;have:=g1 rfl;omega
     ·have:=g2 (by omega);omega
    |false=>
     rw [cF]
     refine .inl ⟨⟨by omega,by omega,?_⟩,rfl⟩
     simp only [Bool.or_eq_false_iff,Bool.not_eq_false',Bool.and_eq_false_iff,Bool.and_eq_true,decide_eq_false_iff_not,decide_eq_true_eq,beq_eq_false_iff_ne,bne_eq_false_iff_eq,ne_eq]at e2
     refine⟨fun z=>?_,fun z=>by omega⟩
     subst z;omega
  ·intro m i h1 h2 _
   obtain rfl:i=w.Parent.length:=by omega
   have w1:IntKind.wrap .i64 ((w.Parent.length:Int)-1)=(w.Parent.length:Int)-1:=Af (by omega) (by omega)
   simp only [Iq.eq_2,Cc,cF]
   refine(Dp (L:=fun m i=>HK n w _ m i) (Q:=True) w.Sink.length 0 (fun i=>0<=gd w.Sink i∧gd w.Sink i<=(w.Parent.length:Int)-1) ?_ ?_ n 0 (by omega) (by omega) (by omega) (fun j _ h=>by omega)).iff ⟨fun a i hi=>a.1 i (by omega) hi,fun v=>⟨fun i _ hi=>v i hi,trivial⟩⟩
   ·intro m i _ hi
    simp only [HK.eq_2,CV hi,cT,gI hi,Ar,HF,w1,wT i]
    cases e:(!(decide (gd w.Sink i>=0)&&decide (gd w.Sink i<=(w.Parent.length:Int)-1)))with
    |true=>refine .inr ⟨fun g=>?_,by trivial⟩;simp only [Bool.not_eq_true',Bool.and_eq_false_iff,decide_eq_false_iff_not]at e;omega
    |false=>refine .inl ⟨?_,by trivial⟩;simp only [Bool.not_eq_false',Bool.and_eq_true,decide_eq_true_eq]at e;omega
   ·intro m i h1 h2 _
    obtain rfl:i=w.Sink.length:=by omega
    simp only [HK.eq_2,Cc,cF]
    exact AV.yes trivial
theorem aJ{n:Nat}{w:BI}(h1:1<=w.Parent.length)(h:w.Parent.length<=8)(h2:w.Res.length=w.Parent.length)(hn:1048577<=n):AV (∀i,0<=i->i<w.Parent.length->Py w i) (QQ n w):=by
 rw [QQ]
 refine(Dp (L:=fun m i=>Gl n w _ m i) (Q:=True) w.Parent.length 0 (fun i=>Py w i) ?_ ?_ n 0 (by omega) (by omega) (by omega) (fun j _ h=>by omega)).iff ⟨fun a=>a.1,fun a=>⟨a,trivial⟩⟩
 ·intro m i _ hi
  have w1:IntKind.wrap .i64 ((i:Int)-1)=(i:Int)-1:=Af (by omega) (by omega)
  have w0:AO w.Res 0=some (gd w.Res 0):=gI (i:=0) (by omega)
  simp only [Gl.eq_2,CV hi,cT,gI hi,w0,Ar,It,DU,CS,w1,wT i]
  cases e2:((((i:Int)==0)&&((gd w.Parent i != -1)||(gd w.Res 0 !=0)))||(decide ((i:Int)>0)&& !(decide (gd w.Parent i>=0)&&decide (gd w.Parent i<=(i:Int)-1))))with
  |true=>
   rw [cT]
   refine .inr ⟨fun g=>?_,rfl⟩
   obtain⟨g1,g2⟩:=g
   simp only [Bool.or_eq_true,Bool.not_eq_true',Bool.and_eq_false_iff,Bool.and_eq_true,decide_eq_false_iff_not,decide_eq_true_eq,beq_iff_eq,bne_iff_ne,ne_eq]at e2
   by_cases z:i=0
   ·subst z;have:=g1 rfl;omega
   ·have:=g2 (by omega);omega
  |false=>
   rw [cF]
   refine .inl ⟨?_,rfl⟩
   simp only [Bool.or_eq_false_iff,Bool.not_eq_false',Bool.and_eq_false_iff,Bool.and_eq_true,decide_eq_false_iff_not,decide_eq_true_eq,beq_eq_false_iff_ne,bne_eq_false_iff_eq,ne_eq]at e2
   refine⟨fun z=>?_,fun z=>by omega⟩
   subst z;omega
 ·intro m i h1 h2 _
  obtain rfl:i=w.Parent.length:=by omega
  simp only [Gl.eq_2,Cc,cF]
  exact AV.yes trivial
theorem AV.and{P Q:Prop}{o:Option Bool}{c:Bool}(hc:c=true↔P)(h:P->AV Q o):AV (P∧Q) (bif c then o else some false):=by
 cases c with
 |true=>exact(h (hc.1 rfl)).iff ⟨fun q=>⟨hc.1 rfl,q⟩,fun q=>q.2⟩
 |false=>exact AV.no fun q=>by have:=hc.2 q.1;cases this
theorem AV.ab{P R:Prop}{o:Option Bool}{f:Bool->Option Bool}(h:AV P o)(k:∀c:Bool,(c=true↔P)->AV R (f c)):AV R (Option.bind o f):=by
 obtain⟨b,rfl,h⟩:=h
 exact k b h
theorem LK{o:Option Bool}:(Option.bind o fun r=>some r)=o:=by cases o<;>rfl
theorem eO{n:Nat}{w:BI}{s:Int}(h:w.Sink.length<=1048576)(hr:w.Res.length<=1048576)(hc:w.Cap.length<=1048576)(hp:w.Parent.length<=1048576)(hn:1048577<=n):AV (NW w s) (RS n w s):=by
 have w1:IntKind.wrap .i64 ((w.Parent.length:Int)-1)=(w.Parent.length:Int)-1:=Af (by omega) (by omega)
 rw [RS]
 simp only [JU,It,Ar,w1,CS,LK]
 refine AV.ab (AV.and (P:=(1<=w.Parent.length∧w.Parent.length<=8)∧w.Res.length=w.Parent.length∧w.Cap.length=w.Parent.length) (Q:=∀i,0<=i->i<w.Parent.length->Py w i) ?_ fun p=>aJ p.1.1 p.1.2 p.2.1 hn) fun c1 e1=>?_
 ·simp only [Bool.and_eq_true,decide_eq_true_eq,beq_iff_eq];omega
 refine AV.ab (AV.and e1 fun _=>RY hr hn) fun c2 e2=>?_
 refine AV.ab (AV.and e2 fun _=>RY hc hn) fun c3 e3=>?_
 refine(AV.and (P:=(((((1<=w.Parent.length∧w.Parent.length<=8)∧w.Res.length=w.Parent.length∧w.Cap.length=w.Parent.length)∧∀i,0<=i->i<w.Parent.length->Py w i)∧TH w.Res 0 1000)∧TH w.Cap 0 500)∧(w.Sink.length:Int)=s) ?_ fun _=>RY h hn).iff ⟨fun⟨⟨⟨⟨⟨⟨a,b,c⟩,t⟩,r⟩,k⟩,s1⟩,s2⟩=>⟨a,b,c,s1,(t 0 (by omega) (by omega)).1 rfl,fun i h1 h2=>(t i (by omega) h2).2 h1,r,k,s2⟩,fun v=>⟨⟨⟨⟨⟨⟨v.many,v.res,v.cap⟩,fun i _ hi=>⟨fun _=>v.root,fun h=>v.tree i h hi⟩⟩,v.ress⟩,v.caps⟩,v.sink⟩,v.sinks⟩⟩
 rw [Bool.and_eq_true,e3,beq_iff_eq]
def Fm(t:List Int)(q:Int):List Int:=t.set q.toNat (gd t q.toNat+1)
def Hc(x:Ak):Int:=gd x.Nets (x.Nets.length-1)
def cI(t:List Int)(x:Ak):List Int:=Fm t (Hc x)
def cP(t:List Int)(p:BN):List Int:=if p.Dir=1 then Fm t p.Net else t
def Qc(d:AL):List Int:=d.Ports.foldl cP (d.Instances.foldl cI (List.replicate d.Nets.length 0))
structure IJ(l:Ap)(d:AL)(x:Ak):Prop where
 cell:0<=x.Cell∧x.Cell<=(l.Cells.length:Int)-1
 pins:∀c,AO l.Cells x.Cell=some c->x.Nets.length=c.Pins.length
 nets:TH x.Nets 0 ((d.Nets.length:Int)-1)
structure KA(d:AL)(p:BN):Prop where
 dir:p.Dir=1∨p.Dir=2
 net:0<=p.Net∧p.Net<=(d.Nets.length:Int)-1
structure CL(l:Ap)(d:AL):Prop where
 lib:Mp l
 few:d.Instances.length<=14∧d.Nets.length<=30∧d.Ports.length<=8
 inst:∀x∈d.Instances,IJ l d x
 port:∀p∈d.Ports,KA d p
 ni:EI (d.Instances.map (·.Name))
 np:EI (d.Ports.map (·.Name))
 nn:EI d.Nets
 one:∀i,i<d.Nets.length->gd (Qc d) i=1
structure QR(d:AL):Prop where
 inst:d.Instances.length<=1048576∧∀x∈d.Instances,x.Name.size<=1048576∧x.Nets.length<=1048576
 nets:d.Nets.length<=1048576∧∀x∈d.Nets,x.size<=1048576
 ports:d.Ports.length<=1048576∧∀p∈d.Ports,p.Name.size<=1048576
theorem IJ.long{l:Ap}{d:AL}{x:Ak}(v:IJ l d x)(hl:Mp l):2<=x.Nets.length∧x.Nets.length<=5:=by
 obtain⟨c,e,hc⟩:=Dn (xs:=l.Cells) v.cell.1 (by have:=v.cell.2;omega)
 have h:=v.pins c e
 obtain⟨h1,h2⟩:=List.getElem?_eq_some_iff.1 hc
 have:=(hl.cells _ h1).pins.few
 rw [h2]at this;omega
theorem IJ.last{l:Ap}{d:AL}{x:Ak}(v:IJ l d x)(hl:Mp l):0<=Hc x∧Hc x<d.Nets.length:=by
 have:=v.long hl
 have:=v.nets (x.Nets.length-1) (by omega)
 unfold Hc;omega
theorem Gq{α:Type}{xs:List α}(nm:α->ByteArray){L:Nat->List ByteArray->Int->Option Bool}{k:List ByteArray->Option Bool}(hl:xs.length<=1048576)
 (hs:∀(m i:Nat) (h:i<xs.length) (s:List ByteArray),L (m+1) s (i:Int)=Option.bind (BV s [nm xs[i]] 16) fun z=>L m z ((i+1:Nat):Int))
 (he:∀(m:Nat) (s:List ByteArray),L (m+1) s (xs.length:Int)=k s) (m:Nat) (hm:xs.length<m):L m [] 0=k (xs.map nm):=by
 refine loop (L:=fun m i s=>L m s i) xs.length (fun i s=>s=(xs.take i).map nm) (fun o=>o=k (xs.map nm)) ?_ ?_ m 0 [] (by omega) (by omega) (by simp)
 ·intro m i s hi e
  refine .inl ⟨s++[nm xs[i]],?_,?_⟩
  ·rw [e,List.take_succ_eq_append_getElem hi,List.map_append];rfl
  ·have:s.length=i:=by rw [e];simp;omega
   show L (m+1) s (i:Int)=_
   rw [hs m i hi,BA (by simp;omega) (by omega),Ar]
 ·intro m s e
  rw [List.take_length]at e
  show L (m+1) s (xs.length:Int)=_
  rw [he,e]
def Pa(N B:Nat)(t:List Int):Prop:=t.length=N∧∀j,0<=gd t j∧gd t j<=B
theorem Pa.bump{N B:Nat}{t:List Int}{q:Int}(h:Pa N B t)(h0:0<=q)(h1:q<N):Pa N (B+1) (Fm t q):=by
 refine⟨by unfold Fm;simpa using h.1,fun j=>?_⟩
 unfold Fm
 rw [Jf (by have:=h.1;omega)]
 have:=h.2 j;have:=h.2 q.toNat
 split<;>omega
theorem Pa.up{N B:Nat}{t:List Int}(h:Pa N B t):Pa N (B+1) t:=⟨h.1,fun j=>by have:=h.2 j;omega⟩
theorem Pa.step{N B:Nat}{t:List Int}{q:Int}(h:Pa N B t)(h0:0<=q)(h1:q<N)(hB:B<=1048576):AO t q=some (gd t q.toNat)∧t.set q.toNat (IntKind.wrap .i64 (gd t q.toNat+1))=Fm t q:=by
 refine⟨OY h0 (by rw [h.1];exact h1),?_⟩
 have:=h.2 q.toNat
 rw [Af (by omega) (by omega)];rfl
theorem Ih{α σ:Type}{f:σ->α->σ}{xs:List α}{i:Nat}{s:σ}(h:i<xs.length):(xs.take (i+1)).foldl f s=f ((xs.take i).foldl f s) xs[i]:=by
 rw [List.take_succ_eq_append_getElem h,List.foldl_append];rfl
theorem dJ{n:Nat}{l:Ap}{d:AL}(hl:Mp l)(h:QR d)(hn:1048577<=n):AV ((∀x∈d.Instances,IJ l d x)∧∀p∈d.Ports,KA d p) (Xe n l d):=by
 have hi0:=h.inst.1;have hp0:=h.ports.1;have hn0:=h.nets.1;have hl0:=hl.few
 have wN:IntKind.wrap .i64 ((d.Nets.length:Int)-1)=(d.Nets.length:Int)-1:=Af (by omega) (by omega)
 have wL:IntKind.wrap .i64 ((l.Cells.length:Int)-1)=(l.Cells.length:Int)-1:=Af (by omega) (by omega)
 rw [Xe]
 refine(Dp (L:=fun m i=>Ey n l d _ m i) (Q:=∀p∈d.Ports,KA d p) d.Instances.length 0 (fun i=>∀(hi:i<d.Instances.length),IJ l d d.Instances[i]) ?_ ?_ n 0 (by omega) (by omega) (by omega) (fun j _ h=>by omega)).iff ⟨fun a=>⟨fun x hx=>?_,a.2⟩,fun a=>⟨fun i _ _ hi=>a.1 _ (List.getElem_mem hi),a.2⟩⟩
 ·intro m i _ hi
  simp only [Ey.eq_2,CV hi,cT,Ab hi,Ar,HF,wL,wT i]
  by_cases c1:0<=d.Instances[i].Cell∧d.Instances[i].Cell<=(l.Cells.length:Int)-1
  ·obtain⟨c,ec,hc⟩:=Dn (xs:=l.Cells) c1.1 (by omega)
   have d1:(decide (d.Instances[i].Cell>=0)&&decide (d.Instances[i].Cell<=(l.Cells.length:Int)-1))=true:=by simp only [Bool.and_eq_true,decide_eq_true_eq];omega
   simp only [d1,Bool.not_true,cF,ec,Ar]
   by_cases c2:d.Instances[i].Nets.length=c.Pins.length
   ·have d2:((d.Instances[i].Nets.length:Int) !=(c.Pins.length:Int))=false:=by rw [bne_eq_false_iff_eq];omega
    simp only [d2,cF]
    have hnl:=(h.inst.2 _ (List.getElem_mem hi)).2
    have key:Hm n d d.Instances[i] (fun i75=>Ey n l d (fun i25=>EW n d (fun i30=>some true) n 0) m ((i+1:Nat):Int)) n 0=bif d.Instances[i].Nets.all (fun k=>decide (k>=0)&&decide (k<=(d.Nets.length:Int)-1))then Ey n l d (fun i25=>EW n d (fun i30=>some true) n 0) m ((i+1:Nat):Int)else some false:=by
     refine Kr (xs:=d.Instances[i].Nets) (L:=fun q j=>Hm n d d.Instances[i] (fun i75=>Ey n l d (fun i25=>EW n d (fun i30=>some true) n 0) m ((i+1:Nat):Int)) q j) _ ?_ ?_ n (by omega)
     ·intro q j hj
      simp only [Hm.eq_2,CV hj,cT,Ab hj,Ar,HF,wN,wT j]
      cases(decide (d.Instances[i].Nets[j]>=0)&&decide (d.Instances[i].Nets[j]<=(d.Nets.length:Int)-1))<;>rfl
     ·intro q
      simp only [Hm.eq_2,Cc,cF]
    rw [key]
    cases ha:d.Instances[i].Nets.all (fun k=>decide (k>=0)&&decide (k<=(d.Nets.length:Int)-1))with
    |true=>
     rw [cT]
     exact .inl ⟨fun _=>⟨c1,fun c' e'=>(by rw [ec]at e';cases e';exact c2),LI.1 ha⟩,rfl⟩
    |false=>
     rw [cF]
     exact .inr ⟨fun g=>(by have:=LI.2 (g hi).nets;rw [ha]at this;cases this),rfl⟩
   ·have d2:((d.Instances[i].Nets.length:Int) !=(c.Pins.length:Int))=true:=by rw [bne_iff_ne];omega
    simp only [d2,cT]
    exact .inr ⟨fun g=>c2 ((g hi).pins c ec),by trivial⟩
  ·have d1:(decide (d.Instances[i].Cell>=0)&&decide (d.Instances[i].Cell<=(l.Cells.length:Int)-1))=false:=by rw [Bool.and_eq_false_iff,decide_eq_false_iff_not,decide_eq_false_iff_not];omega
   simp only [d1,Bool.not_false,cT,Ar]
   exact .inr ⟨fun g=>c1 (g hi).cell,by trivial⟩
 ·intro m i h1 h2 _
  obtain rfl:i=d.Instances.length:=by omega
  simp only [Ey.eq_2,Cc,cF]
  refine(Dp (L:=fun m i=>EW n d _ m i) (Q:=True) d.Ports.length 0 (fun i=>∀(hi:i<d.Ports.length),KA d d.Ports[i]) ?_ ?_ n 0 (by omega) (by omega) (by omega) (fun j _ h=>by omega)).iff ⟨fun a p hp=>?_,fun a=>⟨fun i _ _ hi=>a _ (List.getElem_mem hi),trivial⟩⟩
  ·intro m i _ hi
   simp only [EW.eq_2,CV hi,cT,Ab hi,Ar,HF,wN,DU,wT i]
   cases e1:(!(decide (d.Ports[i].Dir>=1)&&decide (d.Ports[i].Dir<=2))|| !(decide (d.Ports[i].Net>=0)&&decide (d.Ports[i].Net<=(d.Nets.length:Int)-1)))with
   |true=>
    rw [cT]
    refine .inr ⟨fun g=>?_,rfl⟩
    have:=(g hi).dir;have:=(g hi).net
    simp only [Bool.or_eq_true,Bool.not_eq_true',Bool.and_eq_false_iff,decide_eq_false_iff_not]at e1;omega
   |false=>
    rw [cF]
    simp only [Bool.or_eq_false_iff,Bool.not_eq_false',Bool.and_eq_true,decide_eq_true_eq]at e1
    exact .inl ⟨fun _=>⟨by omega,by omega⟩,rfl⟩
  ·intro m i h1 h2 _
   obtain rfl:i=d.Ports.length:=by omega
   simp only [EW.eq_2,Cc,cF]
   exact AV.yes trivial
  ·obtain⟨j,hj,rfl⟩:=List.getElem_of_mem hp
   exact a.1 j (by omega) hj hj
 ·obtain⟨j,hj,rfl⟩:=List.getElem_of_mem hx
  exact a.1 j (by omega) hj hj
theorem dC{n:Nat}{l:Ap}{d:AL}(h:Nc l)(hd:QR d)(hn:1048577<=n):AV (CL l d) (Vq n l d):=by
 have hi0:=hd.inst.1;have hp0:=hd.ports.1;have hn0:=hd.nets.1
 rw [Vq]
 refine(dP h hn).bind (fun vl=>?_) (fun vl=>?_)
 ·simp only [Bool.not_true,Bool.false_or]
  by_cases c:(d.Instances.length<=14∧d.Nets.length<=30)∧d.Ports.length<=8
  ·have e:(decide ((d.Instances.length:Int)>14)||decide ((d.Nets.length:Int)>30)||decide ((d.Ports.length:Int)>8))=false:=by simp only [Bool.or_eq_false_iff,decide_eq_false_iff_not];omega
   simp only [e,cF]
   obtain⟨b,eb,hb⟩:=dJ (n:=n) vl hd hn
   rw [eb,Ar,Ar]
   cases b with
   |false=>
    simp only [Bool.not_false,cT]
    exact AV.no fun v=>by have:=hb.2 ⟨v.inst,v.port⟩;cases this
   |true=>
    obtain⟨v1,v2⟩:=hb.1 rfl
    simp only [Bool.not_true,cF]
    rw [Gq (xs:=d.Instances) (·.Name) (L:=fun m s i=>Is d _ m s i) (k:=fun s=>GQ d _ n [] 0) hi0 (by
     intro m i hi s
     simp only [Is.eq_2,CV hi,cT,Ab hi,Ar,wT i]) (by
     intro m s
     simp only [Is.eq_2,Cc,cF];rfl) n (by omega)]
    rw [Gq (xs:=d.Ports) (·.Name) (L:=fun m s i=>GQ d _ m s i) hp0 (by
     intro m i hi s
     simp only [GQ.eq_2,CV hi,cT,Ab hi,Ar,wT i]) (by
     intro m s
     simp only [GQ.eq_2,Cc,cF];rfl) n (by omega)]
    obtain⟨b1,e1,h1⟩:=UX (n:=n) (xs:=d.Instances.map (·.Name)) (by simpa using hi0) (fun x hx=>by obtain⟨y,hy,rfl⟩:=List.mem_map.1 hx;exact(hd.inst.2 y hy).1) hn
    obtain⟨b2,e2,h2⟩:=UX (n:=n) (xs:=d.Ports.map (·.Name)) (by simpa using hp0) (fun x hx=>by obtain⟨y,hy,rfl⟩:=List.mem_map.1 hx;exact hd.ports.2 y hy) hn
    obtain⟨b3,e3,h3⟩:=UX (n:=n) (xs:=d.Nets) hn0 hd.nets.2 hn
    simp only [e1,e2,e3,Ar,DU]
    cases eb:((!b1|| !b2)|| !b3)with
    |true=>
     rw [cT]
     refine AV.no fun v=>?_
     have:=h1.2 v.ni;have:=h2.2 v.np;have:=h3.2 v.nn
     subst b1 b2 b3;cases eb
    |false=>
     rw [cF]
     simp only [Bool.or_eq_false_iff,Bool.not_eq_false']at eb
     obtain⟨⟨rfl,rfl⟩,rfl⟩:=eb
     rw [EX (by omega) (by omega),Ar]
     have k1:=Lk (xs:=d.Instances) (L:=fun m i s=>GD d (fun i149 l151=>ED d (fun i155 l157=>DT l157 (fun i161=>some true) n 0) n 0 l151) m i s) (k:=fun s=>ED d (fun i155 l157=>DT l157 (fun i161=>some true) n 0) n 0 s) cI (fun i s=>Pa d.Nets.length i s) (by
      intro m i hi s hs
      have hv:=v1 _ (List.getElem_mem hi)
      have hv2:=hv.long vl
      obtain⟨q0,q1⟩:=hv.last vl
      obtain⟨g1,g2⟩:=hs.step q0 q1 (by omega)
      have wx:IntKind.wrap .i64 ((d.Instances[i].Nets.length:Int)-1)=((d.Instances[i].Nets.length-1:Nat):Int):=by rw [Af (by omega) (by omega)];omega
      refine⟨?_,hs.bump q0 q1⟩
      simp only [GD.eq_2,CV hi,cT,Ab hi,Ar,wx,gI (show d.Instances[i].Nets.length-1<d.Instances[i].Nets.length by omega),wT i]
      rw [show gd d.Instances[i].Nets (d.Instances[i].Nets.length-1)=Hc d.Instances[i]from rfl,g1,Ar,Ar,g2];rfl) (by
      intro m s _
      simp only [GD.eq_2,Cc,cF]) n (List.replicate d.Nets.length 0) ⟨by simp,fun j=>by rw [Ki];omega⟩ (by omega)
     rw [k1.1]
     have k2:=Lk (xs:=d.Ports) (L:=fun m i s=>ED d (fun i155 l157=>DT l157 (fun i161=>some true) n 0) m i s) (k:=fun s=>DT s (fun i161=>some true) n 0) cP (fun i s=>Pa d.Nets.length (d.Instances.length+i) s) (by
      intro m i hi s hs
      have hv:=v2 _ (List.getElem_mem hi)
      obtain⟨g1,g2⟩:=hs.step hv.net.1 (by have:=hv.net.2;omega) (by omega)
      simp only [ED.eq_2,CV hi,cT,Ab hi,Ar,wT i,g1,g2]
      by_cases c:d.Ports[i].Dir=1
      ·have e:(d.Ports[i].Dir==1)=true:=beq_iff_eq.2 c
       have e':cP s d.Ports[i]=Fm s d.Ports[i].Net:=if_pos c
       rw [e,cT,e']
       exact⟨rfl,hs.bump hv.net.1 (by have:=hv.net.2;omega)⟩
      ·have e:(d.Ports[i].Dir==1)=false:=beq_eq_false_iff_ne.2 c
       have e':cP s d.Ports[i]=s:=if_neg c
       rw [e,cF,e']
       exact⟨rfl,hs.up⟩) (by
      intro m s _
      simp only [ED.eq_2,Cc,cF]) n _ k1.2 (by omega)
     rw [k2.1]
     show AV _ (DT (Qc d) (fun i161=>some true) n 0)
     have hlen:(Qc d).length=d.Nets.length:=k2.2.1
     refine(Dp (L:=fun m i=>DT (Qc d) (fun i161=>some true) m i) (Q:=True) d.Nets.length 0 (fun i=>gd (Qc d) i=1) ?_ ?_ n 0 (by omega) (by omega) (by omega) (fun j _ h=>by omega)).iff ⟨fun a=>⟨vl,⟨c.1.1,c.1.2,c.2⟩,v1,v2,h1.1 rfl,h2.1 rfl,h3.1 rfl,fun i hi=>a.1 i (by omega) hi⟩,fun v=>⟨fun i _ hi=>v.one i hi,trivial⟩⟩
     ·intro m i _ hi
      have hi':i<(Qc d).length:=by omega
      simp only [DT.eq_2,CV hi',cT,gI hi',Ar,wT i]
      by_cases c:gd (Qc d) i=1
      ·have e:(gd (Qc d) i !=1)=false:=bne_eq_false_iff_eq.2 c
       rw [e,cF];exact .inl ⟨c,rfl⟩
      ·have e:(gd (Qc d) i !=1)=true:=bne_iff_ne.2 c
       rw [e,cT];exact .inr ⟨c,rfl⟩
     ·intro m i q1 q2 _
      obtain rfl:i=d.Nets.length:=by omega
      rw [←hlen]
      simp only [DT.eq_2,Cc,cF]
      exact AV.yes trivial
  ·have e:(decide ((d.Instances.length:Int)>14)||decide ((d.Nets.length:Int)>30)||decide ((d.Ports.length:Int)>8))=true:=by simp only [Bool.or_eq_true,decide_eq_true_eq];omega
   simp only [e,cT,Ar]
   exact AV.no fun v=>c ⟨⟨v.few.1,v.few.2.1⟩,v.few.2.2⟩
 ·simp only [Bool.not_false,Bool.true_or,cT,Ar]
  exact AV.no fun v=>vl v.lib
theorem fJ{n:Nat}{d:AL}(hd:QR d)(hn:1048577<=n):AV (((((d.Instances.length<=14∧d.Nets.length<=30)∧d.Ports.length<=8)∧EI (d.Instances.map (·.Name)))∧EI d.Nets)∧EI (d.Ports.map (·.Name))) (YH n d):=by
 have hi0:=hd.inst.1;have hp0:=hd.ports.1;have hn0:=hd.nets.1
 rw [YH]
 rw [Gq (xs:=d.Instances) (·.Name) (L:=fun m s i=>Ii d _ m s i) (k:=fun s=>GE d _ n [] 0) hi0 (by
  intro m i hi s
  simp only [Ii.eq_2,CV hi,cT,Ab hi,Ar,wT i]) (by
  intro m s
  simp only [Ii.eq_2,Cc,cF];rfl) n (by omega)]
 rw [Gq (xs:=d.Ports) (·.Name) (L:=fun m s i=>GE d _ m s i) hp0 (by
  intro m i hi s
  simp only [GE.eq_2,CV hi,cT,Ab hi,Ar,wT i]) (by
  intro m s
  simp only [GE.eq_2,Cc,cF];rfl) n (by omega)]
 simp only [LK,List.length_map]
 refine AV.ab (AV.and (P:=(d.Instances.length<=14∧d.Nets.length<=30)∧d.Ports.length<=8) (Q:=EI (d.Instances.map fun x:Ak=>x.Name)) ?_ fun _=>AN (xs:=d.Instances.map fun x:Ak=>x.Name) (by simpa using hi0) (fun x hx=>by obtain⟨y,hy,rfl⟩:=List.mem_map.1 hx;exact(hd.inst.2 y hy).1) hn) fun c1 e1=>?_
 ·simp only [Bool.and_eq_true,decide_eq_true_eq];omega
 refine AV.ab (AV.and (Q:=EI d.Nets) e1 fun _=>AN hn0 hd.nets.2 hn) fun c2 e2=>?_
 exact AV.and (Q:=EI (d.Ports.map fun x:BN=>x.Name)) e2 fun _=>AN (xs:=d.Ports.map fun x:BN=>x.Name) (by simpa using hp0) (fun x hx=>by obtain⟨y,hy,rfl⟩:=List.mem_map.1 hx;exact hd.ports.2 y hy) hn
theorem nN{n:Nat}{d:AL}{q:Int}(hn0:d.Nets.length<=1048576):PT n d q=some (decide (q>=0)&&decide (q<=(d.Nets.length:Int)-1)):=by
 have wN:IntKind.wrap .i64 ((d.Nets.length:Int)-1)=(d.Nets.length:Int)-1:=Af (by omega) (by omega)
 simp only [PT,TI,It,Ar,wN]
theorem ZR{n:Nat}{l:Ap}{d:AL}{x:Ak}(hl:Mp l)(hn0:d.Nets.length<=1048576)(hx:x.Nets.length<=1048576)(hn:1048577<=n):AV (IJ l d x) (Pw n d l x):=by
 have hl0:=hl.few
 have wL:IntKind.wrap .i64 ((l.Cells.length:Int)-1)=(l.Cells.length:Int)-1:=Af (by omega) (by omega)
 rw [Pw]
 simp only [TD,It,Ar,wL,LK]
 by_cases c1:0<=x.Cell∧x.Cell<=(l.Cells.length:Int)-1
 ·obtain⟨c,ec,hc⟩:=Dn (xs:=l.Cells) c1.1 (by omega)
  have d1:(decide (x.Cell>=0)&&decide (x.Cell<=(l.Cells.length:Int)-1))=true:=by simp only [Bool.and_eq_true,decide_eq_true_eq];omega
  simp only [d1,cT,ec,Ar]
  by_cases c2:x.Nets.length=c.Pins.length
  ·have d2:((x.Nets.length:Int)==(c.Pins.length:Int))=true:=by rw [beq_iff_eq];omega
   simp only [d2,cT,So,TW]
   obtain⟨r,e,h⟩:=HR (xs:=x.Nets) (L:=fun m i=>Gh n x.Nets d (fun i7=>(some (-1))) m i) (fun q=>!((decide (q>=0))&&(decide (q<=(d.Nets.length:Int)-1)))) (by
    intro m i hi
    simp only [Gh.eq_2,CV hi,cT,Ab hi,Ar,TP,nN hn0,wT i]) (by
    intro m
    simp only [Gh.eq_2,Cc,cF]) n (by omega)
   simp only [e,Ar]
   refine(AV.val (P:=TH x.Nets 0 ((d.Nets.length:Int)-1)) ?_).iff ⟨fun w=>⟨c1,fun c' e'=>(by rw [ec]at e';cases e';exact c2),w⟩,fun v=>v.nets⟩
   rw [h,List.any_eq_not_all_not,Bool.not_not]
   simp only [Bool.not_not]
   exact LI
  ·have d2:((x.Nets.length:Int)==(c.Pins.length:Int))=false:=by rw [beq_eq_false_iff_ne];omega
   simp only [d2,cF]
   exact AV.no fun v=>c2 (v.pins c ec)
 ·have d1:(decide (x.Cell>=0)&&decide (x.Cell<=(l.Cells.length:Int)-1))=false:=by rw [Bool.and_eq_false_iff,decide_eq_false_iff_not,decide_eq_false_iff_not];omega
  simp only [d1,cF,Ar]
  exact AV.no fun v=>c1 v.cell
theorem dM{n:Nat}{l:Ap}{d:AL}(h:Nc l)(hd:QR d)(hn:1048577<=n):AV (CL l d) (Xg n l d):=by
 have hi0:=hd.inst.1;have hp0:=hd.ports.1;have hn0:=hd.nets.1
 rw [Xg]
 refine(fE h hn).bind (fun vl=>?_) (fun vl=>?_)
 ·simp only [Bool.not_true,cF]
  obtain⟨b,eb,hb⟩:=fJ (n:=n) hd hn
  rw [eb,Ar,Ar]
  cases b with
  |false=>
   simp only [Bool.not_false,cT]
   exact AV.no fun v=>by have:=hb.2 ⟨⟨⟨⟨⟨v.few.1,v.few.2.1⟩,v.few.2.2⟩,v.ni⟩,v.nn⟩,v.np⟩;cases this
  |true=>
   obtain⟨⟨⟨c,hni⟩,hnn⟩,hnp⟩:=hb.1 rfl
   simp only [Bool.not_true,cF]
   rw [EX (by omega) (by omega),Ar]
   refine loop (L:=fun m i s=>In n l d _ m i s) d.Instances.length (fun i s=>(s=(d.Instances.take i).foldl cI (List.replicate d.Nets.length 0)∧Pa d.Nets.length i s)∧∀j (hj:j<d.Instances.length),j<i->IJ l d d.Instances[j]) (fun o=>AV (CL l d) o) ?_ ?_ n 0 _ (by omega) (by omega) ⟨⟨by simp,⟨by simp,fun j=>by rw [Ki];omega⟩⟩,fun j _ h=>by omega⟩
   ·intro m i s hi ⟨⟨hs,hc⟩,hI⟩
    obtain⟨b,eb,hb⟩:=ZR (n:=n) vl hn0 (hd.inst.2 _ (List.getElem_mem hi)).2 hn
    simp only [In.eq_2,CV hi,cT,Ab hi,Ar,eb,wT i]
    cases b with
    |false=>
     simp only [Bool.not_false,cT]
     exact .inr (AV.no fun v=>by have:=hb.2 (v.inst _ (List.getElem_mem hi));cases this)
    |true=>
     simp only [Bool.not_true,cF]
     have hv:=hb.1 rfl
     have hv2:=hv.long vl
     obtain⟨q0,q1⟩:=hv.last vl
     obtain⟨g1,g2⟩:=hc.step q0 q1 (by omega)
     have wx:IntKind.wrap .i64 ((d.Instances[i].Nets.length:Int)-1)=((d.Instances[i].Nets.length-1:Nat):Int):=by rw [Af (by omega) (by omega)];omega
     refine .inl ⟨cI s d.Instances[i],⟨⟨by rw [Ih hi,hs],hc.bump q0 q1⟩,fun j hj hji=>?_⟩,?_⟩
     ·by_cases ej:j=i
      ·subst ej;exact hv
      ·exact hI j hj (by omega)
     ·rw [wx,gI (show d.Instances[i].Nets.length-1<d.Instances[i].Nets.length by omega),show gd d.Instances[i].Nets (d.Instances[i].Nets.length-1)=Hc d.Instances[i]from rfl,Ar,g1,Ar,Ar,g2];rfl
   ·intro m s ⟨⟨hs,hc⟩,hI⟩
    rw [List.take_length]at hs
    have v1:∀x∈d.Instances,IJ l d x:=fun x hx=>by obtain⟨j,hj,rfl⟩:=List.getElem_of_mem hx;exact hI j hj hj
    simp only [In.eq_2,Cc,cF]
    refine loop (L:=fun m i s=>GY n d _ m i s) d.Ports.length (fun i s'=>(s'=(d.Ports.take i).foldl cP s∧Pa d.Nets.length (d.Instances.length+i) s')∧∀j (hj:j<d.Ports.length),j<i->KA d d.Ports[j]) (fun o=>AV (CL l d) o) ?_ ?_ n 0 _ (by omega) (by omega) ⟨⟨by simp,hc⟩,fun j _ h=>by omega⟩
    ·intro m i s' hi ⟨⟨hs',hc'⟩,hI'⟩
     simp only [GY.eq_2,CV hi,cT,Ab hi,Ar,nN hn0,DU,wT i]
     cases e1:(((d.Ports[i].Dir !=1)&&(d.Ports[i].Dir !=2))|| !(decide (d.Ports[i].Net>=0)&&decide (d.Ports[i].Net<=(d.Nets.length:Int)-1)))with
     |true=>
      rw [cT]
      refine .inr (AV.no fun v=>?_)
      have g:=v.port _ (List.getElem_mem hi)
      have:=g.dir;have:=g.net
      simp only [Bool.or_eq_true,Bool.not_eq_true',Bool.and_eq_false_iff,Bool.and_eq_true,decide_eq_false_iff_not,bne_iff_ne,ne_eq]at e1;omega
     |false=>
      rw [cF]
      simp only [Bool.or_eq_false_iff,Bool.not_eq_false',Bool.and_eq_true,Bool.and_eq_false_iff,decide_eq_true_eq,bne_eq_false_iff_eq]at e1
      have hv:KA d d.Ports[i]:=⟨e1.1,e1.2⟩
      obtain⟨g1,g2⟩:=hc'.step hv.net.1 (by have:=hv.net.2;omega) (by omega)
      have hV:∀j (hj:j<d.Ports.length),j<i+1->KA d d.Ports[j]:=fun j hj hji=>by
       by_cases ej:j=i
       ·subst ej;exact hv
       ·exact hI' j hj (by omega)
      simp only [g1,g2,Ar]
      by_cases c:d.Ports[i].Dir=1
      ·have e:(d.Ports[i].Dir==1)=true:=beq_iff_eq.2 c
       have e':cP s' d.Ports[i]=Fm s' d.Ports[i].Net:=if_pos c
       rw [e,cT]
       exact .inl ⟨_,⟨⟨by rw [Ih hi,←hs',e'],hc'.bump hv.net.1 (by have:=hv.net.2;omega)⟩,hV⟩,rfl⟩
      ·have e:(d.Ports[i].Dir==1)=false:=beq_eq_false_iff_ne.2 c
       have e':cP s' d.Ports[i]=s':=if_neg c
       rw [e,cF]
       exact .inl ⟨_,⟨⟨by rw [Ih hi,←hs',e'],hc'.up⟩,hV⟩,rfl⟩
    ·intro m s' ⟨⟨hs',hc'⟩,hI'⟩
     rw [List.take_length,hs]at hs'
     have hs':s'=Qc d:=hs'
     have v2:∀p∈d.Ports,KA d p:=fun x hx=>by obtain⟨j,hj,rfl⟩:=List.getElem_of_mem hx;exact hI' j hj hj
     simp only [GY.eq_2,Cc,cF,PU,TB]
     have hl':=hc'.1
     obtain⟨r,e,h⟩:=HR (xs:=s') (L:=fun m i=>Gw n s' (fun i7=>(some (-1))) m i) (fun q=>q !=1) (by
      intro m i hi
      simp only [Gw.eq_2,CV hi,cT,Ab hi,Ar,TK,wT i]) (by
      intro m
      simp only [Gw.eq_2,Cc,cF]) n (by omega)
     simp only [e,Ar]
     refine AV.val ?_
     rw [h,Bool.not_eq_true',List.any_eq_false]
     refine⟨fun a=>⟨vl,⟨c.1.1,c.1.2,c.2⟩,v1,v2,hni,hnp,hnn,fun i hi=>?_⟩,fun v x hx=>?_⟩
     ·have:=a s'[i] (List.getElem_mem (by omega))
      rw [←hs',IV (List.getElem?_eq_getElem (show i<s'.length by omega))]
      simpa using this
     ·obtain⟨j,hj,rfl⟩:=List.getElem_of_mem hx
      have:=v.one j (by omega)
      rw [←hs',IV (List.getElem?_eq_getElem hj)]at this
      simp [this]
 ·simp only [Bool.not_false,cT,Ar]
  exact AV.no fun v=>vl v.lib
def CY{α β:Type}(g:Nat->α->List β):Nat->List α->List β
 |_,[]=>[]
 |i,x::xs=>g i x++CY g (i+1) xs
theorem IY{α β:Type}{g:Nat->α->List β}:∀(xs ys:List α) (i:Nat),CY g i (xs++ys)=CY g i xs++CY g (i+xs.length) ys
 |[],ys,i=>by simp [CY]
 |x::xs,ys,i=>by simp only [List.cons_append,CY,IY xs ys (i+1),List.append_assoc,List.length_cons];rw [show i+1+xs.length=i+(xs.length+1) by omega]
theorem Du{α β:Type}{g:Nat->α->List β}{xs:List α}{i:Nat}(h:i<xs.length):CY g 0 (xs.take (i+1))=CY g 0 (xs.take i)++g i xs[i]:=by
 rw [List.take_succ_eq_append_getElem h,IY]
 simp [CY,Nat.min_eq_left (Nat.le_of_lt h)]
theorem CQ{α β:Type}{g:Nat->α->List β}{c:Nat}:∀(xs:List α) (i:Nat),(∀j,∀x∈xs,(g j x).length<=c)->(CY g i xs).length<=xs.length*c
 |[],i,_=>by simp [CY]
 |x::xs,i,h=>by
  have h1:=h i x (by simp)
  have h2:=CQ xs (i+1) fun j y hy=>h j y (by simp [hy])
  simp only [CY,List.length_append,List.length_cons,Nat.add_mul];omega
theorem ML{α β γ:Type}{g:Nat->α->List β}(f:β->γ):∀(xs:List α) (i:Nat),(CY g i xs).map f=CY (fun i x=>(g i x).map f) i xs
 |[],i=>rfl
 |x::xs,i=>by simp only [CY,List.map_append,ML f xs (i+1)]
theorem Bs{α β R:Type}{xs:List α}{L:Nat->List β->Int->Option R}{k:List β->Option R}(g:Nat->α->List β)(c B:Nat)(hg:∀j,∀x∈xs,(g j x).length<=c)(hB:B+xs.length*c<=1048576)
 (hs:∀(m i:Nat) (h:i<xs.length) (s:List β),s.length+c<=1048576->L (m+1) s (i:Int)=L m (s++g i xs[i]) ((i+1:Nat):Int))
 (he:∀(m:Nat) (s:List β),L (m+1) s (xs.length:Int)=k s) (m:Nat) (hm:xs.length<m) (s0:List β) (h0:s0.length<=B):L m s0 0=k (s0++CY g 0 xs):=by
 refine loop (L:=fun m i s=>L m s i) xs.length (fun i s=>s=s0++CY g 0 (xs.take i)) (fun o=>o=k (s0++CY g 0 xs)) ?_ ?_ m 0 s0 (by omega) (by omega) (by simp [CY])
 ·intro m i s hi e
  refine .inl ⟨s++g i xs[i],?_,hs m i hi s ?_⟩
  ·rw [e,Du hi,List.append_assoc]
  ·have h1:=CQ (g:=g) (c:=c) (xs.take i) 0 fun j y hy=>hg j y (List.mem_of_mem_take hy)
   have h2:(xs.take i).length=i:=by simp;omega
   rw [h2]at h1
   have h3:(i+1)*c<=xs.length*c:=Nat.mul_le_mul_right c hi
   rw [Nat.add_mul]at h3
   rw [e,List.length_append];omega
 ·intro m s e
  rw [List.take_length]at e
  show L (m+1) s (xs.length:Int)=_
  rw [he,e]
def Jl(i:Nat)(x:Ak):List Au:=CY (fun j q=>[Au.mk i j q ((j:Int)==(x.Nets.length:Int)-1)]) 0 x.Nets
def Pu(i:Nat)(p:BN):List Au:=[Au.mk (-1) i p.Net (p.Dir==1)]
def pls(d:AL):List Au:=CY Jl 0 d.Instances++CY Pu 0 d.Ports
def FF(p:Au):Ax:=⟨p.instance_,p.pin_,p.net_,p.drives_⟩
theorem KN{i:Nat}{x:Ak}(h:x.Nets.length<=5):(Jl i x).length<=5:=by
 have:=CQ (c:=1) (g:=fun j q=>[Au.mk i j q ((j:Int)==(x.Nets.length:Int)-1)]) x.Nets 0 fun j q _=>by simp
 unfold Jl;omega
theorem CW{d:AL}(h:∀x∈d.Instances,x.Nets.length<=5)(h1:d.Instances.length<=14)(h2:d.Ports.length<=8):(pls d).length<=78:=by
 have a:=CQ (c:=5) (g:=Jl) d.Instances 0 fun j q hq=>KN (h q hq)
 have b:=CQ (c:=1) (g:=Pu) d.Ports 0 fun j q _=>by simp [Pu]
 unfold pls;rw [List.length_append];omega
theorem Tb{n:Nat}{d:AL}(h:∀x∈d.Instances,x.Nets.length<=5)(h1:d.Instances.length<=14)(h2:d.Ports.length<=8)(hn:1048577<=n):UL n d=some (pls d):=by
 rw [UL]
 have a:=CQ (c:=5) (g:=Jl) d.Instances 0 fun j q hq=>KN (h q hq)
 rw [Bs (xs:=d.Instances) (L:=fun m s i=>GI n d _ m s i) (k:=fun s=>Fh d _ n s 0) Jl 5 0 (fun j q hq=>KN (h q hq)) (by omega) (by
  intro m i hi s hs
  have hx:=h _ (List.getElem_mem hi)
  have wx:IntKind.wrap .i64 ((d.Instances[i].Nets.length:Int)-1)=(d.Instances[i].Nets.length:Int)-1:=Af (by omega) (by omega)
  simp only [GI.eq_2,CV hi,cT,Ab hi,Ar,wT i]
  refine Bs (xs:=d.Instances[i].Nets) (L:=fun m s j=>Ik (i:Int) d.Instances[i] _ m s j) (k:=fun s=>GI n d _ m s ((i+1:Nat):Int)) (fun j q=>[Au.mk i j q ((j:Int)==(d.Instances[i].Nets.length:Int)-1)]) 1 s.length (fun j q _=>by simp) (by omega) ?_ ?_ n (by omega) s (by omega)
  ·intro m j hj s hs
   simp only [Ik.eq_2,CV hj,cT,Ab hj,Ar,wx,wT j]
   rw [BA (by simp;omega) (by omega),Ar]
  ·intro m s
   simp only [Ik.eq_2,Cc,cF]) (by
  intro m s
  simp only [GI.eq_2,Cc,cF];rfl) n (by omega) [] (by simp)]
 rw [Bs (xs:=d.Ports) (L:=fun m s i=>Fh d _ m s i) (k:=fun s=>some s) Pu 1 70 (fun j q _=>by simp [Pu]) (by omega) (by
  intro m i hi s hs
  simp only [Fh.eq_2,CV hi,cT,Ab hi,Ar,wT i]
  rw [BA (by simp;omega) (by omega),Ar];rfl) (by
  intro m s
  simp only [Fh.eq_2,Cc,cF]) n (by omega) _ (by simp;omega)]
 simp [pls]
theorem NQ{n:Nat}{d:AL}(h:∀x∈d.Instances,x.Nets.length<=5)(h1:d.Instances.length<=14)(h2:d.Ports.length<=8)(hn:1048577<=n):Pb n d=some ((pls d).map FF):=by
 rw [Pb]
 have hlI:∀j,∀x∈d.Instances,((Jl j x).map FF).length<=5:=fun j x hx=>by rw [List.length_map];exact KN (h x hx)
 have a:=CQ (c:=5) (g:=fun i x=>(Jl i x).map FF) d.Instances 0 hlI
 rw [Bs (xs:=d.Instances) (L:=fun m s i=>GM n d _ m s i) (k:=fun s=>Fk d _ n s 0) (fun i x=>(Jl i x).map FF) 5 0 hlI (by omega) (by
  intro m i hi s hs
  have hx:=h _ (List.getElem_mem hi)
  have wx:IntKind.wrap .i64 ((d.Instances[i].Nets.length:Int)-1)=(d.Instances[i].Nets.length:Int)-1:=Af (by omega) (by omega)
  simp only [GM.eq_2,CV hi,cT,Ab hi,Ar,wT i]
  rw [Jl,ML]
  refine Bs (xs:=d.Instances[i].Nets) (L:=fun m s j=>Iu (i:Int) d.Instances[i] _ m s j) (k:=fun s=>GM n d _ m s ((i+1:Nat):Int)) (fun j q=>[Au.mk i j q ((j:Int)==(d.Instances[i].Nets.length:Int)-1)].map FF) 1 s.length (fun j q _=>by simp) (by omega) ?_ ?_ n (by omega) s (by omega)
  ·intro m j hj s hs
   simp only [Iu.eq_2,CV hj,cT,Ab hj,Ar,wx,wT j]
   rw [BA (by simp;omega) (by omega),Ar];rfl
  ·intro m s
   simp only [Iu.eq_2,Cc,cF]) (by
  intro m s
  simp only [GM.eq_2,Cc,cF];rfl) n (by omega) [] (by simp)]
 rw [Bs (xs:=d.Ports) (L:=fun m s i=>Fk d _ m s i) (k:=fun s=>some s) (fun i x=>(Pu i x).map FF) 1 70 (fun j q _=>by simp [Pu]) (by omega) (by
  intro m i hi s hs
  simp only [Fk.eq_2,CV hi,cT,Ab hi,Ar,wT i]
  rw [BA (by simp;omega) (by omega),Ar];rfl) (by
  intro m s
  simp only [Fk.eq_2,Cc,cF]) n (by omega) _ (by simp;omega)]
 simp [pls,ML]
def De(q:Int)(p:Au):Bool:=p.net_==q&& !p.drives_
def QJ(d:AL)(q:Int):Nat:=(pls d).countP (De q)
structure CZ(b:AP):Prop where
 design:CL b.Library b.Design
 many:b.Wires.length=b.Design.Nets.length
 wire:∀i (h:i<b.Wires.length),NW b.Wires[i] (QJ b.Design i)
def eV(w:BI):Prop:=((w.Parent.length<=1048576∧w.Res.length<=1048576)∧w.Cap.length<=1048576)∧w.Sink.length<=1048576
structure Ps(b:AP):Prop where
 lib:Nc b.Library
 design:QR b.Design
 wires:b.Wires.length<=1048576∧∀w∈b.Wires,eV w
theorem CL.short{l:Ap}{d:AL}(v:CL l d):∀x∈d.Instances,x.Nets.length<=5:=fun x hx=>((v.inst x hx).long v.lib).2
theorem Cl{α β:Type}{g:Nat->α->List β}{Q:β->Prop}:∀(xs:List α) (i:Nat),(∀j (h:j<xs.length),∀y∈g (i+j) xs[j],Q y)->∀y∈CY g i xs,Q y
 |[],i,_,y,hy=>by simp [CY]at hy
 |x::xs,i,h,y,hy=>by
  simp only [CY,List.mem_append]at hy
  rcases hy with hy|hy
  ·exact h 0 (by simp) y (by simpa using hy)
  ·refine Cl xs (i+1) (fun j hj y hy=>h (j+1) (by simpa using hj) y ?_) y hy
   simpa [show i+1+j=i+(j+1) by omega] using hy
theorem CL.net{l:Ap}{d:AL}(v:CL l d):∀p∈pls d,0<=p.net_∧p.net_<d.Nets.length:=by
 intro p hp
 simp only [pls,List.mem_append]at hp
 rcases hp with hp|hp
 ·refine Cl (Q:=fun p:Au=>0<=p.net_∧p.net_<d.Nets.length) d.Instances 0 (fun j hj y hy=>?_) p hp
  refine Cl (Q:=fun p:Au=>0<=p.net_∧p.net_<d.Nets.length) _ 0 (fun k hk z hz=>?_) y hy
  have:=(v.inst _ (List.getElem_mem hj)).nets k hk
  rw [IV (List.getElem?_eq_getElem hk)]at this
  simp only [List.mem_singleton]at hz
  subst hz;show 0<=d.Instances[j].Nets[k]∧d.Instances[j].Nets[k]<_;omega
 ·refine Cl (Q:=fun p:Au=>0<=p.net_∧p.net_<d.Nets.length) d.Ports 0 (fun j hj y hy=>?_) p hp
  have:=(v.port _ (List.getElem_mem hj)).net
  simp only [Pu,List.mem_singleton]at hy
  subst hy;show 0<=d.Ports[j].Net∧d.Ports[j].Net<_;omega
def EA(d:AL)(q:Int):List Int:=CY (fun i p=>if De q p=true then [(i:Int)]else []) 0 (pls d)
theorem EO{d:AL}{q:Int}:(EA d q).length=QJ d q:=by
 have:∀(xs:List Au) (i:Nat),(CY (fun i p=>if De q p=true then [(i:Int)]else []) i xs).length=xs.countP (De q):=by
  intro xs
  induction xs with
  |nil=>intro i;rfl
  |cons x xs ih=>
   intro i
   simp only [CY,List.length_append,ih,List.countP_cons]
   split<;>simp<;>omega
 exact this _ 0
theorem VY{n:Nat}{l:Ap}{d:AL}(v:CL l d)(q:Int)(hn:1048577<=n):SP n d q=some (EA d q):=by
 rw [SP,NQ v.short v.few.1 v.few.2.2 hn,Ar]
 have hl:=CW v.short v.few.1 v.few.2.2
 have e:((pls d).map FF).length=(pls d).length:=by simp
 have:=Bs (xs:=(pls d).map FF) (L:=fun m s i=>FE q ((pls d).map FF) (fun l38 i42=>some l38) m s i) (k:=fun s=>some s) (fun i p=>if (p.net_==q&& !p.drives_)=true then [(i:Int)]else []) 1 0 (fun j p _=>by split<;>simp) (by omega) (by
  intro m i hi s hs
  simp only [FE.eq_2,CV hi,cT,Ab hi,Ar,CS,wT i]
  cases c:(((pls d).map FF)[i].net_==q&& !((pls d).map FF)[i].drives_)with
  |true=>rw [cT,if_pos rfl,BA (by simp;omega) (by omega),Ar]
  |false=>rw [cF,if_neg (by simp),List.append_nil]) (by
  intro m s
  simp only [FE.eq_2,Cc,cF]) n (by omega) [] (by simp)
 rw [this,List.nil_append]
 congr 1
 have:∀(xs:List Au) (i:Nat),CY (fun i (p:Ax)=>if (p.net_==q&& !p.drives_)=true then [(i:Int)]else []) i (xs.map FF)=CY (fun i p=>if De q p=true then [(i:Int)]else []) i xs:=by
  intro xs
  induction xs with
  |nil=>intro i;rfl
  |cons x xs ih=>intro i;simp only [List.map_cons,CY,ih];rfl
 exact this _ 0
theorem cR{n:Nat}{b:AP}(h:Ps b)(hn:1048577<=n):AV (CZ b) (PM n b):=by
 have hw0:=h.wires.1
 rw [PM]
 refine(dC h.lib h.design hn).bind (fun v=>?_) (fun v=>?_)
 ·simp only [Bool.not_true,Bool.false_or]
  refine AV.bif (fun c=>AV.no fun g=>?_) (fun c=>?_)
  ·have:=g.many;rw [bne_iff_ne]at c;omega
  ·rw [bne_eq_false_iff_eq]at c
   refine(Dp (L:=fun m i=>GP n b _ m i) (Q:=True) b.Wires.length 0 (fun i=>∀(hi:i<b.Wires.length),NW b.Wires[i] (QJ b.Design i)) ?_ ?_ n 0 (by omega) (by omega) (by omega) (fun j _ h=>by omega)).iff ⟨fun a=>⟨v,by omega,fun i hi=>a.1 i (by omega) hi hi⟩,fun a=>⟨fun i _ _ hi=>a.wire i hi,trivial⟩⟩
   ·intro m i _ hi
    obtain⟨r,e,hr⟩:=dZ (n:=n) (w:=b.Wires[i]) (s:=(QJ b.Design i:Int)) (h.wires.2 _ (List.getElem_mem hi)).2 hn
    simp only [GP.eq_2,CV hi,cT,Ab hi,Ar,VY v _ hn,EO,e,wT i]
    cases r with
    |true=>exact .inl ⟨fun _=>hr.1 rfl,by trivial⟩
    |false=>exact .inr ⟨fun g=>(by have:=hr.2 (g hi);cases this),by trivial⟩
   ·intro m i h1 h2 _
    obtain rfl:i=b.Wires.length:=by omega
    simp only [GP.eq_2,Cc,cF]
    exact AV.yes trivial
 ·simp only [Bool.not_false,Bool.true_or,cT]
  exact AV.no fun g=>v g.design
theorem eJ{n:Nat}{b:AP}(h:Ps b)(hn:1048577<=n):AV (CZ b) (XK n b):=by
 have hw0:=h.wires.1
 rw [XK]
 refine(dM h.lib h.design hn).bind (fun v=>?_) (fun v=>?_)
 ·simp only [Bool.not_true,Bool.false_or]
  refine AV.bif (fun c=>AV.no fun g=>?_) (fun c=>?_)
  ·have:=g.many;rw [bne_iff_ne]at c;omega
  ·rw [bne_eq_false_iff_eq]at c
   have hl:=CW v.short v.few.1 v.few.2.2
   rw [EX (by omega) (by omega),Ar,Tb v.short v.few.1 v.few.2.2 hn,Ar]
   refine loop (L:=fun m i s=>HH (pls b.Design) _ m i s) (pls b.Design).length (fun i s=>Pa b.Wires.length i s∧∀q:Nat,q<b.Wires.length->gd s q=((pls b.Design).take i).countP (De q)) (fun o=>AV (CZ b) o) ?_ ?_ n 0 _ (by omega) (by omega) ⟨⟨by simp,fun j=>by rw [Ki];omega⟩,fun q _=>by rw [Ki];simp⟩
   ·intro m i s hi ⟨hc,hs⟩
    have hp:=v.net _ (List.getElem_mem hi)
    obtain⟨g1,g2⟩:=hc.step hp.1 (by omega) (by omega)
    simp only [HH.eq_2,CV hi,cT,Ab hi,Ar,g1,g2,wT i]
    cases hd:(pls b.Design)[i].drives_ with
    |true=>
     simp only [Bool.not_true,cF]
     refine .inl ⟨s,⟨hc.up,fun q hq=>?_⟩,rfl⟩
     rw [hs q hq,List.take_succ_eq_append_getElem hi,List.countP_append]
     simp [De,hd]
    |false=>
     simp only [Bool.not_false,cT]
     refine .inl ⟨_,⟨hc.bump hp.1 (by omega),fun q hq=>?_⟩,rfl⟩
     rw [List.take_succ_eq_append_getElem hi,List.countP_append]
     unfold Fm
     rw [Jf (by have:=hc.1;omega)]
     by_cases e:(pls b.Design)[i].net_.toNat=q
     ·have e2:(pls b.Design)[i].net_=(q:Int):=by omega
      rw [if_pos e,e,hs q hq]
      simp [De,hd,e2]
     ·have e2:¬(pls b.Design)[i].net_=(q:Int):=by omega
      rw [if_neg e,hs q hq]
      simp [De,hd,e2]
   ·intro m s ⟨hc,hs⟩
    simp only [HH.eq_2,Cc,cF]
    refine(Dp (L:=fun m i=>He n b s _ m i) (Q:=True) b.Wires.length 0 (fun i=>∀(hi:i<b.Wires.length),NW b.Wires[i] (QJ b.Design i)) ?_ ?_ n 0 (by omega) (by omega) (by omega) (fun j _ h=>by omega)).iff ⟨fun a=>⟨v,by omega,fun i hi=>a.1 i (by omega) hi hi⟩,fun a=>⟨fun i _ _ hi=>a.wire i hi,trivial⟩⟩
    ·intro m i _ hi
     have hw:=h.wires.2 _ (List.getElem_mem hi)
     obtain⟨r,e,hr⟩:=eO (n:=n) (w:=b.Wires[i]) (s:=(QJ b.Design i:Int)) hw.2 hw.1.1.2 hw.1.2 hw.1.1.1 hn
     have hg:gd s i=(QJ b.Design i:Int):=by rw [hs i hi,List.take_length];rfl
     simp only [He.eq_2,CV hi,cT,Ab hi,gI (show i<s.length by rw [hc.1];exact hi),hg,Ar,e,wT i]
     cases r with
     |true=>exact .inl ⟨fun _=>hr.1 rfl,by trivial⟩
     |false=>exact .inr ⟨fun g=>(by have:=hr.2 (g hi);cases this),by trivial⟩
    ·intro m i h1 h2 _
     obtain rfl:i=b.Wires.length:=by omega
     simp only [He.eq_2,Cc,cF]
     exact AV.yes trivial
 ·simp only [Bool.not_false,Bool.true_or,cT]
  exact AV.no fun g=>v g.design
theorem Fs{σ R:Type}{Q:R->Prop}{L:Nat->Int->σ->Option R}(N:Nat)(I:Nat->σ->Prop)
 (hs:∀(m i:Nat) (st:σ),i<N->I i st->∃st',I (i+1) st'∧L (m+1) (i:Int) st=L m ((i+1:Nat):Int) st')
 (he:∀(m:Nat) (st:σ),I N st->Ba Q (L (m+1) (N:Int) st)) (m:Nat) (st:σ) (hm:N<m) (h:I 0 st):Ba Q (L m 0 st):=
 loop N I (Ba Q) (fun m i st a b=>.inl (hs m i st a b)) he m 0 st (by omega) (by omega) h
theorem Ph{σ R:Type}{Q:R->Prop}{L:Nat->Int->σ->Option R}(s N:Nat)(I:Nat->σ->Prop)
 (hs:∀(m i:Nat) (st:σ),s<=i->i<N->I i st->∃st',I (i+1) st'∧L (m+1) (i:Int) st=L m ((i+1:Nat):Int) st')
 (he:∀(m:Nat) (st:σ),I N st->Ba Q (L (m+1) (N:Int) st)) (m:Nat) (st:σ) (hsN:s<=N) (hm:N<m) (h:I s st):Ba Q (L m (s:Int) st):=
 loop N (fun i st=>s<=i∧I i st) (Ba Q) (fun m i st a b=>by
  obtain⟨st',h1,h2⟩:=hs m i st b.1 a b.2
  exact .inl ⟨st',⟨by have:=b.1;omega,h1⟩,h2⟩) (fun m st h=>he m st h.2) m s st hsN (by omega) ⟨Nat.le_refl _,h⟩
theorem aT{n:Nat}{l:Ap}{d:AL}(v:CL l d)(q:Int)(hn:1048577<=n):SL n d q=some (EA d q):=by
 rw [SL,Tb v.short v.few.1 v.few.2.2 hn,Ar]
 have hl:=CW v.short v.few.1 v.few.2.2
 have:=Bs (xs:=pls d) (L:=fun m s i=>FO q (pls d) (fun l29 i33=>some l29) m s i) (k:=fun s=>some s) (fun i p=>if De q p=true then [(i:Int)]else []) 1 0 (fun j p _=>by split<;>simp) (by omega) (by
  intro m i hi s hs
  simp only [FO.eq_2,CV hi,cT,Ab hi,Ar,wT i]
  rw [show((pls d)[i].net_==q&& !(pls d)[i].drives_)=De q (pls d)[i]from rfl]
  cases c:De q (pls d)[i]with
  |true=>rw [cT,if_pos rfl,BA (by simp;omega) (by omega),Ar]
  |false=>rw [cF,if_neg (by simp),List.append_nil]) (by
  intro m s
  simp only [FO.eq_2,Cc,cF]) n (by omega) [] (by simp)
 rw [this,List.nil_append];rfl
theorem Hi{d:AL}{q:Int}:∀x∈EA d q,0<=x∧x<(pls d).length:=by
 refine Cl (Q:=fun x:Int=>0<=x∧x<(pls d).length) _ 0 fun j hj y hy=>?_
 split at hy
 ·simp only [Nat.zero_add,List.mem_singleton]at hy;omega
 ·cases hy
theorem CL.place{l:Ap}{d:AL}(v:CL l d):∀p∈pls d,0<=p.instance_->∃x c pin,AO d.Instances p.instance_=some x∧AO l.Cells x.Cell=some c∧AO c.Pins p.pin_=some pin:=by
 intro p hp
 simp only [pls,List.mem_append]at hp
 rcases hp with hp|hp
 ·refine Cl (Q:=fun p:Au=>0<=p.instance_->∃x c pin,AO d.Instances p.instance_=some x∧AO l.Cells x.Cell=some c∧AO c.Pins p.pin_=some pin) d.Instances 0 (fun j hj y hy=>?_) p hp
  refine Cl (Q:=fun p:Au=>0<=p.instance_->∃x c pin,AO d.Instances p.instance_=some x∧AO l.Cells x.Cell=some c∧AO c.Pins p.pin_=some pin) _ 0 (fun k hk z hz=>?_) y hy
  have vi:=v.inst _ (List.getElem_mem hj)
  simp only [Nat.zero_add,List.mem_singleton]at hz
  subst hz
  intro _
  obtain⟨c,ec,_⟩:=Dn (xs:=l.Cells) vi.cell.1 (by have:=vi.cell.2;omega)
  have hc:=vi.pins c ec
  exact⟨_,c,_,Ab hj,ec,Ab (show k<c.Pins.length by omega)⟩
 ·refine Cl (Q:=fun p:Au=>0<=p.instance_->∃x c pin,AO d.Instances p.instance_=some x∧AO l.Cells x.Cell=some c∧AO c.Pins p.pin_=some pin) d.Ports 0 (fun j hj y hy=>?_) p hp
  simp only [Pu,List.mem_singleton]at hy
  subst hy;intro h;exact absurd h (by show¬(0:Int)<= -1;decide)
theorem ZW{n:Nat}{l:Ap}{d:AL}(v:CL l d){p:Au}(hp:p∈pls d):∃r,SF n d l p=some r:=by
 rw [SF]
 by_cases c:p.instance_<0
 ·rw [decide_eq_true c,cT];exact⟨_,rfl⟩
 ·obtain⟨x,c',pin,e1,e2,e3⟩:=v.place p hp (by omega)
  rw [decide_eq_false c,cF,e1,Ar,e2,Ar,e3,Ar];exact⟨_,rfl⟩
theorem EG{t:List Int}{i:Int}(h0:0<=i)(h1:i<t.length):∃x,AO t i=some x:=⟨_,OY h0 h1⟩
theorem cO{n:Nat}{b:AP}(v:CZ b){i:Nat}(hi:i<b.Wires.length)(hn:1048577<=n):Ba (fun r=>r.length=b.Wires[i].Parent.length) (Vv n b (i:Int)):=by
 have vd:=v.design
 have vw:=v.wire i hi
 have hm:=vw.many
 have hP:=vw.cap
 have hl:=CW vd.short vd.few.1 vd.few.2.2
 rw [Vv,Ab hi,Ar,OC,BA (by simp;omega) (by omega),Ar,Ar,Tb vd.short vd.few.1 vd.few.2.2 hn,Ar,aT vd _ hn,Ar,List.nil_append]
 have hsl:(EA b.Design (i:Int)).length=b.Wires[i].Sink.length:=by rw [EO];have:=vw.sink;omega
 have hsn:QJ b.Design (i:Int)<=78:=Nat.le_trans List.countP_le_length hl
 have hsn2:=EO (d:=b.Design) (q:=(i:Int))
 refine Fs (L:=fun m j s=>Im n b b.Wires[i] (pls b.Design) (EA b.Design (i:Int)) _ m j s) (EA b.Design (i:Int)).length (fun _ s=>s.length=b.Wires[i].Parent.length) ?_ ?_ n _ (by omega) hP
 ·intro m j s hj hs
  have hj2:j<b.Wires[i].Sink.length:=by omega
  have hk:=vw.sinks j hj2
  have hq:=Hi _ (List.getElem_mem hj)
  obtain⟨a,ea⟩:=EG (t:=s) hk.1 (by omega)
  obtain⟨p,ep,hp⟩:=Dn (xs:=pls b.Design) hq.1 hq.2
  obtain⟨r,er⟩:=ZW (n:=n) vd (List.mem_of_getElem? hp)
  simp only [Im.eq_2,CV hj,cT,Ab hj,gI hj2,Ar,ea,ep,er,wT j]
  exact⟨_,by simpa using hs,rfl⟩
 ·intro m s hs
  simp only [Im.eq_2,Cc,cF]
  have wx:IntKind.wrap .i64 ((s.length:Int)-1)=((s.length-1:Nat):Int):=by rw [Af (by omega) (by omega)];omega
  rw [wx]
  have key:∀(m k:Nat) (s:List Int),k<b.Wires[i].Parent.length->s.length=b.Wires[i].Parent.length->k<m->Ba (fun r:List Int=>r.length=b.Wires[i].Parent.length) (HS b.Wires[i] (fun i91 l93=>some l93) m (k:Int) s):=by
   intro m
   induction m with
   |zero=>intro k s _ _ h;omega
   |succ m ih=>
    intro k s hk hs hm
    by_cases c:0<k
    ·have hd:decide ((k:Int)>0)=true:=decide_eq_true (by omega)
     have ht:=vw.tree k c hk
     obtain⟨a,ea⟩:=EG (t:=s) ht.1 (by omega)
     have wk:IntKind.wrap .i64 ((k:Int)-1)=((k-1:Nat):Int):=by rw [Af (by omega) (by omega)];omega
     simp only [HS.eq_2,hd,cT,gI hk,Ar,ea,gI (show k<s.length by omega),wk]
     exact ih (k-1) _ (by omega) (by simpa using hs) (by omega)
    ·have hd:decide ((k:Int)>0)=false:=decide_eq_false (by omega)
     simp only [HS.eq_2,hd,cF]
     exact⟨s,rfl,hs⟩
  exact key n (s.length-1) s (by omega) hs (by omega)
theorem eZ{n:Nat}{b:AP}(v:CZ b){i:Nat}(hi:i<b.Wires.length)(hn:1048577<=n):Ba (fun r=>r.length=b.Wires[i].Parent.length) (RP n b (i:Int)):=by
 have vw:=v.wire i hi
 have hm:=vw.many
 have hR:=vw.res
 rw [RP,Ab hi,Ar]
 refine(cO v hi hn).bind fun r e hr=>?_
 rw [EX (by omega) (by omega),Ar]
 refine Ph (L:=fun m j s=>Gv b.Wires[i] r _ m j s) 1 b.Wires[i].Parent.length (fun _ s=>s.length=b.Wires[i].Parent.length) ?_ ?_ n _ (by omega) (by omega) (by simpa using hr)
 ·intro m j s h1 hj hs
  have ht:=vw.tree j (by omega) hj
  obtain⟨a,ea⟩:=EG (t:=s) ht.1 (by omega)
  simp only [Gv.eq_2,CV (show j<s.length by omega),cT,gI hj,gI (show j<b.Wires[i].Res.length by omega),gI (show j<r.length by omega),gI (show j<s.length by omega),Ar,ea,wT j]
  exact⟨_,by simpa using hs,rfl⟩
 ·intro m s hs
  rw [←hs]
  simp only [Gv.eq_2,Cc,cF]
  exact⟨s,rfl,rfl⟩
theorem eL{n:Nat}{b:AP}(v:CZ b){i:Nat}(hi:i<b.Wires.length)(hn:1048577<=n):Ba (fun _=>True) (SM n b (i:Int)):=by
 have vw:=v.wire i hi
 have vd:=v.design
 have hl:=CW vd.short vd.few.1 vd.few.2.2
 have hsn:QJ b.Design (i:Int)<=78:=Nat.le_trans List.countP_le_length hl
 have hsk:=vw.sink
 rw [SM]
 refine(eZ v hi hn).bind fun r e hr=>?_
 rw [Ab hi,Ar]
 refine Fs (L:=fun m j s=>GW r b.Wires[i] _ m s j) b.Wires[i].Sink.length (fun j s=>s.length=j) ?_ ?_ n _ (by omega) rfl
 ·intro m j s hj hs
  have hk:=vw.sinks j hj
  obtain⟨a,ea⟩:=EG (t:=r) hk.1 (by omega)
  refine⟨s++[a],by simp;omega,?_⟩
  simp only [GW.eq_2,CV hj,cT,gI hj,Ar,ea,wT j]
  rw [BA (by simp;omega) (by omega),Ar]
 ·intro m s hs
  simp only [GW.eq_2,Cc,cF]
  exact⟨s,rfl,trivial⟩
def Kp(b:AP):Int:=2*((pls b.Design).length:Int)
theorem aR{xs:List Int}{i:Nat}(h:i<xs.length):gd xs i=xs[i]:=IV (by simp [h])
theorem JI{α β:Type}(h:Nat->α->β):∀(xs:List α) (s j:Nat),(CY (fun j q=>[h j q]) s xs)[j]? =(xs[j]?).map (h (s+j))
 |[],s,j=>by simp [CY]
 |x::xs,s,0=>by simp [CY]
 |x::xs,s,j+1=>by
  have:=JI h xs (s+1) j
  simp only [CY,List.singleton_append,List.getElem?_cons_succ,this]
  rw [show s+1+j=s+(j+1) by omega]
structure MW{α:Type}(f:α->Bool)(ys:List α)(k:Nat):Prop where
 hit:∃y,ys[k]? =some y∧f y=true
 miss:∀j y,j<k->ys[j]? =some y->f y=false
theorem MW.lt{α:Type}{f:α->Bool}{ys:List α}{k:Nat}(h:MW f ys k):k<ys.length:=by
 obtain⟨y,e,_⟩:=h.hit
 exact(List.getElem?_eq_some_iff.1 e).1
def CP(d:AL)(i:Nat):Nat:=(CY Jl 0 (d.Instances.take i)).length
def Rp(i q:Int)(p:Au):Bool:=(p.instance_==i)&&(p.pin_==q)
theorem TV{d:AL}{i:Nat}(hi:i<d.Instances.length):∃C,pls d=CY Jl 0 (d.Instances.take i)++(Jl i d.Instances[i]++C):=by
 refine⟨CY Jl (i+1) (d.Instances.drop (i+1))++CY Pu 0 d.Ports,?_⟩
 have e:d.Instances=d.Instances.take i++(d.Instances[i]::d.Instances.drop (i+1)):=by
  rw [←List.drop_eq_getElem_cons hi,List.take_append_drop]
 have e2:CY Jl 0 d.Instances=CY Jl 0 (d.Instances.take i)++(Jl i d.Instances[i]++CY Jl (i+1) (d.Instances.drop (i+1))):=by
  conv=>lhs;rw [e]
  rw [IY]
  simp [CY,Nat.min_eq_left (Nat.le_of_lt hi)]
 unfold pls
 rw [e2];simp
theorem Cp{d:AL}{i q:Nat}(hi:i<d.Instances.length)(hq:q<d.Instances[i].Nets.length):MW (Rp i q) (pls d) (CP d i+q):=by
 obtain⟨C,e⟩:=TV hi
 have hp:∀j:Nat,(Jl i d.Instances[i])[j]? =(d.Instances[i].Nets[j]?).map fun x=>Au.mk i j x ((j:Int)==(d.Instances[i].Nets.length:Int)-1):=by
  intro j
  have:=JI (fun j q=>Au.mk i j q ((j:Int)==(d.Instances[i].Nets.length:Int)-1)) d.Instances[i].Nets 0 j
  rw [Nat.zero_add]at this
  exact this
 have hl:(Jl i d.Instances[i]).length=d.Instances[i].Nets.length:=by
  apply Nat.le_antisymm
  ·apply Nat.le_of_not_lt
   intro h
   have:=hp d.Instances[i].Nets.length
   rw [List.getElem?_eq_getElem h]at this
   simp at this
  ·apply Nat.le_of_not_lt
   intro h
   have:=hp (Jl i d.Instances[i]).length
   rw [List.getElem?_eq_getElem h]at this
   simp at this
 have hA:∀y∈CY Jl 0 (d.Instances.take i),y.instance_<(i:Int):=by
  refine Cl (Q:=fun p:Au=>p.instance_<(i:Int)) _ 0 (fun j hj y hy=>?_)
  have hji:j<i:=by simp at hj;omega
  refine Cl (Q:=fun p:Au=>p.instance_<(i:Int)) _ 0 (fun k hk z hz=>?_) y hy
  simp only [List.mem_singleton]at hz
  subst hz
  show((0+j:Nat):Int)<i
  omega
 refine⟨⟨Au.mk i q d.Instances[i].Nets[q] ((q:Int)==(d.Instances[i].Nets.length:Int)-1),?_,by simp [Rp]⟩,?_⟩
 ·rw [e,CP,List.getElem?_append_right (by omega),Nat.add_sub_cancel_left,List.getElem?_append_left (by omega),hp,List.getElem?_eq_getElem hq];rfl
 ·intro j y hj hy
  rw [e]at hy
  by_cases c:j<(CY Jl 0 (d.Instances.take i)).length
  ·rw [List.getElem?_append_left c]at hy
   have:=hA y (List.mem_of_getElem? hy)
   simp only [Rp,Bool.and_eq_false_iff,beq_eq_false_iff_ne];left;omega
  ·unfold CP at hj
   rw [List.getElem?_append_right (by omega),List.getElem?_append_left (by omega),hp]at hy
   obtain⟨x,_,rfl⟩:=Option.map_eq_some_iff.1 hy
   simp only [Rp,Bool.and_eq_false_iff,beq_eq_false_iff_ne];right
   show((j-(CY Jl 0 (d.Instances.take i)).length:Nat):Int)≠q
   omega
theorem PY{n:Nat}{l:Ap}{d:AL}(v:CL l d){i q:Nat}(hi:i<d.Instances.length)(hq:q<d.Instances[i].Nets.length)(hn:1048577<=n):TT n d (i:Int) (q:Int)=some ((CP d i+q:Nat):Int):=by
 have f:=Cp hi hq
 have hl:=CW v.short v.few.1 v.few.2.2
 have fl:=f.lt
 rw [TT,NQ v.short v.few.1 v.few.2.2 hn,Ar]
 refine loop (L:=fun m j (_:Unit)=>HU (i:Int) (q:Int) ((pls d).map FF) (fun i26=>(some (-1))) m j) (CP d i+q+1) (fun j _=>j<=CP d i+q) (fun o=>o=some ((CP d i+q:Nat):Int)) ?_ ?_ n 0 () (by omega) (by omega) (by omega)
 ·intro m j _ hj hI
  have hjl:j<(pls d).length:=by omega
  have hjm:j<((pls d).map FF).length:=by simpa using hjl
  have hg:AO ((pls d).map FF) (j:Int)=some (FF (pls d)[j]):=by rw [Ab hjm];simp
  have hb:(Option.bind (bif ((FF (pls d)[j]).instance_==(i:Int))then some ((FF (pls d)[j]).pin_==(q:Int))else some false) fun c35=>(bif c35 then(some (j:Int))else(HU (i:Int) (q:Int) ((pls d).map FF) (fun i26=>(some (-1))) m (IntKind.wrap .i64 ((j:Int)+1)))))=(bif Rp i q (pls d)[j]then some (j:Int)else HU (i:Int) (q:Int) ((pls d).map FF) (fun i26=>(some (-1))) m ((j+1:Nat):Int)):=by
   rw [wT j,CS,Ar];rfl
  simp only [HU.eq_2,CV hjm,cT,hg,Ar]
  rw [hb]
  by_cases c:j=CP d i+q
  ·obtain⟨y,e,hy⟩:=f.hit
   rw [←c,List.getElem?_eq_getElem hjl]at e
   obtain rfl:=Option.some.inj e
   rw [hy,cT,←c];exact .inr rfl
  ·have:=f.miss j _ (by omega) (List.getElem?_eq_getElem hjl)
   rw [this,cF];exact .inl ⟨(),by omega,rfl⟩
 ·intro m _ hI
  omega
theorem CL.inst_at{l:Ap}{d:AL}(v:CL l d){i:Nat}(hi:i<d.Instances.length):∃k,∃h:k<l.Cells.length,d.Instances[i].Cell=(k:Int)∧AO l.Cells d.Instances[i].Cell=some l.Cells[k]∧d.Instances[i].Nets.length=l.Cells[k].Pins.length∧HE l.Cells[k]:=by
 have x:=v.inst _ (List.getElem_mem hi)
 obtain⟨k,hk⟩:=Int.eq_ofNat_of_zero_le x.cell.1
 have hk:d.Instances[i].Cell=(k:Int):=hk
 have h:k<l.Cells.length:=by have:=x.cell.2;omega
 have g:AO l.Cells d.Instances[i].Cell=some l.Cells[k]:=by rw [hk];exact Ab h
 exact⟨k,h,hk,g,x.pins _ g,v.lib.cells k h⟩
theorem eP{n:Nat}{c:AY}{p:Int}(h:c.Pins.length<=1048576):MU n c p=some (decide (p>=0)&&decide (p<=(c.Pins.length:Int)-2)):=by
 have w:IntKind.wrap .i64 ((c.Pins.length:Int)-1)=(c.Pins.length:Int)-1:=Af (by omega) (by omega)
 have w2:IntKind.wrap .i64 ((c.Pins.length:Int)-1-1)=(c.Pins.length:Int)-2:=by rw [show(c.Pins.length:Int)-1-1=(c.Pins.length:Int)-2 by omega];exact Af (by omega) (by omega)
 simp only [MU,JP,LY,It,Ar,w,w2]
theorem wk{k:Int}(h0:0<=k)(h1:k<=2305843009213693952):IntKind.wrap .i64 (k+1)=k+1:=Af (by omega) (by omega)
def GK(b:AP)(x:Ak):List BL:=match AO b.Library.Cells x.Cell with
 |some c=>c.Arcs
 |none=>[]
def DP(q:Int)(p:Au):Bool:=p.net_==q&&p.drives_
theorem OR(i:Nat)(q L:Int):∀(xs:List Int) (s:Nat),xs≠[]->L=((s+xs.length:Nat):Int)-1->((CY (fun j n=>[Au.mk i j n ((j:Int)==L)]) s xs).countP (DP q):Int)=if gd xs (xs.length-1)=q then 1 else 0
 |[],_,h,_=>absurd rfl h
 |[x],s,_,hL=>by
  have e:((s:Int)==L)=true:=by rw [beq_iff_eq,hL];simp
  simp only [CY,List.append_nil,e]
  by_cases c:x=q
  ·subst c;simp [DP,gd]
  ·have:(x==q)=false:=by rw [beq_eq_false_iff_ne];exact c
   simp [DP,gd,this,c]
 |x::y::zs,s,_,hL=>by
  have ih:=OR i q L (y::zs) (s+1) (by simp) (by rw [hL];simp only [List.length_cons];omega)
  have e:((s:Int)==L)=false:=by rw [beq_eq_false_iff_ne,hL];simp only [List.length_cons];omega
  rw [CY,List.countP_append]
  have h0:List.countP (DP q) [Au.mk i s x ((s:Int)==L)]=0:=by simp [DP,e]
  rw [h0,Nat.zero_add,ih]
  simp [gd]
theorem RE{q:Nat}{N:Nat}(hq:q<N):∀(xs:List Ak) (t:List Int) (s:Nat),t.length=N->(∀x∈xs,x.Nets≠[]∧0<=Hc x∧Hc x<N)->gd (xs.foldl cI t) q=gd t q+((CY Jl s xs).countP (DP q):Int)∧(xs.foldl cI t).length=N
 |[],t,s,ht,_=>by simp [CY,ht]
 |x::xs,t,s,ht,hx=>by
  obtain⟨x1,x2,x3⟩:=hx x (by simp)
  obtain⟨h1,h2⟩:=RE hq xs (cI t x) (s+1) (by unfold cI Fm;simpa using ht) fun y hy=>hx y (by simp [hy])
  refine⟨?_,h2⟩
  rw [List.foldl_cons,h1,CY,List.countP_append]
  have hc:=OR s q ((x.Nets.length:Int)-1) x.Nets 0 x1 (by simp)
  have hc:((Jl s x).countP (DP q):Int)=if gd x.Nets (x.Nets.length-1)=q then 1 else 0:=hc
  have hb:gd (cI t x) q=gd t q+if gd x.Nets (x.Nets.length-1)=q then 1 else 0:=by
   have hl:Hc x=gd x.Nets (x.Nets.length-1):=rfl
   unfold cI Fm
   rw [Jf (by omega),←hl]
   by_cases c:Hc x=q
   ·rw [if_pos (by omega),if_pos c];have:(Hc x).toNat=q:=by omega
    rw [this]
   ·rw [if_neg (by omega),if_neg c];omega
  rw [hb];push_cast;omega
theorem Qw{q:Nat}{N:Nat}(hq:q<N):∀(xs:List BN) (t:List Int) (s:Nat),t.length=N->(∀x∈xs,0<=x.Net∧x.Net<N)->gd (xs.foldl cP t) q=gd t q+((CY Pu s xs).countP (DP q):Int)
 |[],t,s,ht,_=>by simp [CY]
 |x::xs,t,s,ht,hx=>by
  obtain⟨x2,x3⟩:=hx x (by simp)
  have h1:=Qw hq xs (cP t x) (s+1) (by unfold cP Fm;split<;>simpa using ht) fun y hy=>hx y (by simp [hy])
  rw [List.foldl_cons,h1,CY,List.countP_append]
  have hb:gd (cP t x) q=gd t q+((Pu s x).countP (DP q):Int):=by
   unfold cP Pu
   by_cases d:x.Dir=1
   ·have:(x.Dir==1)=true:=by rw [beq_iff_eq];exact d
    rw [if_pos d];unfold Fm
    rw [Jf (by omega)]
    by_cases c:x.Net=q
    ·have e:(x.Net==(q:Int))=true:=by rw [beq_iff_eq];exact c
     have e2:x.Net.toNat=q:=by omega
     rw [if_pos e2,e2];simp [DP,this,e]
    ·have e:(x.Net==(q:Int))=false:=by rw [beq_eq_false_iff_ne];exact c
     rw [if_neg (by omega)];simp [DP,this,e]
   ·have:(x.Dir==1)=false:=by rw [beq_eq_false_iff_ne];exact d
    rw [if_neg d];simp [DP,this]
  rw [hb];push_cast;omega
theorem Sw{l:Ap}{d:AL}(v:CL l d){q:Nat}(hq:q<d.Nets.length):(pls d).countP (DP q)=1:=by
 obtain⟨h1,h2⟩:=RE (N:=d.Nets.length) hq d.Instances (List.replicate d.Nets.length 0) 0 (by simp) fun x hx=>by
  have a:=(v.inst x hx).long v.lib
  have b:=(v.inst x hx).last v.lib
  exact⟨fun e=>by rw [e]at a;simp at a,b⟩
 have h3:=Qw (N:=d.Nets.length) hq d.Ports _ 0 h2 fun x hx=>by have:=(v.port x hx).net;omega
 have h4:=v.one q hq
 unfold Qc at h4
 rw [h3,h1,Ki]at h4
 unfold pls
 rw [List.countP_append];omega
theorem Ll{α:Type}(f:α->Bool):∀(xs:List α),xs.countP f=1->∃k,∃h:k<xs.length,f xs[k]=true∧∀j (h:j<xs.length),f xs[j]=true->j=k
 |[],h=>by simp at h
 |x::xs,h=>by
  rw [List.countP_cons]at h
  by_cases c:f x=true
  ·have h0:xs.countP f=0:=by simpa [c] using h
   refine⟨0,by simp,c,fun j hj hf=>?_⟩
   cases j with
   |zero=>rfl
   |succ j=>
    have hf:f (xs[j]'(by simpa using hj))=true:=hf
    rw [List.countP_eq_zero]at h0
    exact absurd hf (h0 _ (List.getElem_mem _))
  ·have h0:xs.countP f=1:=by simpa [c] using h
   obtain⟨k,hk,a,b⟩:=Ll f xs h0
   refine⟨k+1,by simpa using hk,by simpa using a,fun j hj hf=>?_⟩
   cases j with
   |zero=>exact absurd hf c
   |succ j=>rw [b j (by simpa using hj) (by simpa using hf)]
def El(d:AL)(q:Nat):Nat:=(pls d).findIdx (DP q)
structure WV(d:AL)(q k:Nat):Prop where
 lt:k<(pls d).length
 hit:DP q (pls d)[k]=true
 only:∀j (h:j<(pls d).length),DP q (pls d)[j]=true->j=k
theorem Jk{l:Ap}{d:AL}(v:CL l d){q:Nat}(hq:q<d.Nets.length):WV d q (El d q):=by
 obtain⟨k,hk,a,b⟩:=Ll _ _ (Sw v hq)
 have:El d q=k:=by
  unfold El
  rw [List.findIdx_eq hk]
  refine⟨a,fun j hj=>?_⟩
  cases c:DP q ((pls d)[j]'(by omega))with
  |false=>rfl
  |true=>have:=b j (by omega) c;omega
 rw [this];exact⟨hk,a,b⟩
theorem Zd{n:Nat}{l:Ap}{d:AL}(v:CL l d){q:Nat}(hq:q<d.Nets.length)(hn:1048577<=n):RW n d (q:Int)=some (El d q:Int):=by
 have hd:=Jk v hq
 have hl:=CW v.short v.few.1 v.few.2.2
 rw [RW,NQ v.short v.few.1 v.few.2.2 hn,Ar]
 have hk:=hd.lt
 refine loop (L:=fun m i (_:Unit)=>IA (q:Int) ((pls d).map FF) (fun i26=>some (-1)) m i) ((pls d).map FF).length (fun i _=>i<=El d q) (fun o=>o=some (El d q:Int)) ?_ ?_ n 0 () (by omega) (by simp;omega) (by omega)
 ·intro m i _ hi hI
  have hi2:i<(pls d).length:=by simpa using hi
  have e:((pls d).map FF)[i]=FF (pls d)[i]:=by simp
  simp only [IA.eq_2,CV hi,cT,Ab hi,Ar,CS,e,wT i]
  have e2:((FF (pls d)[i]).net_==(q:Int)&&(FF (pls d)[i]).drives_)=DP q (pls d)[i]:=rfl
  rw [e2]
  cases c:DP q (pls d)[i]with
  |true=>rw [hd.only i hi2 c];exact .inr rfl
  |false=>
   refine .inl ⟨(),?_,rfl⟩
   rcases Nat.lt_or_ge i (El d q)with h|h
   ·omega
   ·obtain rfl:i=El d q:=by omega
    rw [hd.hit]at c;cases c
 ·intro m _ hI
  have:((pls d).map FF).length=(pls d).length:=by simp
  omega
def Ly(a:BL)(p:Int×Int):Bool:=bif a.Kind==1 then(a.Sense==3)||((a.Sense==1)==(p.1==p.2))else bif a.Kind==2 then p.1==0 else bif a.Kind==3 then p.1==1 else false
def NY(a:BL):List (Int×Int):=[(0,0),(0,1),(1,0),(1,1)].filter (Ly a)
def TY(o k:Nat)(a:BL):List AS:=(NY a).map fun t=>⟨2*((o:Int)+a.From)+t.1,2*((o:Int)+a.To)+t.2,1,(k:Int)⟩
def NJ(b:AP)(i:Nat)(x:Ak):List AS:=CY (TY (CP b.Design i)) 0 (GK b x)
def SQ(r:Int)(j:Nat)(s:Int):List AS:=[⟨2*r,2*s,2,(j:Int)⟩,⟨2*r+1,2*s+1,2,(j:Int)⟩]
def UB(d:AL)(q:Nat):List AS:=CY (SQ (El d q:Int)) 0 (EA d (q:Int))
def II(b:AP):List AS:=CY (NJ b) 0 b.Design.Instances++CY (fun q (_:ByteArray)=>UB b.Design q) 0 b.Design.Nets
theorem Ol(a:BL):(NY a).length<=4:=Nat.le_trans (List.length_filter_le _ _) (by simp)
theorem MC(o k:Nat)(a:BL):(TY o k a).length<=4:=by unfold TY;rw [List.length_map];exact Ol a
theorem Hz{b:AP}(v:CZ b)(i:Nat){x:Ak}(hx:x∈b.Design.Instances):(NJ b i x).length<=32:=by
 obtain⟨j,hj,rfl⟩:=List.getElem_of_mem hx
 obtain⟨k,hk,_,gc,_,vc⟩:=v.design.inst_at hj
 have:=CQ (c:=4) (g:=TY (CP b.Design i)) (GK b b.Design.Instances[j]) 0 fun j a _=>MC _ _ a
 have few:=vc.few
 unfold NJ
 unfold GK at this ⊢
 rw [gc]at this ⊢
 simp only at this ⊢
 omega
theorem MA{l:Ap}{d:AL}(v:CL l d)(q:Nat):(UB d q).length<=156:=by
 have h1:=CQ (c:=2) (g:=SQ (El d q:Int)) (EA d (q:Int)) 0 fun j s _=>by simp [SQ]
 have h2:=EO (d:=d) (q:=(q:Int))
 have hl:=CW v.short v.few.1 v.few.2.2
 have h3:QJ d (q:Int)<=78:=Nat.le_trans List.countP_le_length hl
 unfold UB;omega
theorem JR{b:AP}(v:CZ b):(II b).length<=5128:=by
 have h1:=CQ (c:=32) (g:=NJ b) b.Design.Instances 0 fun j x hx=>Hz v j hx
 have h2:=CQ (c:=156) (g:=fun q (_:ByteArray)=>UB b.Design q) b.Design.Nets 0 fun j x _=>MA v.design j
 have:=v.design.few
 unfold II;rw [List.length_append];omega
theorem Ud{n:Nat}{l:List AS}{f t a b kd k:Int}(hl:l.length<=10000000)(hf:0<=f∧f<=100000)(ht:0<=t∧t<=100000)(ha:0<=a∧a<=1)(hb:0<=b∧b<=1):Ma n l f t a b kd k=some (l++[⟨2*f+a,2*t+b,kd,k⟩]):=by
 rw [Ma,Af (x:=2*f) (by omega) (by omega),Af (x:=2*t) (by omega) (by omega),Af (by omega) (by omega),Af (by omega) (by omega),BA (by simp;omega) (by omega),Ar]
theorem Tf{n:Nat}{a:BL}{f t k i:Int}{k2:List AS->Int->Option (List AS)}(hf:0<=f∧f<=100000)(ht:0<=t∧t<=100000)(hi:0<=i∧i<=1){l:List AS}(hl:l.length<=9000000)(m:Nat):
 Dc n a f t k i k2 (m+3) l 0=k2 (l++([(i,0),(i,1)].filter (Ly a)).map fun p=>⟨2*f+p.1,2*t+p.2,1,k⟩) 2:=by
 have w1:IntKind.wrap .i64 ((0:Int)+1)=1:=by decide
 have w2:IntKind.wrap .i64 ((1:Int)+1)=2:=by decide
 have step:∀(m:Nat) (l:List AS) (j:Int),l.length<=9500000->0<=j->j<=1->Dc n a f t k i k2 (m+1) l j=Dc n a f t k i k2 m (l++([(i,j)].filter (Ly a)).map fun p=>⟨2*f+p.1,2*t+p.2,1,k⟩) (IntKind.wrap .i64 (j+1)):=by
  intro m l j hl2 h0 h1
  have hp:=Ud (n:=n) (l:=l) (f:=f) (t:=t) (a:=i) (b:=j) (kd:=1) (k:=k) (by omega) hf ht hi ⟨h0,h1⟩
  have dj:decide (j<=1)=true:=decide_eq_true h1
  simp only [Dc.eq_2,dj,cT,hp,Ar,List.filter_cons,List.filter_nil,Ly]
  by_cases k1:a.Kind=1
  ·have e1:(a.Kind==1)=true:=by rw [beq_iff_eq];exact k1
   simp only [e1,cT]
   by_cases c:((a.Sense==3)||((a.Sense==1)==(i==j)))=true
   ·rw [c];simp
   ·have c:((a.Sense==3)||((a.Sense==1)==(i==j)))=false:=by simpa using c
    rw [c];simp
  ·have e1:(a.Kind==1)=false:=by rw [beq_eq_false_iff_ne];exact k1
   simp only [e1,cF]
   by_cases k2:a.Kind=2
   ·have e2:(a.Kind==2)=true:=by rw [beq_iff_eq];exact k2
    simp only [e2,cT]
    by_cases c:i=0
    ·subst c;simp
    ·have c:(i==0)=false:=by rw [beq_eq_false_iff_ne];exact c
     rw [c];simp
   ·have e2:(a.Kind==2)=false:=by rw [beq_eq_false_iff_ne];exact k2
    simp only [e2,cF]
    by_cases k3:a.Kind=3
    ·have e3:(a.Kind==3)=true:=by rw [beq_iff_eq];exact k3
     simp only [e3,cT]
     by_cases c:i=1
     ·subst c;simp
     ·have c:(i==1)=false:=by rw [beq_eq_false_iff_ne];exact c
      rw [c];simp
    ·have e3:(a.Kind==3)=false:=by rw [beq_eq_false_iff_ne];exact k3
     simp only [e3,cF];simp
 have hl3:∀j:Int,(([(i,j)].filter (Ly a)).map fun p:Int×Int=>(⟨2*f+p.1,2*t+p.2,1,k⟩:AS)).length<=1:=fun j=>by rw [List.length_map];exact Nat.le_trans (List.length_filter_le _ _) (by simp)
 rw [step (m+2) l 0 (by omega) (by omega) (by omega),w1,step (m+1) _ 1 (by have:=hl3 0;rw [List.length_append];omega) (by omega) (by omega),w2,Dc.eq_2]
 have d2:decide ((2:Int)<=1)=false:=by decide
 rw [d2,cF,List.append_assoc,←List.map_append,←List.filter_append]
 rfl
theorem aE{n:Nat}{a:BL}{f t k:Int}(hf:0<=f∧f<=100000)(ht:0<=t∧t<=100000){l:List AS}(hl:l.length<=8000000)(hn:1048577<=n):
 Wr n l a f t k=some (l++(NY a).map fun p=>⟨2*f+p.1,2*t+p.2,1,k⟩):=by
 obtain⟨m,rfl⟩:∃m,n=m+3:=⟨n-3,by omega⟩
 have w1:IntKind.wrap .i64 ((0:Int)+1)=1:=by decide
 have w2:IntKind.wrap .i64 ((1:Int)+1)=2:=by decide
 have d0:decide ((0:Int)<=1)=true:=by decide
 have d1:decide ((1:Int)<=1)=true:=by decide
 have d2:decide ((2:Int)<=1)=false:=by decide
 have hl3:(([((0:Int),(0:Int)),(0,1)].filter (Ly a)).map fun p:Int×Int=>(⟨2*f+p.1,2*t+p.2,1,k⟩:AS)).length<=2:=by rw [List.length_map];exact Nat.le_trans (List.length_filter_le _ _) (by simp)
 rw [Wr,HV.eq_2,d0,cT,Tf hf ht (by omega) (by omega),w1,HV.eq_2,d1,cT,Tf hf ht (by omega) (by rw [List.length_append];omega),w2,HV.eq_2,d2,cF,List.append_assoc,←List.map_append,←List.filter_append]
 rfl
theorem MO{c:AY}(vc:HE c){j:Nat}(hj:j<c.Arcs.length):(0<=c.Arcs[j].From∧c.Arcs[j].From<c.Pins.length)∧(0<=c.Arcs[j].To∧c.Arcs[j].To<c.Pins.length)∧(c.Arcs[j].Kind=1∧(1<=c.Arcs[j].Sense∧c.Arcs[j].Sense<=3)∨c.Arcs[j].Kind=2∨c.Arcs[j].Kind=3∨c.Arcs[j].Kind=4∨c.Arcs[j].Kind=5):=by
 have ar:=(vc.arcs j hj).1
 unfold KF at ar
 refine⟨by omega,by omega,?_⟩
 obtain⟨_,ar⟩:=ar
 by_cases k1:c.Arcs[j].Kind=1
 ·rw [if_pos k1]at ar;exact .inl ⟨k1,ar.2.2.1⟩
 ·rw [if_neg k1]at ar
  by_cases k2:c.Arcs[j].Kind=2∨c.Arcs[j].Kind=3
  ·rcases k2 with k|k
   ·exact .inr (.inl k)
   ·exact .inr (.inr (.inl k))
  ·rw [if_neg k2]at ar
   by_cases k4:c.Arcs[j].Kind=4∨c.Arcs[j].Kind=5
   ·rcases k4 with k|k
    ·exact .inr (.inr (.inr (.inl k)))
    ·exact .inr (.inr (.inr (.inr k)))
   ·rw [if_neg k4]at ar;exact ar.elim
theorem NK{a:BL}(h:3<a.Kind):NY a=[]:=by
 have e1:(a.Kind==1)=false:=by rw [beq_eq_false_iff_ne];omega
 have e2:(a.Kind==2)=false:=by rw [beq_eq_false_iff_ne];omega
 have e3:(a.Kind==3)=false:=by rw [beq_eq_false_iff_ne];omega
 simp [NY,Ly,e1,e2,e3]
theorem Vi{n:Nat}{b:AP}(v:CZ b)(hn:1048577<=n):Ul n b=some (II b):=by
 have vd:=v.design
 have few:=vd.few
 have hl:=CW vd.short vd.few.1 vd.few.2.2
 have hI:=CQ (c:=32) (g:=NJ b) b.Design.Instances 0 fun j x hx=>Hz v j hx
 rw [Ul]
 rw [Bs (xs:=b.Design.Instances) (L:=fun m s i=>GN n b (fun l44 i48=>(Dl n b (fun l55 i59=>(some l55)) n l44 0)) m s i) (k:=fun s=>Dl n b (fun l55 i59=>some l55) n s 0) (NJ b) 32 0 (fun j x hx=>Hz v j hx) (by omega) (by
  intro m i hi s hs
  obtain⟨k,hk,_,gc,hnl,vc⟩:=v.design.inst_at hi
  have fa:=vc.few
  have fp:=vc.pins.few
  have hoff:=(Cp (d:=b.Design) (q:=0) hi (by have:=(vd.inst _ (List.getElem_mem hi)).long vd.lib;omega)).lt
  simp only [GN.eq_2,CV hi,cT,Ab hi,gc,Ar,wT i]
  have ea:GK b b.Design.Instances[i]=b.Library.Cells[k].Arcs:=by unfold GK;rw [gc]
  rw [NJ,ea]
  refine Bs (xs:=b.Library.Cells[k].Arcs) (L:=fun m s j=>Hb n b (i:Int) b.Library.Cells[k] _ m s j) (k:=fun s=>GN n b (fun l44 i48=>(Dl n b (fun l55 i59=>(some l55)) n l44 0)) m s ((i+1:Nat):Int)) (TY (CP b.Design i)) 4 s.length (fun j a _=>MC _ _ a) (by omega) ?_ ?_ n (by omega) s (by omega)
  ·intro m j hj s2 hs2
   obtain⟨⟨f0,f1⟩,⟨t0,t1⟩,kd⟩:=MO vc hj
   simp only [Hb.eq_2,CV hj,cT,Ab hj,Ar,wT j]
   by_cases c:b.Library.Cells[k].Arcs[j].Kind<=3
   ·rw [decide_eq_true c,cT]
    obtain⟨F,eF⟩:=Int.eq_ofNat_of_zero_le f0
    have eF:b.Library.Cells[k].Arcs[j].From=(F:Int):=eF
    obtain⟨T,eT⟩:=Int.eq_ofNat_of_zero_le t0
    have eT:b.Library.Cells[k].Arcs[j].To=(T:Int):=eT
    have p1:=PY (n:=n) vd (q:=F) hi (by omega) hn
    have p2:=PY (n:=n) vd (q:=T) hi (by omega) hn
    rw [eF,eT,p1,Ar,p2,Ar,aE (by omega) (by omega) (by omega) hn,Ar]
    congr 2
    unfold TY
    rw [eF,eT]
    simp
   ·rw [decide_eq_false c,cF]
    unfold TY
    rw [NK (by omega),List.map_nil,List.append_nil]
  ·intro m s
   simp only [Hb.eq_2,Cc,cF]) (by
  intro m s
  simp only [GN.eq_2,Cc,cF]) n (by omega) [] (by simp)]
 rw [List.nil_append]
 rw [Bs (xs:=b.Design.Nets) (L:=fun m s i=>Dl n b (fun l55 i59=>(some l55)) m s i) (k:=fun s=>some s) (fun q _=>UB b.Design q) 156 (CY (NJ b) 0 b.Design.Instances).length (fun j x _=>MA vd j) (by omega) (by
  intro m i hi s hs
  have hd:=(Jk vd hi).lt
  have hsl:(EA b.Design (i:Int)).length<=78:=by
   rw [EO];exact Nat.le_trans List.countP_le_length hl
  simp only [Dl.eq_2,CV hi,cT,Zd vd hi hn,VY vd (i:Int) hn,Ar,wT i]
  refine Bs (xs:=EA b.Design (i:Int)) (L:=fun m s j=>Io n (El b.Design i:Int) (EA b.Design (i:Int)) _ m s j) (k:=fun s=>Dl n b (fun l55 i59=>(some l55)) m s ((i+1:Nat):Int)) (SQ (El b.Design i:Int)) 2 s.length (fun j a _=>by simp [SQ]) (by omega) ?_ ?_ n (by omega) s (by omega)
  ·intro m j hj s2 hs2
   have hq:=Hi _ (List.getElem_mem hj)
   simp only [Io.eq_2,CV hj,cT,Ab hj,Ar,wT j]
   rw [Ud (by omega) (by omega) (by omega) (by omega) (by omega),Ar,Ud (by simp;omega) (by omega) (by omega) (by omega) (by omega),Ar]
   rw [List.append_assoc]
   congr 2
   simp [SQ]
  ·intro m s
   simp only [Io.eq_2,Cc,cF]) (by
  intro m s
  simp only [Dl.eq_2,Cc,cF]) n (by omega) _ (Nat.le_refl _)]
 rfl
theorem JY{α β:Type}(h:Nat->α->β):∀(xs:List α) (s:Nat),(CY (fun j q=>[h j q]) s xs).length=xs.length
 |[],_=>rfl
 |x::xs,s=>by simp [CY,JY h xs (s+1)]
theorem Ot{α β:Type}(h:α->β):∀(xs:List α) (s:Nat),CY (fun _ q=>[h q]) s xs=xs.map h
 |[],_=>rfl
 |x::xs,s=>by simp [CY,Ot h xs (s+1)]
theorem Nw(i:Nat)(x:Ak):(Jl i x).length=x.Nets.length:=JY (fun j q=>Au.mk i j q ((j:Int)==(x.Nets.length:Int)-1)) x.Nets 0
theorem Lj{d:AL}{i:Nat}(hi:i<d.Instances.length):CP d (i+1)=CP d i+d.Instances[i].Nets.length:=by
 unfold CP;rw [Du hi,List.length_append,Nw]
theorem OQ{a:BL}:∀p∈NY a,(0<=p.1∧p.1<=1)∧0<=p.2∧p.2<=1:=fun p hp=>by
 have:=(List.mem_filter.1 hp).1
 simp only [List.mem_cons,List.not_mem_nil,or_false]at this
 rcases this with rfl|rfl|rfl|rfl<;>simp
theorem fS{n:Nat}{a:BL}(h:a.Kind=1∧(1<=a.Sense∧a.Sense<=3)∨a.Kind=2∨a.Kind=3∨a.Kind=4∨a.Kind=5):Qm n a=some ((NY a).map fun p=>(⟨p.1,p.2⟩:Bi)):=by
 unfold Qm
 rcases h with ⟨k,s⟩|k|k|k|k
 ·rcases(by omega:a.Sense=1∨a.Sense=2∨a.Sense=3)with s|s|s<;>simp [NY,Ly,k,s]
 all_goals simp [NY,Ly,k]
theorem bM{n:Nat}{b:AP}(v:CZ b){i:Nat}(hi:i<b.Design.Instances.length)(hn:1048577<=n):WA n b b.Design.Instances[i] (CP b.Design i:Int)=some (NJ b i b.Design.Instances[i]):=by
 have vd:=v.design
 have hl:=CW vd.short vd.few.1 vd.few.2.2
 obtain⟨k,hk,_,gc,hnl,vc⟩:=v.design.inst_at hi
 have fa:=vc.few
 have fp:=vc.pins.few
 have hoff:=(Cp (d:=b.Design) (q:=0) hi (by have:=(vd.inst _ (List.getElem_mem hi)).long vd.lib;omega)).lt
 have ea:GK b b.Design.Instances[i]=b.Library.Cells[k].Arcs:=by unfold GK;rw [gc]
 rw [WA,gc,Ar,NJ,ea]
 rw [Bs (xs:=b.Library.Cells[k].Arcs) (L:=fun m s j=>GS n (CP b.Design i:Int) b.Library.Cells[k] (fun l47 i51=>(some l47)) m s j) (k:=fun s=>some s) (TY (CP b.Design i)) 4 0 (fun j a _=>MC _ _ a) (by omega) (by
  intro m j hj s hs
  obtain⟨⟨f0,f1⟩,⟨t0,t1⟩,kd⟩:=MO vc hj
  simp only [GS.eq_2,CV hj,cT,Ab hj,Ar,fS kd,wT j]
  have e:TY (CP b.Design i) j b.Library.Cells[k].Arcs[j]=CY (fun _ (t:Bi)=>[(⟨2*((CP b.Design i:Int)+b.Library.Cells[k].Arcs[j].From)+t.e0,2*((CP b.Design i:Int)+b.Library.Cells[k].Arcs[j].To)+t.e1,1,(j:Int)⟩:AS)]) 0 ((NY b.Library.Cells[k].Arcs[j]).map fun p=>(⟨p.1,p.2⟩:Bi)):=by
   rw [Ot,List.map_map];rfl
  rw [e]
  have tl:=Ol b.Library.Cells[k].Arcs[j]
  refine Bs (xs:=(NY b.Library.Cells[k].Arcs[j]).map fun p=>(⟨p.1,p.2⟩:Bi)) (L:=fun m s q=>Ic (CP b.Design i:Int) (j:Int) b.Library.Cells[k].Arcs[j] ((NY b.Library.Cells[k].Arcs[j]).map fun p=>(⟨p.1,p.2⟩:Bi)) _ m s q) (k:=fun s=>GS n (CP b.Design i:Int) b.Library.Cells[k] (fun l47 i51=>(some l47)) m s ((j+1:Nat):Int)) _ 1 s.length (fun _ _ _=>by simp) (by rw [List.length_map];omega) ?_ ?_ n (by rw [List.length_map];omega) s (by omega)
  ·intro m q hq s2 hs2
   have hq2:q<(NY b.Library.Cells[k].Arcs[j]).length:=by simpa using hq
   have r:=OQ _ (List.getElem_mem hq2)
   have e2:((NY b.Library.Cells[k].Arcs[j]).map fun p=>(⟨p.1,p.2⟩:Bi))[q]=⟨(NY b.Library.Cells[k].Arcs[j])[q].1,(NY b.Library.Cells[k].Arcs[j])[q].2⟩:=by simp
   simp only [Ic.eq_2,CV hq,cT,Ab hq,Ar,e2,wT q]
   rw [Af (x:=(CP b.Design i:Int)+b.Library.Cells[k].Arcs[j].From) (by omega) (by omega),Af (x:=(CP b.Design i:Int)+b.Library.Cells[k].Arcs[j].To) (by omega) (by omega),Af (x:=2*((CP b.Design i:Int)+b.Library.Cells[k].Arcs[j].From)) (by omega) (by omega),Af (x:=2*((CP b.Design i:Int)+b.Library.Cells[k].Arcs[j].To)) (by omega) (by omega),Af (by omega) (by omega),Af (by omega) (by omega),BA (by simp;omega) (by omega),Ar]
  ·intro m s
   simp only [Ic.eq_2,Cc,cF]) (by
  intro m s
  simp only [GS.eq_2,Cc,cF]) n (by omega) [] (by simp)]
 rw [List.nil_append]
def LS(d:AL)(q j:Nat):List Int:=CY (fun i p=>if De (q:Int) p=true then [(i:Int)]else []) 0 ((pls d).take j)
theorem Qp(d:AL)(q:Nat):LS d q (pls d).length=EA d (q:Int):=by unfold LS EA;rw [List.take_length]
theorem SI(d:AL)(q j:Nat):(LS d q j).length<=j:=by
 have:=CQ (c:=1) (g:=fun i p=>if De (q:Int) p=true then [(i:Int)]else []) ((pls d).take j) 0 fun i p _=>by split<;>simp
 have h2:((pls d).take j).length<=j:=by simp;omega
 unfold LS;omega
theorem eD{n:Nat}{b:AP}(v:CZ b)(hn:1048577<=n):Ba (fun r:BY=>r.places_=pls b.Design∧r.links_=II b) (XZ n b):=by
 have vd:=v.design
 have f1:=vd.few.1;have f2:=vd.few.2.1
 have hl:=CW vd.short vd.few.1 vd.few.2.2
 have hW:=v.many
 have hI:=CQ (c:=32) (g:=NJ b) b.Design.Instances 0 fun j x hx=>Hz v j hx
 rw [XZ,Tb vd.short vd.few.1 vd.few.2.2 hn,Ar]
 refine Fs (L:=fun m j (s:Int×List AS)=>IX n b _ m s.1 j s.2) b.Design.Instances.length (fun j s=>s.1=(CP b.Design j:Int)∧s.2=CY (NJ b) 0 (b.Design.Instances.take j)) ?_ ?_ n ((0:Int),[]) (by omega) ⟨by simp [CP,CY],by simp [CY]⟩
 ·intro m j s hj ⟨hs1,hs2⟩
  have hlen:=(vd.inst _ (List.getElem_mem hj)).long vd.lib
  have hoff:=(Cp (d:=b.Design) (q:=0) hj (by omega)).lt
  have hsl:=CQ (c:=32) (g:=NJ b) (b.Design.Instances.take j) 0 fun i x hx=>Hz v i (List.mem_of_mem_take hx)
  have htl:(b.Design.Instances.take j).length=j:=by simp;omega
  have h32:=Hz v j (List.getElem_mem hj)
  simp only [IX.eq_2,CV hj,cT,Ab hj,Ar,hs1,hs2,bM v hj hn,JU,wT j]
  rw [BA (by omega) (by omega),Ar,Af (by omega) (by omega)]
  exact⟨((CP b.Design (j+1):Int),CY (NJ b) 0 (b.Design.Instances.take (j+1))),⟨rfl,rfl⟩,by rw [Du hj,Lj hj];rfl⟩
 ·intro m s ⟨_,hs2⟩
  rw [List.take_length]at hs2
  simp only [IX.eq_2,Cc,cF]
  rw [EX (by omega) (by omega),Ar,EX (by omega) (by omega),Ar,hs2]
  refine Fs (L:=fun m j (s:List Int×List (List Int))=>Fw (pls b.Design) _ m j s.1 s.2) (pls b.Design).length (fun j s=>(s.1.length=b.Wires.length∧s.2.length=b.Wires.length)∧(∀q (h:q<s.2.length),s.2[q]=LS b.Design q j)∧∀q,q<b.Wires.length->El b.Design q<j->gd s.1 q=(El b.Design q:Int)) ?_ ?_ n (List.replicate b.Wires.length 0,List.replicate b.Wires.length []) (by omega) ⟨⟨by simp,by simp⟩,fun q h=>by simp [LS,CY],fun q _ h=>by omega⟩
  ·intro m j s hj ⟨⟨h1,h2⟩,h3,h4⟩
   have hp:=vd.net _ (List.getElem_mem hj)
   obtain⟨N,hN⟩:=Int.eq_ofNat_of_zero_le hp.1
   have hN:(pls b.Design)[j].net_=(N:Int):=hN
   have hNl:N<b.Wires.length:=by omega
   obtain⟨a,ea⟩:=EG (t:=s.1) (i:=(N:Int)) (by omega) (by omega)
   have ey:AO s.2 (N:Int)=some s.2[N]:=Ab (by omega)
   have hyl:=SI b.Design N j
   simp only [Fw.eq_2,CV hj,cT,Ab hj,Ar,hN,ea,ey,h3 N (by omega),Int.toNat_natCast,wT j]
   cases hdr:(pls b.Design)[j].drives_ with
   |true=>
    rw [cT]
    refine⟨(s.1.set N (j:Int),s.2),⟨⟨by simpa using h1,h2⟩,fun q hq=>?_,fun q hq hlt=>?_⟩,rfl⟩
    ·have:De (q:Int) (pls b.Design)[j]=false:=by simp [De,hdr]
     rw [h3 q hq];unfold LS
     rw [Du hj,this];simp
    ·have hd:=Jk vd (q:=q) (by omega)
     rw [Jf (by omega)]
     by_cases c:N=q
     ·subst c
      rw [if_pos rfl,hd.only j hj (by simp [DP,hN,hdr])]
     ·rw [if_neg c]
      refine h4 q hq ?_
      rcases Nat.lt_or_ge (El b.Design q) j with h|h
      ·exact h
      ·exfalso
       have ej:El b.Design q=j:=by omega
       have hh:=hd.hit
       simp only [DP,Bool.and_eq_true,beq_iff_eq]at hh
       have h5:=hh.1
       simp only [ej]at h5
       rw [hN]at h5;omega
   |false=>
    rw [cF,BA (by simp;omega) (by omega),Ar]
    refine⟨(s.1,s.2.set N (LS b.Design N j++[(j:Int)])),⟨⟨h1,by simpa using h2⟩,fun q hq=>?_,fun q hq hlt=>?_⟩,rfl⟩
    ·simp only [List.length_set]at hq
     rw [List.getElem_set]
     unfold LS
     rw [Du hj]
     by_cases c:N=q
     ·subst c
      have:De (N:Int) (pls b.Design)[j]=true:=by simp [De,hN,hdr]
      rw [if_pos rfl,this];simp
     ·have:De (q:Int) (pls b.Design)[j]=false:=by
       have:((N:Int)==(q:Int))=false:=by rw [beq_eq_false_iff_ne];omega
       simp [De,hN,this]
      rw [if_neg c,this,h3 q (by omega)];simp [LS]
    ·have hd:=Jk vd (q:=q) (by omega)
     refine h4 q hq ?_
     rcases Nat.lt_or_ge (El b.Design q) j with h|h
     ·exact h
     ·exfalso
      have ej:El b.Design q=j:=by omega
      have hh:=hd.hit
      simp only [DP,Bool.and_eq_true]at hh
      have h5:=hh.2
      simp only [ej]at h5
      rw [hdr]at h5;cases h5
  ·intro m t ⟨⟨h1,h2⟩,h3,h4⟩
   simp only [Fw.eq_2,Cc,cF]
   refine Fs (L:=fun m j (s:(List AS×List Int)×List Unit)=>EY n b t.1 t.2 _ m j s.1.1 s.1.2 s.2) b.Wires.length (fun j u=>(u.1.1=CY (NJ b) 0 b.Design.Instances++CY (fun q (_:ByteArray)=>UB b.Design q) 0 (b.Design.Nets.take j)∧u.1.2.length=j)∧u.2.length=j) ?_ ?_ n ((CY (NJ b) 0 b.Design.Instances,[]),[]) (by omega) ⟨⟨by simp [CY],rfl⟩,rfl⟩
   ·intro m j u hj ⟨⟨g1,g2⟩,g3⟩
    obtain⟨r,er,hr⟩:=cO (n:=n) v hj hn
    obtain⟨z,ez,_⟩:=eL (n:=n) v hj hn
    have hm:=(v.wire j hj).many
    have e0:AO r 0=some (gd r 0):=gI (i:=0) (by omega)
    have hj2:j<t.2.length:=by omega
    have hjN:j<b.Design.Nets.length:=by omega
    have hd:=(Jk vd hjN).lt
    have a1:AO t.1 (j:Int)=some (El b.Design j:Int):=by rw [gI (by omega),h4 j hj hd]
    have hsk:t.2[j]=EA b.Design (j:Int):=by rw [h3 j hj2,Qp]
    have hgl:u.1.1.length<=448+156*j:=by
     have q1:=CQ (c:=156) (g:=fun q (_:ByteArray)=>UB b.Design q) (b.Design.Nets.take j) 0 fun i x _=>MA vd i
     have q2:(b.Design.Nets.take j).length=j:=by simp;omega
     rw [g1,List.length_append];omega
    have hsl:(EA b.Design (j:Int)).length<=78:=by
     rw [EO];exact Nat.le_trans List.countP_le_length hl
    simp only [EY.eq_2,CV hj,cT,Ar,er,e0,ez,Ab hj2,hsk]
    rw [BA (by simp;omega) (by omega),Ar,BA (by simp;omega) (by omega),Ar,wT j]
    refine⟨((u.1.1++UB b.Design j,u.1.2++[gd r 0]),u.2++List.map (fun _=>()) [z]),⟨⟨?_,by simp;omega⟩,by simp;omega⟩,?_⟩
    ·rw [g1,Du hjN,List.append_assoc]
    ·refine Bs (xs:=EA b.Design (j:Int)) (L:=fun m' s k=>Hn n t.1 (j:Int) (EA b.Design (j:Int)) _ m' k s) (k:=fun s=>EY n b t.1 t.2 _ m ((j+1:Nat):Int) s (u.1.2++[gd r 0]) (u.2++List.map (fun _=>()) [z])) (SQ (El b.Design j:Int)) 2 u.1.1.length (fun j a _=>by simp [SQ]) (by omega) ?_ ?_ n (by omega) u.1.1 (by omega)
     ·intro m k hk s hs
      have hq:=Hi _ (List.getElem_mem hk)
      obtain⟨n',rfl⟩:∃n',n=n'+3:=⟨n-3,by omega⟩
      have w1:IntKind.wrap .i64 ((0:Int)+1)=1:=by decide
      have w2:IntKind.wrap .i64 ((1:Int)+1)=2:=by decide
      simp only [Hn.eq_2,CV hk,cT,Ab hk,Ar,wT k]
      rw [Ib.eq_2,show decide ((0:Int)<2)=true from rfl,cT,a1,Ar,Af (x:=2*(El b.Design j:Int)) (by omega) (by omega),Af (x:=2*(EA b.Design (j:Int))[k]) (by omega) (by omega),Af (x:=2*(El b.Design j:Int)+0) (by omega) (by omega),Af (x:=2*(EA b.Design (j:Int))[k]+0) (by omega) (by omega),BA (by simp;omega) (by omega),Ar,w1,Ib.eq_2,show decide ((1:Int)<2)=true from rfl,cT,a1,Ar,Af (x:=2*(El b.Design j:Int)) (by omega) (by omega),Af (x:=2*(EA b.Design (j:Int))[k]) (by omega) (by omega),Af (x:=2*(El b.Design j:Int)+1) (by omega) (by omega),Af (x:=2*(EA b.Design (j:Int))[k]+1) (by omega) (by omega),BA (by simp;omega) (by omega),Ar,w2,Ib.eq_2,show decide ((2:Int)<2)=false from rfl,cF,List.append_assoc]
      congr 1
      simp [SQ]
     ·intro m s
      simp only [Hn.eq_2,Cc,cF]
   ·intro m u ⟨⟨g1,_⟩,_⟩
    simp only [EY.eq_2,Cc,cF]
    refine⟨_,rfl,rfl,?_⟩
    show u.1.1=II b
    rw [g1,hW,List.take_length];rfl
def PP(N:Int)(br:List Int):Prop:=∀i,i<br.length->(0<=gd br i∧gd br i<=N-1)∧(0<i->gd br (i-1)<gd br i)
theorem eW{n:Nat}{br:List Int}{N:Int}(h:br.length<=1048576)(hN:0<=N∧N<=1048576)(hn:1048577<=n):AV (PP N br) (RJ n br N):=by
 rw [RJ]
 refine(Dp (L:=fun m i=>Fy n br N _ m i) (Q:=True) br.length 0 (fun i=>(0<=gd br i∧gd br i<=N-1)∧(0<i->gd br (i-1)<gd br i)) ?_ ?_ n 0 (by omega) (by omega) (by omega) (fun j _ h=>by omega)).iff ?_
 ·intro m i _ hi
  simp only [Fy.eq_2,CV hi,cT,gI hi,Ar,HF,wT i,Af (x:=N-1) (by omega) (by omega)]
  by_cases c:0<=gd br i∧gd br i<=N-1
  ·have e:(decide (gd br i>=0)&&decide (gd br i<=N-1))=true:=Gx.2 c
   rw [e]
   simp only [Bool.not_true,cF]
   by_cases c0:0<i
   ·have w1:IntKind.wrap .i64 ((i:Int)-1)=((i-1:Nat):Int):=by rw [Af (by omega) (by omega)];omega
    simp only [decide_eq_true (show(i:Int)>0 by omega),cT,w1,gI (show i-1<br.length by omega),Ar]
    by_cases c1:gd br (i-1)<gd br i
    ·rw [decide_eq_false (show¬gd br (i-1)>=gd br i by omega),cF];exact .inl ⟨⟨c,fun _=>c1⟩,rfl⟩
    ·rw [decide_eq_true (show gd br (i-1)>=gd br i by omega),cT];exact .inr ⟨fun h=>c1 (h.2 c0),rfl⟩
   ·simp only [decide_eq_false (show¬(i:Int)>0 by omega),cF,Ar]
    exact .inl ⟨⟨c,fun h=>absurd h c0⟩,by trivial⟩
  ·have e:(decide (gd br i>=0)&&decide (gd br i<=N-1))=false:=by
    cases q:(decide (gd br i>=0)&&decide (gd br i<=N-1))with
    |false=>rfl
    |true=>exact absurd (Gx.1 q) c
   rw [e]
   simp only [Bool.not_false,cT,Ar]
   exact .inr ⟨fun h=>c h.1,by trivial⟩
 ·intro m i h1 h2 _
  obtain rfl:i=br.length:=by omega
  simp only [Fy.eq_2,Cc,cF]
  exact⟨true,rfl,by simp⟩
 ·exact⟨fun h i hi=>h.1 i (Nat.zero_le _) hi,fun h=>⟨fun i _ hi=>h i hi,trivial⟩⟩
theorem dK{n:Nat}{br:List Int}{v:BY}(h:br.length<=1048576)(hN:v.links_.length<=1048576)(hn:1048577<=n):AV (PP (v.links_.length:Int) br) (QP n v br):=by
 rw [QP,Su,Ar,Af (by omega) (by omega),AW h hn,Ar]
 have ha:(br.all fun k=>decide (k>=0)&&decide (k<=(v.links_.length:Int)-1))=true↔∀i,i<br.length->0<=gd br i∧gd br i<=(v.links_.length:Int)-1:=by
  rw [List.all_eq_true]
  refine⟨fun g i hi=>?_,fun g k hk=>?_⟩
  ·have:=g br[i] (List.getElem_mem hi)
   rw [aR hi];exact Gx.1 this
  ·obtain⟨i,hi,rfl⟩:=List.getElem_of_mem hk
   have:=g i hi
   rw [aR hi]at this;exact Gx.2 this
 cases c:(br.all fun k=>decide (k>=0)&&decide (k<=(v.links_.length:Int)-1))with
 |true=>
  have ha:=ha.1 c
  obtain⟨r,e,hr⟩:=cE (n:=n) h hn
  rw [cT,e,Ar,Ar]
  exact⟨r,rfl,hr.trans ⟨fun g i hi=>⟨ha i hi,g i hi⟩,fun g i hi=>(g i hi).2⟩⟩
 |false=>
  rw [cF,Ar]
  refine⟨false,rfl,by simp,fun g=>?_⟩
  rw [ha.2 fun i hi=>(g i hi).1]at c;cases c
theorem Zv{n:Nat}{br:List Int}{x:Int}(h:br.length<=1048576)(hn:1048577<=n):SE n br x=some (br.any fun y=>y==x):=by
 rw [SE]
 refine loop (L:=fun m i (_:Unit)=>Fz br x (fun i5=>some false) m i) br.length (fun i _=>(br.any fun y=>y==x)=((br.drop i).any fun y=>y==x)) (fun o=>o=some (br.any fun y=>y==x)) ?_ ?_ n 0 () (by omega) (by omega) (by simp)
 ·intro m i _ hi hI
  simp only [Fz.eq_2,CV hi,cT,Ab hi,Ar,wT i]
  rw [List.drop_eq_getElem_cons hi,List.any_cons]at hI
  cases c:(br[i]==x)with
  |true=>rw [c,Bool.true_or]at hI;rw [hI];exact .inr rfl
  |false=>rw [c,Bool.false_or]at hI;exact .inl ⟨(),hI,rfl⟩
 ·intro m _ hI
  rw [List.drop_length]at hI
  simp only [Fz.eq_2,Cc,cF,hI,List.any_nil]
def OS(b:AP)(x:AS):Option BL:=Option.bind (AO (pls b.Design) (IntKind.wrap .i64 (Int.tdiv x.To 2))) fun p=>Option.bind (AO b.Design.Instances p.instance_) fun y=>Option.bind (AO b.Library.Cells y.Cell) fun c=>Option.bind (AO c.Arcs x.Index) fun a=>some a
def LZ(b:AP)(x:AS):Bool:=x.Kind==1&&match OS b x with
 |some a=>a.Kind==2||a.Kind==3
 |none=>false
structure Nh(b:AP)(x:AS):Prop where
 from_:0<=x.From∧x.From<Kp b
 to_:0<=x.To∧x.To<Kp b
 arc:x.Kind=1->∃p y c a,AO (pls b.Design) (IntKind.wrap .i64 (Int.tdiv x.To 2))=some p∧p∈pls b.Design∧AO b.Design.Instances p.instance_=some y∧AO b.Library.Cells y.Cell=some c∧AO c.Arcs x.Index=some a∧(a.Kind=1∨a.Kind=2∨a.Kind=3)
theorem MJ{b:AP}(v:CZ b):∀x∈II b,Nh b x:=by
 have vd:=v.design
 have hl:=CW vd.short vd.few.1 vd.few.2.2
 have nd:Kp b=2*((pls b.Design).length:Int):=rfl
 intro x hx
 simp only [II,List.mem_append]at hx
 rcases hx with hx|hx
 ·refine Cl (Q:=Nh b) b.Design.Instances 0 (fun i hi y hy=>?_) x hx
  rw [Nat.zero_add]at hy
  obtain⟨k,hk,_,gc,hnl,vc⟩:=vd.inst_at hi
  have ea:GK b b.Design.Instances[i]=b.Library.Cells[k].Arcs:=by unfold GK;rw [gc]
  rw [NJ,ea]at hy
  refine Cl (Q:=Nh b) _ 0 (fun j hj z hz=>?_) y hy
  rw [Nat.zero_add]at hz
  obtain⟨⟨f0,f1⟩,⟨t0,t1⟩,kd⟩:=MO vc hj
  obtain⟨t,ht,rfl⟩:=List.mem_map.1 hz
  have tr:=OQ t ht
  obtain⟨F,eF⟩:=Int.eq_ofNat_of_zero_le f0
  have eF:b.Library.Cells[k].Arcs[j].From=(F:Int):=eF
  obtain⟨T,eT⟩:=Int.eq_ofNat_of_zero_le t0
  have eT:b.Library.Cells[k].Arcs[j].To=(T:Int):=eT
  have b1:=(Cp (d:=b.Design) (q:=F) hi (by omega)).lt
  have pf:=Cp (d:=b.Design) (q:=T) hi (by omega)
  have b2:=pf.lt
  obtain⟨p,ep,hp⟩:=pf.hit
  have hp:(p.instance_==(i:Int)&&p.pin_==(T:Int))=true:=hp
  simp only [Bool.and_eq_true,beq_iff_eq]at hp
  have k3:¬3<b.Library.Cells[k].Arcs[j].Kind:=fun h=>by rw [NK h]at ht;cases ht
  refine⟨?_,?_,fun _=>⟨p,b.Design.Instances[i],b.Library.Cells[k],b.Library.Cells[k].Arcs[j],?_,List.mem_of_getElem? ep,?_,gc,?_,by omega⟩⟩
  ·have h1:0<=2*((CP b.Design i:Int)+b.Library.Cells[k].Arcs[j].From)+t.1∧2*((CP b.Design i:Int)+b.Library.Cells[k].Arcs[j].From)+t.1<Kp b:=by rw [eF];omega
   exact h1
  ·have h1:0<=2*((CP b.Design i:Int)+b.Library.Cells[k].Arcs[j].To)+t.2∧2*((CP b.Design i:Int)+b.Library.Cells[k].Arcs[j].To)+t.2<Kp b:=by rw [eT];omega
   exact h1
  ·show AO (pls b.Design) (IntKind.wrap .i64 (Int.tdiv (2*((CP b.Design i:Int)+b.Library.Cells[k].Arcs[j].To)+t.2) 2))=some p
   rw [eT]
   have e1:Int.tdiv (2*((CP b.Design i:Int)+(T:Int))+t.2) 2=((CP b.Design i+T:Nat):Int):=by
    rw [Int.tdiv_eq_ediv_of_nonneg (by omega)];omega
   rw [e1,Af (by omega) (by omega),Fp];exact ep
  ·rw [hp.1];exact Ab hi
  ·exact Ab hj
 ·refine Cl (Q:=Nh b) b.Design.Nets 0 (fun q hq y hy=>?_) x hx
  rw [Nat.zero_add]at hy
  have hd:=(Jk vd hq).lt
  refine Cl (Q:=Nh b) _ 0 (fun j hj z hz=>?_) y hy
  have hs:=Hi _ (List.getElem_mem hj)
  simp only [SQ,List.mem_cons,List.not_mem_nil,or_false]at hz
  rcases hz with rfl|rfl
  ·exact⟨⟨by show(0:Int)<=2*_;omega,by show(2:Int)*_<_;omega⟩,⟨by show(0:Int)<=2*_;omega,by show(2:Int)*_<_;omega⟩,fun h=>by have h:(2:Int)=1:=h;omega⟩
  ·exact⟨⟨by show(0:Int)<=2*_+1;omega,by show(2:Int)*_+1<_;omega⟩,⟨by show(0:Int)<=2*_+1;omega,by show(2:Int)*_+1<_;omega⟩,fun h=>by have h:(2:Int)=1:=h;omega⟩
theorem aK{n:Nat}{b:AP}{w:BY}(hw:w.Block=b)(hp:w.places_=pls b.Design){x:AS}(ok:Nh b x):Rk n w x=some (LZ b x):=by
 rw [Rk]
 unfold LZ
 by_cases k:x.Kind=1
 ·have e1:(x.Kind !=1)=false:=by rw [bne_eq_false_iff_eq];exact k
  have e2:(x.Kind==1)=true:=by rw [beq_iff_eq];exact k
  obtain⟨p,y,c,a,g1,_,g2,g3,g4,_⟩:=ok.arc k
  rw [e1,e2,cF,TA,hp,hw]
  simp only [g1,g2,g3,g4,Ar,OS,Bool.true_and]
 ·have e1:(x.Kind !=1)=true:=by rw [bne_iff_ne];exact k
  have e2:(x.Kind==1)=false:=by rw [beq_eq_false_iff_ne];exact k
  rw [e1,e2,cT,Bool.false_and]
theorem ZQ{n:Nat}{l:Ap}{d:AL}(v:CL l d){p:Au}(hp:p∈pls d):∃r,QA n l d (FF p)=some r:=by
 rw [QA]
 by_cases c:p.instance_<0
 ·rw [decide_eq_true (show(FF p).instance_<0 from c),cT];exact⟨_,rfl⟩
 ·obtain⟨x,c',pin,e1,e2,e3⟩:=v.place p hp (by omega)
  have e1:AO d.Instances (FF p).instance_=some x:=e1
  have e3:AO c'.Pins (FF p).pin_=some pin:=e3
  rw [decide_eq_false (show¬(FF p).instance_<0 from c),cF,e1,Ar,e2,Ar,e3,Ar];exact⟨_,rfl⟩
theorem dV{n:Nat}{b:AP}(v:CZ b){i:Nat}(hi:i<b.Wires.length)(hn:1048577<=n):Ba (fun r=>r.length=b.Wires[i].Parent.length) (YG n b (i:Int)):=by
 have vd:=v.design
 have vw:=v.wire i hi
 have hm:=vw.many
 have hP:=vw.cap
 have hl:=CW vd.short vd.few.1 vd.few.2.2
 have hsl:(EA b.Design (i:Int)).length=b.Wires[i].Sink.length:=by rw [EO];have:=vw.sink;omega
 have hsn:QJ b.Design (i:Int)<=78:=Nat.le_trans List.countP_le_length hl
 have hsn2:=EO (d:=b.Design) (q:=(i:Int))
 rw [YG,Ab hi,Ar,Ld,BA (by simp;omega) (by omega),Ar,Ar,NQ vd.short vd.few.1 vd.few.2.2 hn,Ar,VY vd (i:Int) hn,Ar]
 refine Fs (L:=fun m j s=>Ia n b b.Wires[i] ((pls b.Design).map FF) (EA b.Design (i:Int)) _ m j s) (EA b.Design (i:Int)).length (fun _ s=>s.length=b.Wires[i].Parent.length) ?_ ?_ n _ (by omega) (by simp;omega)
 ·intro m j s hj hs
  have hj2:j<b.Wires[i].Sink.length:=by omega
  have hk:=vw.sinks j hj2
  have hq:=Hi _ (List.getElem_mem hj)
  obtain⟨a,ea⟩:=EG (t:=s) hk.1 (by omega)
  obtain⟨p,ep,hp⟩:=Dn (xs:=pls b.Design) hq.1 hq.2
  obtain⟨r,er⟩:=ZQ (n:=n) vd (List.mem_of_getElem? hp)
  have ep2:AO ((pls b.Design).map FF) (EA b.Design (i:Int))[j]=some (FF p):=by
   obtain⟨N,hN⟩:=Int.eq_ofNat_of_zero_le hq.1
   have hN:(EA b.Design (i:Int))[j]=(N:Int):=hN
   rw [hN]at hp ⊢
   rw [Fp,List.getElem?_map]
   rw [Int.toNat_natCast]at hp
   rw [hp];rfl
  simp only [Ia.eq_2,CV hj,cT,Ab hj,gI hj2,Ar,ea,ep2,er,wT j]
  exact⟨_,by simpa using hs,rfl⟩
 ·intro m s hs
  simp only [Ia.eq_2,Cc,cF]
  have wx:IntKind.wrap .i64 ((s.length:Int)-1)=((s.length-1:Nat):Int):=by rw [Af (by omega) (by omega)];omega
  rw [wx]
  have key:∀(m k:Nat) (s:List Int),k<b.Wires[i].Parent.length->s.length=b.Wires[i].Parent.length->k<m->Ba (fun r:List Int=>r.length=b.Wires[i].Parent.length) (HT b.Wires[i] (fun i92 l94=>(some l94)) m (k:Int) s):=by
   intro m
   induction m with
   |zero=>intro k s _ _ h;omega
   |succ m ih=>
    intro k s hk hs hm
    by_cases c:0<k
    ·have hd:decide ((k:Int)>0)=true:=decide_eq_true (by omega)
     have ht:=vw.tree k c hk
     obtain⟨a,ea⟩:=EG (t:=s) ht.1 (by omega)
     have wk:IntKind.wrap .i64 ((k:Int)-1)=((k-1:Nat):Int):=by rw [Af (by omega) (by omega)];omega
     simp only [HT.eq_2,hd,cT,gI hk,Ar,ea,gI (show k<s.length by omega),wk]
     exact ih (k-1) _ (by omega) (by simpa using hs) (by omega)
    ·have hd:decide ((k:Int)>0)=false:=decide_eq_false (by omega)
     simp only [HT.eq_2,hd,cF]
     exact⟨s,rfl,hs⟩
  exact key n (s.length-1) s (by omega) hs (by omega)
theorem ZJ{n:Nat}{b:AP}(v:CZ b){x:AS}(ok:Nh b x)(k:x.Kind=1)(hn:1048577<=n):∃a z,RF n b x=some (a,z)∧(a.Kind==1)= !LZ b x:=by
 have vd:=v.design
 obtain⟨p,y,c,a,g1,pm,g2,g3,g4,kd⟩:=ok.arc k
 have hp:=vd.net p pm
 have hW:=v.many
 obtain⟨N,hN⟩:=Int.eq_ofNat_of_zero_le hp.1
 have hN:p.net_=(N:Int):=hN
 have hNl:N<b.Wires.length:=by omega
 obtain⟨r,er,hr⟩:=dV (n:=n) v hNl hn
 have hm:=(v.wire N hNl).many
 have g1':AO ((pls b.Design).map FF) (IntKind.wrap .i64 (Int.tdiv x.To 2))=some (FF p):=by
  obtain⟨g0,g5,g6⟩:=Dm g1
  obtain⟨M,hM⟩:=Int.eq_ofNat_of_zero_le g0
  have hM:IntKind.wrap .i64 (Int.tdiv x.To 2)=(M:Int):=hM
  rw [hM]at g6 ⊢
  rw [Fp,List.getElem?_map]
  rw [Int.toNat_natCast]at g6
  rw [g6];rfl
 have g2':AO b.Design.Instances (FF p).instance_=some y:=g2
 have hN':(FF p).net_=(N:Int):=hN
 refine⟨a,gd r 0,?_,?_⟩
 ·rw [RF,NQ vd.short vd.few.1 vd.few.2.2 hn]
  simp only [Ar,g1',g2',g3,g4,hN',er,gI (i:=0) (show 0<r.length by omega)]
  have e0:AO r 0=some (gd r 0):=gI (i:=0) (by omega)
  rw [e0];rfl
 ·have e2:(x.Kind==1)=true:=by rw [beq_iff_eq];exact k
  have ea:OS b x=some a:=by simp only [OS,g1,g2,g3,g4,Ar]
  unfold LZ
  rw [e2,ea,Bool.true_and]
  show(a.Kind==1)= !(a.Kind==2||a.Kind==3)
  rcases kd with h|h|h<;>rw [h]<;>rfl
theorem EK{l:List Bool}{i:Nat}(h:i<l.length):AO l (i:Int)=some (gb l i):=by rw [Ab h];simp [gb,h]
def Ed(L:List AS)(lv:List Bool)(u w:Int):Prop:=∃k,∃h:k<L.length,gb lv k=true∧L[k].From=u∧L[k].To=w
inductive KR(L:List AS)(lv:List Bool)(src:Int->Prop):Int->Prop
 |src {u:Int}:src u->KR L lv src u
 |step {u w:Int}:KR L lv src u->Ed L lv u w->KR L lv src w
theorem KR.mono{L:List AS}{lv:List Bool}{s t:Int->Prop}(h:∀u,s u->t u){v:Int}(r:KR L lv s v):KR L lv t v:=by
 induction r with
 |src h1=>exact .src (h _ h1)
 |step _ e ih=>exact .step ih e
theorem KR.or{L:List AS}{lv:List Bool}{s t:Int->Prop}{v:Int}(r:KR L lv (fun u=>s u∨t u) v):KR L lv s v∨KR L lv t v:=by
 induction r with
 |src h=>exact h.elim (fun h=>.inl (.src h)) (fun h=>.inr (.src h))
 |step _ e ih=>exact ih.elim (fun h=>.inl (.step h e)) (fun h=>.inr (.step h e))
theorem KR.closed{L:List AS}{lv:List Bool}{s:Int->Prop}{Q:Int->Prop}(h0:∀u,s u->Q u)(h1:∀u w,Q u->Ed L lv u w->Q w){v:Int}(r:KR L lv s v):Q v:=by
 induction r with
 |src h=>exact h0 _ h
 |step _ e ih=>exact h1 _ _ ih e
structure FM(L:List AS)(lv:List Bool)(s:Int->Prop)(N:Nat)(out:List Bool):Prop where
 len:out.length=N
 iff:∀v:Nat,v<N->(gb out v=true↔KR L lv s (v:Int))
theorem FM.same{L:List AS}{lv:List Bool}{s:Int->Prop}{N:Nat}{o o':List Bool}(h:FM L lv s N o)(h':FM L lv s N o'):o=o':=
 OH (h.len.trans h'.len.symm) fun j hj=>by
  rw [h.len]at hj
  rw [Bool.eq_iff_iff,h.iff j hj,h'.iff j hj]
def cf(l:List Bool):Nat:=l.countP (fun b=>!b)
theorem QX(l:List Bool):cf l<=l.length:=List.countP_le_length
theorem Np:∀{l:List Bool} {i:Nat},i<l.length->gb l i=false->cf (l.set i true)+1=cf l
 |[],i,h,_=>by simp at h
 |b::l,0,_,h=>by
  have h:b=false:=h
  subst h;simp [cf]
 |b::l,i+1,hi,h=>by
  have ih:=Np (l:=l) (i:=i) (by simpa using hi) h
  unfold cf at ih ⊢
  simp only [List.set_cons_succ,List.countP_cons];omega
structure PC(L:List AS)(N:Nat):Prop where
 from_:∀k (h:k<L.length),0<=L[k].From∧L[k].From<(N:Int)
 to_:∀k (h:k<L.length),0<=L[k].To∧L[k].To<(N:Int)
theorem cV{n:Nat}{L:List AS}{lv:List Bool}{N s:Nat}(hL:PC L N)(hlv:lv.length=L.length)(hl:L.length<=10000)(hN:N<=1000)(hs:s<N)(hn:1048577<=n):
 ∃out,Ti n (N:Int) L lv (s:Int) true=some out∧FM L lv (fun u=>u=(s:Int)) N out:=by
 rw [Ti,EX (by omega) (by omega),Ar,Ab (show s<(List.replicate N false).length by simpa using hs),Ar,Int.toNat_natCast]
 have key:=RU (L:=fun m (st:Bool×List Bool)=>GH n L lv true (fun q33 l34=>(some l34)) m st.1 st.2) (fun st=>2*cf st.2+st.1.toNat)
  (fun st=>st.2.length=N∧gb st.2 s=true∧(∀v,v<N->gb st.2 v=true->KR L lv (fun u=>u=(s:Int)) (v:Int))∧(st.1=false->∀k (h:k<L.length),gb lv k=true->gb st.2 L[k].From.toNat=true->gb st.2 L[k].To.toNat=true))
  (fun o=>∃out,o=some out∧FM L lv (fun u=>u=(s:Int)) N out) ?_ n (true,(List.replicate N false).set s true) ?_ ?_
 ·exact key
 ·rintro m ⟨q,out⟩ ⟨h1,h2,h3,h4⟩ ih
  have h1:out.length=N:=h1
  have h2:gb out s=true:=h2
  have h3:∀v,v<N->gb out v=true->KR L lv (fun u=>u=(s:Int)) (v:Int):=h3
  simp only [GH.eq_2]
  cases q with
  |false=>
   have h4:=h4 rfl
   refine⟨out,rfl,h1,fun v hv=>⟨h3 v hv,fun r=>?_⟩⟩
   have:=KR.closed (Q:=fun u=>0<=u∧u<(N:Int)∧gb out u.toNat=true) (fun u e=>by subst e;exact⟨by omega,by omega,by simpa using h2⟩) (fun u w hu e=>by
    obtain⟨k,hk,e1,e2,e3⟩:=e
    subst e2 e3
    have:=hL.to_ k hk
    exact⟨this.1,this.2,h4 k hk e1 hu.2.2⟩) r
   simpa using this.2.2
  |true=>
   rw [cT]
   have inner:=RN (L:=fun m' i (st:Bool×List Bool)=>Dz L lv true (fun q38 i39 l40=>(GH n L lv true (fun q33 l34=>(some l34)) m q38 l40)) m' st.1 i st.2) L.length
    (fun i st=>st.2.length=N∧gb st.2 s=true∧(∀v,v<N->gb st.2 v=true->KR L lv (fun u=>u=(s:Int)) (v:Int))∧(∀v,gb out v=true->gb st.2 v=true)∧cf st.2<=cf out∧(st.1=true->cf st.2<cf out)∧(st.1=false->st.2=out∧∀k (h:k<L.length),k<i->gb lv k=true->gb out L[k].From.toNat=true->gb out L[k].To.toNat=true))
    (fun o=>∃out,o=some out∧FM L lv (fun u=>u=(s:Int)) N out) ?_ ?_ n 0 (false,out) (by omega) (by omega) ⟨h1,h2,h3,fun v h=>h,Nat.le_refl _,fun h=>Bool.noConfusion h,fun _=>⟨rfl,fun k _ h=>absurd h (Nat.not_lt_zero k)⟩⟩
   ·exact inner
   ·rintro m' i ⟨q,l⟩ hi ⟨g1,g2,g3,g4,g5,g6,g7⟩ kk
    have g1:l.length=N:=g1
    have g2:gb l s=true:=g2
    have g3:∀v,v<N->gb l v=true->KR L lv (fun u=>u=(s:Int)) (v:Int):=g3
    have g4:∀v,gb out v=true->gb l v=true:=g4
    have g5:cf l<=cf out:=g5
    have g6:q=true->cf l<cf out:=g6
    have g7:q=false->l=out∧∀k (h:k<L.length),k<i->gb lv k=true->gb out L[k].From.toNat=true->gb out L[k].To.toNat=true:=g7
    have hF:=hL.from_ i hi
    have hT:=hL.to_ i hi
    obtain⟨F,eF⟩:=Int.eq_ofNat_of_zero_le hF.1
    have eF:L[i].From=(F:Int):=eF
    obtain⟨T,eT⟩:=Int.eq_ofNat_of_zero_le hT.1
    have eT:L[i].To=(T:Int):=eT
    have lF:F<l.length:=by omega
    have lT:T<l.length:=by omega
    show∃o',Dz L lv true _ (m'+1) q (i:Int) l=some o'∧_
    simp only [Dz.eq_2,CV hi,cT,Ab hi,Ar,Bool.not_true,cF,EK (show i<lv.length by omega),eF,eT,EK lF,EK lT,CS,Int.toNat_natCast,wT i]
    have skip:(gb lv i=true->gb l F=true->gb l T=true)->∃o',Dz L lv true (fun q38 i39 l40=>(GH n L lv true (fun q33 l34=>(some l34)) m q38 l40)) m' q ((i+1:Nat):Int) l=some o'∧FM L lv (fun u=>u=(s:Int)) N o':=fun hc=>kk (q,l) ⟨g1,g2,g3,g4,g5,g6,fun hq=>by
     obtain⟨e,h⟩:=g7 hq
     refine⟨e,fun k hk hki a b=>?_⟩
     by_cases c:k=i
     ·subst c;subst e
      rw [eT,Int.toNat_natCast]
      rw [eF,Int.toNat_natCast]at b
      exact hc a b
     ·exact h k hk (by omega) a b⟩
    cases c1:(gb lv i&&gb l F)with
    |false=>
     simp only [Bool.false_and,cF]
     exact skip fun a b=>by rw [a,b]at c1;cases c1
    |true=>
     simp only [Bool.true_and]
     simp only [Bool.and_eq_true]at c1
     cases c2:gb l T with
     |true=>
      simp only [Bool.not_true,cF]
      exact skip fun _ _=>c2
     |false=>
      simp only [Bool.not_false,cT]
      have hcf:=Np lT c2
      refine kk (true,l.set T true) ⟨by simpa using g1,?_,?_,?_,by show cf (l.set T true)<=_;omega,fun _=>by show cf (l.set T true)<_;omega,fun h=>by cases h⟩
      ·show gb (l.set T true) s=true
       rw [Dx lT];split
       ·rfl
       ·exact g2
      ·intro v hv hg
       have hg:gb (l.set T true) v=true:=hg
       rw [Dx lT]at hg
       by_cases c:T=v
       ·subst c
        refine .step (g3 F (by omega) c1.2) ⟨i,hi,c1.1,eF,eT⟩
       ·rw [if_neg c]at hg;exact g3 v hv hg
      ·intro v hg
       show gb (l.set T true) v=true
       rw [Dx lT];split
       ·rfl
       ·exact g4 v hg
   ·rintro m' ⟨q,l⟩ ⟨g1,g2,g3,g4,g5,g6,g7⟩
    show∃o',Dz L lv true _ (m'+1) q (L.length:Int) l=some o'∧_
    simp only [Dz.eq_2,Cc,cF]
    refine ih (q,l) ⟨g1,g2,g3,fun hq=>?_⟩ ?_
    ·obtain⟨e,h⟩:=g7 hq
     have e:l=out:=e
     subst e
     exact fun k hk a b=>h k hk hk a b
    ·show 2*cf l+q.toNat<2*cf out+1
     cases q with
     |true=>have:=g6 rfl;have:cf l<cf out:=this;simp;omega
     |false=>have:cf l<=cf out:=g5;simp;omega
 ·have h1:=QX ((List.replicate N false).set s true)
  simp only [List.length_set,List.length_replicate]at h1
  show 2*cf ((List.replicate N false).set s true)+1<n
  omega
 ·have hl2:s<(List.replicate N false).length:=by simpa using hs
  refine⟨by simp,by show gb ((List.replicate N false).set s true) s=true;rw [Dx hl2,if_pos rfl],fun v hv hg=>?_,fun h=>by cases h⟩
  have hg:gb ((List.replicate N false).set s true) v=true:=hg
  rw [Dx hl2]at hg
  by_cases c:s=v
  ·subst c;exact .src rfl
  ·rw [if_neg c]at hg;simp [gb,hv]at hg
structure aI(L:List AS)(lv:List Bool)(N i:Nat)(nx:List (List Int)):Prop where
 len:nx.length=N
 few:∀u (h:u<nx.length),nx[u].length<=i
 iff:∀u (h:u<nx.length) (w:Int),w∈nx[u]↔∃k,∃h:k<L.length,k<i∧gb lv k=true∧L[k].From=(u:Int)∧L[k].To=w
theorem PQ{α:Type}{x:α}{xs:List α}:HI (x::xs) 1 ((x::xs).length:Int)=some xs:=by
 unfold HI
 rw [if_pos ⟨by omega,by simp only [List.length_cons];omega,Int.le_refl _⟩]
 simp
theorem dI{n:Nat}{g:Cg}{N a b:Nat}(hL:PC g.view_.links_ N)(hlv:g.live_.length=g.view_.links_.length)(hl:g.view_.links_.length<=5128)(hN:N<=156)(hp:2*g.view_.places_.length=N)(ha:a<N)(hb:b<N)(hn:1048577<=n):
 ∃out,VM n g [(a:Int),(b:Int)]=some out∧FM g.view_.links_ g.live_ (fun u=>u=(a:Int)∨u=(b:Int)) N out:=by
 obtain⟨w,lv⟩:=g
 generalize hLL:(Cg.mk w lv).view_.links_=L at hL hlv hl ⊢
 have hLL:w.links_=L:=hLL
 have hlv:lv.length=L.length:=hlv
 show∃out,VM n ⟨w,lv⟩ [(a:Int),(b:Int)]=some out∧FM L lv (fun u=>u=(a:Int)∨u=(b:Int)) N out
 have hw:OF n w=some (N:Int):=by
  rw [OF,PX,Ar,Af (by have:2*w.places_.length=N:=hp;omega) (by have:2*w.places_.length=N:=hp;omega)]
  congr 1
  have:2*w.places_.length=N:=hp
  omega
 rw [VM]
 simp only [hw,Ar]
 rw [EX (by omega) (by omega),Ar]
 refine loop (L:=fun m i nx=>Hj n ⟨w,lv⟩ _ m i nx) L.length (aI L lv N) (fun o=>∃out,o=some out∧FM L lv (fun u=>u=(a:Int)∨u=(b:Int)) N out) ?_ ?_ n 0 (List.replicate N []) (by omega) (by omega) ⟨by simp,fun u h=>by simp,fun u h x=>by simp⟩
 ·intro m i nx hi hx
  refine .inl ?_
  have hF:=hL.from_ i hi
  obtain⟨F,eF⟩:=Int.eq_ofNat_of_zero_le hF.1
  have eF:L[i].From=(F:Int):=eF
  have lF:F<nx.length:=by rw [hx.len];omega
  have fw:=hx.few F lF
  simp only [Hj.eq_2,hLL,CV hi,cT,Ab hi,Ar,Sr,EK (show i<lv.length by omega),eF,Ab lF,Int.toNat_natCast,wT i]
  cases c:gb lv i with
  |false=>
   refine⟨nx,⟨hx.len,fun u h=>by have:=hx.few u h;omega,fun u h x=>(hx.iff u h x).trans ⟨fun⟨k,hk,h1,h2⟩=>⟨k,hk,by omega,h2⟩,fun⟨k,hk,h1,h2,h3⟩=>⟨k,hk,?_,h2,h3⟩⟩⟩,rfl⟩
   rcases Nat.lt_or_ge k i with h|h
   ·exact h
   ·obtain rfl:k=i:=by omega
    rw [c]at h2;cases h2
  |true=>
   rw [cT,BA (by simp;omega) (by omega),Ar]
   refine⟨nx.set F (nx[F]++[L[i].To]),⟨by simpa using hx.len,fun u h=>?_,fun u h x=>?_⟩,rfl⟩
   ·rw [List.getElem_set]
    split
    ·simp;omega
    ·have:=hx.few u (by simpa using h);omega
   ·have hu:u<nx.length:=by simpa using h
    rw [List.getElem_set]
    by_cases e:F=u
    ·subst e
     rw [if_pos rfl,List.mem_append,hx.iff F hu x,List.mem_singleton]
     refine⟨fun h=>?_,fun⟨k,hk,h1,h2,h3,h4⟩=>?_⟩
     ·rcases h with ⟨k,hk,h1,h2⟩|h
      ·exact⟨k,hk,by omega,h2⟩
      ·exact⟨i,hi,by omega,c,eF,h.symm⟩
     ·rcases Nat.lt_or_ge k i with h|h
      ·exact .inl ⟨k,hk,h,h2,h3,h4⟩
      ·obtain rfl:k=i:=by omega
       exact .inr h4.symm
    ·rw [if_neg e,hx.iff u hu x]
     refine⟨fun⟨k,hk,h1,h2⟩=>⟨k,hk,by omega,h2⟩,fun⟨k,hk,h1,h2,h3,h4⟩=>⟨k,hk,?_,h2,h3,h4⟩⟩
     rcases Nat.lt_or_ge k i with h|h
     ·exact h
     ·obtain rfl:k=i:=by omega
      rw [eF]at h3;omega
 ·intro m nx hx
  simp only [Hj.eq_2,hLL,Cc,cF]
  rw [EX (by omega) (by omega),Ar,OC,BA (by simp) (by omega),Ar,Ar,List.nil_append]
  have hnx:=hx.len
  have step:∀u w:Int,0<=u->u<(N:Int)->∀h:u.toNat<nx.length,(w∈nx[u.toNat]↔Ed L lv u w):=fun u w h0 h1 h=>by
   rw [hx.iff u.toNat h w]
   unfold Ed
   refine⟨fun⟨k,hk,_,h2,h3,h4⟩=>⟨k,hk,h2,by omega,h4⟩,fun⟨k,hk,h2,h3,h4⟩=>⟨k,hk,hk,h2,by omega,h4⟩⟩
  have edN:∀u w:Int,Ed L lv u w->0<=w∧w<(N:Int):=fun u w ⟨k,hk,_,_,h4⟩=>by rw [←h4];exact hL.to_ k hk
  refine RU (L:=fun m (st:List Int×List Bool)=>GG nx (fun l87 l92=>(some l92)) m st.1 st.2) (fun st=>st.1.length+cf st.2*(L.length+1))
   (fun st=>st.2.length=N∧(∀x∈st.1,(0<=x∧x<(N:Int))∧KR L lv (fun u=>u=(a:Int)∨u=(b:Int)) x)∧(∀v,v<N->gb st.2 v=true->KR L lv (fun u=>u=(a:Int)∨u=(b:Int)) (v:Int))∧(∀u:Nat,u=a∨u=b->gb st.2 u=true∨(u:Int)∈st.1)∧(∀u w:Int,0<=u->u<(N:Int)->gb st.2 u.toNat=true->Ed L lv u w->gb st.2 w.toNat=true∨w∈st.1)∧st.1.length+cf st.2*(L.length+1)<=810000)
   (fun o=>∃out,o=some out∧FM L lv (fun u=>u=(a:Int)∨u=(b:Int)) N out) ?_ n ([(a:Int),(b:Int)],List.replicate N false) ?_ ?_
  ·rintro m ⟨op,re⟩ ⟨h1,h2,h3,h4,h5,h6⟩ ih
   have h1:re.length=N:=h1
   have h3:∀v,v<N->gb re v=true->KR L lv (fun u=>u=(a:Int)∨u=(b:Int)) (v:Int):=h3
   show∃o',GG nx _ (m+1) op re=some o'∧_
   rw [GG.eq_2]
   cases op with
   |nil=>
    have h4:∀u:Nat,u=a∨u=b->gb re u=true∨(u:Int)∈([]:List Int):=h4
    have h5:∀u w:Int,0<=u->u<(N:Int)->gb re u.toNat=true->Ed L lv u w->gb re w.toNat=true∨w∈([]:List Int):=h5
    refine⟨re,rfl,h1,fun v hv=>⟨h3 v hv,fun r=>?_⟩⟩
    have:=KR.closed (Q:=fun u=>0<=u∧u<(N:Int)∧gb re u.toNat=true) (fun u e=>by
     rcases e with e|e
     ·subst e;exact⟨by omega,by omega,by have:=h4 a (.inl rfl);simpa using this⟩
     ·subst e;exact⟨by omega,by omega,by have:=h4 b (.inr rfl);simpa using this⟩) (fun u w hu e=>by
     have hw:=edN u w e
     exact⟨hw.1,hw.2,by have:=h5 u w hu.1 hu.2.1 hu.2.2 e;simpa using this⟩) r
    simpa using this.2.2
   |cons x rest=>
    have hxr:=h2 x (by simp)
    obtain⟨X,eX⟩:=Int.eq_ofNat_of_zero_le hxr.1.1
    have eX:x=(X:Int):=eX
    subst eX
    have lX:X<re.length:=by omega
    have lX2:X<nx.length:=by omega
    have hfx:=hx.few X lX2
    have d0:decide ((((X:Int)::rest).length:Int)>0)=true:=decide_eq_true (by simp only [List.length_cons];omega)
    have g0:AO ((X:Int)::rest) 0=some (X:Int):=rfl
    have h6:(rest.length+1)+cf re*(L.length+1)<=810000:=h6
    rw [d0,cT,g0,Ar,PQ,Ar,EK lX,Ar]
    cases c:gb re X with
    |true=>
     simp only [Bool.not_true,cF]
     refine ih (rest,re) ⟨h1,fun y hy=>h2 y (by simp [hy]),h3,fun u hu=>?_,fun u w q1 q2 q3 q4=>?_,by show rest.length+cf re*(L.length+1)<=810000;omega⟩ (by show rest.length+cf re*(L.length+1)<rest.length+1+cf re*(L.length+1);omega)
     ·rcases h4 u hu with h|h
      ·exact .inl h
      ·rcases List.mem_cons.1 h with h|h
       ·have:u=X:=by omega
        subst this;exact .inl c
       ·exact .inr h
     ·rcases h5 u w q1 q2 q3 q4 with h|h
      ·exact .inl h
      ·rcases List.mem_cons.1 h with h|h
       ·subst h;exact .inl (by simpa using c)
       ·exact .inr h
    |false=>
     simp only [Bool.not_false,cT,Ar]
     rw [Ab lX2,Ar,BA (by omega) (by omega),Ar,Int.toNat_natCast]
     have hcf:=Np lX c
     have hmul:cf re*(L.length+1)=cf (re.set X true)*(L.length+1)+(L.length+1):=by rw [←hcf,Nat.add_mul,Nat.one_mul]
     refine ih (rest++nx[X],re.set X true) ⟨by simpa using h1,fun y hy=>?_,fun v hv hg=>?_,fun u hu=>?_,fun u w q1 q2 q3 q4=>?_,?_⟩ ?_
     ·rcases List.mem_append.1 hy with hy|hy
      ·exact h2 y (by simp [hy])
      ·have e:=(step (X:Int) y hxr.1.1 hxr.1.2 (by simpa using lX2)).1 (by simpa using hy)
       exact⟨edN _ _ e,.step hxr.2 e⟩
     ·have hg:gb (re.set X true) v=true:=hg
      rw [Dx lX]at hg
      by_cases e:X=v
      ·subst e;exact hxr.2
      ·rw [if_neg e]at hg;exact h3 v hv hg
     ·show gb (re.set X true) u=true∨(u:Int)∈rest++nx[X]
      rw [Dx lX]
      by_cases e:X=u
      ·rw [if_pos e];exact .inl rfl
      ·rw [if_neg e]
       rcases h4 u hu with h|h
       ·exact .inl h
       ·rcases List.mem_cons.1 h with h|h
        ·omega
        ·exact .inr (List.mem_append_left _ h)
     ·have q3:gb (re.set X true) u.toNat=true:=q3
      show gb (re.set X true) w.toNat=true∨w∈rest++nx[X]
      rw [Dx lX]at q3 ⊢
      by_cases e:X=w.toNat
      ·rw [if_pos e];exact .inl rfl
      ·rw [if_neg e]
       by_cases e2:X=u.toNat
       ·refine .inr (List.mem_append_right _ ?_)
        have:=(step u w q1 q2 (by omega)).2 q4
        simpa [←e2] using this
       ·rw [if_neg e2]at q3
        rcases h5 u w q1 q2 q3 q4 with h|h
        ·exact .inl h
        ·rcases List.mem_cons.1 h with h|h
         ·omega
         ·exact .inr (List.mem_append_left _ h)
     ·show(rest++nx[X]).length+cf (re.set X true)*(L.length+1)<=810000
      rw [List.length_append];omega
     ·show(rest++nx[X]).length+cf (re.set X true)*(L.length+1)<rest.length+1+cf re*(L.length+1)
      rw [List.length_append];omega
  ·have h1:=QX (List.replicate N false)
   simp only [List.length_replicate]at h1
   have h2:cf (List.replicate N false)*(L.length+1)<=156*5129:=Nat.mul_le_mul (by omega) (by omega)
   show 2+cf (List.replicate N false)*(L.length+1)<n
   omega
  ·have h1:=QX (List.replicate N false)
   simp only [List.length_replicate]at h1
   have h2:cf (List.replicate N false)*(L.length+1)<=156*5129:=Nat.mul_le_mul (by omega) (by omega)
   refine⟨by simp,fun x hx=>?_,fun v hv hg=>?_,fun u hu=>?_,fun u w _ _ hg=>?_,by show 2+cf (List.replicate N false)*(L.length+1)<=810000;omega⟩
   ·rcases List.mem_cons.1 hx with h|h
    ·subst h;exact⟨by omega,.src (.inl rfl)⟩
    ·rw [List.mem_singleton]at h;subst h;exact⟨by omega,.src (.inr rfl)⟩
   ·have hg:gb (List.replicate N false) v=true:=hg
    rw [SC]at hg;cases hg
   ·rcases hu with h|h
    ·subst h;exact .inr (by simp)
    ·subst h;exact .inr (by simp)
   ·have hg:gb (List.replicate N false) u.toNat=true:=hg
    rw [SC]at hg;cases hg
def LF(b:AP)(br:List Int):List Bool:=CY (fun k x=>[!(br.any fun y=>y==(k:Int))&& !(LZ b x)]) 0 (II b)
theorem HM(b:AP)(br:List Int):(LF b br).length=(II b).length:=JY _ _ _
theorem JZ{b:AP}{br:List Int}{k:Nat}(h:k<(II b).length):gb (LF b br) k=(!(br.any fun y=>y==(k:Int))&& !(LZ b (II b)[k])):=by
 have:=JI (fun k x=>(!(br.any fun y=>y==((k:Nat):Int))&& !(LZ b x))) (II b) 0 k
 rw [List.getElem?_eq_getElem h,Nat.zero_add]at this
 unfold gb LF
 rw [List.getD_eq_getElem?_getD,this];rfl
theorem QE{b:AP}(v:CZ b):PC (II b) (2*(pls b.Design).length):=
 ⟨fun k h=>by have:=(MJ v _ (List.getElem_mem h)).from_;unfold Kp at this;push_cast;omega,fun k h=>by have:=(MJ v _ (List.getElem_mem h)).to_;unfold Kp at this;push_cast;omega⟩
theorem eY{n:Nat}{L:List AS}{br:List Int}(hl:L.length<=1048576)(hb:br.length<=1048576)(hn:1048577<=n):Rf n L br=some (CY (fun k (_:AS)=>[!(br.any fun y=>y==(k:Int))]) 0 L):=by
 rw [Rf]
 rw [Bs (xs:=L) (L:=fun m s i=>GF n L br (fun l19 i23=>(some l19)) m s i) (k:=fun s=>some s) (fun k (_:AS)=>[!(br.any fun y=>y==(k:Int))]) 1 0 (fun _ _ _=>by simp) (by omega) (by
  intro m i hi s hs
  simp only [GF.eq_2,CV hi,cT,Zv hb hn,Ar,wT i]
  rw [BA (by simp;omega) (by omega),Ar]) (by
  intro m s
  simp only [GF.eq_2,Cc,cF]) n (by omega) [] (by simp)]
 rw [List.nil_append]
def Pj(b:AP)(br:List Int)(p:Nat)(out:List Bool):Prop:=FM (II b) (LF b br) (fun u=>u=((2*p:Nat):Int)∨u=((2*p+1:Nat):Int)) (2*(pls b.Design).length) out
theorem Vl{n:Nat}{b:AP}{br:List Int}{p:Nat}(v:CZ b)(hb:br.length<=1048576)(hp:p<(pls b.Design).length)(hn:1048577<=n):∃out,Wy n b br (p:Int)=some out∧Pj b br p out:=by
 have vd:=v.design
 have hl:=CW vd.short vd.few.1 vd.few.2.2
 have hL:=JR v
 have hin:=QE v
 rw [Wy,Vi v hn,Ar,eY (by omega) hb hn,Ar]
 have w1:IntKind.wrap .i64 (2*(p:Int))=((2*p:Nat):Int):=by rw [Af (by omega) (by omega)];omega
 have w2:IntKind.wrap .i64 (((2*p:Nat):Int)+1)=((2*p+1:Nat):Int):=by rw [Af (by omega) (by omega)];omega
 have wc:PW n b=some ((2*(pls b.Design).length:Nat):Int):=by
  rw [PW,NQ vd.short vd.few.1 vd.few.2.2 hn,Ar,List.length_map,Af (by omega) (by omega)]
  exact congrArg some (by omega)
 refine loop (L:=fun m i l=>HN n b (II b) _ m i l) (II b).length (fun i l=>l.length=(II b).length∧∀k (h:k<(II b).length),gb l k=if k<i then gb (LF b br) k else !(br.any fun y=>y==(k:Int))) (fun o=>∃out,o=some out∧Pj b br p out) ?_ ?_ n 0 _ (by omega) (by omega) ⟨JY _ _ _,fun k h=>?_⟩
 ·intro m i l hi ⟨h1,h2⟩
  refine .inl ?_
  have ok:=MJ v _ (List.getElem_mem hi)
  have h2i:=h2 i hi
  rw [if_neg (Nat.lt_irrefl i)]at h2i
  simp only [HN.eq_2,CV hi,cT,Ab hi,Ar,wT i]
  by_cases c:(II b)[i].Kind=1
  ·have e1:((II b)[i].Kind==1)=true:=by rw [beq_iff_eq];exact c
   obtain⟨a,z,ea,ek⟩:=ZJ (n:=n) v ok c hn
   simp only [e1,cT,ea,Ar,EK (show i<l.length by omega),Int.toNat_natCast,ek]
   refine⟨_,⟨by simpa using h1,fun k hk=>?_⟩,rfl⟩
   rw [Dx (by omega)]
   by_cases e:i=k
   ·subst e
    rw [if_pos rfl,if_pos (by omega),JZ hk,h2i]
   ·rw [if_neg e,h2 k hk]
    by_cases q:k<i
    ·rw [if_pos q,if_pos (by omega)]
    ·rw [if_neg q,if_neg (by omega)]
  ·have e1:((II b)[i].Kind==1)=false:=by rw [beq_eq_false_iff_ne];exact c
   simp only [e1,cF]
   refine⟨l,⟨h1,fun k hk=>?_⟩,rfl⟩
   rw [h2 k hk]
   by_cases e:i=k
   ·subst e
    rw [if_neg (Nat.lt_irrefl i),if_pos (by omega),JZ hk]
    have:LZ b (II b)[i]=false:=by unfold LZ;rw [e1,Bool.false_and]
    rw [this];simp
   ·by_cases q:k<i
    ·rw [if_pos q,if_pos (by omega)]
    ·rw [if_neg q,if_neg (by omega)]
 ·intro m l ⟨h1,h2⟩
  have el:l=LF b br:=OH (h1.trans (HM b br).symm) fun j hj=>by rw [h2 j (by omega),if_pos (by omega)]
  subst el
  obtain⟨o1,f1,r1⟩:=cV (n:=n) (s:=2*p) hin (HM b br) (by omega) (by omega) (by omega) hn
  obtain⟨o2,f2,r2⟩:=cV (n:=n) (s:=2*p+1) hin (HM b br) (by omega) (by omega) (by omega) hn
  simp only [HN.eq_2,Cc,cF,wc,Ar,w1,w2,f1,f2]
  refine loop (L:=fun m i l=>HX ((2*(pls b.Design).length:Nat):Int) o2 (fun i75 l76=>(some l76)) m i l) (2*(pls b.Design).length) (fun i l=>l.length=2*(pls b.Design).length∧∀k,k<2*(pls b.Design).length->gb l k=if k<i then(gb o1 k||gb o2 k)else gb o1 k) (fun o=>∃out,o=some out∧Pj b br p out) ?_ ?_ n 0 o1 (by omega) (by omega) ⟨r1.len,fun k _=>by rw [if_neg (Nat.not_lt_zero k)]⟩
  ·intro m i l hi ⟨g1,g2⟩
   refine .inl ?_
   have g2i:=g2 i hi
   rw [if_neg (Nat.lt_irrefl i)]at g2i
   simp only [HX.eq_2,CV hi,cT,EK (show i<l.length by omega),EK (show i<o2.length by have:=r2.len;omega),Ar,DU,Int.toNat_natCast,wT i]
   refine⟨_,⟨by simpa using g1,fun k hk=>?_⟩,rfl⟩
   rw [Dx (by omega)]
   by_cases e:i=k
   ·subst e;rw [if_pos rfl,if_pos (by omega),g2i]
   ·rw [if_neg e,g2 k hk]
    by_cases q:k<i
    ·rw [if_pos q,if_pos (by omega)]
    ·rw [if_neg q,if_neg (by omega)]
  ·intro m l ⟨g1,g2⟩
   simp only [HX.eq_2,Cc,cF]
   refine⟨l,rfl,g1,fun k hk=>?_⟩
   rw [g2 k hk,if_pos hk,Bool.or_eq_true,r1.iff k hk,r2.iff k hk]
   exact⟨fun h=>h.elim (fun h=>h.mono fun _ e=>.inl e) (fun h=>h.mono fun _ e=>.inr e),KR.or⟩
 ·rw [if_neg (Nat.not_lt_zero k)]
  have:=JI (fun k (_:AS)=>!(br.any fun y=>y==((k:Nat):Int))) (II b) 0 k
  rw [List.getElem?_eq_getElem h,Nat.zero_add]at this
  unfold gb
  rw [List.getD_eq_getElem?_getD,this];rfl
theorem RI{br:List Int}{i:Nat}(hi:i<br.length)(k:Int):((br.take (i+1)).any fun y=>y==k)=(((br.take i).any fun y=>y==k)||(br[i]==k)):=by
 rw [List.take_succ_eq_append_getElem hi,List.any_append];simp
theorem Zl{n:Nat}{w:BY}{br:List Int}(hl:w.links_.length<=1048576)(hb:br.length<=1048576)(hr:PP (w.links_.length:Int) br)(hn:1048577<=n):∃lv,YT n w br=some ⟨w,lv⟩∧lv.length=w.links_.length∧∀k,k<w.links_.length->gb lv k= !(br.any fun y=>y==(k:Int)):=by
 rw [YT,EX (by omega) (by omega),Ar]
 refine loop (L:=fun m i l=>Ig w.links_.length _ m i l) (List.replicate w.links_.length false).length (fun i l=>l.length=w.links_.length∧∀k,k<i->gb l k=true) (fun o=>∃lv,o=some (⟨w,lv⟩:Cg)∧lv.length=w.links_.length∧∀k,k<w.links_.length->gb lv k= !(br.any fun y=>y==(k:Int))) ?_ ?_ n 0 (List.replicate w.links_.length false) (by omega) (by simp;omega) ⟨by simp,fun k h=>absurd h (Nat.not_lt_zero k)⟩
 ·intro m i l hi ⟨h1,h2⟩
  have hi2:i<l.length:=by rw [h1];simpa using hi
  simp only [Ig.eq_2,CV hi,cT,EK hi2,Ar,Int.toNat_natCast,wT i]
  refine .inl ⟨_,⟨by simpa using h1,fun k hk=>?_⟩,rfl⟩
  rw [Dx hi2]
  by_cases e:i=k
  ·rw [if_pos e]
  ·rw [if_neg e];exact h2 k (by omega)
 ·intro m l ⟨h1,h2⟩
  simp only [Ig.eq_2,Cc,cF]
  simp only [List.length_replicate]at h2
  refine loop (L:=fun m i l=>Hd br _ m i l) br.length (fun i l=>l.length=w.links_.length∧∀k,k<w.links_.length->gb l k= !((br.take i).any fun y=>y==(k:Int))) (fun o=>∃lv,o=some (⟨w,lv⟩:Cg)∧lv.length=w.links_.length∧∀k,k<w.links_.length->gb lv k= !(br.any fun y=>y==(k:Int))) ?_ ?_ n 0 l (by omega) (by omega) ⟨h1,fun k hk=>by rw [h2 k hk];simp⟩
  ·intro m i l hi ⟨g1,g2⟩
   have hx:=(hr i hi).1
   rw [aR hi]at hx
   obtain⟨X,eX⟩:=Int.eq_ofNat_of_zero_le hx.1
   have eX:br[i]=(X:Int):=eX
   have lX:X<l.length:=by omega
   simp only [Hd.eq_2,CV hi,cT,Ab hi,Ar,eX,EK lX,Int.toNat_natCast,wT i]
   refine .inl ⟨_,⟨by simpa using g1,fun k hk=>?_⟩,rfl⟩
   rw [Dx lX,RI hi,eX]
   by_cases e:X=k
   ·subst e;rw [if_pos rfl];simp
   ·have:((X:Int)==(k:Int))=false:=by rw [beq_eq_false_iff_ne];omega
    rw [if_neg e,g2 k hk,this,Bool.or_false]
  ·intro m l ⟨g1,g2⟩
   simp only [Hd.eq_2,Cc,cF]
   refine⟨l,rfl,g1,fun k hk=>?_⟩
   rw [g2 k hk,List.take_length]
theorem VN{n:Nat}{b:AP}{w:BY}{br:List Int}{p:Nat}(v:CZ b)(hwb:w.Block=b)(hwp:w.places_=pls b.Design)(hwl:w.links_=II b)(hb:br.length<=1048576)(hr:PP ((II b).length:Int) br)(hp:p<(pls b.Design).length)(hn:1048577<=n):∃out,Pv n w br (p:Int)=some out∧Pj b br p out:=by
 have vd:=v.design
 have hl:=CW vd.short vd.few.1 vd.few.2.2
 have hL:=JR v
 have hin:=QE v
 have w1:IntKind.wrap .i64 (2*(p:Int))=((2*p:Nat):Int):=by rw [Af (by omega) (by omega)];omega
 have w2:IntKind.wrap .i64 (((2*p:Nat):Int)+1)=((2*p+1:Nat):Int):=by rw [Af (by omega) (by omega)];omega
 obtain⟨lv0,f0,l0,e0⟩:=Zl (n:=n) (w:=w) (br:=br) (by rw [hwl];omega) hb (by rw [hwl];exact hr) hn
 rw [hwl]at l0 e0
 rw [Pv,f0,Ar]
 refine loop (L:=fun m i l=>FX n w _ m i l) (II b).length (fun i l=>l.length=(II b).length∧∀k (h:k<(II b).length),gb l k=if k<i then gb (LF b br) k else !(br.any fun y=>y==(k:Int))) (fun o=>∃out,o=some out∧Pj b br p out) ?_ ?_ n 0 lv0 (by omega) (by omega) ⟨l0,fun k h=>by rw [if_neg (Nat.not_lt_zero k),e0 k h]⟩
 ·intro m i l hi ⟨h1,h2⟩
  refine .inl ?_
  have ok:=MJ v _ (List.getElem_mem hi)
  have h2i:=h2 i hi
  rw [if_neg (Nat.lt_irrefl i)]at h2i
  simp only [FX.eq_2,hwl,CV hi,cT,Ab hi,Ar,aK hwb hwp ok,wT i]
  cases c:LZ b (II b)[i]with
  |true=>
   simp only [cT,EK (show i<l.length by omega),Ar,Int.toNat_natCast]
   refine⟨_,⟨by simpa using h1,fun k hk=>?_⟩,rfl⟩
   rw [Dx (by omega)]
   by_cases e:i=k
   ·subst e
    rw [if_pos rfl,if_pos (by omega),JZ hk,c];simp
   ·rw [if_neg e,h2 k hk]
    by_cases q:k<i
    ·rw [if_pos q,if_pos (by omega)]
    ·rw [if_neg q,if_neg (by omega)]
  |false=>
   simp only [cF]
   refine⟨l,⟨h1,fun k hk=>?_⟩,rfl⟩
   rw [h2 k hk]
   by_cases e:i=k
   ·subst e
    rw [if_neg (Nat.lt_irrefl i),if_pos (by omega),JZ hk,c];simp
   ·by_cases q:k<i
    ·rw [if_pos q,if_pos (by omega)]
    ·rw [if_neg q,if_neg (by omega)]
 ·intro m l ⟨h1,h2⟩
  have el:l=LF b br:=OH (h1.trans (HM b br).symm) fun j hj=>by rw [h2 j (by omega),if_pos (by omega)]
  subst el
  obtain⟨o1,f1,r1⟩:=dI (n:=n) (g:=⟨w,LF b br⟩) (N:=2*(pls b.Design).length) (a:=2*p) (b:=2*p+1) (by show PC w.links_ _;rw [hwl];exact hin) (by show(LF b br).length=w.links_.length;rw [hwl];exact HM b br) (by show w.links_.length<=5128;rw [hwl];omega) (by omega) (by show 2*w.places_.length=_;rw [hwp]) (by omega) (by omega) hn
  have r1:FM w.links_ (LF b br) (fun u=>u=((2*p:Nat):Int)∨u=((2*p+1:Nat):Int)) (2*(pls b.Design).length) o1:=r1
  rw [hwl]at r1
  simp only [FX.eq_2,hwl,Cc,cF,w1,w2,f1,Ar]
  exact⟨o1,rfl,r1⟩
def Lb(s:List Bool):List Int:=CY (fun i (x:Bool)=>if x=true then [(i:Int)]else []) 0 s
theorem QG(s:List Bool):(Lb s).length<=s.length:=by
 have:=CQ (c:=1) (g:=fun i (x:Bool)=>if x=true then [((i:Nat):Int)]else []) s 0 fun i x _=>by split<;>simp
 unfold Lb;omega
theorem cB{n:Nat}{s:List Bool}(h:s.length<=1048576)(hn:1048577<=n):RV n s=some (Lb s):=by
 rw [RV]
 rw [Bs (xs:=s) (L:=fun m l i=>FJ s (fun l8 i12=>(some l8)) m l i) (k:=fun s=>some s) (fun i (x:Bool)=>if x=true then [(i:Int)]else []) 1 0 (fun i x _=>by split<;>simp) (by omega) (by
  intro m i hi l hs
  simp only [FJ.eq_2,CV hi,cT,Ab hi,Ar,wT i]
  cases c:s[i]with
  |true=>rw [cT,if_pos rfl,BA (by simp;omega) (by omega),Ar]
  |false=>rw [cF,if_neg (by simp),List.append_nil]) (by
  intro m l
  simp only [FJ.eq_2,Cc,cF]) n (by omega) [] (by simp)]
 rw [List.nil_append];rfl
theorem dX{n:Nat}{b:AP}{br:List Int}{p:Int}(hb:Ps b)(hbr:br.length<=1048576)(hn:1048577<=n):
 (Pt n b br p=some 0∧CZ b∧PP ((II b).length:Int) br∧(∃P:Nat,p=(P:Int)∧P<(pls b.Design).length)∧∃w:BY,Nv n b br p=some (some w,0)∧w.Block=b∧w.places_=pls b.Design∧w.links_=II b)∨
 (∃c:Int,(c !=0)=true∧Pt n b br p=some c∧Nv n b br p=some (none,c)):=by
 obtain⟨c,e1,hc⟩:=cR hb hn
 obtain⟨c2,e2,hc2⟩:=eJ hb hn
 obtain rfl:c=c2:=by rw [Bool.eq_iff_iff,hc,hc2]
 rw [Pt,Ta,Nv,e1,e2]
 simp only [Ar]
 cases c with
 |false=>exact .inr ⟨1,rfl,rfl,rfl⟩
 |true=>
  have v:=hc.1 rfl
  have vd:=v.design
  have hl:=CW vd.short vd.few.1 vd.few.2.2
  have hL:=JR v
  obtain⟨w,ew,hw1,hw2⟩:=eD (n:=n) v hn
  obtain⟨r,f1,hr⟩:=eW (n:=n) (br:=br) (N:=((II b).length:Int)) hbr (by omega) hn
  obtain⟨r2,f2,hr2⟩:=dK (n:=n) (br:=br) (v:=⟨b,w.places_,w.links_,w.loads_,w.delays_,w.extras_⟩) hbr (by show w.links_.length<=_;rw [hw2];omega) hn
  have hr2:r2=true↔PP (w.links_.length:Int) br:=hr2
  rw [hw2]at hr2
  obtain rfl:r=r2:=by rw [Bool.eq_iff_iff,hr,hr2]
  simp only [Bool.not_true,cF,Vi v hn,Ar,f1,ew,f2]
  cases r with
  |false=>exact .inr ⟨2,rfl,rfl,rfl⟩
  |true=>
   have wx:IntKind.wrap .i64 (((pls b.Design).length:Int)-1)=((pls b.Design).length:Int)-1:=Af (by omega) (by omega)
   simp only [Bool.not_true,cF,Ar,bne_self_eq_false,NQ vd.short vd.few.1 vd.few.2.2 hn,List.length_map,HF,PX,hw1,It,wx]
   cases q:(decide (p>=0)&&decide (p<=((pls b.Design).length:Int)-1))with
   |false=>exact .inr ⟨4,rfl,rfl,rfl⟩
   |true=>
    have:=Gx.1 q
    exact .inl ⟨rfl,v,hr.1 rfl,⟨p.toNat,by omega,by omega⟩,_,rfl,rfl,hw1▸rfl,hw2⟩
theorem eA{n:Nat}{c:AY}(v:HE c)(g:c.Kind=1){p q:Nat}(hp:p<c.Pins.length-1)(hq:q<c.Pins.length-1)(hpq:p≠q)(hn:1048577<=n):∃r,Nf n c p q=some r∧Nu n c p q=some r:=by
 have few:=v.pins.few
 have ht:c.Truth.length=2^(c.Pins.length-1):=by
  rcases v.kind with k|k|k
  ·exact k.2.2.1
  ·omega
  ·omega
 obtain⟨x0,f0,y0⟩:=cL (n:=n) (c:=c) (p:=p) (q:=q) (l:=0) (k:=c.Pins.length-1) (by omega) ht hp hq hpq hn
 obtain⟨x1,f1,y1⟩:=cL (n:=n) (c:=c) (p:=p) (q:=q) (l:=1) (k:=c.Pins.length-1) (by omega) ht hp hq hpq hn
 obtain⟨z0,i0,u0⟩:=cK (n:=n) (c:=c) (p:=p) (q:=q) (l:=0) (k:=c.Pins.length-1) (by omega) ht hp hq hn
 obtain⟨z1,i1,u1⟩:=cK (n:=n) (c:=c) (p:=p) (q:=q) (l:=1) (k:=c.Pins.length-1) (by omega) ht hp hq hn
 obtain rfl:x0=z0:=Bool.eq_iff_iff.2 (y0.trans u0.symm)
 obtain rfl:x1=z1:=Bool.eq_iff_iff.2 (y1.trans u1.symm)
 have f0:Mx n c p q 0=some x0:=f0
 have f1:Mx n c p q 1=some x1:=f1
 have i0:Ml n c p q 0=some x0:=i0
 have i1:Ml n c p q 1=some x1:=i1
 simp only [Nf,Nu,f0,f1,i0,i1,Ar]
 cases x0<;>cases x1<;>exact⟨_,rfl,rfl⟩
def KE(n:Nat)(c:AY)(p q:Nat):Int:=(Nf n c p q).getD 0
theorem MQ{n:Nat}{c:AY}(v:HE c)(g:c.Kind=1){p q:Nat}(hp:p<c.Pins.length-1)(hq:q<c.Pins.length-1)(hpq:p≠q)(hn:1048577<=n):Nf n c p q=some (KE n c p q)∧Nu n c p q=some (KE n c p q):=by
 obtain⟨r,e1,e2⟩:=eA v g hp hq hpq hn
 unfold KE
 rw [e1];exact⟨rfl,e2⟩
def TZ(out:List Bool)(o p:Nat):Bool:=gb out (2*(o+p))||gb out (2*(o+p)+1)
def PI(n:Nat)(c:AY)(o:Nat)(out:List Bool)(p q:Nat):Bool:=(TZ out o p&& !(TZ out o q))&&(KE n c p q==0||KE n c p q==1)
def HG(n:Nat)(c:AY)(i o:Nat)(out:List Bool)(p q:Nat):List BH:=if c.Kind=1∧p<c.Pins.length-1∧q<c.Pins.length-1∧p≠q then(if PI n c o out p q=true then [⟨(i:Int),(p:Int),(q:Int),KE n c p q⟩]else [])else []
theorem LJ(n:Nat)(c:AY)(i o:Nat)(out:List Bool)(p q:Nat):(HG n c i o out p q).length<=1:=by
 unfold HG;split
 ·split<;>simp
 ·simp
def IC(n:Nat)(c:AY)(i o:Nat)(out:List Bool)(p:Nat):List BH:=CY (fun q (_:BM)=>HG n c i o out p q) 0 c.Pins
def JV(n:Nat)(b:AP)(out:List Bool)(i:Nat)(x:Ak):List BH:=match AO b.Library.Cells x.Cell with
 |some c=>CY (fun p (_:BM)=>IC n c i (CP b.Design i) out p) 0 c.Pins
 |none=>[]
def Qi(n:Nat)(b:AP)(out:List Bool):List BH:=CY (JV n b out) 0 b.Design.Instances
theorem LH(n:Nat)(c:AY)(i o:Nat)(out:List Bool)(p:Nat)(h:c.Pins.length<=5):(IC n c i o out p).length<=5:=by
 have:=CQ (c:=1) (g:=fun q (_:BM)=>HG n c i o out p q) c.Pins 0 fun j _ _=>LJ _ _ _ _ _ _ _
 unfold IC;omega
theorem JS{n:Nat}{b:AP}{out:List Bool}(v:CZ b)(i:Nat){x:Ak}(hx:x∈b.Design.Instances):(JV n b out i x).length<=25:=by
 obtain⟨j,hj,rfl⟩:=List.getElem_of_mem hx
 obtain⟨k,hk,_,gc,_,vc⟩:=v.design.inst_at hj
 have few:=vc.pins.few
 have:=CQ (c:=5) (g:=fun p (_:BM)=>IC n b.Library.Cells[k] i (CP b.Design i) out p) b.Library.Cells[k].Pins 0 fun j _ _=>LH _ _ _ _ _ _ (by omega)
 unfold JV
 rw [gc]
 simp only
 omega
theorem Sn{n:Nat}{b:AP}{out:List Bool}(v:CZ b):(Qi n b out).length<=350:=by
 have:=CQ (c:=25) (g:=JV n b out) b.Design.Instances 0 fun j x hx=>JS v j hx
 have:=v.design.few
 unfold Qi;omega
theorem Mf{α β:Type}(g:Nat->List β){xs:List α}(h:0<xs.length)(h0:g (xs.length-1)=[]):CY (fun j (_:α)=>g j) 0 xs=CY (fun j (_:α)=>g j) 0 xs.dropLast:=by
 have e:xs=xs.take (xs.length-1+1):=by rw [show xs.length-1+1=xs.length by omega,List.take_length]
 conv=>lhs;rw [e]
 rw [Du (g:=fun j (_:α)=>g j) (show xs.length-1<xs.length by omega),h0,List.append_nil,List.dropLast_eq_take]
theorem ZA{n:Nat}{b:AP}{out:List Bool}(v:CZ b)(ho:out.length=2*(pls b.Design).length)(hn:1048577<=n):FA n b out (fun l50 i54=>(some (l50,0))) n ([]:List BH) 0=some (Qi n b out,0):=by
 have vd:=v.design
 have hl:=CW vd.short vd.few.1 vd.few.2.2
 have f1:=vd.few.1
 rw [Bs (xs:=b.Design.Instances) (L:=fun m s i=>FA n b out (fun l50 i54=>(some (l50,0))) m s i) (k:=fun s=>some (s,(0:Int))) (JV n b out) 25 0 (fun j x hx=>JS v j hx) (by omega) (by
  intro m i hi s hs
  obtain⟨k,hk,_,gc,hnl,vc⟩:=v.design.inst_at hi
  have few:=vc.pins.few
  simp only [FA.eq_2,CV hi,cT,Ab hi,gc,Ar,wT i]
  have eh:JV n b out i b.Design.Instances[i]=CY (fun p (_:BM)=>IC n b.Library.Cells[k] i (CP b.Design i) out p) 0 b.Library.Cells[k].Pins:=by unfold JV;rw [gc]
  rw [eh]
  refine Bs (xs:=b.Library.Cells[k].Pins) (L:=fun m s p=>GT n b out (i:Int) b.Library.Cells[k] _ m s p) (k:=fun s=>FA n b out (fun l50 i54=>(some (l50,0))) m s ((i+1:Nat):Int)) (fun p (_:BM)=>IC n b.Library.Cells[k] i (CP b.Design i) out p) 5 s.length (fun j _ _=>LH _ _ _ _ _ _ (by omega)) (by omega) ?_ ?_ n (by omega) s (by omega)
  ·intro m p hp s2 hs2
   simp only [GT.eq_2,CV hp,cT,wT p]
   refine Bs (xs:=b.Library.Cells[k].Pins) (L:=fun m s q=>Fx n b out (i:Int) b.Library.Cells[k] (p:Int) _ m s q) (k:=fun s=>GT n b out (i:Int) b.Library.Cells[k] _ m s ((p+1:Nat):Int)) (fun q (_:BM)=>HG n b.Library.Cells[k] i (CP b.Design i) out p q) 1 s2.length (fun j _ _=>LJ _ _ _ _ _ _ _) (by omega) ?_ ?_ n (by omega) s2 (by omega)
   ·intro m q hq s3 hs3
    have w3:IntKind.wrap .i64 ((b.Library.Cells[k].Pins.length:Int)-2)=(b.Library.Cells[k].Pins.length:Int)-2:=Af (by omega) (by omega)
    simp only [Fx.eq_2,CV hq,cT,Sz,HF,Ar,CS,w3,wT q]
    by_cases c:b.Library.Cells[k].Kind=1∧p<b.Library.Cells[k].Pins.length-1∧q<b.Library.Cells[k].Pins.length-1∧p≠q
    ·obtain⟨c1,c2,c3,c4⟩:=c
     have d1:(decide ((p:Int)>=0)&&decide ((p:Int)<=(b.Library.Cells[k].Pins.length:Int)-2))=true:=Gx.2 (by omega)
     have d2:(decide ((q:Int)>=0)&&decide ((q:Int)<=(b.Library.Cells[k].Pins.length:Int)-2))=true:=Gx.2 (by omega)
     have d3:(b.Library.Cells[k].Kind==1)=true:=by rw [beq_iff_eq];exact c1
     have d5:((p:Int) !=(q:Int))=true:=by rw [bne_iff_ne];omega
     have p1:=PY (n:=n) vd (q:=p) hi (by omega) hn
     have p2:=PY (n:=n) vd (q:=q) hi (by omega) hn
     have b1:=(Cp (d:=b.Design) (q:=p) hi (by omega)).lt
     have b2:=(Cp (d:=b.Design) (q:=q) hi (by omega)).lt
     have lv:=(MQ (n:=n) vc c1 c2 c3 c4 hn).1
     obtain⟨O,hO⟩:∃O:Nat,O=CP b.Design i:=⟨_,rfl⟩
     rw [←hO]at p1 p2 b1 b2
     have x1:IntKind.wrap .i64 (2*((O+p:Nat):Int))=((2*(O+p):Nat):Int):=by rw [Af (by omega) (by omega)];omega
     have x2:IntKind.wrap .i64 (2*((O+q:Nat):Int))=((2*(O+q):Nat):Int):=by rw [Af (by omega) (by omega)];omega
     have x3:IntKind.wrap .i64 (((2*(O+p):Nat):Int)+1)=((2*(O+p)+1:Nat):Int):=by rw [Af (by omega) (by omega)];omega
     have x4:IntKind.wrap .i64 (((2*(O+q):Nat):Int)+1)=((2*(O+q)+1:Nat):Int):=by rw [Af (by omega) (by omega)];omega
     simp only [d1,d2,d3,d5,Bool.and_self,Bool.not_true,cF,p1,p2,lv,Ar,x1,x2,x3,x4,EK (show 2*(O+p)<out.length by omega),EK (show 2*(O+p)+1<out.length by omega),EK (show 2*(O+q)<out.length by omega),EK (show 2*(O+q)+1<out.length by omega),DU,CS]
     have eB:((((gb out (2*(O+p))||gb out (2*(O+p)+1))&& !gb out (2*(O+q)))&& !gb out (2*(O+q)+1))&&(KE n b.Library.Cells[k] p q==0||KE n b.Library.Cells[k] p q==1))=PI n b.Library.Cells[k] O out p q:=by
      unfold PI TZ
      rw [Bool.not_or,←Bool.and_assoc]
     rw [eB]
     unfold HG
     rw [if_pos ⟨c1,c2,c3,c4⟩,←hO]
     cases hh:PI n b.Library.Cells[k] O out p q with
     |true=>rw [cT,if_pos rfl,BA (by simp;omega) (by omega),Ar]
     |false=>rw [cF,if_neg (by simp),List.append_nil]
    ·have eF:(((b.Library.Cells[k].Kind==1&&(decide ((p:Int)>=0)&&decide ((p:Int)<=(b.Library.Cells[k].Pins.length:Int)-2)))&&(decide ((q:Int)>=0)&&decide ((q:Int)<=(b.Library.Cells[k].Pins.length:Int)-2)))&&((p:Int) !=(q:Int)))=false:=by
      cases hh:(((b.Library.Cells[k].Kind==1&&(decide ((p:Int)>=0)&&decide ((p:Int)<=(b.Library.Cells[k].Pins.length:Int)-2)))&&(decide ((q:Int)>=0)&&decide ((q:Int)<=(b.Library.Cells[k].Pins.length:Int)-2)))&&((p:Int) !=(q:Int)))with
      |false=>rfl
      |true=>
       simp only [Bool.and_eq_true,beq_iff_eq,decide_eq_true_eq,bne_iff_ne]at hh
       exact absurd ⟨hh.1.1.1,by omega,by omega,by omega⟩ c
     rw [eF]
     simp only [Bool.not_false,cT]
     unfold HG
     rw [if_neg c,List.append_nil]
   ·intro m s
    simp only [Fx.eq_2,Cc,cF]
  ·intro m s
   simp only [GT.eq_2,Cc,cF]) (by
  intro m s
  simp only [FA.eq_2,Cc,cF]) n (by omega) [] (by simp)]
 rw [List.nil_append];rfl
theorem bC{n:Nat}{c:AY}{i o:Nat}{out:List Bool}(v:HE c)(g:c.Kind=1)(hi:i<=1000)(ho:2*(o+c.Pins.length)<=out.length)(hl:out.length<=1000)(hn:1048577<=n):Xj n c (i:Int) (o:Int) out=some (CY (fun p (_:BM)=>IC n c i o out p) 0 c.Pins):=by
 have few:=v.pins.few
 have hdl:c.Pins.dropLast.length=c.Pins.length-1:=by simp
 have w1:IntKind.wrap .i64 ((c.Pins.length:Int)-1)=(c.Pins.dropLast.length:Int):=by rw [Af (by omega) (by omega),hdl];omega
 have eo:JP n c=some (c.Pins.dropLast.length:Int):=by rw [JP,LY,Ar,w1]
 have pin:∀p:Nat,p<c.Pins.length->Pm n (p:Int) out (o:Int)=some (TZ out o p):=fun p hp=>by
  have x0:IntKind.wrap .i64 ((o:Int)+(p:Int))=((o+p:Nat):Int):=by rw [Af (by omega) (by omega)];omega
  have x1:IntKind.wrap .i64 (2*((o+p:Nat):Int))=((2*(o+p):Nat):Int):=by rw [Af (by omega) (by omega)];omega
  have x3:IntKind.wrap .i64 (((2*(o+p):Nat):Int)+1)=((2*(o+p)+1:Nat):Int):=by rw [Af (by omega) (by omega)];omega
  rw [Pm]
  simp only [x0,x1,x3,EK (show 2*(o+p)<out.length by omega),EK (show 2*(o+p)+1<out.length by omega),Ar,DU]
  rfl
 have inner:∀p:Nat,CY (fun q (_:BM)=>HG n c i o out p q) 0 c.Pins=CY (fun q (_:BM)=>HG n c i o out p q) 0 c.Pins.dropLast:=fun p=>Mf _ (by omega) (by unfold HG;rw [if_neg (by omega)])
 have outer:CY (fun p (_:BM)=>IC n c i o out p) 0 c.Pins=CY (fun p (_:BM)=>IC n c i o out p) 0 c.Pins.dropLast:=Mf _ (by omega) (by
  unfold IC
  rw [inner]
  have:∀(xs:List BM) (s:Nat),CY (fun q (_:BM)=>HG n c i o out (c.Pins.length-1) q) s xs=[]:=by
   intro xs
   induction xs with
   |nil=>intro s;rfl
   |cons x xs ih=>
    intro s
    simp only [CY,ih]
    unfold HG;rw [if_neg (by omega)];rfl
  exact this _ _)
 rw [Xj,eo,Ar,outer]
 rw [Bs (xs:=c.Pins.dropLast) (L:=fun m s p=>Gz n c (i:Int) (o:Int) out (c.Pins.dropLast.length:Int) (fun l41 i45=>(some l41)) m s p) (k:=fun s=>some s) (fun p (_:BM)=>IC n c i o out p) 5 0 (fun j _ _=>LH _ _ _ _ _ _ (by omega)) (by omega) (by
  intro m p hp s hs
  simp only [Gz.eq_2,CV hp,cT,eo,Ar,wT p]
  unfold IC
  rw [inner]
  refine Bs (xs:=c.Pins.dropLast) (L:=fun m s q=>GB n c (i:Int) (o:Int) out (p:Int) (c.Pins.dropLast.length:Int) _ m s q) (k:=fun s=>Gz n c (i:Int) (o:Int) out (c.Pins.dropLast.length:Int) (fun l41 i45=>(some l41)) m s ((p+1:Nat):Int)) (fun q (_:BM)=>HG n c i o out p q) 1 s.length (fun j _ _=>LJ _ _ _ _ _ _ _) (by omega) ?_ ?_ n (by omega) s (by omega)
  ·intro m q hq s3 hs3
   simp only [GB.eq_2,CV hq,cT,pin p (by omega),pin q (by omega),Ar,wT q]
   unfold HG
   by_cases c4:p=q
   ·subst c4
    simp only [beq_self_eq_true,cT,Ar]
    rw [if_neg (by omega),List.append_nil]
   ·have d6:((p:Int)==(q:Int))=false:=by rw [beq_eq_false_iff_ne];omega
    have lv:=(MQ (n:=n) v g (show p<c.Pins.length-1 by omega) (show q<c.Pins.length-1 by omega) c4 hn).2
    simp only [d6,cF,Ar,lv,DU]
    rw [if_pos ⟨g,by omega,by omega,c4⟩]
    unfold PI
    cases TZ out o p<;>cases TZ out o q<;>simp only [Bool.not_true,Bool.not_false,Bool.or_true,Bool.true_or,Bool.or_false,Bool.false_or,Bool.and_true,Bool.true_and,Bool.and_false,Bool.false_and,cT,cF,if_neg (show¬(false=true) by decide),List.append_nil]
    cases hh:(KE n c p q==0||KE n c p q==1)with
    |true=>rw [cT,if_pos rfl,BA (by simp;omega) (by omega),Ar]
    |false=>rw [cF,if_neg (by simp),List.append_nil]
  ·intro m s
   simp only [GB.eq_2,Cc,cF]) (by
  intro m s
  simp only [Gz.eq_2,Cc,cF]) n (by omega) [] (by simp)]
 rw [List.nil_append]
theorem aQ{n:Nat}{b:AP}{out:List Bool}(v:CZ b)(ho:out.length=2*(pls b.Design).length)(hn:1048577<=n):Eo n b out (fun l78 i82 i83=>(some (l78,0))) n ([]:List BH) 0 0=some (Qi n b out,0):=by
 have vd:=v.design
 have hl:=CW vd.short vd.few.1 vd.few.2.2
 have f1:=vd.few.1
 refine loop (L:=fun m i (s:List BH×Int)=>Eo n b out (fun l78 i82 i83=>(some (l78,0))) m s.1 s.2 i) b.Design.Instances.length (fun i s=>s.1=CY (JV n b out) 0 (b.Design.Instances.take i)∧s.2=(CP b.Design i:Int)) (fun o=>o=some (Qi n b out,(0:Int))) ?_ ?_ n 0 ([],(0:Int)) (by omega) (by omega) ⟨by simp [CY],by simp [CP,CY]⟩
 ·intro m i s hi ⟨h1,h2⟩
  refine .inl ⟨(CY (JV n b out) 0 (b.Design.Instances.take (i+1)),(CP b.Design (i+1):Int)),⟨rfl,rfl⟩,?_⟩
  obtain⟨k,hk,_,gc,hnl,vc⟩:=v.design.inst_at hi
  have few:=vc.pins.few
  have hlen:=(vd.inst _ (List.getElem_mem hi)).long vd.lib
  have hoff:=(Cp (d:=b.Design) (q:=b.Design.Instances[i].Nets.length-1) hi (by omega)).lt
  have wo:IntKind.wrap .i64 ((CP b.Design i:Int)+(b.Design.Instances[i].Nets.length:Int))=(CP b.Design (i+1):Int):=by rw [Af (by omega) (by omega),Lj hi];omega
  have hsl:=CQ (c:=25) (g:=JV n b out) (b.Design.Instances.take i) 0 fun j x hx=>JS v j (List.mem_of_mem_take hx)
  have htl:(b.Design.Instances.take i).length=i:=by simp;omega
  have h25:=JS (n:=n) (out:=out) v i (List.getElem_mem hi)
  have eh:JV n b out i b.Design.Instances[i]=CY (fun p (_:BM)=>IC n b.Library.Cells[k] i (CP b.Design i) out p) 0 b.Library.Cells[k].Pins:=by unfold JV;rw [gc]
  simp only [Eo.eq_2,CV hi,cT,Ab hi,gc,Ar,h1,h2,JU,wo,wT i,Du hi]
  by_cases c:b.Library.Cells[k].Kind=1
  ·have d3:(b.Library.Cells[k].Kind==1)=true:=by rw [beq_iff_eq];exact c
   rw [d3,cT,bC (n:=n) vc c (by omega) (by omega) (by omega) hn,Ar,←eh,BA (by omega) (by omega),Ar]
  ·have d3:(b.Library.Cells[k].Kind==1)=false:=by rw [beq_eq_false_iff_ne];exact c
   have e0:JV n b out i b.Design.Instances[i]=[]:=by
    rw [eh]
    have h0:∀p q,HG n b.Library.Cells[k] i (CP b.Design i) out p q=[]:=fun p q=>by unfold HG;rw [if_neg fun h=>c h.1]
    have h2:∀(xs:List BM) (s p:Nat),CY (fun q (_:BM)=>HG n b.Library.Cells[k] i (CP b.Design i) out p q) s xs=[]:=by
     intro xs
     induction xs with
     |nil=>intro s p;rfl
     |cons x xs ih=>intro s p;rw [CY,ih,h0];rfl
    have h3:∀(xs:List BM) (s:Nat),CY (fun p (_:BM)=>IC n b.Library.Cells[k] i (CP b.Design i) out p) s xs=[]:=by
     intro xs
     induction xs with
     |nil=>intro s;rfl
     |cons x xs ih=>intro s;simp only [CY,ih];unfold IC;rw [h2];rfl
    exact h3 _ _
   rw [d3,cF,e0,List.append_nil]
 ·intro m s ⟨h1,_⟩
  simp only [Eo.eq_2,Cc,cF,h1,List.take_length]
  rfl
def LM(C:Nat->Prop)(i:Nat)(l:List Int):Prop:=l.length<=i∧l.Pairwise (fun a b=>a<b)∧∀x,x∈l↔∃k:Nat,x=(k:Int)∧k<i∧C k
theorem LM.zero{C:Nat->Prop}:LM C 0 []:=⟨Nat.le_refl _,List.Pairwise.nil,fun x=>⟨fun h=>(nomatch h),fun⟨k,_,h,_⟩=>by omega⟩⟩
theorem LM.yes{C:Nat->Prop}{i:Nat}{l:List Int}(h:LM C i l)(c:C i):LM C (i+1) (l++[(i:Int)]):=by
 obtain⟨h1,h2,h3⟩:=h
 refine⟨by simp;omega,List.pairwise_append.2 ⟨h2,List.pairwise_singleton ..,fun a ha b hb=>?_⟩,fun x=>?_⟩
 ·obtain⟨k,e,hk,_⟩:=(h3 a).1 ha
  rw [List.mem_singleton.1 hb];omega
 ·rw [List.mem_append,List.mem_singleton,h3 x]
  constructor
  ·rintro (⟨k,e,hk,ck⟩|e)
   ·exact⟨k,e,by omega,ck⟩
   ·exact⟨i,e,by omega,c⟩
  ·rintro ⟨k,e,hk,ck⟩
   by_cases q:k=i
   ·right;rw [e,q]
   ·exact .inl ⟨k,e,by omega,ck⟩
theorem LM.no{C:Nat->Prop}{i:Nat}{l:List Int}(h:LM C i l)(c:¬C i):LM C (i+1) l:=by
 obtain⟨h1,h2,h3⟩:=h
 refine⟨by omega,h2,fun x=>?_⟩
 rw [h3 x]
 constructor
 ·rintro ⟨k,e,hk,ck⟩;exact⟨k,e,by omega,ck⟩
 ·rintro ⟨k,e,hk,ck⟩
  exact⟨k,e,by have:k≠i:=fun q=>c (q▸ck);omega,ck⟩
theorem Lu(s:List Bool):∀i,i<=s.length->LM (fun k=>gb s k=true) i (CY (fun i (x:Bool)=>if x=true then [(i:Int)]else []) 0 (s.take i))
 |0,_=>by rw [List.take_zero];exact LM.zero
 |i+1,h=>by
  have ih:=Lu s i (by omega)
  have hg:gb s i=s[i]:=by simp [gb,List.getElem?_eq_getElem (show i<s.length by omega)]
  rw [Du (show i<s.length by omega)]
  cases c:s[i]with
  |true=>rw [if_pos rfl];exact ih.yes (by rw [hg,c])
  |false=>rw [if_neg (by simp),List.append_nil];exact ih.no (by rw [hg,c];simp)
theorem OT(s:List Bool):LM (fun k=>gb s k=true) s.length (Lb s):=by
 have:=Lu s s.length (Nat.le_refl _)
 rw [List.take_length]at this;exact this
theorem YN{n:Nat}{c:List Int}(hc:IL c){s0:AA}(e0:s0.code_=c)(st:Int):∀(m k:Nat) (l:List Int) (x a d:Int),k<m->l.length+k<=3->Db c (AA.mk s0.code_ a d)->
 Ba (fun r=>r.1.length=l.length+k∧Db c r.2) (Gm n s0 st (fun l38 i42 i43 i45 i46=>(some (l38,(AA.mk s0.code_ i45 i46)))) m l x (k:Int) a d)
 |0,k,l,x,a,d,hm,_,_=>by omega
 |m+1,0,l,x,a,d,hm,hl,hs=>by
  rw [Gm.eq_2]
  exact Ba.some ⟨rfl,hs⟩
 |m+1,k+1,l,x,a,d,hm,hl,hs=>by
  have hp:decide (((k+1:Nat):Int)>0)=true:=decide_eq_true (by omega)
  have w:IntKind.wrap .i64 (((k+1:Nat):Int)-1)=(k:Int):=by rw [Af (by omega) (by omega)];omega
  rw [Gm.eq_2,hp,cT,BA (by simp;omega) (by omega),Ar]
  refine Ba.bind (Nx hc hs st) fun r _ ⟨h1,_⟩=>?_
  rw [w]
  exact(YN hc e0 st m k (l++[x]) _ _ _ (by omega) (by simp;omega) (h1.mk2 e0)).weaken fun r ⟨q1,q2⟩=>⟨by rw [q1];simp;omega,q2⟩
theorem cX{n:Nat}{c:List Int}(hc:IL c){s:AA}(hs:Db c s)(st:Int)(hn:1048577<=n):Ba (fun r=>(1<=r.1.length∧r.1.length<=3)∧Db c r.2) (PK n s st):=by
 rw [PK]
 refine Ba.bind (Nx hc hs st) fun r _ ⟨h1,_⟩=>Ba.bind (Nx hc (h1.mk2 hs.code) 3) fun q _ ⟨k1,k2,k3⟩=>?_
 have w:IntKind.wrap .i64 (1+q.1)=((1+q.1.toNat:Nat):Int):=by rw [Af (by omega) (by omega)];omega
 rw [w]
 exact(YN hc hs.code st n _ [] _ _ _ (by omega) (by simp;omega) (k1.mk2 hs.code)).weaken fun r ⟨q1,q2⟩=>⟨⟨by rw [q1];simp,by rw [q1];simp;omega⟩,q2⟩
theorem Wv{n:Nat}{c:List Int}(hc:IL c){s0:AA}(e0:s0.code_=c)(base:Int){r15 r26:List Int×AA}(h15:r15.1.length<=3)(h26:1<=r26.1.length∧r26.1.length<=3):∀(m i:Nat) (l:List Int) (a d:Int),r15.1.length*r26.1.length-i<m->i<=r15.1.length*r26.1.length->l.length=i->Db c (AA.mk s0.code_ a d)->
 Ba (fun r=>Qu r.1∧Db c r.2) (EH n s0 base r15 r26 (fun l52 i56 i58 i59=>(some ((BK.mk r15.1 r26.1 l52),(AA.mk s0.code_ i58 i59)))) m l (i:Int) a d)
 |0,i,l,a,d,hm,_,_,_=>by omega
 |m+1,i,l,a,d,hm,hi,hl,hs=>by
  have hprod:r15.1.length*r26.1.length<=3*3:=Nat.mul_le_mul h15 h26.2
  have wp:IntKind.wrap .i64 ((r15.1.length:Int)*(r26.1.length:Int))=((r15.1.length*r26.1.length:Nat):Int):=by
   rw [←Int.natCast_mul,Af (by omega) (by omega)]
  rw [EH.eq_2,wp]
  by_cases c0:i<r15.1.length*r26.1.length
  ·rw [CV c0,cT]
   refine Ba.bind (Nx hc hs 10) fun r _ ⟨h1,_⟩=>?_
   have hz:((r26.1.length:Int)==0)=false:=by rw [beq_eq_false_iff_ne];omega
   have tm:Int.tmod (i:Int) (r26.1.length:Int)=((i%r26.1.length:Nat):Int):=rfl
   have go1:∀(z:Int) (s':AA),Db c s'->Ba (fun r=>Qu r.1∧Db c r.2) (Option.bind (BV l [z] 8) fun z1=>EH n s0 base r15 r26 (fun l52 i56 i58 i59=>(some ((BK.mk r15.1 r26.1 l52),(AA.mk s0.code_ i58 i59)))) m z1 (IntKind.wrap .i64 ((i:Int)+1)) s'.at_ s'.seed_):=fun z s' h'=>by
    rw [BA (by simp;omega) (by omega),Ar,wS (by omega)]
    exact Wv hc e0 base h15 h26 m (i+1) _ _ _ (by omega) (by omega) (by simp;omega) (h'.mk2 e0)
   have g2:(i:Int)>=(r26.1.length:Int)->∃x,AO l (IntKind.wrap .i64 ((i:Int)-(r26.1.length:Int)))=some x:=fun h=>by
    rw [Af (by omega) (by omega)]
    obtain⟨x,hx,_⟩:=Dn (xs:=l) (i:=(i:Int)-(r26.1.length:Int)) (by omega) (by omega)
    exact⟨x,hx⟩
   rw [hz,cF,tm]
   refine Ba.bif (fun q1=>?_) fun q1=>?_
   ·have q1:=of_decide_eq_true q1
    have hi0:0<i:=by
     rcases Nat.eq_zero_or_pos i with e|e
     ·subst e;simp at q1
     ·exact e
    have w1:IntKind.wrap .i64 ((i:Int)-1)=((i-1:Nat):Int):=by rw [Af (by omega) (by omega)];omega
    rw [w1,Ab (show i-1<l.length by omega),Ar]
    refine Ba.bind (Nx hc (h1.mk2 e0) 20) fun r2 _ ⟨h2,_⟩=>Ba.bif (fun q2=>?_) fun _=>go1 _ _ h2
    obtain⟨x,hx⟩:=g2 (of_decide_eq_true q2)
    rw [hx,Ar]
    exact Ba.bind (Nx hc (h2.mk2 e0) 20) fun r3 _ ⟨h3,_⟩=>go1 _ _ h3
   ·refine Ba.bif (fun q2=>?_) fun _=>go1 _ _ h1
    obtain⟨x,hx⟩:=g2 (of_decide_eq_true q2)
    rw [hx,Ar]
    exact Ba.bind (Nx hc (h1.mk2 e0) 20) fun r3 _ ⟨h3,_⟩=>go1 _ _ h3
  ·rw [show decide ((i:Int)<((r15.1.length*r26.1.length:Nat):Int))=false from decide_eq_false (by omega),cF]
   exact Ba.some ⟨⟨by show r15.1.length<=_;omega,by show r26.1.length<=_;omega,by show l.length<=_;omega⟩,hs⟩
theorem cM{n:Nat}{c:List Int}(hc:IL c){s:AA}(hs:Db c s)(base:Int)(hn:1048577<=n):Ba (fun r=>Qu r.1∧Db c r.2) (Pc n s base):=by
 rw [Pc]
 refine Ba.bind (cX hc hs 60 hn) fun r _ ⟨h1,h2⟩=>Ba.bind (cX hc (h2.mk2 hs.code) 40 hn) fun q _ ⟨k1,k2⟩=>?_
 have:r.1.length*q.1.length<=3*3:=Nat.mul_le_mul h1.2 k1.2
 exact Wv hc hs.code base h1.2 k1 n 0 [] _ _ (by omega) (by omega) rfl (k2.mk2 hs.code)
theorem ZU{n:Nat}{c:List Int}(hc:IL c){s:AA}(hs:Db c s)(base:Int)(hn:1048577<=n):Ba (fun r=>(r.1.length<=1048576∧∀t∈r.1,Qu t)∧Db c r.2) (OI n s base):=by
 rw [OI]
 refine Ba.bind (cM hc hs base hn) fun r _ ⟨h1,h2⟩=>Ba.bind (cM hc (h2.mk2 hs.code) base hn) fun q _ ⟨k1,k2⟩=>Ba.some ⟨⟨by simp,fun t ht=>?_⟩,k2.mk2 hs.code⟩
 rcases List.mem_cons.1 ht with e|ht
 ·rw [e];exact h1
 ·rw [List.mem_singleton.1 ht];exact k1
theorem Xy{n:Nat}{c:List Int}(hc:IL c){s:AA}(hs:Db c s)(kd f t z:Int)(hn:1048577<=n):Ba (fun r=>XV r.1∧Db c r.2) (MS n s kd f t z):=by
 rw [MS]
 refine Ba.bif (fun _=>?_) fun _=>?_
 ·exact Ba.bind (Nx hc hs 10) fun r _ ⟨h1,_⟩=>Ba.bind (ZU hc (h1.mk2 hs.code) _ hn) fun q _ ⟨k1,k2⟩=>Ba.some ⟨⟨k1,by simp⟩,k2.mk2 hs.code⟩
 ·exact Ba.bind (Nx hc hs 20) fun r _ ⟨h1,_⟩=>Ba.bind (ZU hc (h1.mk2 hs.code) _ hn) fun q _ ⟨k1,k2⟩=>Ba.bind (ZU hc (k2.mk2 hs.code) 10 hn) fun p _ ⟨p1,p2⟩=>Ba.some ⟨⟨k1,p1⟩,p2.mk2 hs.code⟩
theorem bA:∀k:Nat,k<4->∀i:Nat,i<2^k->∀b:Nat,b<k->(KG .i64 (i:Int) (Eb .i64 1 (IntKind.wrap IntKind.u64 (b:Int))) !=0)=true∨(0<=IntKind.wrap .i64 ((i:Int)+(Eb .i64 1 (IntKind.wrap IntKind.u64 (b:Int))))∧IntKind.wrap .i64 ((i:Int)+(Eb .i64 1 (IntKind.wrap IntKind.u64 (b:Int))))<((2^k:Nat):Int)):=by decide+kernel
theorem dW{n:Nat}{cl:AY}{k b:Nat}(hk:k<4)(ht:cl.Truth.length=2^k)(hb:b<k)(hn:1048577<=n):Ba (fun _=>True) (Rv n cl (b:Int)):=by
 have h16:2^k<=2^4:=Nat.pow_le_pow_right (by omega) (by omega)
 have wb:IntKind.wrap IntKind.u64 (b:Int)=(b:Int):=by
  have:∀b:Nat,b<4->IntKind.wrap IntKind.u64 (b:Int)=(b:Int):=by decide+kernel
  exact this b (by omega)
 rw [Rv,wb,decide_eq_false (by omega),cF]
 refine loop (L:=fun m i (p:Bool×Bool)=>FR cl (b:Int) _ m p.1 p.2 i) cl.Truth.length (fun _ _=>True) (fun o=>Ba (fun _=>True) o) ?_ ?_ n 0 (false,false) (by omega) (by omega) trivial
 ·intro m i p hi _
  have h8:=bA k hk i (by omega) b hb
  simp only [FR.eq_2,CV hi,cT,wT i]
  rcases h8 with h8|h8
  ·simp only [h8,cT]
   exact .inl ⟨p,trivial,rfl⟩
  ·obtain⟨y,hy,_⟩:=Dn (xs:=cl.Truth) h8.1 (by rw [ht];exact h8.2)
   cases hx:(KG .i64 (i:Int) (Eb .i64 1 (IntKind.wrap IntKind.u64 (b:Int))) !=0)with
   |true=>simp only [cT];exact .inl ⟨p,trivial,rfl⟩
   |false=>
    simp only [cF,Ab hi,hy,Ar]
    obtain⟨p1,p2⟩:=p
    cases p1<;>cases p2<;>exact .inl ⟨(_,_),trivial,rfl⟩
 ·intro m p _
  simp only [FR.eq_2,Cc,cF]
  obtain⟨p1,p2⟩:=p
  cases p1<;>cases p2<;>exact Ba.some trivial
theorem eI{j:Nat}(h:j<4):∃x:ByteArray,AO ([(ByteArray.mk #[97]),(ByteArray.mk #[98]),(ByteArray.mk #[99]),(ByteArray.mk #[100])]) (j:Int)=some x∧x.size<=1048576:=by
 match j,h with
 |0,_=>exact⟨_,rfl,by decide⟩
 |1,_=>exact⟨_,rfl,by decide⟩
 |2,_=>exact⟨_,rfl,by decide⟩
 |3,_=>exact⟨_,rfl,by decide⟩
theorem Xb{n:Nat}{c:List Int}(hc:IL c){s0:AA}(e0:s0.code_=c){T:List Int}{k:Nat}(hk:k<4)(hT:T.length=2^k){Q:AY×AA->Prop}{k0:List BM->Int->Int->Int->Option (AY×AA)}
 (h0:∀l i a d,l.length=k->VS l->Db c (AA.mk s0.code_ a d)->Ba Q (k0 l i a d)):∀(m j:Nat) (l:List BM) (a d:Int),k-j<m->j<=k->l.length=j->VS l->Db c (AA.mk s0.code_ a d)->
 Ba Q (Jo n s0 T k0 m l ((2^j:Nat):Int) a d)
 |0,j,l,a,d,hm,_,_,_,_=>by omega
 |m+1,j,l,a,d,hm,hj,hl,hp,hs=>by
  rw [Jo.eq_2,hT]
  by_cases q:j<k
  ·have h2:2^j<2^k:=Nat.pow_lt_pow_right (by omega) q
   have h16:2^k<=2^4:=Nat.pow_le_pow_right (by omega) (by omega)
   have hw:IntKind.wrap .i64 (2*((2^j:Nat):Int))=((2^(j+1):Nat):Int):=by
    rw [Nat.pow_succ]
    generalize 2^j=P at h2 ⊢
    rw [Af (by omega) (by omega)];omega
   obtain⟨x,hx,hz⟩:=eI (j:=j) (by omega)
   rw [CV h2,cT,hl,hx,Ar,hw]
   refine Ba.bind (Nx hc hs 9) fun r _ ⟨h1,_⟩=>?_
   rw [BA (by simp;omega) (by omega),Ar]
   refine Xb hc e0 hk hT h0 m (j+1) _ _ _ (by omega) (by omega) (by simp;omega) ⟨by simp;omega,fun p hp2=>?_⟩ (h1.mk2 e0)
   rcases List.mem_append.1 hp2 with h|h
   ·exact hp.2 p h
   ·rw [List.mem_singleton.1 h];exact hz
  ·obtain rfl:j=k:=by omega
   rw [Cc,cF]
   exact h0 l _ a d hl hp hs
theorem Uv{n:Nat}(hn:1048577<=n){c:List Int}(hc:IL c){s0:AA}(e0:s0.code_=c){T:List Int}{k:Nat}(hk:k<4)(hT:T.length=2^k){nm:ByteArray}(hnm:nm.size<=1048576){r33 r41:Int×AA}{ps z:List BM}(hps:ps.length=k)(hz:VS z):∀(m i:Nat) (l:List BL) (a d:Int),k-i<m->i<=k->l.length<=i->(∀x∈l,XV x)->Db c (AA.mk s0.code_ a d)->
 Ba (fun r=>PL r.1∧Db c r.2) (Gg n s0 nm T r33 r41 ps z (fun l144 i148 i150 i151=>(some ((AY.mk nm 1 z l144 T r33.1 r41.1),(AA.mk s0.code_ i150 i151)))) m l (i:Int) a d)
 |0,i,l,a,d,hm,_,_,_,_=>by omega
 |m+1,i,l,a,d,hm,hi,hl,hA,hs=>by
  have h16:2^k<=2^4:=Nat.pow_le_pow_right (by omega) (by omega)
  rw [Gg.eq_2,hps]
  by_cases q:i<k
  ·rw [CV q,cT,wS (by omega)]
   refine Ba.bind (dW (cl:=AY.mk nm 1 z [] T r33.1 r41.1) hk hT q hn) fun sn _ _=>Ba.bif (fun _=>?_) fun _=>Uv hn hc e0 hk hT hnm hps hz m (i+1) l a d (by omega) (by omega) (by omega) hA hs
   refine Ba.bind (Xy hc hs 1 _ _ _ hn) fun r _ ⟨h1,h2⟩=>?_
   rw [BA (by simp;omega) (by omega),Ar]
   refine Uv hn hc e0 hk hT hnm hps hz m (i+1) _ _ _ (by omega) (by omega) (by simp;omega) (fun x hx=>?_) (h2.mk2 e0)
   rcases List.mem_append.1 hx with h|h
   ·exact hA x h
   ·rw [List.mem_singleton.1 h];exact h1
  ·obtain rfl:i=k:=by omega
   rw [Cc,cF]
   exact Ba.some ⟨⟨hnm,hz,⟨by show l.length<=_;omega,hA⟩,by show T.length<=_;omega⟩,hs⟩
theorem YU{n:Nat}{c:List Int}(hc:IL c){s:AA}(hs:Db c s){nm:ByteArray}(hnm:nm.size<=1048576){T:List Int}{k:Nat}(hk:k<4)(hT:T.length=2^k)(hn:1048577<=n):Ba (fun r=>PL r.1∧Db c r.2) (Si n s nm T):=by
 rw [Si]
 refine Ba.bind (Nx hc hs 50) fun r _ ⟨h1,_⟩=>Ba.bind (Nx hc (h1.mk2 hs.code) 80) fun q _ ⟨h2,_⟩=>?_
 have:=Xb (n:=n) (s0:=s) (Q:=fun r=>PL r.1∧Db c r.2) hc hs.code hk hT (k0:=fun l75 i79 i81 i82=>(Option.bind (BV l75 ([(BM.mk ((ByteArray.mk #[121])) 2 0 false)]) 40) fun z106=>(Gg n s nm T r q l75 z106 (fun l144 i148 i150 i151=>(some ((AY.mk nm 1 z106 l144 T r.1 q.1),(AA.mk s.code_ i150 i151)))) n (([]:List BL)) 0 i81 i82))) (fun l i a d hl hp hs2=>by
  rw [BA (by simp;omega) (by omega),Ar]
  refine Uv hn hc hs.code hk hT hnm hl ⟨by simp;omega,fun p hp2=>?_⟩ n 0 [] a d (by omega) (by omega) (by simp) (by simp) hs2
  rcases List.mem_append.1 hp2 with h|h
  ·exact hp.2 p h
  ·rw [List.mem_singleton.1 h];exact(by decide:(ByteArray.mk #[121]).size<=1048576)) n 0 [] q.2.at_ q.2.seed_ (by omega) (by omega) rfl ⟨by simp,by simp⟩ (h2.mk2 hs.code)
 exact this
theorem Zb{n:Nat}{c:List Int}(hc:IL c){s:AA}(hs:Db c s){nm:ByteArray}(hnm:nm.size<=1048576)(kd ed:Int)(hn:1048577<=n):Ba (fun r=>PL r.1∧Db c r.2) (OL n s nm kd ed):=by
 have e:=hs.code
 have pins:∀x y:Int,VS [(BM.mk ((ByteArray.mk #[100])) 1 x false),(BM.mk ((ByteArray.mk #[99,107])) 1 y true),(BM.mk ((ByteArray.mk #[113])) 2 0 false)]:=fun x y=>⟨by simp,fun p hp=>by
  rcases List.mem_cons.1 hp with h|hp
  ·rw [h];exact(by decide:(ByteArray.mk #[100]).size<=1048576)
  ·rcases List.mem_cons.1 hp with h|hp
   ·rw [h];exact(by decide:(ByteArray.mk #[99,107]).size<=1048576)
   ·rw [List.mem_singleton.1 hp];exact(by decide:(ByteArray.mk #[113]).size<=1048576)⟩
 rw [OL]
 refine Ba.bind (Nx hc hs 50) fun r1 _ ⟨h1,_⟩=>Ba.bind (Nx hc (h1.mk2 e) 80) fun r2 _ ⟨h2,_⟩=>Ba.bind (Nx hc (h2.mk2 e) 9) fun r3 _ ⟨h3,_⟩=>Ba.bind (Nx hc (h3.mk2 e) 9) fun r4 _ ⟨h4,_⟩=>Ba.bind (Xy hc (h4.mk2 e) _ _ _ _ hn) fun r5 _ ⟨a5,h5⟩=>Ba.bind (Xy hc (h5.mk2 e) _ _ _ _ hn) fun r6 _ ⟨a6,h6⟩=>Ba.bind (Xy hc (h6.mk2 e) _ _ _ _ hn) fun r7 _ ⟨a7,h7⟩=>Ba.bif (fun _=>?_) fun _=>?_
 ·refine Ba.bind (Xy hc (h7.mk2 e) _ _ _ _ hn) fun r8 _ ⟨a8,h8⟩=>?_
  rw [BA (by simp) (by omega),Ar]
  refine Ba.some ⟨⟨hnm,pins _ _,⟨by simp,fun x hx=>?_⟩,by simp⟩,h8.mk2 e⟩
  simp only [List.cons_append,List.nil_append,List.mem_cons,List.not_mem_nil,or_false]at hx
  rcases hx with h|h|h|h<;>rw [h]<;>assumption
 ·refine Ba.some ⟨⟨hnm,pins _ _,⟨by simp,fun x hx=>?_⟩,by simp⟩,h7.mk2 e⟩
  simp only [List.mem_cons,List.not_mem_nil,or_false]at hx
  rcases hx with h|h|h<;>rw [h]<;>assumption
theorem PL.re{cl:AY}(h:PL cl){T:List Int}(hT:T.length<=1048576):PL (AY.mk cl.Name cl.Kind cl.Pins cl.Arcs T cl.Leak cl.Energy):=⟨h.name,h.pins,h.arcs,hT⟩
theorem fN{n:Nat}{c:List Int}(hc:IL c){s:AA}(hs:Db c s)(hn:1048577<=n):Ba (fun r=>Nc r.1∧Db c r.2) (Rr n s):=by
 have e:=hs.code
 rw [Rr]
 refine Ba.bind (YU hc hs (k:=1) (by decide) (by decide) (by decide) hn) fun r1 _ ⟨a1,h1⟩=>Ba.bind (YU hc (h1.mk2 e) (k:=1) (by decide) (by decide) (by decide) hn) fun r2 _ ⟨a2,h2⟩=>Ba.bind (YU hc (h2.mk2 e) (k:=2) (by decide) (by decide) (by decide) hn) fun r3 _ ⟨a3,h3⟩=>Ba.bind (YU hc (h3.mk2 e) (k:=2) (by decide) (by decide) (by decide) hn) fun r4 _ ⟨a4,h4⟩=>Ba.bind (YU hc (h4.mk2 e) (k:=3) (by decide) (by decide) (by decide) hn) fun r5 _ ⟨a5,h5⟩=>Ba.bind (Zb hc (h5.mk2 e) (by decide) _ _ hn) fun r6 _ ⟨a6,h6⟩=>Ba.bind (Zb hc (h6.mk2 e) (by decide) _ _ hn) fun r7 _ ⟨a7,h7⟩=>Ba.bind (Zb hc (h7.mk2 e) (by decide) _ _ hn) fun r8 _ ⟨a8,h8⟩=>?_
 have b1:=a1.re (T:=[1,0]) (by decide)
 have b2:=a2.re (T:=[0,1]) (by decide)
 have b3:=a3.re (T:=[1,1,1,0]) (by decide)
 have b4:=a4.re (T:=[0,1,1,0]) (by decide)
 have b5:=a5.re (T:=[0,1,0,1,0,0,1,1]) (by decide)
 refine Ba.some ⟨⟨by simp,fun x hx=>?_⟩,h8.mk2 e⟩
 simp only [List.mem_cons,List.not_mem_nil,or_false]at hx
 rcases hx with h|h|h|h|h|h|h|h<;>rw [h]<;>assumption
theorem KK{α:Type}{A:α->Prop}{o:Option α}{f:α->Option Unit}(h:Ba A o)(k:∀v,A v->f v=some ()):Option.bind o f=some ():=by
 obtain⟨v,e,hv⟩:=h
 rw [e];exact k v hv
theorem EM{b:Bool}{x y:Option Unit}(h1:b=true->x=some ())(h2:b=false->y=some ()):(bif b then x else y)=some ():=by
 cases b
 ·exact h2 rfl
 ·exact h1 rfl
theorem QW{α:Type}{l y:List α}(h:Do Eq l y):y=l:=by
 apply List.ext_getElem?
 intro i
 by_cases c:i<l.length
 ·have h1:l[i]? =some l[i]:=List.getElem?_eq_getElem c
  have h2:y[i]? =some (y[i]'(by have:=h.1;omega)):=List.getElem?_eq_getElem _
  rw [h1,h2,h.2 i _ _ h1 h2]
 ·rw [List.getElem?_eq_none (by have:=h.1;omega),List.getElem?_eq_none (by omega)]
theorem OA{α:Type}{r:α->α->Prop}{Q R:α->Prop}{l y:List α}(h:Do r l y)(hl:∀x∈l,Q x)(hr:∀x z,r x z->Q x->R z):∀z∈y,R z:=fun z hz=>by
 obtain⟨i,hi,rfl⟩:=List.mem_iff_getElem.1 hz
 have hi2:i<l.length:=by have:=h.1;omega
 exact hr l[i] y[i] (h.2 i _ _ (List.getElem?_eq_getElem hi2) (List.getElem?_eq_getElem hi)) (hl _ (List.getElem_mem hi2))
def IP(x:Ak):Prop:=x.Name.size<=1000∧1<=x.Nets.length∧x.Nets.length<=5
structure IR(d:AL):Prop where
 inst:d.Instances.length<=6∧∀x∈d.Instances,IP x
 nets:(3<=d.Nets.length∧d.Nets.length<=9)∧∀x∈d.Nets,x.size<=1000
 ports:(3<=d.Ports.length∧d.Ports.length<=5)∧∀p∈d.Ports,p.Name.size<=1000
theorem IP.shp{l y:List Ak}(h:Do Ej l y)(hl:∀x∈l,IP x):∀z∈y,IP z:=
 OA h hl fun x z hr hx=>⟨by rw [←hr.1];exact hx.1,by rw [hr.2.2.1];exact hx.2.1,by rw [hr.2.2.1];exact hx.2.2⟩
theorem KH{x y:ByteArray}(h:x.size+y.size<=1000):Jt x y=some (x++y)∧(x++y).size=x.size+y.size:=by
 refine⟨?_,ByteArray.size_append⟩
 unfold Jt
 rw [if_neg (by
  have:IntKind.i64.max=9223372036854775807:=rfl
  rw [this];omega)]
theorem YJ{j:Nat}(h:j<12):∃(x:Int) (p:Nat),AO [0,1,2,2,3,4,5,5,5,6,7,1] (j:Int)=some x∧AO [2,2,3,3,4,3,3,3] x=some (p:Int)∧2<=p∧p<=4:=by
 match j,h with
 |0,_=>exact⟨0,2,rfl,rfl,by omega,by omega⟩
 |1,_=>exact⟨1,2,rfl,rfl,by omega,by omega⟩
 |2,_=>exact⟨2,3,rfl,rfl,by omega,by omega⟩
 |3,_=>exact⟨2,3,rfl,rfl,by omega,by omega⟩
 |4,_=>exact⟨3,3,rfl,rfl,by omega,by omega⟩
 |5,_=>exact⟨4,4,rfl,rfl,by omega,by omega⟩
 |6,_=>exact⟨5,3,rfl,rfl,by omega,by omega⟩
 |7,_=>exact⟨5,3,rfl,rfl,by omega,by omega⟩
 |8,_=>exact⟨5,3,rfl,rfl,by omega,by omega⟩
 |9,_=>exact⟨6,3,rfl,rfl,by omega,by omega⟩
 |10,_=>exact⟨7,3,rfl,rfl,by omega,by omega⟩
 |11,_=>exact⟨1,2,rfl,rfl,by omega,by omega⟩
theorem XM{n:Nat}{c:List Int}(hc:IL c){s0:AA}(e0:s0.code_=c){nets:List ByteArray}{cell:Int}{p:Nat}(hp:AO [2,2,3,3,4,3,3,3] cell=some (p:Int))(hp2:2<=p∧p<=4){k2:Int->Int->Int->ByteArray->Int->List Int->Option Unit}{t:ByteArray}{i2:Int}
 (hk:∀a d l,l.length=p-1->Db c (AA.mk s0.code_ a d)->k2 ((p-1:Nat):Int) a d t i2 l=some ()):∀(m i:Nat) (a d:Int) (l:List Int),p-1-i<m->i<=p-1->l.length=i->Db c (AA.mk s0.code_ a d)->
 Ff n s0 nets cell k2 m (i:Int) a d t i2 l=some ()
 |0,i,a,d,l,hm,_,_,_=>by omega
 |m+1,i,a,d,l,hm,hi,hl,hs=>by
  have wp:IntKind.wrap .i64 ((p:Int)-1)=((p-1:Nat):Int):=by rw [Af (by omega) (by omega)];omega
  rw [Ff.eq_2,hp,Ar,wp]
  by_cases q:i<p-1
  ·have go1:∀(x:Int) (s':AA),Db c s'->(Option.bind (BV (([]:List Int)) l 8) fun z=>(Option.bind (BV z [x] 8) fun z2=>(Ff n s0 nets cell k2 m (IntKind.wrap .i64 ((i:Int)+1)) s'.at_ s'.seed_ t i2 z2)))=some ():=fun x s' h'=>by
    rw [BA (by simp;omega) (by omega),Ar,List.nil_append,BA (by simp;omega) (by omega),Ar,wS (by omega)]
    exact XM hc e0 hp hp2 hk m (i+1) _ _ _ (by omega) (by omega) (by simp;omega) (h'.mk2 e0)
   rw [CV q,cT]
   exact KK (Nx hc hs _) fun r1 ⟨h1,_⟩=>KK (Nx hc (h1.mk2 e0) 3) fun r2 ⟨h2,_⟩=>EM (fun _=>EM (fun _=>go1 _ _ h2) fun _=>go1 _ _ h2) fun _=>EM (fun _=>go1 _ _ h2) fun _=>go1 _ _ h2
  ·obtain rfl:i=p-1:=by omega
   rw [Cc,cF]
   exact hk a d l hl hs
theorem Wq{n:Nat}(hn:1048577<=n){c:List Int}(hc:IL c){s0:AA}(e0:s0.code_=c){k0:List Ak->List ByteArray->Int->Int->Int->Option Unit}
 (hk:∀l nets i a d,l.length<=6->nets.length=3+l.length->(∀x∈l,IP x)->(∀x∈nets,ByteArray.size x<=1000)->Db c (AA.mk s0.code_ a d)->k0 l nets i a d=some ()):∀(m k:Nat) (l:List Ak) (nets:List ByteArray) (a d:Int),k<m->l.length+k<=6->nets.length=3+l.length->(∀x∈l,IP x)->(∀x∈nets,ByteArray.size x<=1000)->Db c (AA.mk s0.code_ a d)->
 Ha n s0 k0 m l nets (k:Int) a d=some ()
 |0,k,l,nets,a,d,hm,_,_,_,_,_=>by omega
 |m+1,0,l,nets,a,d,hm,hl,hnl,hI,hN,hs=>by
  rw [Ha.eq_2]
  exact hk l nets _ a d (by omega) hnl hI hN hs
 |m+1,k+1,l,nets,a,d,hm,hl,hnl,hI,hN,hs=>by
  have hp:decide (((k+1:Nat):Int)>0)=true:=decide_eq_true (by omega)
  have w:IntKind.wrap .i64 (((k+1:Nat):Int)-1)=(k:Int):=by rw [Af (by omega) (by omega)];omega
  rw [Ha.eq_2,hp,cT]
  refine KK (Nx hc hs 12) fun r ⟨h1,r0,r1⟩=>?_
  obtain⟨x,p,ex,ep,p2,p4⟩:=YJ (j:=r.1.toNat) (by omega)
  rw [Int.toNat_of_nonneg r0]at ex
  rw [ex,Ar]
  refine KK (cY (n:=n) (k:=l.length) (by omega) hn) fun t ht=>?_
  obtain⟨c1,c2⟩:=KH (x:=ByteArray.mk #[117]) (y:=t) (by have:(ByteArray.mk #[117]).size=1:=rfl;omega)
  have z1:(ByteArray.mk #[117]).size=1:=rfl
  have z2:(ByteArray.mk #[110]).size=1:=rfl
  rw [c1,Ar]
  refine XM hc e0 ep ⟨p2,p4⟩ (fun a2 d2 l2 hl2 hs2=>?_) n 0 _ _ [] (by omega) (by omega) rfl (h1.mk2 e0)
  rw [BA (by simp;omega) (by omega),Ar,List.nil_append,BA (by simp;omega) (by omega),Ar]
  refine KK (cY (n:=n) (k:=nets.length) (by omega) hn) fun t2 ht2=>?_
  obtain⟨c3,c4⟩:=KH (x:=ByteArray.mk #[110]) (y:=t2) (by omega)
  rw [c3,Ar,BA (by simp;omega) (by omega),Ar,BA (by simp;omega) (by omega),Ar,w]
  refine Wq hn hc e0 hk m k _ _ _ _ (by omega) (by simp;omega) (by simp;omega) (fun y hy=>?_) (fun y hy=>?_) hs2
  ·rcases List.mem_append.1 hy with h|h
   ·exact hI y h
   ·rw [List.mem_singleton.1 h]
    exact⟨by show(_:ByteArray).size<=1000;rw [c2];omega,by simp,by simp;omega⟩
  ·rcases List.mem_append.1 hy with h|h
   ·exact hN y h
   ·rw [List.mem_singleton.1 h,c4];omega
theorem Vm{n:Nat}{c:List Int}(hc:IL c){s0:AA}(e0:s0.code_=c){O:Km}{wild:Bool}{L:Nat}(hL:L<=6){nets ps:List ByteArray}{k4:Int->Int->Int->List Ak->List ByteArray->List ByteArray->Option Unit}
 (hk:∀i a d l,l.length=L->(∀x∈l,IP x)->Db c (AA.mk s0.code_ a d)->k4 i a d l nets ps=some ()):∀(m i:Nat) (a d:Int) (l:List Ak),L-i<m->i<=L->l.length=L->(∀x∈l,IP x)->Db c (AA.mk s0.code_ a d)->
 GZ n s0 wild O k4 m (i:Int) a d l nets ps=some ()
 |0,i,a,d,l,hm,_,_,_,_=>by omega
 |m+1,i,a,d,l,hm,hi,hl,hI,hs=>by
  rw [GZ.eq_2]
  by_cases q:i<l.length
  ·have hx:=hI _ (List.getElem_mem q)
   rw [CV q,cT,wS (by omega)]
   refine KK (Nx hc hs 4) fun r ⟨h1,_⟩=>KK (A:=fun _=>True) (Ba.bif (fun _=>?_) fun _=>Ba.some trivial) fun b _=>EM (fun _=>?_) fun _=>Vm hc e0 hL hk m (i+1) _ _ l (by omega) (by omega) hl hI (h1.mk2 e0)
   ·rw [Ab q,Ar]
    exact Ba.bind (A:=fun _=>True) (Ba.bif (fun _=>Ba.some trivial) fun _=>Ba.some trivial) fun _ _ _=>Ba.some trivial
   ·rw [Ab q,Ar]
    refine KK (Nx hc (h1.mk2 e0) _) fun r2 ⟨h2,_⟩=>?_
    rw [show(0:Int)=((0:Nat):Int)from rfl,Ab (show 0<l[i].Nets.length by have:=hx.2.1;omega),Ar]
    refine O.inn fun y hy=>O.inn fun y2 hy2=>O.inn fun y3 hy3=>?_
    obtain rfl:=QW hy2
    obtain rfl:=QW hy3
    exact Vm hc e0 hL hk m (i+1) _ _ y (by omega) (by omega) (by rw [hy.1];exact hl) (IP.shp hy hI) (h2.mk2 e0)
  ·obtain rfl:i=l.length:=by omega
   rw [Cc,cF]
   exact hk _ a d l hl hI hs
theorem dG{n:Nat}(hn:1048577<=n){c:List Int}(hc:IL c){s:AA}(hs:Db c s){O:Km}{most:Int}(hm:2<=most∧most<=6){wild:Bool}{g:AL×AA->Option Unit}(hg:∀d s',IR d->Db c s'->g (d,s')=some ()):XS n O s most wild g=some ():=by
 have e:=hs.code
 have wm:IntKind.wrap .i64 (most-1)=most-1:=Af (by omega) (by omega)
 have n3:∀x∈[(ByteArray.mk #[110,99,107]),(ByteArray.mk #[110,97]),(ByteArray.mk #[110,98])],ByteArray.size x<=1000:=by decide
 rw [XS,BA (by simp) (by omega),Ar,List.nil_append,wm]
 refine KK (Nx hc hs _) fun r ⟨h1,r0,r1⟩=>?_
 have wr:IntKind.wrap .i64 (2+r.1)=((2+r.1.toNat:Nat):Int):=by rw [Af (by omega) (by omega)];omega
 rw [wr]
 refine Wq hn hc e (fun l nets i a d hl hnl hI hN hs2=>?_) n _ [] _ _ _ (by omega) (by simp;omega) rfl (by simp) n3 (h1.mk2 e)
 have p3:∀x:Int,∀p∈[(BN.mk ((ByteArray.mk #[99,107])) 1 0),(BN.mk ((ByteArray.mk #[97])) 1 1),(BN.mk ((ByteArray.mk #[98])) 1 2),(BN.mk ((ByteArray.mk #[121])) 2 x)],p.Name.size<=1000:=fun x p hp=>by
  simp only [List.mem_cons,List.not_mem_nil,or_false]at hp
  rcases hp with h|h|h|h
  ·rw [h];exact(by decide:(ByteArray.mk #[99,107]).size<=1000)
  ·rw [h];exact(by decide:(ByteArray.mk #[97]).size<=1000)
  ·rw [h];exact(by decide:(ByteArray.mk #[98]).size<=1000)
  ·rw [h];exact(by decide:(ByteArray.mk #[121]).size<=1000)
 refine Vm hc e hl (fun i a d l2 hl2 hI2 hs3=>?_) n 0 a d l (by omega) (by omega) rfl hI hs2
 rw [BA (by simp) (by omega),Ar,List.nil_append,BA (by simp) (by omega),Ar]
 refine KK (Nx hc hs3 2) fun q ⟨k1,_⟩=>EM (fun _=>KK (Nx hc (k1.mk2 e) _) fun q2 ⟨k2,_⟩=>?_) fun _=>hg _ _ ⟨⟨by show l2.length<=6;omega,hI2⟩,⟨⟨by show 3<=nets.length;omega,by show nets.length<=9;omega⟩,hN⟩,⟨⟨by simp,by simp⟩,p3 _⟩⟩ (k1.mk2 e)
 rw [BA (by simp) (by omega),Ar]
 refine hg _ _ ⟨⟨by show l2.length<=6;omega,hI2⟩,⟨⟨by show 3<=nets.length;omega,by show nets.length<=9;omega⟩,hN⟩,⟨⟨by simp,by simp⟩,fun p hp=>?_⟩⟩ (k2.mk2 e)
 rcases List.mem_append.1 hp with h|h
 ·exact p3 _ p h
 ·rw [List.mem_singleton.1 h];exact(by decide:(ByteArray.mk #[122]).size<=1000)
theorem IR.short{d:AL}(h:IR d):∀x∈d.Instances,x.Nets.length<=5:=fun x hx=>(h.inst.2 x hx).2.2
theorem IR.pls{d:AL}(h:IR d):(pls d).length<=78:=CW h.short (by have:=h.inst.1;omega) (by have:=h.ports.1.2;omega)
theorem XE{n:Nat}{d:AL}(h:IR d)(hn:1048577<=n):Pb n d=some ((pls d).map FF):=NQ h.short (by have:=h.inst.1;omega) (by have:=h.ports.1.2;omega) hn
theorem Yq{n:Nat}{d:AL}(h:IR d)(q:Int)(hn:1048577<=n):∃r,SP n d q=some r∧r.length<=78:=by
 have hl:=h.pls
 rw [SP,XE h hn,Ar]
 have e:((pls d).map FF).length=(pls d).length:=by simp
 refine loop (L:=fun m i s=>FE q ((pls d).map FF) (fun l38 i42=>some l38) m s i) ((pls d).map FF).length (fun i s=>s.length<=i) (fun o=>∃r,o=some r∧r.length<=78) ?_ ?_ n 0 [] (by omega) (by omega) (Nat.le_refl _)
 ·intro m i s hi hs
  refine .inl ?_
  simp only [FE.eq_2,CV hi,cT,Ab hi,Ar,CS,wT i]
  cases c:(((pls d).map FF)[i].net_==q&& !((pls d).map FF)[i].drives_)with
  |true=>rw [cT,BA (by simp;omega) (by omega),Ar];exact⟨_,by simp;omega,rfl⟩
  |false=>rw [cF];exact⟨s,by omega,rfl⟩
 ·intro m s hs
  simp only [FE.eq_2,Cc,cF]
  exact⟨s,rfl,by omega⟩
def IH(w:BI):Prop:=(1<=w.Parent.length∧w.Parent.length<=4)∧(1<=w.Res.length∧w.Res.length<=4)∧(1<=w.Cap.length∧w.Cap.length<=4)∧w.Sink.length<=200
theorem IH.shp{l y:List BI}(h:Do Ew l y)(hl:∀x∈l,IH x):∀z∈y,IH z:=
 OA h hl fun x z hr hx=>by
  have h1:=hr.1.1;have h2:=hr.2.1.1;have h3:=hr.2.2.1.1;have h4:=hr.2.2.2.1
  obtain⟨⟨a1,a2⟩,⟨b1,b2⟩,⟨c1,c2⟩,d1⟩:=hx
  exact⟨⟨by omega,by omega⟩,⟨by omega,by omega⟩,⟨by omega,by omega⟩,by omega⟩
theorem OX{n:Nat}{l:List Int}(h:l.length<=1000):Ld n l=some l:=by
 rw [Ld,BA (by simp;omega) (by omega)];rfl
theorem XR{n:Nat}{c:List Int}(hc:IL c){s0:AA}(e0:s0.code_=c){Q:BI×AA->Prop}{k0:Int->Int->Int->List Int->List Int->List Int->Option (BI×AA)}
 (hk:∀i a d (l1 l2 l3:List Int),(1<=l1.length∧l1.length<=4)->l2.length=l1.length->l3.length=l1.length->Db c (AA.mk s0.code_ a d)->Ba Q (k0 i a d l1 l2 l3)):∀(m k:Nat) (a d:Int) (l1 l2 l3:List Int),k<m->1<=l1.length->l1.length+k<=4->l2.length=l1.length->l3.length=l1.length->Db c (AA.mk s0.code_ a d)->
 Ba Q (IU n s0 k0 m (k:Int) a d l1 l2 l3)
 |0,k,a,d,l1,l2,l3,hm,_,_,_,_,_=>by omega
 |m+1,0,a,d,l1,l2,l3,hm,h1,h2,h3,h4,hs=>by
  rw [IU.eq_2]
  exact hk _ a d l1 l2 l3 ⟨h1,by omega⟩ h3 h4 hs
 |m+1,k+1,a,d,l1,l2,l3,hm,h1,h2,h3,h4,hs=>by
  have hp:decide (((k+1:Nat):Int)>0)=true:=decide_eq_true (by omega)
  have w:IntKind.wrap .i64 (((k+1:Nat):Int)-1)=(k:Int):=by rw [Af (by omega) (by omega)];omega
  rw [IU.eq_2,hp,cT,OX (show l1.length<=1000 by omega),Ar]
  refine Ba.bind (Nx hc hs _) fun r1 _ ⟨q1,_⟩=>?_
  rw [BA (by simp;omega) (by omega),Ar,OX (show l2.length<=1000 by omega),Ar]
  refine Ba.bind (Nx hc (q1.mk2 e0) _) fun r2 _ ⟨q2,_⟩=>?_
  rw [BA (by simp;omega) (by omega),Ar,OX (show l3.length<=1000 by omega),Ar]
  refine Ba.bind (Nx hc (q2.mk2 e0) _) fun r3 _ ⟨q3,_⟩=>?_
  rw [BA (by simp;omega) (by omega),Ar,w]
  exact XR hc e0 hk m k _ _ _ _ _ (by omega) (by simp) (by simp;omega) (by simp;omega) (by simp;omega) (q3.mk2 e0)
theorem Xx{n:Nat}{c:List Int}(hc:IL c){s0:AA}(e0:s0.code_=c){l1 l2 l3:List Int}(h1:1<=l1.length∧l1.length<=4)(h2:l2.length=l1.length)(h3:l3.length=l1.length){L:Nat}(hL:L<=100):∀(m i:Nat) (a d:Int) (l:List Int),L-i<m->i<=L->l.length=L->Db c (AA.mk s0.code_ a d)->
 Ba (fun r=>(IH r.1∧r.1.Sink.length<=100)∧Db c r.2) (HJ n s0 l1 (fun i115 i117 i118 l124=>(some ((BI.mk l1 l2 l3 l124),(AA.mk s0.code_ i117 i118)))) m (i:Int) a d l)
 |0,i,a,d,l,hm,_,_,_=>by omega
 |m+1,i,a,d,l,hm,hi,hl,hs=>by
  rw [HJ.eq_2]
  by_cases q:i<l.length
  ·rw [CV q,cT]
   refine Ba.bind (Nx hc hs _) fun r _ ⟨q1,_⟩=>?_
   rw [Ab q,Ar,wS (by omega)]
   exact Xx hc e0 h1 h2 h3 hL m (i+1) _ _ _ (by omega) (by omega) (by rw [List.length_set];exact hl) (q1.mk2 e0)
  ·obtain rfl:i=l.length:=by omega
   rw [Cc,cF]
   exact Ba.some ⟨⟨⟨h1,⟨by show 1<=l2.length;omega,by show l2.length<=4;omega⟩,⟨by show 1<=l3.length;omega,by show l3.length<=4;omega⟩,by show l.length<=200;omega⟩,by show l.length<=100;omega⟩,hs⟩
theorem fH{n:Nat}(hn:1048577<=n){c:List Int}(hc:IL c){s:AA}(hs:Db c s){q:Nat}(hq:q<=100):Ba (fun r=>(IH r.1∧r.1.Sink.length<=100)∧Db c r.2) (YW n s (q:Int)):=by
 have e:=hs.code
 rw [YW]
 refine Ba.bind (Nx hc hs 6) fun r _ ⟨h1,_⟩=>?_
 rw [SU,EX (by omega) (by omega),Ar,Ar]
 refine Ba.bind (Nx hc (h1.mk2 e) 4) fun r2 _ ⟨h2,z0,z1⟩=>?_
 have:=XR (n:=n) (s0:=s) (Q:=fun r=>(IH r.1∧r.1.Sink.length<=100)∧Db c r.2) hc e (k0:=fun i75 i77 i78 l80 l84 l88=>(HJ n s l80 (fun i115 i117 i118 l124=>(some ((BI.mk l80 l84 l88 l124),(AA.mk s.code_ i117 i118)))) n 0 i77 i78 (List.replicate q 0))) (fun i a d l1 l2 l3 k1 k2 k3 hs2=>
  Xx hc e k1 k2 k3 hq n 0 a d _ (by omega) (by omega) (by simp) hs2) n r2.1.toNat r2.2.at_ r2.2.seed_ [(-1)] [0] [r.1] (by omega) (by simp) (by simp;omega) rfl rfl (h2.mk2 e)
 rw [Int.toNat_of_nonneg z0]at this
 exact this
structure Kf(b:AP):Prop where
 lib:Nc b.Library
 dsg:IR b.Design
 wires:b.Wires.length<=9∧∀w∈b.Wires,IH w
theorem Kf.sm{b:AP}(h:Kf b):Ps b:=
 ⟨h.lib,⟨⟨by have:=h.dsg.inst.1;omega,fun x hx=>⟨by have:=(h.dsg.inst.2 x hx).1;omega,by have:=(h.dsg.inst.2 x hx).2.2;omega⟩⟩,⟨by have:=h.dsg.nets.1;omega,fun x hx=>by have:=h.dsg.nets.2 x hx;omega⟩,⟨by have:=h.dsg.ports.1;omega,fun p hp=>by have:=h.dsg.ports.2 p hp;omega⟩⟩,
  ⟨by have:=h.wires.1;omega,fun w hw=>by obtain⟨⟨_,a⟩,⟨_,b⟩,⟨_,c⟩,d⟩:=h.wires.2 w hw;exact⟨⟨⟨by omega,by omega⟩,by omega⟩,by omega⟩⟩⟩
theorem Wi{n:Nat}(hn:1048577<=n){c:List Int}(hc:IL c){s0:AA}(e0:s0.code_=c){r38:AL×AA}(hd:IR r38.1){k0:List BI->Int->Int->Int->Option Unit}
 (hk:∀l i a d,l.length=r38.1.Nets.length->(∀w∈l,IH w∧w.Sink.length<=100)->Db c (AA.mk s0.code_ a d)->k0 l i a d=some ()):∀(m i:Nat) (l:List BI) (a d:Int),r38.1.Nets.length-i<m->i<=r38.1.Nets.length->l.length=i->(∀w∈l,IH w∧w.Sink.length<=100)->Db c (AA.mk s0.code_ a d)->
 Hx n s0 r38 k0 m l (i:Int) a d=some ()
 |0,i,l,a,d,hm,_,_,_,_=>by omega
 |m+1,i,l,a,d,hm,hi,hl,hw,hs=>by
  have hb:=hd.nets.1
  rw [Hx.eq_2]
  by_cases q:i<r38.1.Nets.length
  ·obtain⟨r,f,hr⟩:=Yq (n:=n) hd (i:Int) hn
   rw [CV q,cT,f,Ar]
   refine KK (fH hn hc hs (by omega)) fun r2 ⟨h1,h2⟩=>?_
   rw [BA (by simp;omega) (by omega),Ar,wS (by omega)]
   refine Wi hn hc e0 hd hk m (i+1) _ _ _ (by omega) (by omega) (by simp;omega) (fun w h=>?_) (h2.mk2 e0)
   rcases List.mem_append.1 h with h|h
   ·exact hw w h
   ·rw [List.mem_singleton.1 h];exact h1
  ·obtain rfl:i=r38.1.Nets.length:=by omega
   rw [Cc,cF]
   exact hk l _ a d hl hw hs
theorem dD{n:Nat}(hn:1048577<=n){c:List Int}(hc:IL c){s:AA}(hs:Db c s){O:Km}{most:Int}(hm:2<=most∧most<=6){wild:Bool}{g:AP×AA->Option Unit}(hg:∀b s',Kf b->b.Wires.length=b.Design.Nets.length->(∀w∈b.Wires,w.Sink.length<=100)->Db c s'->g (b,s')=some ()):MV n O s most wild g=some ():=by
 have e:=hs.code
 rw [MV]
 refine KK (fN hc hs hn) fun r ⟨h1,h2⟩=>dG hn hc (h2.mk2 e) hm fun d s' hd hs'=>?_
 have hb:=hd.nets.1
 exact Wi (r38:=(d,s')) hn hc e hd (fun l i a d2 hl hw hs2=>hg _ _ ⟨h1,hd,by show l.length<=9;rw [hl];exact hb.2,fun w h=>(hw w h).1⟩ hl (fun w h=>(hw w h).2) hs2) n 0 [] _ _ (by show d.Nets.length-0<n;omega) (by omega) rfl (by simp) (hs'.mk2 e)
theorem Ym{n:Nat}(hn:1048577<=n){c:List Int}(hc:IL c){s:AA}(hs:Db c s){O:Km}{g:AP×AA->Option Unit}(hg:∀b s',Kf b->Db c s'->g (b,s')=some ()):Qd n O s g=some ():=by
 have e:=hs.code
 rw [Qd]
 refine KK (Nx hc hs 3) fun r ⟨h1,_⟩=>dD hn hc (h1.mk2 e) (by omega) fun b s' hb hw hk hs'=>KK (Nx hc (hs'.mk2 e) _) fun r2 ⟨h2,z0,z1⟩=>KK (Nx hc (h2.mk2 e) 20) fun r3 ⟨h3,_⟩=>?_
 have wl:=hb.wires.1
 have nl:=hb.dsg.nets.1
 have z1:r2.1<(b.Wires.length:Int):=by
  have z1:r2.1<(b.Wires.length:Int)∨r2.1=0∧(b.Wires.length:Int)<=1:=z1
  omega
 obtain⟨k,ek⟩:=Int.eq_ofNat_of_zero_le z0
 have ek:r2.1=(k:Int):=ek
 have kl:k<b.Wires.length:=by omega
 have gk:AO b.Wires r2.1=some b.Wires[k]:=by rw [ek];exact Ab kl
 have wk:=hb.wires.2 _ (List.getElem_mem kl)
 have fin:=fun(y:List BI) (hy:Do Ew b.Wires y)=>(⟨hb.lib,hb.dsg,⟨by show y.length<=9;rw [hy.1];exact wl,IH.shp hy hb.wires.2⟩⟩:Kf (AP.mk b.Library b.Design y))
 refine EM (fun _=>?_) fun _=>EM (fun _=>?_) fun _=>EM (fun _=>?_) fun _=>EM (fun _=>?_) fun _=>EM (fun _=>?_) fun _=>EM (fun _=>?_) fun _=>hg _ _ hb (h3.mk2 e)
 ·rw [show HI b.Wires 1 (b.Wires.length:Int)=some ((b.Wires.take (b.Wires.length:Int).toNat).drop (1:Int).toNat)from if_pos ⟨by omega,by omega,by omega⟩,Ar]
  exact hg _ _ ⟨hb.lib,hb.dsg,⟨by simp;omega,fun w hw2=>hb.wires.2 w (List.mem_of_mem_take (List.mem_of_mem_drop hw2))⟩⟩ (h3.mk2 e)
 ·have sl:=wk.2.2.2
  simp only [gk,Ar,OX (n:=n) (show b.Wires[k].Sink.length<=1000 by omega),BA (show b.Wires[k].Sink.length+[(0:Int)].length<=16777216 by simp;omega) (show 8<=1048576 by omega)]
  refine hg _ _ ⟨hb.lib,hb.dsg,⟨by rw [List.length_set];exact wl,fun w hw2=>?_⟩⟩ (h3.mk2 e)
  have hk1:=hk _ (List.getElem_mem kl)
  rcases List.mem_or_eq_of_mem_set hw2 with h|h
  ·exact hb.wires.2 w h
  ·rw [h];exact⟨wk.1,wk.2.1,wk.2.2.1,by rw [List.length_append];simp;omega⟩
 ·obtain⟨⟨p1,p2⟩,⟨r1,r2'⟩,⟨c1,c2⟩,s1⟩:=wk
  rw [gk,Ar,show(0:Int)=((0:Nat):Int)from rfl,Ab (show 0<b.Wires[k].Res.length by omega),Ar]
  exact O.inn fun y hy=>hg _ _ (fin y hy) (h3.mk2 e)
 ·obtain⟨⟨p1,p2⟩,⟨r1,r2'⟩,⟨c1,c2⟩,s1⟩:=wk
  rw [gk,Ar]
  refine KK (Nx hc (h3.mk2 e) 3) fun r4 ⟨h4,y0,y1⟩=>?_
  obtain⟨v,hv,_⟩:=Dn (xs:=[(-1:Int),500,501]) y0 (by simp;omega)
  rw [hv,Ar,show(0:Int)=((0:Nat):Int)from rfl,Ab (show 0<b.Wires[k].Cap.length by omega),Ar]
  exact O.inn fun y hy=>hg _ _ (fin y hy) (h4.mk2 e)
 ·obtain⟨⟨p1,p2⟩,⟨r1,r2'⟩,⟨c1,c2⟩,s1⟩:=wk
  rw [gk,Ar,Ar]
  refine KK (Nx hc (h3.mk2 e) 5) fun r4 ⟨h4,_⟩=>?_
  have w1:IntKind.wrap .i64 ((b.Wires[k].Parent.length:Int)-1)=((b.Wires[k].Parent.length-1:Nat):Int):=by rw [Af (by omega) (by omega)];omega
  rw [w1,Ab (show b.Wires[k].Parent.length-1<b.Wires[k].Parent.length by omega),Ar]
  exact O.inn fun y hy=>hg _ _ (fin y hy) (h4.mk2 e)
 ·rw [show(0:Int)=((0:Nat):Int)from rfl,Ab (show 0<b.Design.Ports.length by have:=hb.dsg.ports.1;omega),Ar]
  refine O.inn fun y1 hy1=>O.inn fun y2 hy2=>O.inn fun y3 hy3=>?_
  obtain rfl:=QW hy2
  exact hg _ _ ⟨hb.lib,⟨⟨by show y1.length<=6;rw [hy1.1];exact hb.dsg.inst.1,IP.shp hy1 hb.dsg.inst.2⟩,hb.dsg.nets,⟨by show 3<=y3.length∧y3.length<=5;rw [hy3.1];exact hb.dsg.ports.1,OA hy3 hb.dsg.ports.2 fun x z hr hx=>by rw [←hr.1];exact hx⟩⟩,hb.wires⟩ (h3.mk2 e)
theorem fQ{n:Nat}(hn:1048577<=n){c:List Int}(hc:IL c){s:AA}(hs:Db c s){O:Km}{g:AP×AA->Option Unit}(hg:∀b s',Kf b->Db c s'->g (b,s')=some ()):Rj n O s g=some ():=by
 have e:=hs.code
 rw [Rj]
 refine KK (Nx hc hs 12) fun r ⟨h1,_⟩=>EM (fun _=>Ym hn hc (h1.mk2 e) fun b s' hb hs'=>hg _ _ hb (hs'.mk2 e)) fun _=>EM (fun _=>EM (fun _=>?_) fun _=>?_) fun _=>EM (fun _=>?_) fun _=>?_
 all_goals exact dD hn hc (h1.mk2 e) (by omega) fun b s' hb _ _ hs'=>hg _ _ hb (hs'.mk2 e)
theorem YS{n:Nat}{c:List Int}(hc:IL c){s0:AA}(e0:s0.code_=c){lk:List AS}(hlk:lk.length<=5128){r90:Int×AA}(h90:0<=r90.1∧r90.1<8):∀(m i:Nat) (l:List Int) (a d:Int),lk.length-i<m->l.length<=i->i<=6000->Db c (AA.mk s0.code_ a d)->
 Ba (fun r=>r.1.length<=6001∧Db c r.2) (Ho n s0 lk r90 (fun l110 i114 i116 i117=>(Option.bind (Di n ((AA.mk s0.code_ i116 i117)) 12) fun r121=>(bif (r121.1==0)then(Option.bind (Di n ((AA.mk s0.code_ r121.2.at_ r121.2.seed_)) 2) fun r129=>(Option.bind (BV l110 ([IntKind.wrap .i64 (((lk.length:Int))*r129.1)]) 8) fun z149=>(some (z149,(AA.mk s0.code_ r129.2.at_ r129.2.seed_)))))else(some (l110,(AA.mk s0.code_ r121.2.at_ r121.2.seed_)))))) m l (i:Int) a d)
 |0,i,l,a,d,hm,_,_,_=>by omega
 |m+1,i,l,a,d,hm,hl,hi,hs=>by
  rw [Ho.eq_2]
  by_cases q:i<lk.length
  ·have w9:IntKind.wrap .i64 (1+r90.1)=1+r90.1:=Af (by omega) (by omega)
   rw [CV q,cT,BA (by simp;omega) (by omega),Ar,w9]
   refine Ba.bind (Nx hc hs _) fun r _ ⟨h1,z0,z1⟩=>?_
   have z2:r.1<=8:=by omega
   have wi:IntKind.wrap .i64 ((i:Int)+(IntKind.wrap .i64 (1+r.1)))=((i+1+r.1.toNat:Nat):Int):=by
    rw [Af (x:=1+r.1) (by omega) (by omega),Af (by omega) (by omega)];omega
   rw [wi]
   exact YS hc e0 hlk h90 m _ _ _ _ (by omega) (by simp;omega) (by omega) (h1.mk2 e0)
  ·rw [show decide ((i:Int)<(lk.length:Int))=false from decide_eq_false (by omega),cF]
   refine Ba.bind (Nx hc hs 12) fun r _ ⟨h1,_⟩=>Ba.bif (fun _=>?_) fun _=>Ba.some ⟨by show l.length<=6001;omega,h1.mk2 e0⟩
   refine Ba.bind (Nx hc (h1.mk2 e0) 2) fun r2 _ ⟨h2,_⟩=>?_
   rw [BA (by simp;omega) (by omega),Ar]
   exact Ba.some ⟨by simp;omega,h2.mk2 e0⟩
theorem fF{n:Nat}(hn:1048577<=n){c:List Int}(hc:IL c){s:AA}(hs:Db c s){b:AP}(hb:Ps b):Ba (fun r=>r.1.length<=6001∧Db c r.2) (RC n s b):=by
 have e:=hs.code
 obtain⟨v,e1,hv⟩:=cR (n:=n) hb hn
 rw [RC,e1,Ar]
 refine Ba.bind (A:=fun x=>Db c (AA.mk s.code_ x.2.1 x.2.2)∧(x.1=false->v=true)) (Ba.bif (fun _=>Ba.some ⟨hs,fun h=>by cases h⟩) fun q=>Ba.bind (Nx hc hs 3) fun r _ ⟨h1,_⟩=>Ba.some ⟨h1.mk2 e,fun _=>by cases v<;>simp_all⟩) fun x _ ⟨hx,hv2⟩=>Ba.bif (fun _=>Ba.some ⟨by simp,hx⟩) fun q=>?_
 have vb:=hv.1 (hv2 q)
 rw [Vi vb hn,Ar]
 refine Ba.bind (Nx hc hx 8) fun r _ ⟨h1,z0,z1⟩=>Ba.bind (Nx hc (h1.mk2 e) _) fun r2 _ ⟨h2,y0,y1⟩=>?_
 have w9:IntKind.wrap .i64 (1+r.1)=1+r.1:=Af (by omega) (by omega)
 rw [w9]at y1
 have:=YS (n:=n) hc e (JR vb) (r90:=r) ⟨z0,by omega⟩ n r2.1.toNat [] r2.2.at_ r2.2.seed_ (by have:=JR vb;omega) (by simp) (by omega) (h2.mk2 e)
 rw [Int.toNat_of_nonneg y0]at this
 exact this
theorem cU{n:Nat}{l:List Int}{x:Int}(h:l.length<=1048576)(hn:1048577<=n):ME n l x=some (l.any fun y=>y==x):=by
 rw [ME]
 refine loop (L:=fun m i (_:Unit)=>Gy l x (fun i5=>(some false)) m i) l.length (fun i _=>l.any (fun y=>y==x)=(l.drop i).any (fun y=>y==x)) (fun o=>o=some (l.any fun y=>y==x)) ?_ ?_ n 0 () (by omega) (by omega) (by simp)
 ·intro m i _ hi hI
  rw [List.drop_eq_getElem_cons hi,List.any_cons]at hI
  simp only [Gy.eq_2,CV hi,cT,Ab hi,Ar,wT i]
  cases c:(l[i]==x)with
  |true=>rw [cT];exact .inr (by rw [hI,c];rfl)
  |false=>rw [cF];exact .inl ⟨(),by rw [hI,c];rfl,rfl⟩
 ·intro m _ hI
  rw [List.drop_length]at hI
  simp only [Gy.eq_2,Cc,cF]
  rw [hI];rfl
theorem RM{o:List Bool}{k:Nat}(h:k<o.length)(g:gb o k=true):(Lb o).any (fun y=>y==(k:Int))=true:=by
 obtain⟨_,_,h3⟩:=OT o
 exact List.any_eq_true.2 ⟨(k:Int),(h3 _).2 ⟨k,rfl,h,g⟩,by simp⟩
theorem Wa{n:Nat}{c:List Int}(hc:IL c){s0:AA}(e0:s0.code_=c){ps:List Ax}(hps:ps.length<=1000){k0:Int->Int->Int->Option (Int×AA)}(hk:∀i a d,Db c (AA.mk s0.code_ a d)->Ba (fun _=>True) (k0 i a d)):
 ∀(m i:Nat) (a d:Int),ps.length-i<m->i<=ps.length->Db c (AA.mk s0.code_ a d)->Ba (fun _=>True) (Hw n s0 ps k0 m (i:Int) a d)
 |0,i,a,d,hm,_,_=>by omega
 |m+1,i,a,d,hm,hi,hs=>by
  rw [Hw.eq_2]
  by_cases q:i<ps.length
  ·rw [CV q,cT,Ab q,Ar,wS (by omega)]
   refine Ba.bind (A:=fun _=>True) (Ba.bif (fun _=>by rw [Ar];exact Ba.some trivial) fun _=>Ba.some trivial) fun c70 _ _=>?_
   refine Ba.bind (A:=fun x=>Db c (AA.mk s0.code_ x.2.1 x.2.2)) (Ba.bif (fun _=>Ba.bind (Nx hc hs 2) fun r _ ⟨h1,_⟩=>Ba.some (h1.mk2 e0)) fun _=>Ba.some hs) fun x _ hx=>Ba.bif (fun _=>Ba.some trivial) fun _=>?_
   exact Wa hc e0 hps hk m (i+1) _ _ (by omega) (by omega) hx
  ·obtain rfl:i=ps.length:=by omega
   rw [Cc,cF]
   exact hk _ a d hs
theorem dA{n:Nat}(hn:1048577<=n){c:List Int}(hc:IL c){s:AA}(hs:Db c s){b:AP}(hb:IR b.Design):Ba (fun _=>True) (Pi n s b):=by
 have e:=hs.code
 have hp:=hb.pls
 have hl:((pls b.Design).map FF).length<=1000:=by rw [List.length_map];omega
 rw [Pi,XE hb hn,Ar]
 exact Wa hc e hl (fun i a d h=>Ba.bind (Nx hc h _) fun _ _ _=>Ba.some trivial) n 0 _ _ (by omega) (by omega) hs
theorem bI{n:Nat}(hn:1048577<=n){c:List Int}(hc:IL c){O:Km}{g:AP×List Int×Int->Option Unit}(hg:∀b br p,Kf b->br.length<=6001->g (b,br,p)=some ()):RQ n O c g=some ():=by
 rw [RQ]
 refine KK (Fr hc hn) fun s hs=>fQ hn hc (hs.mk2 rfl) fun b s' hb hs'=>KK (Nx hc (hs'.mk2 rfl) 4) fun r ⟨h1,_⟩=>?_
 exact EM (fun _=>KK (fF hn hc (h1.mk2 rfl) hb.sm) fun br ⟨hbr,h2⟩=>KK (dA hn hc (h2.mk2 rfl) hb.dsg) fun _ _=>hg _ _ _ hb hbr) fun _=>KK (dA hn hc (h1.mk2 rfl) hb.dsg) fun _ _=>hg _ _ _ hb (by simp)
def ZT(n:Nat)(b:AP)(out:List Bool)(x:BH):Prop:=∃(i p q k:Nat) (hi:i<b.Design.Instances.length) (hk:k<b.Library.Cells.length),AO b.Library.Cells b.Design.Instances[i].Cell=some b.Library.Cells[k]∧b.Design.Instances[i].Nets.length=b.Library.Cells[k].Pins.length∧HE b.Library.Cells[k]∧b.Library.Cells[k].Kind=1∧p<b.Library.Cells[k].Pins.length-1∧q<b.Library.Cells[k].Pins.length-1∧p≠q∧TZ out (CP b.Design i) p=true∧TZ out (CP b.Design i) q=false∧x=⟨(i:Int),(p:Int),(q:Int),KE n b.Library.Cells[k] p q⟩
theorem Uf{n:Nat}{b:AP}{out:List Bool}(v:CZ b):∀x∈Qi n b out,ZT n b out x:=by
 unfold Qi
 refine Cl _ 0 fun i hi x hx=>?_
 rw [Nat.zero_add]at hx
 obtain⟨k,hk,_,gc,hnl,vc⟩:=v.design.inst_at hi
 unfold JV at hx
 rw [gc]at hx
 revert x
 refine Cl _ 0 fun p hp x hx=>?_
 rw [Nat.zero_add]at hx
 unfold IC at hx
 revert x
 refine Cl _ 0 fun q hq x hx=>?_
 rw [Nat.zero_add]at hx
 unfold HG at hx
 split at hx
 ·rename_i c
  split at hx
  ·rename_i h
   unfold PI at h
   simp only [Bool.and_eq_true,Bool.not_eq_true']at h
   exact⟨i,p,q,k,hi,hk,gc,hnl,vc,c.1,c.2.1,c.2.2.1,c.2.2.2,h.1.1,h.1.2,by simpa using hx⟩
  ·simp at hx
 ·simp at hx
theorem dR{n:Nat}{b:AP}{br:List Int}{p:Int}(hb:Ps b)(hbr:br.length<=1048576)(hn:1048577<=n):
 (∃(P:Nat) (o:List Bool),p=(P:Int)∧P<(pls b.Design).length∧CZ b∧(pls b.Design).length<=78∧Pj b br P o∧Vp n b br p=some (Qi n b o,0)∧Pn n b br p=some (Qi n b o,0)∧QK n b br p=some (Lb o,0))∨
 (∃c:Int,(c !=0)=true∧Vp n b br p=some ([],c)∧Pn n b br p=some ([],c)):=by
 rw [Vp,Pn,QK]
 rcases dX (n:=n) (br:=br) (p:=p) hb hbr hn with ⟨f1,v,hr,⟨P,rfl,hP⟩,w,f2,w1,w2,w3⟩|⟨c,hc,f1,f2⟩
 ·have vd:=v.design
  have hl:=CW vd.short vd.few.1 vd.few.2.2
  obtain⟨o1,g1,r1⟩:=Vl (n:=n) v hbr hP hn
  obtain⟨o2,g2,r2⟩:=VN (n:=n) (w:=⟨b,w.places_,w.links_,w.loads_,w.delays_,w.extras_⟩) v rfl w2 w3 hbr hr hP hn
  obtain rfl:o1=o2:=FM.same r1 r2
  have ol:=r1.len
  refine .inl ⟨P,o1,rfl,hP,v,hl,r1,?_,?_,?_⟩
  ·simp only [f1,Ar,bne_self_eq_false,cF,g1,ZA v ol hn]
  ·simp only [f2,Ar,bne_self_eq_false,cF,LC,g2,aQ v ol hn]
  ·simp only [f2,Ar,bne_self_eq_false,cF,LC,g2,cB (n:=n) (s:=o1) (by omega) hn]
 ·refine .inr ⟨c,hc,?_,?_⟩
  ·simp only [f1,Ar,hc,cT]
  ·simp only [f2,Ar,hc,cT,LC]
theorem Hk{o:List Bool}{k:Nat}(h:k<o.length):(Lb o).any (fun y=>y==(k:Int))=gb o k:=by
 cases g:gb o k with
 |true=>exact RM h g
 |false=>
  obtain⟨_,_,h3⟩:=OT o
  refine Bool.eq_false_iff.2 fun hh=>?_
  obtain⟨y,hy,e⟩:=List.any_eq_true.1 hh
  obtain⟨q,eq,_,gq⟩:=(h3 _).1 hy
  have e2:y=(k:Int):=by simpa using e
  obtain rfl:q=k:=by omega
  rw [g]at gq;cases gq
theorem fG{n:Nat}{c:AY}(sm:PL c)(v:HE c)(g:c.Kind=1){p q:Nat}(hp:p<c.Pins.length-1)(hq:q<c.Pins.length-1)(hpq:p≠q)(hn:1048577<=n):QO n c (p:Int) (q:Int)=some (KE n c p q):=by
 obtain⟨b,e,hb⟩:=WZ (n:=n) sm hn
 obtain rfl:b=true:=hb.2 v
 have few:=v.pins.few
 have d1:(decide ((p:Int)>=0)&&decide ((p:Int)<=(c.Pins.length:Int)-2))=true:=Gx.2 (by omega)
 have d2:(decide ((q:Int)>=0)&&decide ((q:Int)<=(c.Pins.length:Int)-2))=true:=Gx.2 (by omega)
 have d3:(c.Kind !=1)=false:=by rw [bne_eq_false_iff_eq];exact g
 have d4:((p:Int)==(q:Int))=false:=by rw [beq_eq_false_iff_ne];omega
 rw [QO,e]
 simp only [Ar,Bool.not_true,d3,Bool.or_self,cF,eP (n:=n) (c:=c) (by omega),d1,d2,d4,Bool.or_false,(MQ (n:=n) v g hp hq hpq hn).2]
theorem US{code:List Int}(hR:code.length<=9223372036854775807∧∀x∈code,Vr .u8 x):∃n O,Sp n O code (fun r=>bif r then some ()else none)=some ():=by
 obtain⟨n,hn⟩:∃n,1048577<=n:=⟨_,Nat.le_refl _⟩
 obtain⟨O⟩:=Km.is
 refine⟨n,O,?_⟩
 rw [Sp,Tc,Ar]
 refine EM (fun _=>rfl) fun hb=>?_
 have hc:=IL.of hR (of_decide_eq_false hb)
 refine bI hn hc fun b br p hB hbr=>?_
 rcases dR (n:=n) (br:=br) (p:=p) hB.sm (by omega) hn with ⟨P,o,rfl,hP,v,hl,ho,e1,e2,e3⟩|⟨c,hc,e1,e2⟩
 ·have ol:=ho.len
  have ll:=QG o
  have gl:=Sn (n:=n) (out:=o) v
  have vd:=v.design
  have sP:gb o (2*P)=true:=(ho.iff (2*P) (by omega)).2 (KR.src (by simp))
  have w0:IntKind.wrap .i64 (2*(P:Int))=((2*P:Nat):Int):=by rw [Af (by omega) (by omega)];omega
  simp only [e1,e2,e3,Ar,bne_self_eq_false,Bool.or_self,cF,w0,cU (n:=n) (l:=Lb o) (by omega) hn,Hk (show 2*P<o.length by omega),sP,Bool.not_true]
  refine loop (L:=fun m i (_:Unit)=>Gt n _ (b,br,(P:Int)) (Qi n b o,0) (Lb o,0) _ m i) (Qi n b o).length (fun _ _=>True) (fun z=>z=some ()) ?_ ?_ n 0 () (by omega) (by omega) trivial
  ·intro m i _ hi _
   refine .inl ⟨(),trivial,?_⟩
   obtain⟨I,p,q,k,hI,hk,gc,hnl,vc,kc,hp,hq,hpq,c1,c2,ex⟩:=Uf (n:=n) (out:=o) v _ (List.getElem_mem hi)
   have p1:=PY (n:=n) vd (q:=p) hI (by omega) hn
   have p2:=PY (n:=n) vd (q:=q) hI (by omega) hn
   have b1:=(Cp (d:=b.Design) (q:=p) hI (by omega)).lt
   have b2:=(Cp (d:=b.Design) (q:=q) hI (by omega)).lt
   have av:=fG (n:=n) (hB.lib.2 _ (List.getElem_mem hk)) vc kc hp hq hpq hn
   obtain⟨c0,f0,h0⟩:=dC (n:=n) hB.sm.lib hB.sm.design hn
   obtain rfl:c0=true:=h0.2 vd
   obtain⟨U,hU⟩:∃U:Nat,U=CP b.Design I:=⟨_,rfl⟩
   rw [←hU]at p1 p2 b1 b2 c1 c2
   have x1:IntKind.wrap .i64 (2*((U+p:Nat):Int))=((2*(U+p):Nat):Int):=by rw [Af (by omega) (by omega)];omega
   have x2:IntKind.wrap .i64 (2*((U+q:Nat):Int))=((2*(U+q):Nat):Int):=by rw [Af (by omega) (by omega)];omega
   have x3:IntKind.wrap .i64 (((2*(U+p):Nat):Int)+1)=((2*(U+p)+1:Nat):Int):=by rw [Af (by omega) (by omega)];omega
   have x4:IntKind.wrap .i64 (((2*(U+q):Nat):Int)+1)=((2*(U+q)+1:Nat):Int):=by rw [Af (by omega) (by omega)];omega
   have n1:decide (((U+p:Nat):Int)<0)=false:=decide_eq_false (by omega)
   have n2:decide (((U+q:Nat):Int)<0)=false:=decide_eq_false (by omega)
   unfold TZ at c1 c2
   rw [Bool.or_eq_false_iff]at c2
   simp only [Gt.eq_2,CV hi,cT,Ab hi,Ar,ex,Ra,f0,Bool.not_true,cF,p1,p2,n1,n2,Bool.or_self,x1,x2,x3,x4,cU (n:=n) (l:=Lb o) (by omega) hn,Hk (show 2*(U+p)<o.length by omega),Hk (show 2*(U+p)+1<o.length by omega),Hk (show 2*(U+q)<o.length by omega),Hk (show 2*(U+q)+1<o.length by omega),c2.1,c2.2,Ab hI,gc,av,bne_self_eq_false,wT i]
   cases g1:gb o (2*(U+p))with
   |true=>rfl
   |false=>
    rw [g1,Bool.false_or]at c1
    rw [c1];rfl
  ·intro m _ _
   simp only [Gt.eq_2,Cc,cF]
   rfl
 ·simp only [e1,e2,Ar,bne_self_eq_false,Bool.or_self,cF,hc,cT]
end Go.Proofs.YtbcnjcjcdknhhaaGreatDoor
