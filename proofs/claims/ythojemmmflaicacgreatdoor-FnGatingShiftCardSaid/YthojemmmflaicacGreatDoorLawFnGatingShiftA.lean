/- The plain law behind FnGatingShift: the plain function answers true; no condition. -/
import Derived.Test.YthojemmmflaicacGreatDoorWalkFnGatingShift
set_option linter.all false
set_option maxHeartbeats 4000000
namespace Go.Proofs.YthojemmmflaicacGreatDoor
open Go Go.RowKit Go.Eng
open Go.IntKind (wrap)

theorem EY{b c:Bool}:(cond b (some true) (some c))=some (b||c):=by cases b<;>rfl
theorem Bn{b c:Bool}:(cond b (some c) (some false))=some (b&&c):=by cases b<;>rfl
theorem DH{i N:Nat}(h:i<N):decide ((i:Int)<(N:Int))=true:=decide_eq_true (by omega)
theorem DQ(N:Nat):decide ((N:Int)<(N:Int))=false:=decide_eq_false (by omega)
theorem wS{i:Nat}(h:i<4611686018427387904):wrap .i64 ((i:Int)+1)=((i+1:Nat):Int):=by rw [Af (by omega) (by omega)];simp
theorem AY{α:Type}{xs:List α}{i:Nat}(h:i<xs.length):AL xs (i:Int)=some xs[i]:=by rw [HP];exact List.getElem?_eq_getElem h
theorem Ei{α:Type}{xs:List α}{i:Int}(h0:0<=i)(h1:i<xs.length):∃x,AL xs i=some x∧xs[i.toNat]? =some x:=by
 obtain⟨x,hx,_⟩:=El h0 h1
 exact⟨x,hx,(EM hx).2.2⟩
theorem loop{σ R:Type}{L:Nat->Int->σ->Option R}(N:Nat)(I:Nat->σ->Prop)(Post:Option R->Prop)
 (hs:∀(m i:Nat) (st:σ),i<N->I i st->(∃st',I (i+1) st'∧L (m+1) (i:Int) st=L m ((i+1:Nat):Int) st')∨Post (L (m+1) (i:Int) st))
 (he:∀(m:Nat) (st:σ),I N st->Post (L (m+1) (N:Int) st)):∀(m i:Nat) (st:σ),i<=N->N-i<m->I i st->Post (L m (i:Int) st)
 |0,i,st,_,hm,_=>by omega
 |m+1,i,st,hi,hm,h=>by
  by_cases hlt:i<N
  ·rcases hs m i st hlt h with ⟨st',h1,h2⟩|h1
   ·rw [h2];exact loop N I Post hs he m (i+1) st' (by omega) (by omega) h1
   ·exact h1
  ·obtain rfl:i=N:=by omega
   exact he m st h
theorem PF{α σ R:Type}{xs:List α}{L:Nat->Int->σ->Option R}{k:σ->Option R}(f:σ->α->σ)(I:Nat->σ->Prop)
 (hs:∀(m i:Nat) (h:i<xs.length) (st:σ),I i st->L (m+1) (i:Int) st=L m ((i+1:Nat):Int) (f st xs[i])∧I (i+1) (f st xs[i]))
 (he:∀(m:Nat) (st:σ),I xs.length st->L (m+1) (xs.length:Int) st=k st) (m:Nat) (st:σ) (h:I 0 st) (hm:xs.length<m):L m 0 st=k (xs.foldl f st)∧I xs.length (xs.foldl f st):=by
 refine loop xs.length (fun i s=>I i s∧(xs.drop i).foldl f s=xs.foldl f st) (fun o=>o=k (xs.foldl f st)∧I xs.length (xs.foldl f st)) ?_ ?_ m 0 st (by omega) (by omega) ⟨h,by simp⟩
 ·intro m i s hi ⟨h1,h2⟩
  obtain⟨e,h3⟩:=hs m i hi s h1
  exact .inl ⟨_,⟨h3,by rw [List.drop_eq_getElem_cons hi]at h2;exact h2⟩,e⟩
 ·intro m s ⟨h1,h2⟩
  rw [List.drop_length]at h2
  have h2:s=xs.foldl f st:=h2
  rw [←h2]
  exact⟨he m s h1,h1⟩
theorem BN{α:Type}{xs ys:List α}{b:Nat}(h:xs.length+ys.length<=16777216)(hb:b<=1048576):CA xs ys b=some (xs++ys):=by
 unfold CA
 have:(xs.length+ys.length)*b<=16777216*1048576:=Nat.mul_le_mul h hb
 rw [if_pos ⟨by omega,by omega⟩]
theorem OP{α R:Type}{xs:List α}{L:Nat->Int->Option R}{k no:Option R}(p:α->Bool)(hs:∀(m i:Nat) (h:i<xs.length),L (m+1) (i:Int)=cond (p xs[i]) (L m ((i+1:Nat):Int)) no)
 (he:∀m:Nat,L (m+1) (xs.length:Int)=k) (m:Nat) (hm:xs.length<m):L m 0=cond (xs.all p) k no:=by
 refine loop (L:=fun m i (_:Unit)=>L m i) xs.length (fun i _=>xs.all p=(xs.drop i).all p) (fun o=>o=cond (xs.all p) k no) ?_ ?_ m 0 () (by omega) (by omega) (by simp)
 ·intro m i _ hi h
  rw [List.drop_eq_getElem_cons hi,List.all_cons]at h
  cases hp:p xs[i]with
  |false=>refine .inr ?_;rw [h,hp];simp only [hs m i hi,hp,cF,Bool.false_and]
  |true=>refine .inl ⟨(),by rw [h,hp];simp,?_⟩;simp only [hs m i hi,hp,cT]
 ·intro m _ h
  rw [List.drop_length]at h
  rw [h];simp [he m]
theorem SH{σ R:Type}{L:Nat->σ->Option R}(μ:σ->Nat)(I:σ->Prop)(Post:Option R->Prop)
 (hs:∀(m:Nat) (st:σ),I st->(∀st',I st'->μ st'<μ st->Post (L m st'))->Post (L (m+1) st)):∀(m:Nat) (st:σ),μ st<m->I st->Post (L m st)
 |0,st,h,_=>by omega
 |m+1,st,h,hI=>hs m st hI fun st' h1 h2=>SH μ I Post hs m st' (by omega) h1
theorem Fp{σ R:Type}{L:Nat->Int->σ->Option R}(N:Nat)(I:Nat->σ->Prop)(Post:Option R->Prop)
 (hs:∀(m i:Nat) (st:σ),i<N->I i st->(∀st',I (i+1) st'->Post (L m ((i+1:Nat):Int) st'))->Post (L (m+1) (i:Int) st))
 (he:∀(m:Nat) (st:σ),I N st->Post (L (m+1) (N:Int) st)):∀(m i:Nat) (st:σ),i<=N->N-i<m->I i st->Post (L m (i:Int) st)
 |0,i,st,_,hm,_=>by omega
 |m+1,i,st,hi,hm,h=>by
  by_cases hlt:i<N
  ·exact hs m i st hlt h fun st' h'=>Fp N I Post hs he m (i+1) st' (by omega) (by omega) h'
  ·obtain rfl:i=N:=by omega
   exact he m st h
def BK{α:Type}(Q:α->Prop)(o:Option α):Prop:=∃v,o=some v∧Q v
theorem AP{α:Type}{Q:α->Prop}{v:α}(h:Q v):BK Q (some v):=⟨v,rfl,h⟩
theorem BK.bind{α β:Type}{A:α->Prop}{Q:β->Prop}{o:Option α}{f:α->Option β}(h:BK A o)(k:∀v,o=Option.some v->A v->BK Q (f v)):BK Q (Option.bind o f):=by
 obtain⟨v,e,hv⟩:=h
 rw [e];exact k v e hv
theorem Ap{α:Type}{Q:α->Prop}{c:Bool}{x y:Option α}(h1:c=true->BK Q x)(h2:c=false->BK Q y):BK Q (cond c x y):=by
 cases c
 ·exact h2 rfl
 ·exact h1 rfl
theorem BK.weaken{α:Type}{Q Q':α->Prop}{o:Option α}(h:BK Q o)(hq:∀v,Q v->Q' v):BK Q' o:=by
 obtain⟨v,e,hv⟩:=h
 exact⟨v,e,hq v hv⟩
theorem BK.get{α:Type}{Q:α->Prop}{xs:List α}{i:Int}(h0:0<=i)(h1:i<xs.length)(h:∀x∈xs,Q x):BK Q (AL xs i):=by
 obtain⟨x,hx,hm⟩:=El h0 h1
 exact⟨x,hx,h x hm⟩
theorem CV{α:Type}{xs:List α}{i:Int}(h0:0<=i)(h1:i<xs.length):BK (fun x=>x∈xs) (AL xs i):=BK.get h0 h1 fun _ h=>h
theorem KY{α:Type}{xs:List α}{L:Nat->Int->Option Int}(p:α->Bool)(hs:∀(m i:Nat) (h:i<xs.length),L (m+1) (i:Int)=cond (p xs[i]) (some (i:Int)) (L m ((i+1:Nat):Int)))
 (he:∀m:Nat,L (m+1) (xs.length:Int)=some (-1)) (m:Nat) (hm:xs.length<m):∃r,L m 0=some r∧decide (r>=0)=xs.any p:=by
 refine loop (L:=fun m i (_:Unit)=>L m i) xs.length (fun i _=>xs.any p=(xs.drop i).any p) (fun o=>∃r,o=some r∧decide (r>=0)=xs.any p) ?_ ?_ m 0 () (by omega) (by omega) (by simp)
 ·intro m i _ hi h
  rw [List.drop_eq_getElem_cons hi,List.any_cons]at h
  cases hp:p xs[i]with
  |false=>refine .inl ⟨(),by rw [h,hp];simp,?_⟩;simp only [hs m i hi,hp,cF]
  |true=>refine .inr ⟨(i:Int),?_,?_⟩
         ·simp only [hs m i hi,hp,cT]
         ·rw [h,hp];simp
 ·intro m _ h
  rw [List.drop_length]at h
  exact⟨-1,he m,by rw [h];rfl⟩
structure Do(c:List Int)(s:AA):Prop where
 code:s.code_=c
 at0:0<=s.at_∧s.at_<=c.length
 sd:0<=s.seed_∧s.seed_<2147483647
def IV(c:List Int):Prop:=c.length<=4096∧∀x∈c,0<=x∧x<=255
theorem FG{a b:Int}(ha:0<=a)(hb:0<b):0<=Int.tmod a b∧Int.tmod a b<b:=⟨Int.tmod_nonneg _ ha,Int.tmod_lt_of_pos _ hb⟩
theorem Nx{n:Nat}{c:List Int}(hc:IV c){s:AA}(h:Do c s)(k:Int):BK (fun r=>Do c r.2∧0<=r.1∧(r.1<k∨r.1=0∧k<=1)) (Dt n s k):=by
 obtain⟨h1,h2,h3⟩:=h
 have hl:=hc.1
 rw [Dt]
 refine Ap (fun hk=>AP ⟨⟨h1,h2,h3⟩,Int.le_refl _,.inr ⟨rfl,of_decide_eq_true hk⟩⟩) fun hk=>?_
 have hk:=of_decide_eq_false hk
 have hk0:(k==0)=false:=by rw [beq_eq_false_iff_ne];omega
 refine Ap (fun ha=>?_) fun ha=>?_
 ·have ha:=of_decide_eq_true ha
  rw [h1]at ha ⊢
  refine BK.bind (BK.get h2.1 ha hc.2) fun x _ hx=>?_
  have wx:wrap .i64 x=x:=Af (by omega) (by omega)
  have wa:wrap .i64 (s.at_+1)=s.at_+1:=Af (by omega) (by omega)
  have wm:wrap .i64 (s.seed_*48271)=s.seed_*48271:=Af (by omega) (by omega)
  simp only [hk0,cF,wx,wa,wm,Af (x:=s.seed_*48271+x) (by omega) (by omega),Af (x:=s.seed_*48271+x+1) (by omega) (by omega)]
  have m1:=FG (a:=s.seed_*48271+x+1) (b:=2147483647) (by omega) (by omega)
  refine Ap (fun _=>AP ⟨⟨rfl,⟨?_,?_⟩,h3⟩,?_⟩) fun _=>AP ⟨⟨rfl,⟨?_,?_⟩,m1⟩,?_⟩
  ·show 0<=s.at_+1;omega
  ·show s.at_+1<=_;omega
  ·exact⟨(FG hx.1 (by omega)).1,.inl (FG hx.1 (by omega)).2⟩
  ·show 0<=s.at_+1;omega
  ·show s.at_+1<=_;omega
  ·exact⟨(FG m1.1 (by omega)).1,.inl (FG m1.1 (by omega)).2⟩
 ·have wm:wrap .i64 (s.seed_*48271)=s.seed_*48271:=Af (by omega) (by omega)
  have m1:=FG (a:=s.seed_*48271+11) (b:=2147483647) (by omega) (by omega)
  simp only [hk0,cF,wm,Af (x:=s.seed_*48271+11) (by omega) (by omega)]
  generalize Int.tmod (s.seed_*48271+11) 2147483647=q at*
  have d0:0<=Int.tdiv q 7:=Int.tdiv_nonneg m1.1 (by omega)
  have d1:Int.tdiv q 7<=q:=Int.tdiv_le_self _ m1.1
  rw [Af (x:=Int.tdiv q 7) (by omega) (by omega)]
  exact AP ⟨⟨h1,h2,m1⟩,(FG d0 (by omega)).1,.inl (FG d0 (by omega)).2⟩
theorem Do.mk2{c d:List Int}{s:AA}(h:Do c s)(e:d=c):Do c (AA.mk d s.at_ s.seed_):=⟨e,h.at0,h.sd⟩
theorem Fr{n:Nat}{c:List Int}(hc:IV c)(hn:1048577<=n):BK (fun r=>Do c r) (Wa n c):=by
 have hl:=hc.1
 rw [Wa]
 refine Fp (L:=fun m i (p:Int×Int)=>JK c (fun i12 i14 i15=>(some ((AA.mk c i14 i15)))) m i p.1 p.2) (min c.length 64) (fun _ p=>p.1=0∧0<=p.2∧p.2<2147483647) _ ?_ ?_ n 0 (0,12345) (by omega) (by omega) ⟨rfl,by omega,by omega⟩
 ·intro m i ⟨a,sd⟩ hi ⟨h1,h2⟩ ih
  dsimp only at h1 h2 ⊢
  have hi1:i<c.length:=by omega
  have hx:=hc.2 _ (List.getElem_mem hi1)
  simp only [JK.eq_2,DH hi1,DH (show i<64 by omega),Bool.and_self,cT,AY hi1,As,show((64:Int))=((64:Nat):Int)from rfl,wT i]
  generalize c[i]=x at*
  rw [Af (x:=sd*31) (by omega) (by omega),Af (x:=x) (by omega) (by omega),Af (x:=sd*31+x) (by omega) (by omega)]
  have m1:=FG (a:=sd*31+x) (b:=2147483647) (by omega) (by omega)
  exact ih (a,_) ⟨h1,m1⟩
 ·intro m ⟨a,sd⟩ ⟨h1,h2⟩
  dsimp only at h1 h2 ⊢
  have:(decide (((min c.length 64:Nat):Int)<(c.length:Int))&&decide (((min c.length 64:Nat):Int)<64))=false:=by
   rw [Bool.and_eq_false_iff,decide_eq_false_iff_not,decide_eq_false_iff_not];omega
  simp only [JK.eq_2,this,cF]
  exact AP ⟨rfl,⟨by subst h1;exact Int.le_refl _,by subst h1;exact Int.natCast_nonneg _⟩,h2⟩
theorem IV.of{code:List Int}(hR:code.length<=9223372036854775807∧∀x∈code,dD .u8 x)(h:¬(code.length:Int)>4096):IV code:=⟨by omega,fun x hx=>hR.2 x hx⟩
def gd(t:List Int)(j:Nat):Int:=t.getD j 0
theorem Mj{t:List Int}{j:Nat}{v:Int}(h:t[j]? =some v):gd t j=v:=by simp [gd,h]
theorem ZX{t:List Int}{j:Nat}(h:j<t.length):t[j]? =some (gd t j):=by simp [gd,h]
theorem OK{t:List Int}{i j:Nat}{v:Int}(h:i<t.length):gd (t.set i v) j=if i=j then v else gd t j:=by
 unfold gd
 rw [List.getD_eq_getElem?_getD,List.getD_eq_getElem?_getD,List.getElem?_set]
 by_cases e:i=j
 ·subst e;simp [h]
 ·simp [e]
theorem Si{t:List Int}{i:Int}(h0:0<=i)(h1:i<t.length):AL t i=some (gd t i.toNat):=by
 obtain⟨x,hx,h⟩:=Ei h0 h1
 rw [hx,Mj h]
def gb(t:List Bool)(j:Nat):Bool:=t.getD j false
theorem MA{t:List Bool}{i j:Nat}{v:Bool}(h:i<t.length):gb (t.set i v) j=if i=j then v else gb t j:=by
 unfold gb
 rw [List.getD_eq_getElem?_getD,List.getD_eq_getElem?_getD,List.getElem?_set]
 by_cases e:i=j
 ·subst e;simp [h]
 ·simp [e]
theorem bU{t u:List Bool}(h:t.length=u.length)(e:∀j,j<t.length->gb t j=gb u j):t=u:=by
 apply List.ext_getElem?
 intro j
 by_cases hj:j<t.length
 ·have:=e j hj
  simp only [gb,List.getD_eq_getElem?_getD,List.getElem?_eq_getElem hj,List.getElem?_eq_getElem (h▸hj),Option.getD_some]at this
  rw [List.getElem?_eq_getElem hj,List.getElem?_eq_getElem (h▸hj),this]
 ·rw [List.getElem?_eq_none (by omega),List.getElem?_eq_none (by omega)]
theorem OU{n j:Nat}:gd (List.replicate n 0) j=0:=by
 simp only [gd,List.getD_eq_getElem?_getD,List.getElem?_replicate];split<;>rfl
theorem Xm(m:Int):0<=Lx .u64 m 16777215∧Lx .u64 m 16777215<=16777215:=by
 unfold Lx
 have h:(BitVec.ofInt IntKind.u64.bits m&&&BitVec.ofInt IntKind.u64.bits 16777215).toNat<=16777215:=by
  rw [BitVec.toNat_and]
  refine Nat.le_trans Nat.and_le_right ?_
  decide
 generalize (BitVec.ofInt IntKind.u64.bits m&&&BitVec.ofInt IntKind.u64.bits 16777215).toNat=q at h
 have:IntKind.wrap IntKind.u64 (q:Int)=q:=by
  have e:IntKind.wrap IntKind.u64 (q:Int)=(q:Int)%18446744073709551616:=rfl
  rw [e];omega
 rw [this];omega
structure dG(c:List Int)(d:Ea):Prop where
 b:d.b_=c
 i0:0<=d.i_∧d.i_<=c.length
theorem tG{n:Nat}{c:List Int}(hc:IV c)(hn:1048577<=n)(seed:Int):BK (fun d=>dG c d) (Vk n c seed):=by
 have hl:=hc.1
 rw [Vk]
 generalize IntKind.wrap IntKind.u64 _=h0
 refine Fp (L:=fun m i (p:Int×Int)=>JH c (fun i12 i14 i15=>(some ((Ea.mk c i14 i15)))) m i p.1 p.2) c.length (fun _ p=>p.1=0) _ ?_ ?_ n 0 (0,h0) (by omega) (by omega) rfl
 ·intro m i ⟨a,h⟩ hi h1 ih
  dsimp only at h1 ⊢
  simp only [JH.eq_2,DH hi,cT,AY hi,As,wT i]
  exact ih (a,_) h1
 ·intro m ⟨a,h⟩ h1
  dsimp only at h1 ⊢
  subst h1
  simp only [JH.eq_2,DQ,cF]
  exact AP ⟨rfl,by show(0:Int)<=0∧(0:Int)<=c.length;omega⟩
theorem uQ{n:Nat}{c:List Int}(hc:IV c){d:Ea}(hd:dG c d){k:Int}(hk:1<=k):BK (fun r=>(0<=r.1∧r.1<k)∧dG c r.2) (VZ n d k):=by
 have hl:=hc.1
 have h0:=hd.i0
 rw [VZ]
 have hk0:(k==0)=false:=by rw [beq_eq_false_iff_ne];omega
 simp only [hk0,cF,hd.b]
 obtain⟨q0,q1⟩:=Xm (Of .u64 (IntKind.wrap IntKind.u64 ((IntKind.wrap IntKind.u64 (d.h_*6364136223846793005))+1442695040888963407)) 33)
 generalize Lx .u64 (Of .u64 (IntKind.wrap IntKind.u64 ((IntKind.wrap IntKind.u64 (d.h_*6364136223846793005))+1442695040888963407)) 33) 16777215=q at*
 rw [Af (x:=q) (by omega) (by omega)]
 refine Ap (fun hi=>?_) fun hi=>?_
 ·have hi:=of_decide_eq_true hi
  refine BK.bind (BK.get h0.1 hi hc.2) fun x _ hx=>?_
  rw [Af (x:=x) (by omega) (by omega),Af (x:=q+x) (by omega) (by omega),Af (x:=d.i_+1) (by omega) (by omega)]
  exact AP ⟨FG (by omega) (by omega),rfl,by show 0<=d.i_+1∧d.i_+1<=_;omega⟩
 ·exact AP ⟨FG (by omega) (by omega),rfl,h0⟩
theorem dG.mk2{c d:List Int}{x:Ea}(h:dG c x)(e:d=c):dG c (Ea.mk d x.i_ x.h_):=⟨e,h.i0⟩
def LA(b:UInt8):Bool:=decide ((b.toNat:Int)>=97)&&decide ((b.toNat:Int)<=122)
def Pa(b:UInt8):Bool:=decide ((b.toNat:Int)>=48)&&decide ((b.toNat:Int)<=57)
def EX(s:ByteArray):Bool:=(decide ((s.size:Int)>=1)&&decide ((s.size:Int)<=8))&&(s.data.toList.all fun b=>LA b||Pa b)&&(s.data.toList.take 1).all LA
theorem Ms(s:ByteArray):s.size=s.data.toList.length:=by rw [Array.length_toList];rfl
theorem Sd{s:ByteArray}{i:Nat}(h:i<s.data.toList.length):Pu s (i:Int)=some ((s.data.toList[i].toNat:Nat):Int):=by
 unfold Pu
 rw [if_pos (by omega),Int.toNat_natCast]
 have:s[i]? =some s.data.toList[i]:=by
  have hs:i<s.size:=by rw [Ms];exact h
  rw [show s[i]? =some s[i]from getElem?_pos s i hs]
  rfl
 rw [this];rfl
theorem Us(p q:UInt8->Bool)(h:(List.range 256).all (fun i=>p (UInt8.ofNat i)==q (UInt8.ofNat i))=true)(b:UInt8):p b=q b:=by
 have:=List.all_eq_true.1 h b.toNat (List.mem_range.2 b.toNat_lt)
 rw [UInt8.ofNat_toNat]at this
 exact eq_of_beq this
def lettersL:List UInt8:=[97,98,99,100,101,102,103,104,105,106,107,108,109,110,111,112,113,114,115,116,117,118,119,120,121,122]
def nameL:List UInt8:=[97,98,99,100,101,102,103,104,105,106,107,108,109,110,111,112,113,114,115,116,117,118,119,120,121,122,48,49,50,51,52,53,54,55,56,57]
theorem Vj(b:UInt8):nameL.contains b=(LA b||Pa b):=Us (fun b=>nameL.contains b) (fun b=>LA b||Pa b) (by decide+kernel) b
theorem QU(b:UInt8):lettersL.contains b=LA b:=Us (fun b=>lettersL.contains b) (fun b=>LA b) (by decide+kernel) b
theorem Mc{p:UInt8->Bool}:∀{l:List UInt8} (h:0<l.length),(l.take 1).all p=p l[0]
 |[],h=>by simp at h
 |a::r,_=>by simp
theorem GJ{p:UInt8->Bool}:∀(l:List UInt8),(l.dropWhile p=[])↔l.all p=true
 |[]=>by simp
 |a::l=>by
  rw [List.dropWhile_cons,List.all_cons]
  cases h:p a with
  |true=>simpa using GJ l
  |false=>simp
theorem Jw{p:UInt8->Bool}:∀{l:List UInt8} {a:UInt8} {r:List UInt8},l.dropWhile p=a::r->p a=false
 |b::l,a,r,h=>by
  rw [List.dropWhile_cons]at h
  split at h
  ·exact Jw h
  ·next q=>simp only [List.cons.injEq]at h;rw [←h.1];simpa using q
theorem Tx(l cs:List UInt8):(Lib.trimS l cs==[])=l.all (cs.contains ·):=by
 rw [Bool.eq_iff_iff,beq_iff_eq]
 unfold Lib.trimS Lib.trimLeftS Lib.trimRightS
 rw [GJ,List.all_reverse]
 rw [show l.all (cs.contains ·)=l.reverse.all (cs.contains ·) by rw [List.all_reverse]]
 constructor
 ·intro h
  cases hd:l.reverse.dropWhile (cs.contains ·)with
  |nil=>exact(GJ _).1 hd
  |cons a r=>
   have h1:=Jw hd
   rw [hd,List.all_cons,h1]at h
   cases h
 ·intro h
  rw [(GJ _).2 h];rfl
theorem MI:∀(l:List UInt8) (c:UInt8),decide (Lib.indexByte l c>=0)=l.contains c∧Lib.indexByte l c>= -1
 |[],c=>by simp [Lib.indexByte]
 |b::l,c=>by
  obtain⟨h1,h2⟩:=MI l c
  rw [Lib.indexByte,List.contains_cons]
  by_cases e:b=c
  ·subst e;simp
  ·have e1:(b==c)=false:=beq_eq_false_iff_ne.2 e
   have e2:(c==b)=false:=beq_eq_false_iff_ne.2 fun q=>e q.symm
   rw [e1,e2,Bool.false_or,←h1]
   by_cases h:Lib.indexByte l c= -1
   ·rw [h];simp
   ·have:(Lib.indexByte l c== -1)=false:=beq_eq_false_iff_ne.2 h
    rw [this]
    have hge:Lib.indexByte l c>=0:=by omega
    rw [decide_eq_true hge]
    simp only [Bool.false_eq_true,if_false]
    exact⟨decide_eq_true (by omega),by omega⟩
theorem rP{n:Nat}{s:ByteArray}(hs:s.size<=1048576)(hn:1048577<=n):Sq n s=some (EX s):=by
 rw [Sq,IM,As]
 unfold EX
 cases hw:(decide ((s.size:Int)>=1)&&decide ((s.size:Int)<=8))with
 |false=>simp
 |true=>
  have hsz:1<=s.size:=by simp only [Bool.and_eq_true,decide_eq_true_eq]at hw;omega
  have ht:Ts n s ((ByteArray.mk #[97,98,99,100,101,102,103,104,105,106,107,108,109,110,111,112,113,114,115,116,117,118,119,120,121,122,48,49,50,51,52,53,54,55,56,57]))=some ⟨(Lib.trimS s.data.toList nameL).toArray⟩:=by
   unfold Ts
   rw [if_pos ⟨by omega,by decide,by decide⟩];rfl
  simp only [cT,ht,As,Bool.true_and]
  have hb:((⟨(Lib.trimS s.data.toList nameL).toArray⟩:ByteArray).toList==((ByteArray.mk #[])).toList)=(s.data.toList.all fun b=>LA b||Pa b):=by
   rw [Lib.toList_data,Lib.toList_data]
   show((Lib.trimS s.data.toList nameL)==[])=_
   rw [Tx]
   congr 1
   funext b;exact Vj b
  rw [hb]
  cases(s.data.toList.all fun b=>LA b||Pa b)with
  |false=>simp
  |true=>
   rw [Ms]at hsz
   have hg:=Sd (s:=s) (i:=0) (by omega)
   simp only [cT,show((0:Int))=((0:Nat):Int)from rfl,hg,As,Zq,Bool.true_and]
   have h1:=(MI lettersL (s.data.toList[0])).1
   rw [QU]at h1
   have e1:(((s.data.toList[0].toNat:Nat):Int).toNat.toUInt8)=s.data.toList[0]:=by rw [Int.toNat_natCast];exact UInt8.ofNat_toNat
   rw [e1]
   have e2:(s.data.toList.take 1).all LA=LA s.data.toList[0]:=Mc (by omega)
   rw [e2,←h1];rfl
theorem jZ{n:Nat}{s:ByteArray}(hs:s.size<=1048576)(hn:1048577<=n):Ym n s=some (EX s):=by
 rw [Ym]
 have hl:=Ms s
 refine loop (L:=fun m i (_:Unit)=>Gi s _ m i) s.data.toList.length (fun i _=>EX s=((decide ((s.size:Int)>=1)&&decide ((s.size:Int)<=8))&&((s.data.toList.drop i).all fun b=>LA b||Pa b)&&((s.data.toList.take 1).drop i).all LA)) (fun r=>r=some (EX s)) ?_ ?_ n 0 () (by omega) (by omega) (by simp [EX])
 ·intro m i _ hi hI
  have g:=Sd hi
  have hd:decide ((i:Int)<(s.size:Int))=true:=decide_eq_true (by omega)
  have key:Gi s (fun i3=>(some (((decide ((s.size:Int)>=1))&&(decide ((s.size:Int)<=8)))))) (m+1) (i:Int)=cond (!LA s.data.toList[i]&& !(Pa s.data.toList[i]&&decide (0<i))) (some false) (Gi s (fun i3=>(some (((decide ((s.size:Int)>=1))&&(decide ((s.size:Int)<=8)))))) m ((i+1:Nat):Int)):=by
   have e0:decide ((i:Int)>0)=decide (0<i):=by by_cases h:0<i<;>simp [h]<;>omega
   simp only [Gi.eq_2,hd,cT,g,As,Bn,wT i,e0]
   rfl
  by_cases hc:(!LA s.data.toList[i]&& !(Pa s.data.toList[i]&&decide (0<i)))=true
  ·refine .inr ?_
   show Gi s _ (m+1) (i:Int)=_
   rw [key,hc,cT]
   have:EX s=false:=by
    rw [hI,List.drop_eq_getElem_cons hi,List.all_cons]
    simp only [Bool.and_eq_true,Bool.not_eq_true',Bool.and_eq_false_iff,decide_eq_false_iff_not]at hc
    obtain⟨h1,h2⟩:=hc
    rw [h1]
    rcases h2 with h2|h2
    ·rw [h2];simp
    ·obtain rfl:i=0:=by omega
     rw [List.drop_zero,Mc hi,h1];simp
   rw [this]
  ·refine .inl ⟨(),?_,?_⟩
   ·rw [hI,List.drop_eq_getElem_cons hi,List.all_cons]
    have hc:=Bool.eq_false_iff.2 hc
    simp only [Bool.and_eq_false_iff,Bool.not_eq_false',Bool.and_eq_true,decide_eq_true_eq]at hc
    by_cases h0:i=0
    ·subst h0
     have h1:LA s.data.toList[0]=true:=by
      rcases hc with h|h
      ·exact h
      ·omega
     have e2:(s.data.toList.take 1).drop (0+1)=[]:=List.drop_eq_nil_of_le (by simp;omega)
     rw [List.drop_zero,Mc hi,e2,h1];simp
    ·have e1:(s.data.toList.take 1).drop i=[]:=List.drop_eq_nil_of_le (by simp;omega)
     have e2:(s.data.toList.take 1).drop (i+1)=[]:=List.drop_eq_nil_of_le (by simp;omega)
     rw [e1,e2]
     have:(LA s.data.toList[i]||Pa s.data.toList[i])=true:=by
      rcases hc with h|h
      ·rw [h];rfl
      ·rw [h.1];simp
     rw [this];simp
   ·show Gi s _ (m+1) (i:Int)=Gi s _ m ((i+1:Nat):Int)
    rw [key,Bool.eq_false_iff.2 hc,cF]
 ·intro m _ hI
  have hd:decide (((s.data.toList.length:Nat):Int)<(s.size:Int))=false:=decide_eq_false (by omega)
  simp only [Gi.eq_2,hd,cF]
  rw [hI,List.drop_length,List.drop_eq_nil_of_le (by simp;omega)]
  simp
def BW(P:Prop)(r:Option Bool):Prop:=∃b:Bool,r=some b∧(b=true↔P)
theorem BS{P:Prop}(h:¬P):BW P (some false):=⟨false,rfl,by simp [h]⟩
theorem DI{P:Prop}(h:P):BW P (some true):=⟨true,rfl,by simp [h]⟩
theorem tC{n:Nat}{xs:List ByteArray}{x:ByteArray}(h:xs.length<=1048576)(hn:1048577<=n):WL n xs x=some (xs.any fun y=>x.toList==y.toList):=by
 rw [WL,Xi]
 obtain⟨r,e1,e2⟩:=KY (xs:=xs) (L:=fun m i=>Hk xs x (fun i5=>(some (-1))) m i) (fun y=>x.toList==y.toList) (fun m i hi=>by
  simp only [Hk.eq_2,DH hi,cT,AY hi,As,wT i]) (fun m=>by
  simp only [Hk.eq_2,DQ,cF]) n (by omega)
 have e1:Hk xs x (fun i5=>(some (-1))) n 0=some r:=e1
 rw [e1,As,e2]
theorem AN{n:Nat}{xs:List ByteArray}(h:xs.length<=1048576)(hs:∀x∈xs,x.size<=1048576)(hn:1048577<=n):BW (∀k (h:k<xs.length),EX xs[k]=true∧∀i (hi:i<k),(xs[i].toList==xs[k].toList)=false) (Pr n xs):=by
 rw [Pr]
 refine loop (L:=fun m i (_:Unit)=>JZ n xs _ m i) xs.length (fun i _=>∀k (h:k<xs.length),k<i->EX xs[k]=true∧∀i (hi:i<k),(xs[i].toList==xs[k].toList)=false) _ ?_ ?_ n 0 () (by omega) (by omega) (fun k h hk=>by omega)
 ·intro m i _ hi hI
  have hsub:Ky xs 0 (i:Int)=some (xs.take i):=by
   unfold Ky
   rw [if_pos ⟨by omega,by omega,by omega⟩];simp
  have hct:=tC (n:=n) (xs:=xs.take i) (x:=xs[i]) (by simp;omega) hn
  simp only [JZ.eq_2,DH hi,cT,AY hi,As,rP (hs _ (List.getElem_mem hi)) hn,hsub,hct,EY,wT i]
  cases hb:(!EX xs[i]||(xs.take i).any fun y=>xs[i].toList==y.toList)with
  |true=>
   refine .inr (BS fun hv=>?_)
   obtain⟨h1,h2⟩:=hv i hi
   rw [h1,Bool.not_true,Bool.false_or,List.any_eq_true]at hb
   obtain⟨y,hy,he⟩:=hb
   obtain⟨j,hj,rfl⟩:=List.mem_iff_getElem.1 hy
   rw [List.length_take]at hj
   rw [List.getElem_take]at he
   have:=h2 j (by omega)
   rw [beq_eq_false_iff_ne]at this
   exact this (eq_of_beq he).symm
  |false=>
   simp only [Bool.or_eq_false_iff,Bool.not_eq_false']at hb
   refine .inl ⟨(),fun k h hk=>?_,rfl⟩
   by_cases e:k=i
   ·subst e
    refine⟨hb.1,fun j hj=>?_⟩
    rw [beq_eq_false_iff_ne]
    intro he
    have:=List.any_eq_false.1 hb.2 xs[j] (List.mem_iff_getElem.2 ⟨j,by rw [List.length_take];omega,by rw [List.getElem_take]⟩)
    exact this (by rw [he];simp)
   ·exact hI k h (by omega)
 ·intro m _ hI
  simp only [JZ.eq_2,DQ,cF]
  exact DI fun k h=>hI k h h
theorem AW{n:Nat}{ks:List Int}{lo hi:Int}(h:ks.length<=1048576)(hn:1048577<=n):Me n ks lo hi=some (ks.all fun k=>decide (k>=lo)&&decide (k<=hi)):=by
 rw [Me,Ux,Un]
 obtain⟨r,e1,e2⟩:=KY (xs:=ks) (L:=fun m i=>FY n ks lo hi (fun i7=>(some (-1))) m i) (fun k=>!(decide (k>=lo)&&decide (k<=hi))) (fun m i hi=>by
  simp only [FY.eq_2,DH hi,cT,AY hi,As,WU,IM,wT i]) (fun m=>by
  simp only [FY.eq_2,DQ,cF]) n (by omega)
 have e1:FY n ks lo hi (fun i7=>(some (-1))) n 0=some r:=e1
 rw [e1,As,As,e2]
 congr 1
 rw [List.not_any_eq_all_not]
 congr 1
 funext k;rw [Bool.not_not]
theorem Nb{n0:Nat}:∀(j n:Nat) (k:Int),0<=k->k<(10:Int)^(j+1)->k<=1000000000000000000->j<n->j<=100->BK (fun t=>t.size<=j+1) (Nf n k)
 |j,0,k,_,_,_,h,_=>by omega
 |j,n+1,k,k0,k1,k2,h,hj=>by
  rw [fQ,decide_eq_false (show¬k<0 by omega),cF]
  by_cases hk:k<10
  ·rw [decide_eq_true hk,cT]
   exact AP (by rw [Mt];simp)
  ·rw [decide_eq_false hk,cF]
   match j,k1 with
   |0,k1=>simp at k1;omega
   |j+1,k1=>
    have e:wrap .i64 (Int.tdiv k 10)=k/10:=by rw [Int.tdiv_eq_ediv_of_nonneg k0];exact Af (by omega) (by omega)
    rw [e]
    rw [Int.pow_succ]at k1
    refine BK.bind (Nb (n0:=n0) j n (k/10) (by omega) (by omega) (by omega) (by omega) (by omega)) fun r _ hr=>?_
    rw [Na (by rw [Mt];simp;omega)]
    exact AP (by rw [ByteArray.size_append,Mt];simp;omega)
theorem rU{n:Nat}{k:Nat}(hk:k<=1000)(hn:1048577<=n):BK (fun t=>t.size<=4) (Nf n (k:Int)):=
 (Nb (n0:=0) 3 n k (by omega) (by show _<(10000:Int);omega) (by omega) (by omega) (by omega))
theorem BW.iff{P Q:Prop}{o:Option Bool}(h:BW P o)(e:P↔Q):BW Q o:=by
 obtain⟨b,rfl,h⟩:=h;exact⟨b,rfl,h.trans e⟩
theorem Bb{P:Prop}{b:Bool}(h:b=true↔P):BW P (some b):=⟨b,rfl,h⟩
theorem BW.bind{P R:Prop}{o:Option Bool}{f:Bool->Option Bool}(h:BW P o)(h1:P->BW R (f true))(h0:¬P->BW R (f false)):BW R (Option.bind o f):=by
 obtain⟨b,rfl,h⟩:=h
 cases b with
 |true=>exact h1 (h.1 rfl)
 |false=>exact h0 fun p=>by have:=h.2 p;cases this
theorem Fu{R:Prop}{c:Bool}{x y:Option Bool}(h1:c=true->BW R x)(h0:c=false->BW R y):BW R (cond c x y):=by
 cases c
 ·exact h0 rfl
 ·exact h1 rfl
theorem Ez{L:Nat->Int->Option Bool}{Q:Prop}(N s:Nat)(p:Nat->Prop)
 (hs:∀(m i:Nat),s<=i->i<N->(p i∧L (m+1) (i:Int)=L m ((i+1:Nat):Int))∨(¬p i∧L (m+1) (i:Int)=some false))
 (he:∀(m i:Nat),N<=i->i<=N+s->(∀j,s<=j->j<N->p j)->BW Q (L (m+1) (i:Int))):∀(m i:Nat),s<=i->i<=N+s->N-i<m->(∀j,s<=j->j<i->j<N->p j)->BW ((∀i,s<=i->i<N->p i)∧Q) (L m (i:Int))
 |0,i,_,_,hm,_=>by omega
 |m+1,i,hi,hi2,hm,hI=>by
  by_cases hlt:i<N
  ·rcases hs m i hi hlt with ⟨h1,h2⟩|⟨h1,h2⟩
   ·rw [h2]
    refine Ez N s p hs he m (i+1) (by omega) (by omega) (by omega) fun j h3 h4 h5=>?_
    by_cases e:j=i
    ·subst e;exact h1
    ·exact hI j h3 (by omega) h5
   ·rw [h2];exact BS fun h=>h1 (h.1 i hi hlt)
  ·have ha:∀j,s<=j->j<N->p j:=fun j h3 h4=>hI j h3 (by omega) h4
   exact(he m i (by omega) hi2 ha).iff ⟨fun q=>⟨ha,q⟩,fun q=>q.2⟩
theorem Kg{α:Type}{xs:List α}{L:Nat->Int->Option Int}{f:α->Option Bool}{P:α->Prop}(hf:∀x∈xs,BW (P x) (f x))(hs:∀(m i:Nat) (h:i<xs.length),L (m+1) (i:Int)=Option.bind (f xs[i]) fun r=>cond r (some (i:Int)) (L m ((i+1:Nat):Int)))
 (he:∀m:Nat,L (m+1) (xs.length:Int)=some (-1)) (m:Nat) (hm:xs.length<m):∃r,L m 0=some r∧(r>=0↔∃x∈xs,P x)∧(r= -1∨∃j:Nat,r=(j:Int)∧∃h:j<xs.length,P xs[j]∧∀i (hi:i<xs.length),i<j->¬P xs[i]):=by
 refine loop (L:=fun m i (_:Unit)=>L m i) xs.length (fun i _=>∀j (h:j<xs.length),j<i->¬P xs[j]) (fun o=>∃r,o=some r∧(r>=0↔∃x∈xs,P x)∧(r= -1∨∃j:Nat,r=(j:Int)∧∃h:j<xs.length,P xs[j]∧∀i (hi:i<xs.length),i<j->¬P xs[i])) ?_ ?_ m 0 () (by omega) (by omega) (fun j _ h=>by omega)
 ·intro m i _ hi hI
  obtain⟨b,e,hb⟩:=hf _ (List.getElem_mem hi)
  rw [hs m i hi,e,As]
  cases b with
  |true=>exact .inr ⟨(i:Int),rfl,⟨fun _=>⟨_,List.getElem_mem hi,hb.1 rfl⟩,fun _=>by omega⟩,.inr ⟨i,rfl,hi,hb.1 rfl,hI⟩⟩
  |false=>
   refine .inl ⟨(),fun j h hj=>?_,by trivial⟩
   by_cases ej:j=i
   ·subst ej;intro hp;have:=hb.2 hp;cases this
   ·exact hI j h (by omega)
 ·intro m _ hI
  refine⟨-1,he m,⟨fun h=>by omega,fun⟨x,hx,hp⟩=>?_⟩,.inl rfl⟩
  obtain⟨j,hj,rfl⟩:=List.getElem_of_mem hx
  exact absurd hp (hI j hj hj)
theorem gI{l:List Int}{i:Nat}(h:i<l.length):AL l (i:Int)=some (gd l i):=by rw [HP];exact ZX h
def Ul(l:List Int):Prop:=(1<=l.length∧l.length<=4)∧(∀i,i<l.length->0<=gd l i∧gd l i<=100000)∧∀i,i<l.length->0<i->gd l (i-1)<gd l i
def VT(t:BR):Prop:=(Ul t.Slews∧Ul t.Loads)∧t.Values.length=t.Slews.length*t.Loads.length∧∀i,i<t.Values.length-> -1000000<=gd t.Values i∧gd t.Values i<=1000000
theorem OZ{l:List Int}{lo hi:Int}:(l.all fun k=>decide (k>=lo)&&decide (k<=hi))=true↔∀i,i<l.length->lo<=gd l i∧gd l i<=hi:=by
 rw [List.all_eq_true]
 constructor
 ·intro h i hi
  have:=h _ (List.getElem_mem hi)
  simp only [Bool.and_eq_true,decide_eq_true_eq]at this
  rw [Mj (List.getElem?_eq_getElem hi)];omega
 ·intro h x hx
  obtain⟨j,hj,rfl⟩:=List.getElem_of_mem hx
  have:=h j hj
  rw [Mj (List.getElem?_eq_getElem hj)]at this
  simp only [Bool.and_eq_true,decide_eq_true_eq];omega
theorem rL{n:Nat}{l:List Int}(h:l.length<=1048576)(hn:1048577<=n):BW (Ul l) (TQ n l):=by
 rw [TQ]
 refine(Ez (L:=fun m i=>JB n l _ m i) (Q:=1<=l.length∧l.length<=4) l.length 0 (fun i=>(0<=gd l i∧gd l i<=100000)∧(0<i->gd l (i-1)<gd l i)) ?_ ?_ n 0 (by omega) (by omega) (by omega) (fun j _ h=>by omega)).iff ?_
 ·intro m i _ hi
  have w1:0<i->wrap .i64 ((i:Int)-1)=((i-1:Nat):Int):=fun h0=>by rw [Af (by omega) (by omega)];omega
  simp only [JB.eq_2,DH hi,cT,gI hi,As,Fk,wT i]
  by_cases c1:0<=gd l i∧gd l i<=100000
  ·have d1:(decide (gd l i>=0)&&decide (gd l i<=100000))=true:=by simp only [Bool.and_eq_true,decide_eq_true_eq];omega
   simp only [d1,Bool.not_true,cF]
   by_cases h0:0<i
   ·have d2:decide ((i:Int)>0)=true:=decide_eq_true (by omega)
    simp only [d2,cT,w1 h0,gI (show i-1<l.length by omega),As]
    by_cases c2:gd l (i-1)<gd l i
    ·have d3:decide (gd l (i-1)>=gd l i)=false:=decide_eq_false (by omega)
     simp only [d3,cF]
     exact .inl ⟨⟨c1,fun _=>c2⟩,by trivial⟩
    ·have d3:decide (gd l (i-1)>=gd l i)=true:=decide_eq_true (by omega)
     simp only [d3,cT]
     exact .inr ⟨fun h=>c2 (h.2 h0),by trivial⟩
   ·have d2:decide ((i:Int)>0)=false:=decide_eq_false (by omega)
    simp only [d2,cF,As]
    exact .inl ⟨⟨c1,fun h=>absurd h h0⟩,by trivial⟩
  ·have d1:(decide (gd l i>=0)&&decide (gd l i<=100000))=false:=by
    rw [Bool.and_eq_false_iff,decide_eq_false_iff_not,decide_eq_false_iff_not];omega
   simp only [d1,Bool.not_false,cT,As]
   exact .inr ⟨fun h=>c1 h.1,by trivial⟩
 ·intro m i h1 h2 _
  obtain rfl:i=l.length:=by omega
  simp only [JB.eq_2,DQ,cF]
  exact Bb (by simp only [Bool.and_eq_true,decide_eq_true_eq];omega)
 ·exact⟨fun⟨a,b⟩=>⟨b,fun i hi=>(a i (by omega) hi).1,fun i hi h0=>(a i (by omega) hi).2 h0⟩,fun⟨a,b,c⟩=>⟨fun i _ hi=>⟨b i hi,c i hi⟩,a⟩⟩
theorem tT{n:Nat}{l:List Int}(h:l.length<=1048576)(hn:1048577<=n):BW (∀i,i<l.length->0<i->gd l (i-1)<gd l i) (VK n l):=by
 rw [VK]
 refine(Ez (L:=fun m i=>Ik l _ m i) (Q:=True) l.length 1 (fun i=>gd l (i-1)<gd l i) ?_ ?_ n 1 (by omega) (by omega) (by omega) (fun j _ h=>by omega)).iff ?_
 ·intro m i h0 hi
  have w1:wrap .i64 ((i:Int)-1)=((i-1:Nat):Int):=by rw [Af (by omega) (by omega)];omega
  simp only [Ik.eq_2,DH hi,cT,w1,gI hi,gI (show i-1<l.length by omega),As,wT i]
  by_cases c2:gd l (i-1)<gd l i
  ·have d3:decide (gd l (i-1)>=gd l i)=false:=decide_eq_false (by omega)
   simp only [d3,cF]
   exact .inl ⟨c2,by trivial⟩
  ·have d3:decide (gd l (i-1)>=gd l i)=true:=decide_eq_true (by omega)
   simp only [d3,cT]
   exact .inr ⟨c2,by trivial⟩
 ·intro m i h1 h2 _
  have:decide ((i:Int)<(l.length:Int))=false:=decide_eq_false (by omega)
  simp only [Ik.eq_2,this,cF]
  exact DI trivial
 ·exact⟨fun a i hi h0=>a.1 i h0 hi,fun a=>⟨fun i h0 hi=>a i hi h0,trivial⟩⟩
theorem rB{n:Nat}{l:List Int}(h:l.length<=1048576)(hn:1048577<=n):BW (Ul l) (Tm n l):=by
 obtain⟨b,e,hb⟩:=tT (n:=n) h hn
 rw [Tm]
 simp only [OM,IM,AW (n:=n) h hn,e,As,Bn]
 refine Bb ?_
 rw [Bool.and_eq_true,Bool.and_eq_true,OZ,hb]
 simp only [Bool.and_eq_true,decide_eq_true_eq]
 exact⟨fun⟨⟨a,b⟩,c⟩=>⟨by omega,b,c⟩,fun⟨a,b,c⟩=>⟨⟨by omega,b⟩,c⟩⟩
theorem Zx{a b:Nat}(ha:a<=4)(hb:b<=4):wrap .i64 ((a:Int)*(b:Int))=((a*b:Nat):Int):=by
 have:a*b<=4*4:=Nat.mul_le_mul ha hb
 have e:((a*b:Nat):Int)=(a:Int)*b:=by simp
 rw [←e,Af (by omega) (by omega)]
def WG(t:BR):Prop:=t.Slews.length<=1048576∧t.Loads.length<=1048576∧t.Values.length<=1048576
theorem uH{n:Nat}{t:BR}(h:WG t)(hn:1048577<=n):BW (VT t) (Uj n t):=by
 rw [Uj]
 refine BW.bind (rL h.1 hn) (fun v1=>?_) fun v1=>?_
 ·simp only [Bool.not_true,cF]
  obtain⟨b,e,hb⟩:=rL (n:=n) h.2.1 hn
  rw [e,As,As]
  cases b with
  |false=>
   simp only [Bool.not_false,Bool.true_or,cT]
   exact BS fun v=>by have:=hb.2 v.1.2;cases this
  |true=>
   have v2:=hb.1 rfl
   rw [Zx v1.1.2 v2.1.2]
   simp only [Bool.not_true,Bool.false_or]
   refine Fu (fun c=>?_) fun c=>?_
   ·refine BS fun v=>?_
    rw [v.2.1]at c;simp at c
   ·have c:t.Values.length=t.Slews.length*t.Loads.length:=by
     rw [bne_eq_false_iff_eq]at c;omega
    have hv:=h.2.2
    refine(Ez (L:=fun m i=>Ig n t _ m i) (Q:=True) t.Values.length 0 (fun i=>-1000000<=gd t.Values i∧gd t.Values i<=1000000) ?_ ?_ n 0 (by omega) (by omega) (by omega) (fun j _ h=>by omega)).iff ?_
    ·intro m i _ hi
     simp only [Ig.eq_2,DH hi,cT,gI hi,As,Fk,wT i]
     by_cases c1:-1000000<=gd t.Values i∧gd t.Values i<=1000000
     ·have d1:(decide (gd t.Values i>= -1000000)&&decide (gd t.Values i<=1000000))=true:=by simp only [Bool.and_eq_true,decide_eq_true_eq];omega
      simp only [d1,Bool.not_true,cF]
      exact .inl ⟨c1,by trivial⟩
     ·have d1:(decide (gd t.Values i>= -1000000)&&decide (gd t.Values i<=1000000))=false:=by
       rw [Bool.and_eq_false_iff,decide_eq_false_iff_not,decide_eq_false_iff_not];omega
      simp only [d1,Bool.not_false,cT]
      exact .inr ⟨c1,by trivial⟩
    ·intro m i h1 h2 _
     obtain rfl:i=t.Values.length:=by omega
     simp only [Ig.eq_2,DQ,cF]
     exact DI trivial
    ·exact⟨fun a=>⟨⟨v1,v2⟩,c,fun i hi=>a.1 i (by omega) hi⟩,fun a=>⟨fun i _ hi=>a.2.2 i hi,trivial⟩⟩
 ·simp only [Bool.not_false,cT,As,Bool.true_or]
  exact BS fun v=>v1 v.1.1
theorem tN{n:Nat}{t:BR}(h:WG t)(hn:1048577<=n):BW (VT t) (WV n t):=by
 rw [WV]
 refine BW.bind (rB h.1 hn) (fun v1=>?_) fun v1=>?_
 ·simp only [cT]
  obtain⟨b,e,hb⟩:=rB (n:=n) h.2.1 hn
  rw [e,As,As]
  cases b with
  |false=>
   simp only [Bool.false_and,cF,As]
   exact BS fun v=>by have:=hb.2 v.1.2;cases this
  |true=>
   have v2:=hb.1 rfl
   rw [Zx v1.1.2 v2.1.2,AW (n:=n) h.2.2 hn]
   simp only [Bool.true_and,As,Bn]
   refine Bb ?_
   rw [Bool.and_eq_true,OZ,beq_iff_eq]
   exact⟨fun⟨a,b⟩=>⟨⟨v1,v2⟩,by omega,b⟩,fun a=>⟨by have:=a.2.1;omega,a.2.2⟩⟩
 ·simp only [cF,As,Bool.false_and]
  exact BS fun v=>v1 v.1.1
theorem VT.pos{t:BR}(h:VT t):0<t.Values.length∧t.Values.length<=16:=by
 have a:=h.1.1.1
 have b:=h.1.2.1
 rw [h.2.1]
 exact⟨Nat.mul_pos (by omega) (by omega),(Nat.mul_le_mul a.2 b.2:_<=4*4)⟩
def VP(t:BR):Prop:=∀j,j<t.Values.length->0<=gd t.Values j
theorem tR{n:Nat}{t:BR}(h:WG t)(hn:1048577<=n):(¬VT t∧∃s:Ai,Sr n t=some (s,1))∨(VT t∧∃s:Ai,Sr n t=some (s,0)∧(s.Early<0↔¬VP t)):=by
 obtain⟨b,e,hb⟩:=uH (n:=n) h hn
 rw [Sr,e,As]
 cases b with
 |false=>exact .inl ⟨fun v=>(by have:=hb.2 v;cases this),_,rfl⟩
 |true=>
  have v:=hb.1 rfl
  have hp:=v.pos
  have g0:AL t.Values 0=some (gd t.Values 0):=gI (i:=0) (by omega)
  refine .inr ⟨v,?_⟩
  simp only [Bool.not_true,cF,g0,As]
  refine loop (L:=fun m i (p:Int×Int)=>JO t (fun i93 i97 i98=>(some ((Ai.mk i97 i98),0))) m i p.1 p.2) t.Values.length (fun i p=>(p.1<0↔¬∀j,j<i->0<=gd t.Values j)) (fun o=>∃s:Ai,o=some (s,0)∧(s.Early<0↔¬VP t)) ?_ ?_ n 1 (gd t.Values 0,gd t.Values 0) (by omega) (by omega) ?_
  ·intro m i ⟨a,c⟩ hi hI
   dsimp only at hI ⊢
   refine .inl ⟨(min a (gd t.Values i),max c (gd t.Values i)),?_,?_⟩
   ·dsimp only
    constructor
    ·intro hm hall
     by_cases ha:a<0
     ·exact hI.1 ha fun j hj=>hall j (by omega)
     ·have:=hall i (by omega);omega
    ·intro hna
     by_cases ha:a<0
     ·omega
     ·have hall:∀j,j<i->0<=gd t.Values j:=fun j hj=>by
       by_cases q:0<=gd t.Values j
       ·exact q
       ·exact absurd (hI.2 fun hh=>q (hh j hj)) ha
      by_cases q:0<=gd t.Values i
      ·exfalso;apply hna;intro j hj
       by_cases ej:j=i
       ·subst ej;exact q
       ·exact hall j (by omega)
      ·omega
   ·simp only [JO.eq_2,DH hi,cT,gI hi,As,wT i]
  ·intro m ⟨a,c⟩ hI
   dsimp only at hI ⊢
   simp only [JO.eq_2,DQ,cF]
   exact⟨_,rfl,hI⟩
  ·dsimp only
   constructor
   ·intro h0 hall;have:=hall 0 (by omega);omega
   ·intro h0
    by_cases q:gd t.Values 0<0
    ·exact q
    ·exfalso;apply h0;intro j hj;obtain rfl:j=0:=by omega
     omega
theorem Mn{n:Nat}{l:List Int}(h0:0<l.length)(h:l.length<=1048576)(hn:1048577<=n):∃r,Uc n l=some r∧(r<0↔¬∀j,j<l.length->0<=gd l j):=by
 have g0:AL l 0=some (gd l 0):=gI (i:=0) (by omega)
 have d0:decide ((l.length:Int)<1)=false:=decide_eq_false (by omega)
 rw [Uc,d0,cF,g0,As]
 refine loop (L:=fun m i (a:Int)=>JL l (fun i15 i16=>(some i15)) m a i) l.length (fun i a=>(a<0↔¬∀j,j<i->0<=gd l j)) (fun o=>∃r,o=some r∧(r<0↔¬∀j,j<l.length->0<=gd l j)) ?_ ?_ n 1 (gd l 0) (by omega) (by omega) ?_
 ·intro m i a hi hI
  refine .inl ⟨min a (gd l i),?_,?_⟩
  ·constructor
   ·intro hm hall
    by_cases ha:a<0
    ·exact hI.1 ha fun j hj=>hall j (by omega)
    ·have:=hall i (by omega);omega
   ·intro hna
    by_cases ha:a<0
    ·omega
    ·have hall:∀j,j<i->0<=gd l j:=fun j hj=>by
      by_cases q:0<=gd l j
      ·exact q
      ·exact absurd (hI.2 fun hh=>q (hh j hj)) ha
     by_cases q:0<=gd l i
     ·exfalso;apply hna;intro j hj
      by_cases ej:j=i
      ·subst ej;exact q
      ·exact hall j (by omega)
     ·omega
  ·simp only [JL.eq_2,DH hi,cT,gI hi,As,wT i]
 ·intro m a hI
  simp only [JL.eq_2,DQ,cF]
  exact⟨_,rfl,hI⟩
 ·constructor
  ·intro h0 hall;have:=hall 0 (by omega);omega
  ·intro h0
   by_cases q:gd l 0<0
   ·exact q
   ·exfalso;apply h0;intro j hj;obtain rfl:j=0:=by omega
    omega
def RB(l:List BR)(pos:Bool):Prop:=l.length=2∧∀t∈l,VT t∧(pos=true->VP t)
theorem kY{n:Nat}{l:List BR}{pos:Bool}(h:∀t∈l,WG t)(hn:1048577<=n):BW (RB l pos) (SL n l pos):=by
 rw [SL]
 refine Fu (fun c=>?_) fun c=>?_
 ·refine BS fun v=>?_
  rw [v.1]at c;simp at c
 ·have c:l.length=2:=by rw [bne_eq_false_iff_eq]at c;omega
  refine(Ez (L:=fun m i=>LZ n l pos _ m i) (Q:=True) 2 0 (fun i=>∀t,l[i]? =some t->VT t∧(pos=true->VP t)) ?_ ?_ n 0 (by omega) (by omega) (by omega) (fun j _ h=>by omega)).iff ?_
  ·intro m i _ hi
   have hil:i<l.length:=by omega
   have g:=List.getElem?_eq_getElem hil
   have d1:decide ((i:Int)<2)=true:=decide_eq_true (by omega)
   simp only [LZ.eq_2,d1,cT,AY hil,As,wT i,g]
   rcases tR (n:=n) (h _ (List.getElem_mem hil)) hn with ⟨v,s,e⟩|⟨v,s,e,hs⟩
   ·rw [e]
    exact .inr ⟨fun q=>v (q _ rfl).1,by trivial⟩
   ·rw [e]
    simp only [As,bne_self_eq_false,Bool.false_or]
    by_cases hp:pos=true
    ·subst hp
     by_cases q:s.Early<0
     ·rw [decide_eq_true q]
      exact .inr ⟨fun r=>(hs.1 q) ((r _ rfl).2 rfl),by trivial⟩
     ·rw [decide_eq_false q]
      refine .inl ⟨fun t ht=>?_,by trivial⟩
      obtain rfl:=Option.some.inj ht
      exact⟨v,fun _=>Classical.byContradiction fun r=>q (hs.2 r)⟩
    ·have hp:pos=false:=by simpa using hp
     subst hp
     refine .inl ⟨fun t ht=>?_,by trivial⟩
     obtain rfl:=Option.some.inj ht
     exact⟨v,fun h=>by cases h⟩
  ·intro m i h1 h2 _
   obtain rfl:i=2:=by omega
   simp only [LZ.eq_2,show decide (((2:Nat):Int)<2)=false from rfl,cF]
   exact DI trivial
  ·constructor
   ·rintro ⟨a,_⟩
    refine⟨c,fun t ht=>?_⟩
    obtain⟨j,hj⟩:=List.getElem?_of_mem ht
    have hjl:j<l.length:=(List.getElem?_eq_some_iff.1 hj).1
    exact a j (by omega) (by omega) t hj
   ·rintro ⟨_,a⟩
    exact⟨fun i _ _ t ht=>a t (List.mem_of_getElem? ht),trivial⟩
theorem oL{n:Nat}{l:List BR}{pos:Bool}(h:∀t∈l,WG t)(hl:l.length<=1048576)(hn:1048577<=n):BW (RB l pos) (Rf n l pos):=by
 rw [Rf]
 have hf:∀t∈l,BW (¬(VT t∧(pos=true->VP t))) (TX n t pos):=by
  intro t ht
  have hm:=h t ht
  rw [TX]
  refine BW.bind (tN hm hn) (fun v=>?_) fun v=>?_
  ·simp only [Bool.not_true,cF]
   by_cases hp:pos=true
   ·subst hp
    obtain⟨r,e,hr⟩:=Mn (n:=n) v.pos.1 hm.2.2 hn
    simp only [cT,e,As]
    refine Bb ?_
    rw [decide_eq_true_eq,hr]
    exact⟨fun a b=>a (b.2 trivial),fun a b=>a ⟨v,fun _=>b⟩⟩
   ·have hp:pos=false:=by simpa using hp
    subst hp
    exact BS fun a=>a ⟨v,fun h=>by cases h⟩
  ·simp only [Bool.not_false,cT,As]
   exact DI fun a=>v a.1
 obtain⟨r,e,hr,_⟩:=Kg (xs:=l) (L:=fun m i=>Hg n l pos (fun i6=>(some (-1))) m i) (f:=fun t=>TX n t pos) hf (fun m i hi=>by
  simp only [Hg.eq_2,DH hi,cT,AY hi,As,wT i]) (fun m=>by
  simp only [Hg.eq_2,DQ,cF]) n (by omega)
 have e:Hg n l pos (fun i6=>(some (-1))) n 0=some r:=e
 rw [XK,YI,e]
 simp only [As]
 by_cases c:l.length=2
 ·have:((l.length:Int)==2)=true:=by simp;omega
  rw [this]
  simp only [cT,As]
  refine Bb ?_
  rw [Bool.not_eq_true',decide_eq_false_iff_not,hr]
  exact⟨fun a=>⟨c,fun t ht=>Classical.byContradiction fun q=>a ⟨t,ht,q⟩⟩,fun a ⟨t,ht,q⟩=>q (a.2 t ht)⟩
 ·have:((l.length:Int)==2)=false:=by rw [beq_eq_false_iff_ne];omega
  rw [this]
  exact BS fun v=>c v.1
def QK(N i:Nat)(p:Bt):Prop:=(0<=p.Cap∧p.Cap<=500)∧(i+1=N->p.Dir=2∧p.Cap=0∧p.Clock=false)∧(i+1<N->p.Dir=1)
structure LC(l:List Bt):Prop where
 few:2<=l.length∧l.length<=5
 pin:∀i (h:i<l.length),QK l.length i l[i]
 nm:∀k (h:k<l.length),EX l[k].Name=true∧∀i (hi:i<k),(l[i].Name.toList==l[k].Name.toList)=false
def cnt(l:List Bt):Nat:=l.countP (·.Clock)
def Zh(l:List Bt):Prop:=l.length<=1048576∧∀p∈l,p.Name.size<=1048576
theorem QO{l:List Bt}{i:Nat}(h:i<l.length):cnt (l.take (i+1))=cnt (l.take i)+if l[i].Clock=true then 1 else 0:=by
 unfold cnt
 rw [List.take_succ_eq_append_getElem h,List.countP_append]
 congr 1
 by_cases e:l[i].Clock=true
 ·rw [if_pos e];simp [e]
 ·rw [if_neg e];simp [e]
theorem tQ{n:Nat}{c:Al}(h:Zh c.Pins)(hn:1048577<=n):∃r:Int×Bool,jS n c=some r∧(r.2=true↔LC c.Pins)∧(r.2=true->r.1=cnt c.Pins):=by
 rw [jS]
 by_cases hl:2<=c.Pins.length∧c.Pins.length<=5
 ·have d:(decide ((c.Pins.length:Int)<2)||decide ((c.Pins.length:Int)>5))=false:=by
   simp only [Bool.or_eq_false_iff,decide_eq_false_iff_not];omega
  rw [d,cF]
  have wl:wrap .i64 ((c.Pins.length:Int)-1)=(c.Pins.length:Int)-1:=Af (by omega) (by omega)
  refine loop (L:=fun m i (q:Int)=>KM n c (fun i23 i24=>(some (i23,true))) m q i) c.Pins.length (fun i q=>q=cnt (c.Pins.take i)∧∀k (h:k<c.Pins.length),k<i->QK c.Pins.length k c.Pins[k]∧EX c.Pins[k].Name=true∧∀j (hj:j<k),(c.Pins[j].Name.toList==c.Pins[k].Name.toList)=false)
   (fun o=>∃r:Int×Bool,o=some r∧(r.2=true↔LC c.Pins)∧(r.2=true->r.1=cnt c.Pins)) ?_ ?_ n 0 0 (by omega) (by omega) ⟨by simp [cnt],fun k _ hk=>by omega⟩
  ·intro m i q hi ⟨hq,hI⟩
   have no:∀o:Option (Int×Bool),o=some (0,false)->¬LC c.Pins->∃r:Int×Bool,o=some r∧(r.2=true↔LC c.Pins)∧(r.2=true->r.1=cnt c.Pins):=fun o e hv=>⟨_,e,by simp [hv],fun h=>by cases h⟩
   have wi:decide ((i:Int)<(c.Pins.length:Int))=true:=DH hi
   rw [KM.eq_2]
   simp only [wi,cT,AY hi,As]
   have inner:∀k2:Int->Option (Int×Bool),(∀j (hj:j<i),(c.Pins[j].Name.toList==c.Pins[i].Name.toList)=false)∧Iu c i c.Pins[i] k2 n 0=k2 i∨(¬∀j (hj:j<i),(c.Pins[j].Name.toList==c.Pins[i].Name.toList)=false)∧Iu c i c.Pins[i] k2 n 0=some (0,false):=by
    intro k2
    refine loop (L:=fun m j (_:Unit)=>Iu c i c.Pins[i] k2 m j) i (fun b _=>∀j (hj:j<i),j<b->(c.Pins[j].Name.toList==c.Pins[i].Name.toList)=false) (fun o=>(∀j (hj:j<i),(c.Pins[j].Name.toList==c.Pins[i].Name.toList)=false)∧o=k2 i∨(¬∀j (hj:j<i),(c.Pins[j].Name.toList==c.Pins[i].Name.toList)=false)∧o=some (0,false)) ?_ ?_ n 0 () (by omega) (by omega) (fun j _ hj=>by omega)
    ·intro m j _ hj hJ
     simp only [Iu.eq_2,DH hj,cT,AY (show j<c.Pins.length by omega),As,wT j]
     cases e:(c.Pins[j].Name.toList==c.Pins[i].Name.toList)with
     |true=>exact .inr (.inr ⟨fun h=>(by rw [h j hj]at e;cases e),by trivial⟩)
     |false=>
      refine .inl ⟨(),fun a ha hb=>?_,by trivial⟩
      by_cases ea:a=j
      ·subst ea;exact e
      ·exact hJ a ha (by omega)
    ·intro m _ hJ
     simp only [Iu.eq_2,DQ,cF]
     exact .inl ⟨fun j hj=>hJ j hj hj,by trivial⟩
   rcases inner _ with ⟨g1,g2⟩|⟨g1,g2⟩
   ·rw [g2]
    have hsz:=h.2 _ (List.getElem_mem hi)
    simp only [jZ hsz hn,As,Fk,EY,wl]
    cases hnm:EX c.Pins[i].Name with
    |false=>
     simp only [Bool.not_false,Bool.true_or,cT]
     exact .inr (no _ rfl fun v=>by have:=(v.nm i hi).1;rw [hnm]at this;cases this)
    |true=>
     simp only [Bool.not_true,Bool.false_or]
     by_cases c1:0<=c.Pins[i].Cap∧c.Pins[i].Cap<=500
     ·have d1:(decide (c.Pins[i].Cap>=0)&&decide (c.Pins[i].Cap<=500))=true:=by simp only [Bool.and_eq_true,decide_eq_true_eq];omega
      simp only [d1,Bool.not_true,cF]
      have pI:QK c.Pins.length i c.Pins[i]↔((((i:Int)==(c.Pins.length:Int)-1)&&((((c.Pins[i].Dir !=2))||((c.Pins[i].Cap !=0)))||c.Pins[i].Clock))||((decide ((i:Int)<(c.Pins.length:Int)-1))&&((c.Pins[i].Dir !=1))))=false:=by
       unfold QK
       by_cases e1:i+1=c.Pins.length
       ·have t1:((i:Int)==(c.Pins.length:Int)-1)=true:=by rw [beq_iff_eq];omega
        have t2:decide ((i:Int)<(c.Pins.length:Int)-1)=false:=decide_eq_false (by omega)
        simp only [t1,t2,Bool.true_and,Bool.false_and,Bool.or_false,Bool.or_eq_false_iff,bne_eq_false_iff_eq]
        exact⟨fun⟨_,a,_⟩=>⟨⟨(a e1).1,(a e1).2.1⟩,(a e1).2.2⟩,fun⟨⟨a,b⟩,d⟩=>⟨c1,fun _=>⟨a,b,d⟩,fun h=>by omega⟩⟩
       ·have t1:((i:Int)==(c.Pins.length:Int)-1)=false:=by rw [beq_eq_false_iff_ne];omega
        have t2:decide ((i:Int)<(c.Pins.length:Int)-1)=true:=decide_eq_true (by omega)
        simp only [t1,t2,Bool.true_and,Bool.false_and,Bool.false_or,bne_eq_false_iff_eq]
        exact⟨fun⟨_,_,a⟩=>a (by omega),fun a=>⟨c1,fun h=>absurd h e1,fun _=>a⟩⟩
      cases hc:((((i:Int)==(c.Pins.length:Int)-1)&&((((c.Pins[i].Dir !=2))||((c.Pins[i].Cap !=0)))||c.Pins[i].Clock))||((decide ((i:Int)<(c.Pins.length:Int)-1))&&((c.Pins[i].Dir !=1))))with
      |true=>
       rw [hc]at pI
       simp only [cT]
       exact .inr (no _ rfl fun v=>by have:=pI.1 (v.pin i hi);cases this)
      |false=>
       have hp:=pI.2 hc
       simp only [cF]
       have hI':∀k (h:k<c.Pins.length),k<i+1->QK c.Pins.length k c.Pins[k]∧EX c.Pins[k].Name=true∧∀j (hj:j<k),(c.Pins[j].Name.toList==c.Pins[k].Name.toList)=false:=fun k hk hki=>by
        by_cases ek:k=i
        ·subst ek;exact⟨hp,hnm,g1⟩
        ·exact hI k hk (by omega)
       have ct:=QO hi
       have cl:cnt (c.Pins.take i)<=5:=Nat.le_trans List.countP_le_length (by simp;omega)
       cases hk:c.Pins[i].Clock with
       |true=>
        rw [hk,if_pos rfl]at ct
        refine .inl ⟨q+1,⟨by rw [ct,hq];simp,hI'⟩,?_⟩
        simp only [cT,wT i,Af (x:=q+1) (by omega) (by omega)]
       |false=>
        rw [hk]at ct
        refine .inl ⟨q,⟨by rw [ct,hq];simp,hI'⟩,?_⟩
        simp only [cF,wT i]
     ·have d1:(decide (c.Pins[i].Cap>=0)&&decide (c.Pins[i].Cap<=500))=false:=by
       rw [Bool.and_eq_false_iff,decide_eq_false_iff_not,decide_eq_false_iff_not];omega
      simp only [d1,Bool.not_false,cT]
      exact .inr (no _ rfl fun v=>c1 (v.pin i hi).1)
   ·rw [g2]
    exact .inr (no _ rfl fun v=>g1 (v.nm i hi).2)
  ·intro m q ⟨hq,hI⟩
   simp only [KM.eq_2,DQ,cF]
   rw [List.take_length]at hq
   exact⟨_,rfl,⟨fun _=>⟨hl,fun i h=>(hI i h h).1,fun k h=>(hI k h h).2⟩,fun _=>rfl⟩,fun _=>hq⟩
 ·have d:(decide ((c.Pins.length:Int)<2)||decide ((c.Pins.length:Int)>5))=true:=by
   rw [Bool.or_eq_true,decide_eq_true_eq,decide_eq_true_eq];omega
  rw [d,cT]
  exact⟨_,rfl,⟨fun h=>(by cases h),fun v=>absurd v.few hl⟩,fun h=>(by cases h)⟩
theorem sK{n:Nat}{l:List Bt}(h:Zh l)(hn:1048577<=n):BW (LC l) (UP n l):=by
 have hl:=h.1
 rw [UP]
 have wl:0<l.length->wrap .i64 ((l.length:Int)-1)=(l.length:Int)-1:=fun h0=>Af (by omega) (by omega)
 refine loop (L:=fun m i (q:List ByteArray)=>Ha n l _ m q i) l.length (fun i q=>q=(l.take i).map (·.Name)∧∀k (h:k<l.length),k<i->QK l.length k l[k]) _ ?_ ?_ n 0 [] (by omega) (by omega) ⟨by simp,fun k _ hk=>by omega⟩
 ·intro m i q hi ⟨hq,hI⟩
  have hql:q.length<=1048576:=by rw [hq];simp;omega
  have ha:=BN (xs:=q) (ys:=[l[i].Name]) (b:=16) (by simp;omega) (by omega)
  have hq':q++[l[i].Name]=(l.take (i+1)).map (·.Name):=by rw [hq,List.take_succ_eq_append_getElem hi,List.map_append];rfl
  simp only [Ha.eq_2,DH hi,cT,AY hi,As,ha,wl (by omega),IM,wT i]
  have stepI:QK l.length i l[i]->∀k (h:k<l.length),k<i+1->QK l.length k l[k]:=fun hp k hk hki=>by
   by_cases ek:k=i
   ·subst ek;exact hp
   ·exact hI k hk (by omega)
  by_cases e1:i+1=l.length
  ·have t1:((i:Int)==(l.length:Int)-1)=true:=by rw [beq_iff_eq];omega
   simp only [t1,cT]
   cases hc:((((l[i].Dir !=2))||((l[i].Cap !=0)))||l[i].Clock)with
   |true=>
    refine .inr (BS fun v=>?_)
    have:=(v.pin i hi).2.1 e1
    rw [this.1,this.2.1,this.2.2]at hc;cases hc
   |false=>
    simp only [Bool.or_eq_false_iff,bne_eq_false_iff_eq]at hc
    exact .inl ⟨_,⟨hq',stepI ⟨by omega,fun _=>⟨hc.1.1,hc.1.2,hc.2⟩,fun h=>by omega⟩⟩,by trivial⟩
  ·have t1:((i:Int)==(l.length:Int)-1)=false:=by rw [beq_eq_false_iff_ne];omega
   simp only [t1,cF,EY,As]
   by_cases c1:l[i].Dir=1∧0<=l[i].Cap∧l[i].Cap<=500
   ·have d1:((l[i].Dir !=1)|| !(decide (l[i].Cap>=0)&&decide (l[i].Cap<=500)))=false:=by
     simp only [Bool.or_eq_false_iff,bne_eq_false_iff_eq,Bool.not_eq_false',Bool.and_eq_true,decide_eq_true_eq];omega
    simp only [d1,cF]
    exact .inl ⟨_,⟨hq',stepI ⟨by omega,fun h=>absurd h e1,fun _=>c1.1⟩⟩,by trivial⟩
   ·have d1:((l[i].Dir !=1)|| !(decide (l[i].Cap>=0)&&decide (l[i].Cap<=500)))=true:=by
     simp only [Bool.or_eq_true,bne_iff_ne,Bool.not_eq_true',Bool.and_eq_false_iff,decide_eq_false_iff_not];omega
    simp only [d1,cT]
    exact .inr (BS fun v=>c1 ⟨(v.pin i hi).2.2 (by omega),(v.pin i hi).1⟩)
 ·intro m q ⟨hq,hI⟩
  rw [List.take_length]at hq
  obtain⟨b,e,hb⟩:=AN (n:=n) (xs:=q) (by rw [hq];simpa using hl) (by rw [hq];intro x hx;obtain⟨p,hp,rfl⟩:=List.mem_map.1 hx;exact h.2 p hp) hn
  simp only [Ha.eq_2,DQ,cF,Qh,IM,e,As,Bn]
  refine Bb ?_
  rw [Bool.and_eq_true,hb,Bool.and_eq_true,decide_eq_true_eq,decide_eq_true_eq]
  subst hq
  simp only [List.length_map,List.getElem_map]
  exact⟨fun⟨a,b⟩=>⟨by omega,fun i hi=>hI i hi hi,b⟩,fun v=>⟨by have:=v.few;omega,v.nm⟩⟩
def KV(l:List Bt)(i:Int):Bool:=((l[i.toNat]?).map (·.Clock)).getD false
theorem bI{l:List Bt}{i:Int}(h0:0<=i)(h1:i<l.length):∃x,AL l i=some x∧x.Clock=KV l i:=by
 obtain⟨x,e,h⟩:=Ei h0 h1
 exact⟨x,e,by simp [KV,h]⟩
theorem Rm{l:List Bt}{j:Nat}(h:j<l.length):KV l (j:Int)=l[j].Clock:=by simp [KV,h]
theorem SG{l:List Bt}(hc:cnt l<=1){i j:Nat}(hi:i<l.length)(hj:j<l.length)(h1:l[i].Clock=true)(h2:l[j].Clock=true):i=j:=by
 have key:∀i j:Nat,∀(hi:i<l.length) (hj:j<l.length),l[i].Clock=true->l[j].Clock=true->¬i<j:=by
  intro i j hi hj h1 h2 hlt
  have e:cnt l=cnt (l.take (i+1))+cnt (l.drop (i+1)):=by unfold cnt;rw [←List.countP_append,List.take_append_drop]
  have p1:0<cnt (l.take (i+1)):=List.countP_pos_iff.2 ⟨l[i],by rw [List.mem_take_iff_getElem];exact⟨i,by omega,rfl⟩,h1⟩
  have p2:0<cnt (l.drop (i+1)):=List.countP_pos_iff.2 ⟨l[j],by rw [List.mem_drop_iff_getElem];exact⟨j-(i+1),by omega,by congr 1;omega⟩,h2⟩
  omega
 have a:=key i j hi hj h1 h2
 have b:=key j i hj hi h2 h1
 omega
theorem Ck{n:Nat}{c:Al}(h:c.Pins.length<=1048576)(hn:1048577<=n):∃r,RR n c=some r∧(r>=0↔∃x∈c.Pins,x.Clock=true)∧(r= -1∨∃j:Nat,r=(j:Int)∧∃h:j<c.Pins.length,c.Pins[j].Clock=true∧∀i (hi:i<c.Pins.length),i<j->¬c.Pins[i].Clock=true):=by
 obtain⟨r,e,hr⟩:=Kg (xs:=c.Pins) (L:=fun m i=>Hh n c.Pins (fun i5=>(some (-1))) m i) (f:=fun p=>Vr n p) (P:=fun p=>p.Clock=true) (fun p _=>by rw [Vr];exact Bb Iff.rfl) (fun m i hi=>by
  simp only [Hh.eq_2,DH hi,cT,AY hi,As,wT i]) (fun m=>by
  simp only [Hh.eq_2,DQ,cF]) n (by omega)
 have e:Hh n c.Pins (fun i5=>(some (-1))) n 0=some r:=e
 exact⟨r,by rw [RR,XF,e];rfl,hr⟩
def iK(a:Bg):Prop:=(a.Delay.length<=1048576∧∀t∈a.Delay,WG t)∧(a.Slew.length<=1048576∧∀t∈a.Slew,WG t)
structure Tp(c:Al):Prop where
 name:c.Name.size<=1048576
 pins:Zh c.Pins
 arcs:c.Arcs.length<=1048576∧∀a∈c.Arcs,iK a
 truth:c.Truth.length<=1048576
def Mk(c:Al)(a:Bg):Prop:=((0<=a.From∧a.From+2<=c.Pins.length)∧(0<=a.To∧a.To+1<=c.Pins.length))∧
 if a.Kind=1 then KV c.Pins a.From=false∧a.To+1=c.Pins.length∧(1<=a.Sense∧a.Sense<=3)∧RB a.Delay true∧RB a.Slew true
 else if a.Kind=2∨a.Kind=3 then KV c.Pins a.From=true∧a.To+1=c.Pins.length∧a.Sense=0∧RB a.Delay true∧RB a.Slew true
 else if a.Kind=4∨a.Kind=5 then KV c.Pins a.From=true∧a.To+1<c.Pins.length∧KV c.Pins a.To=false∧a.Sense=0∧RB a.Delay false∧a.Slew.length=0
 else False
def Tl(c:Al)(a:Bg)(r:Int):Prop:=
 if a.Kind=4∨a.Kind=5 then a.Sense=0∧a.Slew.length=0∧RB a.Delay false∧a.From=r∧0<=a.From∧(0<=a.To∧a.To+2<=c.Pins.length)∧a.To≠a.From
 else RB a.Delay true∧RB a.Slew true∧a.To+1=c.Pins.length∧(0<=a.From∧a.From+2<=c.Pins.length)∧
  if a.Kind=1 then KV c.Pins a.From=false∧1<=a.Sense∧a.Sense<=3 else if a.Kind=2∨a.Kind=3 then KV c.Pins a.From=true∧a.Sense=0 else False
theorem ZE(k:Int):k=1∨k=2∨k=3∨k=4∨k=5∨(k≠1∧k≠2∧k≠3∧k≠4∧k≠5):=by omega
theorem Ln{x lo hi:Int}:(decide (x>=lo)&&decide (x<=hi))=true↔lo<=x∧x<=hi:=by simp only [Bool.and_eq_true,decide_eq_true_eq,ge_iff_le]
theorem lO{n:Nat}{c:Al}{a:Bg}(hp:c.Pins.length<=5)(h2:2<=c.Pins.length)(h:iK a)(hn:1048577<=n):BW (Mk c a) (UO n c a):=by
 have w1:wrap .i64 ((c.Pins.length:Int)-1)=(c.Pins.length:Int)-1:=Af (by omega) (by omega)
 have w2:wrap .i64 ((c.Pins.length:Int)-1-1)=(c.Pins.length:Int)-1-1:=Af (by omega) (by omega)
 obtain⟨t1,e1,h1⟩:=kY (n:=n) (pos:=true) h.1.2 hn
 obtain⟨t2,e2,h2'⟩:=kY (n:=n) (pos:=true) h.2.2 hn
 obtain⟨t3,e3,h3⟩:=kY (n:=n) (pos:=false) h.1.2 hn
 rw [UO]
 simp only [Fk,As,w1,w2,EY]
 by_cases c1:(0<=a.From∧a.From+2<=c.Pins.length)∧(0<=a.To∧a.To+1<=c.Pins.length)
 ·have d1:(decide (a.From>=0)&&decide (a.From<=(c.Pins.length:Int)-1-1))=true:=Ln.2 (by omega)
  have d2:(decide (a.To>=0)&&decide (a.To<=(c.Pins.length:Int)-1))=true:=Ln.2 (by omega)
  obtain⟨x,ex,hx⟩:=bI (l:=c.Pins) c1.1.1 (by omega)
  obtain⟨y,ey,hy⟩:=bI (l:=c.Pins) c1.2.1 (by omega)
  simp only [d1,d2,Bool.not_true,Bool.or_self,cF,ex,ey,As,hx,hy,e1,e2,e3,Bn]
  have to1:(a.To==(c.Pins.length:Int)-1)=true↔a.To+1=c.Pins.length:=by rw [beq_iff_eq];omega
  have to2:decide (a.To<(c.Pins.length:Int)-1)=true↔a.To+1<c.Pins.length:=by rw [decide_eq_true_eq];omega
  have sl:((a.Slew.length:Int)==0)=true↔a.Slew.length=0:=by rw [beq_iff_eq];omega
  have nb:∀b:Bool,(!b)=true↔b=false:=by simp
  rcases ZE a.Kind with k|k|k|k|k|k
  ·have:Mk c a↔_:=Iff.rfl
   simp only [k,show((1:Int)==1)=true from rfl,cT]
   refine Bb ?_
   unfold Mk
   simp only [k,if_true,Bool.and_eq_true,nb,to1,Ln,h1,h2']
   exact⟨fun⟨⟨⟨⟨p,q⟩,s⟩,u⟩,v⟩=>⟨c1,p,q,by simpa using s,u,v⟩,fun⟨_,p,q,s,u,v⟩=>⟨⟨⟨⟨p,q⟩,by simpa using s⟩,u⟩,v⟩⟩
  ·simp only [k,show((2:Int)==1)=false from rfl,show((2:Int)==2)=true from rfl,cT,cF]
   refine Bb ?_
   unfold Mk
   simp only [k,show¬((2:Int)=1) by omega,if_false,true_or,if_true,Bool.and_eq_true,beq_iff_eq,to1,h1,h2']
   exact⟨fun⟨⟨⟨⟨p,q⟩,s⟩,u⟩,v⟩=>⟨c1,p,by omega,s,u,v⟩,fun⟨_,p,q,s,u,v⟩=>⟨⟨⟨⟨p,by omega⟩,s⟩,u⟩,v⟩⟩
  ·simp only [k,show((3:Int)==1)=false from rfl,show((3:Int)==2)=false from rfl,show((3:Int)==3)=true from rfl,cT,cF]
   refine Bb ?_
   unfold Mk
   simp only [k,show¬((3:Int)=1) by omega,if_false,or_true,if_true,Bool.and_eq_true,beq_iff_eq,to1,h1,h2']
   exact⟨fun⟨⟨⟨⟨p,q⟩,s⟩,u⟩,v⟩=>⟨c1,p,by omega,s,u,v⟩,fun⟨_,p,q,s,u,v⟩=>⟨⟨⟨⟨p,by omega⟩,s⟩,u⟩,v⟩⟩
  ·simp only [k,show((4:Int)==1)=false from rfl,show((4:Int)==2)=false from rfl,show((4:Int)==3)=false from rfl,show((4:Int)==4)=true from rfl,cT,cF]
   refine Bb ?_
   unfold Mk
   simp only [k,show¬((4:Int)=1) by omega,show¬((4:Int)=2∨(4:Int)=3) by omega,if_false,true_or,if_true,Bool.and_eq_true,beq_iff_eq,nb,to2,sl,h3,true_and]
   exact⟨fun⟨⟨⟨⟨⟨p,q⟩,z⟩,s⟩,u⟩,v⟩=>⟨c1,p,q,z,s,u,by omega⟩,fun⟨_,p,q,z,s,u,v⟩=>⟨⟨⟨⟨⟨p,q⟩,z⟩,s⟩,u⟩,by omega⟩⟩
  ·simp only [k,show((5:Int)==1)=false from rfl,show((5:Int)==2)=false from rfl,show((5:Int)==3)=false from rfl,show((5:Int)==4)=false from rfl,show((5:Int)==5)=true from rfl,cT,cF]
   refine Bb ?_
   unfold Mk
   simp only [k,show¬((5:Int)=1) by omega,show¬((5:Int)=2∨(5:Int)=3) by omega,if_false,or_true,if_true,Bool.and_eq_true,beq_iff_eq,nb,to2,sl,h3,true_and]
   exact⟨fun⟨⟨⟨⟨⟨p,q⟩,z⟩,s⟩,u⟩,v⟩=>⟨c1,p,q,z,s,u,by omega⟩,fun⟨_,p,q,z,s,u,v⟩=>⟨⟨⟨⟨⟨p,q⟩,z⟩,s⟩,u⟩,by omega⟩⟩
  ·obtain⟨k1,k2,k3,k4,k5⟩:=k
   simp only [beq_eq_false_iff_ne.2 k1,beq_eq_false_iff_ne.2 k2,beq_eq_false_iff_ne.2 k3,beq_eq_false_iff_ne.2 k4,beq_eq_false_iff_ne.2 k5,cF]
   refine BS fun v=>?_
   have:=v.2
   rw [if_neg k1,if_neg (by omega),if_neg (by omega)]at this
   exact this
 ·have d1:(!(decide (a.From>=0)&&decide (a.From<=(c.Pins.length:Int)-1-1))|| !(decide (a.To>=0)&&decide (a.To<=(c.Pins.length:Int)-1)))=true:=by
   rw [Bool.or_eq_true,Bool.not_eq_true',Bool.not_eq_true',Bool.and_eq_false_iff,Bool.and_eq_false_iff,decide_eq_false_iff_not,decide_eq_false_iff_not,decide_eq_false_iff_not,decide_eq_false_iff_not]
   omega
  simp only [d1,cT]
  exact BS fun v=>c1 v.1
theorem pV{n:Nat}{c:Al}{a:Bg}{r:Int}(hp:c.Pins.length<=5)(h2:2<=c.Pins.length)(h:iK a)(hr:RR n c=some r)(hn:1048577<=n):BW (Tl c a r) (Ui n c a):=by
 have w1:wrap .i64 ((c.Pins.length:Int)-1)=(c.Pins.length:Int)-1:=Af (by omega) (by omega)
 have w2:wrap .i64 ((c.Pins.length:Int)-1-1)=(c.Pins.length:Int)-1-1:=Af (by omega) (by omega)
 obtain⟨t1,e1,h1⟩:=oL (n:=n) (pos:=true) h.1.2 h.1.1 hn
 obtain⟨t2,e2,h2'⟩:=oL (n:=n) (pos:=true) h.2.2 h.2.1 hn
 obtain⟨t3,e3,h3⟩:=oL (n:=n) (pos:=false) h.1.2 h.1.1 hn
 rw [Ui]
 simp only [YQ,PW,Pw,Qh,IM,As,w1,w2,e1,e2,e3,hr,Bn,EY]
 unfold Tl
 by_cases k:a.Kind=4∨a.Kind=5
 ·have kb:((a.Kind==4)||(a.Kind==5))=true:=by rw [Bool.or_eq_true,beq_iff_eq,beq_iff_eq];exact k
  simp only [kb,cT,if_pos k]
  refine Bb ?_
  simp only [Bool.and_eq_true,beq_iff_eq,bne_iff_ne,decide_eq_true_eq,h3]
  exact⟨fun⟨⟨⟨⟨⟨⟨p,q⟩,s⟩,t⟩,u⟩,v⟩,x⟩=>⟨p,by omega,s,t,by omega,by omega,x⟩,fun⟨p,q,s,t,u,v,x⟩=>⟨⟨⟨⟨⟨⟨p,by omega⟩,s⟩,t⟩,by omega⟩,by omega⟩,x⟩⟩
 ·have kb:((a.Kind==4)||(a.Kind==5))=false:=by rw [Bool.or_eq_false_iff,beq_eq_false_iff_ne,beq_eq_false_iff_ne];omega
  simp only [kb,cF,if_neg k]
  by_cases g:(RB a.Delay true∧RB a.Slew true)∧a.To+1=c.Pins.length∧(0<=a.From∧a.From+2<=c.Pins.length)
  ·have gb:(((!t1|| !t2)||(a.To !=(c.Pins.length:Int)-1))|| !(decide (a.From>=0)&&decide (a.From<=(c.Pins.length:Int)-1-1)))=false:=by
    rw [h1.2 g.1.1,h2'.2 g.1.2]
    simp only [Bool.not_true,Bool.or_self,Bool.false_or,Bool.or_eq_false_iff,bne_eq_false_iff_eq,Bool.not_eq_false',Ln];omega
   obtain⟨x,ex,hx⟩:=bI (l:=c.Pins) g.2.2.1 (by omega)
   simp only [gb,cF,ex,As,hx]
   have nb:∀b:Bool,(!b)=true↔b=false:=by simp
   have red:∀R:Prop,(RB a.Delay true∧RB a.Slew true∧a.To+1=c.Pins.length∧(0<=a.From∧a.From+2<=c.Pins.length)∧R)↔R:=fun R=>⟨fun q=>q.2.2.2.2,fun q=>⟨g.1.1,g.1.2,g.2.1,g.2.2,q⟩⟩
   rw [red]
   by_cases k1:a.Kind=1
   ·simp only [k1,show((1:Int)==1)=true from rfl,cT,if_true]
    refine Bb ?_
    simp only [Bool.and_eq_true,nb,decide_eq_true_eq]
   ·simp only [beq_eq_false_iff_ne.2 k1,cF,if_neg k1]
    by_cases k2:a.Kind=2
    ·simp only [k2,show((2:Int)==2)=true from rfl,cT,true_or,if_true]
     refine Bb ?_
     simp only [Bool.and_eq_true,beq_iff_eq]
    ·simp only [beq_eq_false_iff_ne.2 k2,cF]
     by_cases k3:a.Kind=3
     ·simp only [k3,show((3:Int)==3)=true from rfl,cT,or_true,if_true]
      refine Bb ?_
      simp only [Bool.and_eq_true,beq_iff_eq]
     ·simp only [beq_eq_false_iff_ne.2 k3,cF]
      rw [if_neg (by omega)]
      exact BS fun v=>v
  ·have gb:(((!t1|| !t2)||(a.To !=(c.Pins.length:Int)-1))|| !(decide (a.From>=0)&&decide (a.From<=(c.Pins.length:Int)-1-1)))=true:=by
    cases hq:(((!t1|| !t2)||(a.To !=(c.Pins.length:Int)-1))|| !(decide (a.From>=0)&&decide (a.From<=(c.Pins.length:Int)-1-1)))with
    |true=>rfl
    |false=>
     exfalso;apply g
     simp only [Bool.or_eq_false_iff,Bool.not_eq_false',bne_eq_false_iff_eq,Ln]at hq
     exact⟨⟨h1.1 hq.1.1.1,h2'.1 hq.1.1.2⟩,by omega,by omega⟩
   simp only [gb,cT]
   exact BS fun v=>g ⟨⟨v.1,v.2.1⟩,v.2.2.1,v.2.2.2.1⟩
theorem SY{c:Al}{a:Bg}{r:Int}(hv:LC c.Pins)(hc:cnt c.Pins<=1)(hr:r= -1∨∃j:Nat,r=(j:Int)∧∃h:j<c.Pins.length,c.Pins[j].Clock=true∧∀i (hi:i<c.Pins.length),i<j->¬c.Pins[i].Clock=true)(hr0:r>=0↔∃x∈c.Pins,x.Clock=true):Mk c a↔Tl c a r:=by
 have few:=hv.few
 unfold Mk Tl
 by_cases k:a.Kind=4∨a.Kind=5
 ·rw [if_neg (by omega),if_neg (by omega),if_pos k,if_pos k]
  constructor
  ·rintro ⟨⟨⟨a1,a2⟩,a3,a4⟩,b1,b2,b3,b4,b5,b6⟩
   obtain⟨f,hf⟩:=Int.eq_ofNat_of_zero_le a1
   have hf:a.From=(f:Int):=hf
   have hfl:f<c.Pins.length:=by omega
   have cf:c.Pins[f].Clock=true:=by rw [hf,Rm hfl]at b1;exact b1
   have hge:r>=0:=hr0.2 ⟨_,List.getElem_mem hfl,cf⟩
   rcases hr with hr|⟨j,rfl,hj,hj1,_⟩
   ·omega
   ·have:=SG hc hfl hj cf hj1
    subst this
    refine⟨b4,b6,b5,hf,a1,by omega,fun e=>?_⟩
    rw [e,b1]at b3;cases b3
  ·rintro ⟨b1,b2,b3,b4,b5,⟨b6,b7⟩,b8⟩
   rcases hr with hr|⟨j,hj0,hj,hj1,_⟩
   ·omega
   ·have cf:KV c.Pins a.From=true:=by rw [b4,hj0,Rm hj];exact hj1
    have hjl:j+1<c.Pins.length:=by
     by_cases q:j+1<c.Pins.length
     ·exact q
     ·have:=(hv.pin j hj).2.1 (by omega)
      rw [this.2.2]at hj1;cases hj1
    obtain⟨t,ht⟩:=Int.eq_ofNat_of_zero_le b6
    have ht:a.To=(t:Int):=ht
    have htl:t<c.Pins.length:=by omega
    refine⟨⟨⟨by omega,by omega⟩,by omega,by omega⟩,cf,by omega,?_,b1,b3,b2⟩
    rw [ht,Rm htl]
    cases hq:c.Pins[t].Clock with
    |false=>rfl
    |true=>have:=SG hc htl hj hq hj1;omega
 ·rw [if_neg k,if_neg k]
  by_cases k1:a.Kind=1
  ·rw [if_pos k1,if_pos k1]
   exact⟨fun⟨p,q,s,t,u,v⟩=>⟨u,v,s,p.1,q,t⟩,fun⟨u,v,s,p,q,t⟩=>⟨⟨p,by omega,by omega⟩,q,s,t,u,v⟩⟩
  ·rw [if_neg k1,if_neg k1]
   by_cases k2:a.Kind=2∨a.Kind=3
   ·rw [if_pos k2,if_pos k2]
    exact⟨fun⟨p,q,s,t,u,v⟩=>⟨u,v,s,p.1,q,t⟩,fun⟨u,v,s,p,q,t⟩=>⟨⟨p,by omega,by omega⟩,q,s,t,u,v⟩⟩
   ·rw [if_neg k2,if_neg k2]
    exact⟨fun h=>h.2.elim,fun h=>h.2.2.2.2.elim⟩
def IL(a b:Bg):Prop:=(a.Kind=b.Kind∧a.From=b.From)∧a.To=b.To
def Fz(l:List Bg)(k:Int):Prop:=∃a∈l,a.Kind=k
def HD(c:Al):Prop:=
 (c.Kind=1∧cnt c.Pins=0∧c.Truth.length=2^(c.Pins.length-1)∧∀i,i<c.Truth.length->0<=gd c.Truth i∧gd c.Truth i<=1)∨
 (c.Kind=2∧cnt c.Pins=1∧c.Truth.length=0∧¬Fz c.Arcs 1∧¬(Fz c.Arcs 2↔Fz c.Arcs 3))∨
 (c.Kind=3∧cnt c.Pins=1∧c.Truth.length=0∧Fz c.Arcs 1∧Fz c.Arcs 2∧¬Fz c.Arcs 3)
def VL(A:Bg->Prop)(l:List Bg):Prop:=∀i (h:i<l.length),A l[i]∧∀j (hj:j<i),¬IL l[j] l[i]
structure NB(c:Al):Prop where
 name:EX c.Name=true
 pins:LC c.Pins
 few:c.Arcs.length<=8
 leak:0<=c.Leak∧c.Leak<=100000
 energy:0<=c.Energy∧c.Energy<=100000
 arcs:VL (Mk c) c.Arcs
 kind:HD c
theorem HD.cnt{c:Al}(h:HD c):cnt c.Pins<=1:=by
 rcases h with h|h|h<;>omega
theorem Kd{n:Nat}{c:Al}(hl:c.Arcs.length<=1048576)(hk:∀a∈c.Arcs,0<=a.Kind∧a.Kind<6)(hn:1048577<=n):∃l,UL n c=some l∧l.length=6∧∀k:Nat,k<6->0<=gd l k∧(gd l k>0↔Fz c.Arcs k):=by
 have m6:Oe 6 8=some 6:=Fi (n:=6) (by omega) (by omega)
 rw [UL,m6,As]
 refine loop (L:=fun m i (l:List Int)=>IX c (fun i31 l33=>(some l33)) m i l) c.Arcs.length (fun i l=>l.length=6∧∀k:Nat,k<6->(0<=gd l k∧gd l k<=i)∧(gd l k>0↔Fz (c.Arcs.take i) k)) (fun o=>∃l,o=some l∧l.length=6∧∀k:Nat,k<6->0<=gd l k∧(gd l k>0↔Fz c.Arcs k)) ?_ ?_ n 0 (List.replicate 6 0) (by omega) (by omega) ⟨by simp,fun k hk=>?_⟩
 ·intro m i l hi ⟨hll,hI⟩
  have hx:=hk _ (List.getElem_mem hi)
  obtain⟨q,hq⟩:=Int.eq_ofNat_of_zero_le hx.1
  have hq:c.Arcs[i].Kind=(q:Int):=hq
  have hq6:q<6:=by omega
  have hg:AL l c.Arcs[i].Kind=some (gd l q):=by rw [hq];exact gI (by omega)
  have hb:=(hI q hq6).1
  refine .inl ⟨l.set q (gd l q+1),⟨by simpa using hll,fun k hk6=>?_⟩,?_⟩
  ·have h1:=hI k hk6
   rw [OK (by omega)]
   have hs:Fz (c.Arcs.take (i+1)) k↔Fz (c.Arcs.take i) k∨c.Arcs[i].Kind=(k:Int):=by
    rw [List.take_succ_eq_append_getElem hi]
    unfold Fz
    constructor
    ·rintro ⟨a,ha,e⟩
     rcases List.mem_append.1 ha with ha|ha
     ·exact .inl ⟨a,ha,e⟩
     ·obtain rfl:=List.mem_singleton.1 ha;exact .inr e
    ·rintro (⟨a,ha,e⟩|e)
     ·exact⟨a,List.mem_append.2 (.inl ha),e⟩
     ·exact⟨_,List.mem_append.2 (.inr (List.mem_singleton.2 rfl)),e⟩
   rw [hs]
   by_cases e:q=k
   ·subst e
    rw [if_pos rfl]
    exact⟨⟨by omega,by omega⟩,⟨fun _=>.inr hq,fun _=>by omega⟩⟩
   ·rw [if_neg e]
    refine⟨⟨by omega,by omega⟩,h1.2.trans ⟨.inl,fun h=>h.resolve_right fun h=>e (by omega)⟩⟩
  ·simp only [IX.eq_2,DH hi,cT,AY hi,As,hg,wT i,Af (x:=gd l q+1) (by omega) (by omega)]
   rw [hq,Int.toNat_natCast]
 ·intro m l ⟨hll,hI⟩
  simp only [IX.eq_2,DQ,cF]
  refine⟨l,rfl,hll,fun k hk6=>?_⟩
  have:=hI k hk6
  rw [List.take_length]at this
  exact⟨this.1.1,this.2⟩
 ·have:gd (List.replicate 6 0) k=0:=by simp only [gd,List.getD_eq_getElem?_getD,List.getElem?_replicate];split<;>rfl
  rw [this]
  refine⟨by omega,⟨fun h=>by omega,fun⟨a,ha,_⟩=>by simp at ha⟩⟩
theorem Hs{n:Nat}{c:Al}(hl:c.Arcs.length<=1048576)(k:Int)(hn:1048577<=n):BW (Fz c.Arcs k) (Kw n c k):=by
 obtain⟨r,e,hr,_⟩:=Kg (xs:=c.Arcs) (L:=fun m i=>HY n c.Arcs k (fun i6=>(some (-1))) m i) (f:=fun a=>Wi n a k) (P:=fun a=>a.Kind=k) (fun p _=>by rw [Wi];exact Bb beq_iff_eq) (fun m i hi=>by
  simp only [HY.eq_2,DH hi,cT,AY hi,As,wT i]) (fun m=>by
  simp only [HY.eq_2,DQ,cF]) n (by omega)
 have e:HY n c.Arcs k (fun i6=>(some (-1))) n 0=some r:=e
 rw [Kw,Xx,YZ,e]
 exact Bb (by rw [decide_eq_true_eq];exact hr)
theorem UZ{L:Nat}(h1:2<=L)(h2:L<=5):Je .i64 1 ((L:Int)-1)=((2^(L-1):Nat):Int)∧Je .i64 1 (IntKind.wrap IntKind.u64 ((L:Int)-1))=((2^(L-1):Nat):Int)∧decide (IntKind.wrap IntKind.u64 ((L:Int)-1)<0)=false:=by
 have:L=2∨L=3∨L=4∨L=5:=by omega
 rcases this with rfl|rfl|rfl|rfl<;>decide
theorem sH{n:Nat}{c:Al}{o:Option Bool}{Q:Prop}(h:c.Truth.length<=1048576)(hn:1048577<=n)(hQ:BW Q o):BW ((∀i,i<c.Truth.length->0<=gd c.Truth i∧gd c.Truth i<=1)∧Q) (KJ n c (fun _=>o) n 0):=by
 refine(Ez (L:=fun m i=>KJ n c (fun _=>o) m i) (Q:=Q) c.Truth.length 0 (fun i=>0<=gd c.Truth i∧gd c.Truth i<=1) ?_ ?_ n 0 (by omega) (by omega) (by omega) (fun j _ h=>by omega)).iff ⟨fun a=>⟨fun i hi=>a.1 i (by omega) hi,a.2⟩,fun a=>⟨fun i _ hi=>a.1 i hi,a.2⟩⟩
 ·intro m i _ hi
  simp only [KJ.eq_2,DH hi,cT,gI hi,As,Fk,wT i]
  by_cases c1:0<=gd c.Truth i∧gd c.Truth i<=1
  ·have d1:(decide (gd c.Truth i>=0)&&decide (gd c.Truth i<=1))=true:=Ln.2 c1
   simp only [d1,Bool.not_true,cF]
   exact .inl ⟨c1,by trivial⟩
  ·have d1:(decide (gd c.Truth i>=0)&&decide (gd c.Truth i<=1))=false:=by
    rw [Bool.and_eq_false_iff,decide_eq_false_iff_not,decide_eq_false_iff_not];omega
   simp only [d1,Bool.not_false,cT]
   exact .inr ⟨c1,by trivial⟩
 ·intro m i h1 h2 _
  obtain rfl:i=c.Truth.length:=by omega
  simp only [KJ.eq_2,DQ,cF]
  exact hQ
theorem sL{n:Nat}{c:Al}{i:Nat}(hi:i<c.Arcs.length)(hl:c.Arcs.length<=1048576)(hn:1048577<=n)(k2:Int->Option Bool):(∀j (hj:j<i),¬IL c.Arcs[j] c.Arcs[i])∧JG c i c.Arcs[i] k2 n 0=k2 i∨(¬∀j (hj:j<i),¬IL c.Arcs[j] c.Arcs[i])∧JG c i c.Arcs[i] k2 n 0=some false:=by
 refine loop (L:=fun m j (_:Unit)=>JG c i c.Arcs[i] k2 m j) i (fun b _=>∀j (hj:j<i),j<b->¬IL c.Arcs[j] c.Arcs[i]) (fun o=>(∀j (hj:j<i),¬IL c.Arcs[j] c.Arcs[i])∧o=k2 i∨(¬∀j (hj:j<i),¬IL c.Arcs[j] c.Arcs[i])∧o=some false) ?_ ?_ n 0 () (by omega) (by omega) (fun j _ hj=>by omega)
 ·intro m j _ hj hJ
  have e1:IL c.Arcs[j] c.Arcs[i]↔(((c.Arcs[j].Kind==c.Arcs[i].Kind)&&(c.Arcs[j].From==c.Arcs[i].From))&&(c.Arcs[j].To==c.Arcs[i].To))=true:=by
   unfold IL;simp only [Bool.and_eq_true,beq_iff_eq]
  simp only [JG.eq_2,DH hj,cT,AY (show j<c.Arcs.length by omega),As,Bn,wT j]
  cases e:(((c.Arcs[j].Kind==c.Arcs[i].Kind)&&(c.Arcs[j].From==c.Arcs[i].From))&&(c.Arcs[j].To==c.Arcs[i].To))with
  |true=>exact .inr (.inr ⟨fun h=>h j hj (e1.2 e),by trivial⟩)
  |false=>
   refine .inl ⟨(),fun a ha hb=>?_,by trivial⟩
   by_cases ea:a=j
   ·subst ea;intro hs;rw [e1.1 hs]at e;cases e
   ·exact hJ a ha (by omega)
 ·intro m _ hJ
  simp only [JG.eq_2,DQ,cF]
  exact .inl ⟨fun j hj=>hJ j hj hj,by trivial⟩
theorem mM{n:Nat}{c:Al}(h:Tp c)(hn:1048577<=n):BW (NB c) (fV n c):=by
 obtain⟨r,e,hr,hc⟩:=tQ (n:=n) h.pins hn
 rw [fV,e]
 simp only [As,jZ h.name hn,Fk,EY]
 by_cases g:(LC c.Pins∧EX c.Name=true)∧c.Arcs.length<=8∧(0<=c.Leak∧c.Leak<=100000)∧(0<=c.Energy∧c.Energy<=100000)
 ·have rt:r.2=true:=hr.2 g.1.1
  have gb:((((!r.2|| !EX c.Name)||decide ((c.Arcs.length:Int)>8))|| !(decide (c.Leak>=0)&&decide (c.Leak<=100000)))|| !(decide (c.Energy>=0)&&decide (c.Energy<=100000)))=false:=by
   rw [rt,g.1.2]
   simp only [Bool.not_true,Bool.or_self,Bool.false_or,Bool.or_eq_false_iff,decide_eq_false_iff_not,Bool.not_eq_false',Ln];omega
  simp only [gb,cF]
  have few:=g.1.1.few
  have hal:=h.arcs.1
  have hcnt:=hc rt
  refine(Ez (L:=fun m i=>KX n c _ m i) (Q:=HD c) c.Arcs.length 0 (fun i=>∀(hi:i<c.Arcs.length),Mk c c.Arcs[i]∧∀j (hj:j<i),¬IL c.Arcs[j] c.Arcs[i]) ?_ ?_ n 0 (by omega) (by omega) (by omega) (fun j _ h=>by omega)).iff ?_
  ·intro m i _ hi
   obtain⟨b,e,hb⟩:=lO (n:=n) (c:=c) few.2 few.1 (h.arcs.2 _ (List.getElem_mem hi)) hn
   simp only [KX.eq_2,DH hi,cT,AY hi,As,e]
   cases b with
   |false=>exact .inr ⟨fun q=>(by have:=hb.2 (q hi).1;cases this),by trivial⟩
   |true=>
    simp only [Bool.not_true,cF,wT i]
    rcases sL (n:=n) hi hal hn (fun _=>KX n c _ m ((i+1:Nat):Int))with ⟨q1,q2⟩|⟨q1,q2⟩
    ·exact .inl ⟨fun _=>⟨hb.1 rfl,q1⟩,q2⟩
    ·exact .inr ⟨fun q=>q1 (q hi).2,q2⟩
  ·intro m i h1 h2 hA
   obtain rfl:i=c.Arcs.length:=by omega
   simp only [KX.eq_2,DQ,cF]
   obtain⟨l,e,hl6,hl⟩:=Kd (n:=n) hal (fun a ha=>by
    obtain⟨j,hj,rfl⟩:=List.getElem_of_mem ha
    have:=(hA j (by omega) hj hj).1.2
    rcases ZE c.Arcs[j].Kind with k|k|k|k|k|k<;>first|omega|skip
    obtain⟨k1,k2,k3,k4,k5⟩:=k
    rw [if_neg k1,if_neg (by omega),if_neg (by omega)]at this
    exact this.elim) hn
   have g1:AL l 1=some (gd l 1):=gI (i:=1) (by omega)
   have g2:AL l 2=some (gd l 2):=gI (i:=2) (by omega)
   have g3:AL l 3=some (gd l 3):=gI (i:=3) (by omega)
   have k1:0<=gd l 1∧(gd l 1>0↔Fz c.Arcs 1):=hl 1 (by omega)
   have k2:0<=gd l 2∧(gd l 2>0↔Fz c.Arcs 2):=hl 2 (by omega)
   have k3:0<=gd l 3∧(gd l 3>0↔Fz c.Arcs 3):=hl 3 (by omega)
   have wl:wrap .i64 ((c.Pins.length:Int)-1)=(c.Pins.length:Int)-1:=Af (by omega) (by omega)
   obtain⟨s1,s2,s3⟩:=UZ few.1 few.2
   rw [e,As]
   simp only [g1,g2,g3,As,wl,s2,s3,cF,Bn]
   have tl:((c.Truth.length:Int)==0)=true↔c.Truth.length=0:=by rw [beq_iff_eq];omega
   have tw:((c.Truth.length:Int)==((2^(c.Pins.length-1):Nat):Int))=true↔c.Truth.length=2^(c.Pins.length-1):=by rw [beq_iff_eq];omega
   have c0:(r.1==0)=true↔cnt c.Pins=0:=by rw [beq_iff_eq,hcnt];omega
   have c1:(r.1==1)=true↔cnt c.Pins=1:=by rw [beq_iff_eq,hcnt];omega
   have kk1:(gd l 1==0)=true↔¬Fz c.Arcs 1:=by rw [beq_iff_eq,←k1.2];omega
   have kk3:(gd l 3==0)=true↔¬Fz c.Arcs 3:=by rw [beq_iff_eq,←k3.2];omega
   have p1:decide (gd l 1>0)=true↔Fz c.Arcs 1:=by rw [decide_eq_true_eq];exact k1.2
   have p2:decide (gd l 2>0)=true↔Fz c.Arcs 2:=by rw [decide_eq_true_eq];exact k2.2
   have p3:decide (gd l 3>0)=true↔Fz c.Arcs 3:=by rw [decide_eq_true_eq];exact k3.2
   have x23:(decide (gd l 2>0) !=decide (gd l 3>0))=true↔¬(Fz c.Arcs 2↔Fz c.Arcs 3):=by
    rw [←p2,←p3];cases decide (gd l 2>0)<;>cases decide (gd l 3>0)<;>simp
   by_cases q1:c.Kind=1
   ·simp only [q1,show((1:Int)==1)=true from rfl,cT]
    refine(sH (c:=c) (o:=some ((r.1==0)&&((c.Truth.length:Int)==((2^(c.Pins.length-1):Nat):Int)))) (Q:=cnt c.Pins=0∧c.Truth.length=2^(c.Pins.length-1)) h.truth hn (Bb (by rw [Bool.and_eq_true,c0,tw]))).iff ?_
    unfold HD
    constructor
    ·rintro ⟨a,b,d⟩;exact .inl ⟨q1,b,d,a⟩
    ·rintro (⟨_,b,d,a⟩|⟨a,_⟩|⟨a,_⟩)
     ·exact⟨a,b,d⟩
     ·omega
     ·omega
   ·simp only [beq_eq_false_iff_ne.2 q1,cF]
    by_cases q2:c.Kind=2
    ·simp only [q2,show((2:Int)==2)=true from rfl,cT]
     refine Bb ?_
     rw [Bool.and_eq_true,Bool.and_eq_true,Bool.and_eq_true,c1,kk1,x23,tl]
     unfold HD
     constructor
     ·rintro ⟨⟨⟨a,b⟩,d⟩,f⟩;exact .inr (.inl ⟨q2,a,f,b,d⟩)
     ·rintro (⟨a,_⟩|⟨_,a,f,b,d⟩|⟨a,_⟩)
      ·omega
      ·exact⟨⟨⟨a,b⟩,d⟩,f⟩
      ·omega
    ·simp only [beq_eq_false_iff_ne.2 q2,cF]
     by_cases q3:c.Kind=3
     ·simp only [q3,show((3:Int)==3)=true from rfl,cT]
      refine Bb ?_
      simp only [Bool.and_eq_true,true_and,c1,p1,p2,kk3,tl]
      unfold HD
      constructor
      ·rintro ⟨⟨⟨⟨a,b⟩,d⟩,x⟩,f⟩;exact .inr (.inr ⟨q3,a,f,b,d,x⟩)
      ·rintro (⟨a,_⟩|⟨a,_⟩|⟨_,a,f,b,d,x⟩)
       ·omega
       ·omega
       ·exact⟨⟨⟨⟨a,b⟩,d⟩,x⟩,f⟩
     ·simp only [beq_eq_false_iff_ne.2 q3,cF]
      refine BS ?_
      rintro (⟨a,_⟩|⟨a,_⟩|⟨a,_⟩)
      ·exact q1 a
      ·exact q2 a
      ·exact q3 a
  ·constructor
   ·rintro ⟨a,b⟩
    exact⟨g.1.2,g.1.1,g.2.1,g.2.2.1,g.2.2.2,fun i hi=>a i (by omega) hi hi,b⟩
   ·rintro v
    exact⟨fun i _ _ hi=>v.arcs i hi,v.kind⟩
 ·have gb:((((!r.2|| !EX c.Name)||decide ((c.Arcs.length:Int)>8))|| !(decide (c.Leak>=0)&&decide (c.Leak<=100000)))|| !(decide (c.Energy>=0)&&decide (c.Energy<=100000)))=true:=by
   cases hq:((((!r.2|| !EX c.Name)||decide ((c.Arcs.length:Int)>8))|| !(decide (c.Leak>=0)&&decide (c.Leak<=100000)))|| !(decide (c.Energy>=0)&&decide (c.Energy<=100000)))with
   |true=>rfl
   |false=>
    exfalso;apply g
    simp only [Bool.or_eq_false_iff,Bool.not_eq_false',decide_eq_false_iff_not,Ln]at hq
    exact⟨⟨hr.1 hq.1.1.1.1,hq.1.1.1.2⟩,by omega,by simpa using hq.1.2,by simpa using hq.2⟩
  simp only [gb,cT]
  exact BS fun v=>g ⟨⟨v.pins,v.name⟩,v.few,v.leak,v.energy⟩
theorem Cn{n:Nat}{l:List Bt}{K:Int->Option Bool}{c:Al}(hc:c.Pins=l)(hl:l.length<=1048576)(hn:1048577<=n):GF c (fun i _=>K i) n 0 0=K (cnt l):=by
 subst hc
 refine loop (L:=fun m i (q:Int)=>GF c (fun i _=>K i) m q i) c.Pins.length (fun i q=>q=cnt (c.Pins.take i)) (fun o=>o=K (cnt c.Pins)) ?_ ?_ n 0 0 (by omega) (by omega) (by simp [cnt])
 ·intro m i q hi hq
  have ct:=QO hi
  have cl:cnt (c.Pins.take i)<=1048576:=Nat.le_trans List.countP_le_length (by simp;omega)
  cases hk:c.Pins[i].Clock with
  |true=>
   rw [hk,if_pos rfl]at ct
   refine .inl ⟨q+1,by rw [ct,hq];simp,?_⟩
   simp only [GF.eq_2,DH hi,cT,AY hi,As,hk,wT i,Af (x:=q+1) (by omega) (by omega)]
  |false=>
   rw [hk]at ct
   refine .inl ⟨q,by rw [ct,hq];simp,?_⟩
   simp only [GF.eq_2,DH hi,cT,AY hi,As,hk,cF,wT i]
 ·intro m q hq
  rw [List.take_length]at hq
  simp only [GF.eq_2,DQ,cF,hq]
theorem uW{n:Nat}{c:Al}(h:Tp c)(hv:LC c.Pins)(hn:1048577<=n):BW (HD c) (WF n c):=by
 have few:=hv.few
 obtain⟨b1,e1,h1⟩:=Hs (n:=n) h.arcs.1 1 hn
 obtain⟨b2,e2,h2⟩:=Hs (n:=n) h.arcs.1 2 hn
 obtain⟨b3,e3,h3⟩:=Hs (n:=n) h.arcs.1 3 hn
 have wl:wrap .i64 ((c.Pins.length:Int)-1)=(c.Pins.length:Int)-1:=Af (by omega) (by omega)
 have o:=(Cn (n:=n) (c:=c) (l:=c.Pins) (K:=fun i16=>(cond (c.Kind==1) (Option.bind (cond (i16==0) (Option.bind (Pw n c) fun r20=>(cond (decide (r20<0)) none (some ((((c.Truth.length:Int))==(Je .i64 1 r20)))))) (some false)) fun c20=>(Option.bind (cond c20 (Option.bind (Me n c.Truth 0 1) fun r26=>(some r26)) (some false)) fun c26=>(some c26))) (cond (c.Kind==2) (Option.bind (cond (((i16==1))&&((((c.Truth.length:Int))==0))) (Option.bind (Kw n c 1) fun r38=>(some (!r38))) (some false)) fun c38=>(Option.bind (cond c38 (Option.bind (Kw n c 2) fun r43=>(Option.bind (Kw n c 3) fun r45=>(some ((r43 !=r45))))) (some false)) fun c43=>(some c43))) (cond (c.Kind==3) (Option.bind (cond (((i16==1))&&((((c.Truth.length:Int))==0))) (Option.bind (Kw n c 1) fun r61=>(some r61)) (some false)) fun c61=>(Option.bind (cond c61 (Option.bind (Kw n c 2) fun r74=>(some r74)) (some false)) fun c74=>(Option.bind (cond c74 (Option.bind (Kw n c 3) fun r87=>(some (!r87))) (some false)) fun c87=>(some c87)))) (some false))))) rfl h.pins.1 hn)
 have o2:WF n c=_:=o
 rw [o2]
 obtain⟨s1,s2,s3⟩:=UZ few.1 few.2
 have d0:decide ((c.Pins.length:Int)-1<0)=false:=decide_eq_false (by omega)
 simp only [Pw,Qh,As,wl,d0,cF,s1,AW (n:=n) h.truth hn,e1,e2,e3,Bn]
 have tl:((c.Truth.length:Int)==0)=true↔c.Truth.length=0:=by rw [beq_iff_eq];omega
 have tw:((c.Truth.length:Int)==((2^(c.Pins.length-1):Nat):Int))=true↔c.Truth.length=2^(c.Pins.length-1):=by rw [beq_iff_eq];omega
 have c0:((cnt c.Pins:Int)==0)=true↔cnt c.Pins=0:=by rw [beq_iff_eq];omega
 have c1:((cnt c.Pins:Int)==1)=true↔cnt c.Pins=1:=by rw [beq_iff_eq];omega
 have n1:(!b1)=true↔¬Fz c.Arcs 1:=by rw [←h1];cases b1<;>simp
 have n3:(!b3)=true↔¬Fz c.Arcs 3:=by rw [←h3];cases b3<;>simp
 have x23:(b2 !=b3)=true↔¬(Fz c.Arcs 2↔Fz c.Arcs 3):=by rw [←h2,←h3];cases b2<;>cases b3<;>simp
 by_cases q1:c.Kind=1
 ·simp only [q1,show((1:Int)==1)=true from rfl,cT]
  refine Bb ?_
  rw [Bool.and_eq_true,Bool.and_eq_true,c0,tw,OZ]
  unfold HD
  constructor
  ·rintro ⟨⟨a,b⟩,d⟩;exact .inl ⟨q1,a,b,d⟩
  ·rintro (⟨_,a,b,d⟩|⟨a,_⟩|⟨a,_⟩)
   ·exact⟨⟨a,b⟩,d⟩
   ·omega
   ·omega
 ·simp only [beq_eq_false_iff_ne.2 q1,cF]
  by_cases q2:c.Kind=2
  ·simp only [q2,show((2:Int)==2)=true from rfl,cT]
   refine Bb ?_
   simp only [Bool.and_eq_true,c1,tl,n1,x23]
   unfold HD
   constructor
   ·rintro ⟨⟨⟨a,b⟩,d⟩,f⟩;exact .inr (.inl ⟨q2,a,b,d,f⟩)
   ·rintro (⟨a,_⟩|⟨_,a,b,d,f⟩|⟨a,_⟩)
    ·omega
    ·exact⟨⟨⟨a,b⟩,d⟩,f⟩
    ·omega
  ·simp only [beq_eq_false_iff_ne.2 q2,cF]
   by_cases q3:c.Kind=3
   ·simp only [q3,show((3:Int)==3)=true from rfl,cT]
    refine Bb ?_
    simp only [Bool.and_eq_true,true_and,c1,tl,h1,h2,n3]
    unfold HD
    constructor
    ·rintro ⟨⟨⟨⟨a,b⟩,d⟩,x⟩,f⟩;exact .inr (.inr ⟨q3,a,b,d,x,f⟩)
    ·rintro (⟨a,_⟩|⟨a,_⟩|⟨_,a,b,d,x,f⟩)
     ·omega
     ·omega
     ·exact⟨⟨⟨⟨a,b⟩,d⟩,x⟩,f⟩
   ·simp only [beq_eq_false_iff_ne.2 q3,cF]
    refine BS ?_
    rintro (⟨a,_⟩|⟨a,_⟩|⟨a,_⟩)
    ·exact q1 a
    ·exact q2 a
    ·exact q3 a
theorem tU{n:Nat}{c:Al}{r:Int}(h:Tp c)(hv:LC c.Pins)(hr:RR n c=some r)(hn:1048577<=n):BW (VL (fun a=>Tl c a r) c.Arcs∧c.Arcs.length<=8) (Vs n c):=by
 have few:=hv.few
 have hal:=h.arcs.1
 rw [Vs]
 refine(Ez (L:=fun m i=>IY n c _ m i) (Q:=c.Arcs.length<=8) c.Arcs.length 0 (fun i=>∀(hi:i<c.Arcs.length),Tl c c.Arcs[i] r∧∀j (hj:j<i),¬IL c.Arcs[j] c.Arcs[i]) ?_ ?_ n 0 (by omega) (by omega) (by omega) (fun j _ h=>by omega)).iff ⟨fun a=>⟨fun i hi=>a.1 i (by omega) hi hi,a.2⟩,fun a=>⟨fun i _ _ hi=>a.1 i hi,a.2⟩⟩
 ·intro m i _ hi
  obtain⟨b,e,hb⟩:=pV (n:=n) (c:=c) few.2 few.1 (h.arcs.2 _ (List.getElem_mem hi)) hr hn
  have hsub:Ky c.Arcs 0 (i:Int)=some (c.Arcs.take i):=by
   unfold Ky
   rw [if_pos ⟨by omega,by omega,by omega⟩];simp
  obtain⟨q,e2,hq,_⟩:=Kg (xs:=c.Arcs.take i) (L:=fun m j=>Hi n (c.Arcs.take i) c.Arcs[i] (fun i6=>(some (-1))) m j) (f:=fun a=>VQ n a c.Arcs[i]) (P:=fun a=>IL a c.Arcs[i]) (fun p _=>by rw [VQ];exact Bb (by unfold IL;simp only [Bool.and_eq_true,beq_iff_eq])) (fun m j hj=>by
   simp only [Hi.eq_2,DH hj,cT,AY hj,As,wS (show j<4611686018427387904 by have:=hj;simp at this;omega)]) (fun m=>by
   simp only [Hi.eq_2,DQ,cF]) n (by simp;omega)
  have e2:Hi n (c.Arcs.take i) c.Arcs[i] (fun i6=>(some (-1))) n 0=some q:=e2
  simp only [IY.eq_2,DH hi,cT,AY hi,As,e,hsub,XH,YC,e2,EY,wT i]
  have hd:(decide (q>=0))=true↔¬∀j (hj:j<i),¬IL c.Arcs[j] c.Arcs[i]:=by
   rw [decide_eq_true_eq,hq]
   constructor
   ·rintro ⟨x,hx,hs⟩ hall
    obtain⟨j,hj,rfl⟩:=List.mem_take_iff_getElem.1 hx
    exact hall j (by omega) hs
   ·intro hna
    refine Classical.byContradiction fun hne=>hna fun j hj hs=>hne ⟨c.Arcs[j],List.mem_take_iff_getElem.2 ⟨j,by omega,rfl⟩,hs⟩
  cases hc:(!b||decide (q>=0))with
  |true=>
   refine .inr ⟨fun g=>?_,by trivial⟩
   have:=g hi
   rw [Bool.or_eq_true]at hc
   rcases hc with hc|hc
   ·rw [hb.2 this.1]at hc;cases hc
   ·exact hd.1 hc this.2
  |false=>
   rw [Bool.or_eq_false_iff]at hc
   refine .inl ⟨fun _=>⟨hb.1 (by simpa using hc.1),Classical.byContradiction fun g=>?_⟩,by trivial⟩
   have:=hd.2 g
   rw [hc.2]at this;cases this
 ·intro m i h1 h2 _
  obtain rfl:i=c.Arcs.length:=by omega
  simp only [IY.eq_2,DQ,cF]
  exact Bb (by rw [decide_eq_true_eq];omega)
theorem pN{n:Nat}{c:Al}(h:Tp c)(hn:1048577<=n):BW (NB c) (Ud n c):=by
 obtain⟨r,hr,hr0,hr1⟩:=Ck (n:=n) h.pins.1 hn
 rw [Ud,rP h.name hn,As]
 cases hnm:EX c.Name with
 |false=>
  simp only [cF,As]
  exact BS fun v=>(by have:=v.name;rw [hnm]at this;cases this)
 |true=>
  obtain⟨b,e,hb⟩:=sK (n:=n) h.pins hn
  simp only [cT,e,As]
  cases b with
  |false=>
   simp only [cF,As]
   exact BS fun v=>(by have:=hb.2 v.pins;cases this)
  |true=>
   have hv:=hb.1 rfl
   obtain⟨b1,e1,h1⟩:=tU (n:=n) h hv hr hn
   obtain⟨b2,e2,h2⟩:=uW (n:=n) h hv hn
   simp only [cT,e1,e2,IM,As,Bn]
   refine Bb ?_
   rw [Bool.and_eq_true,Bool.and_eq_true,Bool.and_eq_true,h1,h2,Ln,Ln]
   constructor
   ·rintro ⟨⟨⟨⟨a,a8⟩,b⟩,d⟩,f⟩
    exact⟨hnm,hv,a8,b,d,fun i hi=>⟨(SY hv f.cnt hr1 hr0).2 (a i hi).1,(a i hi).2⟩,f⟩
   ·rintro v
    exact⟨⟨⟨⟨fun i hi=>⟨(SY hv v.kind.cnt hr1 hr0).1 (v.arcs i hi).1,(v.arcs i hi).2⟩,v.few⟩,v.leak⟩,v.energy⟩,v.kind⟩
def bt(i b:Nat):Nat:=i/2^b%2
def Ot(i b:Nat):Nat:=if bt i b=0 then i+2^b else i-2^b
theorem Vi:∀i:Nat,i<16->∀b:Nat,b<4->Lx .i64 (Of .i64 (i:Int) (b:Int)) 1=(bt i b:Int)∧Lx .i64 (Of .i64 (i:Int) (IntKind.wrap IntKind.u64 (b:Int))) 1=(bt i b:Int)∧lB .i64 (i:Int) (Je .i64 1 (b:Int))=(Ot i b:Int)∧wrap .i64 ((i:Int)+Je .i64 1 (IntKind.wrap IntKind.u64 (b:Int)))=((i+2^b:Nat):Int)∧decide (IntKind.wrap IntKind.u64 (b:Int)<0)=false:=by decide+kernel
theorem iI:∀i:Nat,i<16->∀b:Nat,b<4->Ot (Ot i b) b=i∧(bt i b=0->i+2^b=Ot i b)∧(bt i b≠0->bt (Ot i b) b=0):=by decide+kernel
theorem fU:∀i:Nat,i<16->∀b:Nat,b<4->∀a:Nat,a<4->a≠b->bt (Ot i b) a=bt i a:=by decide+kernel
theorem fJ:∀i:Nat,i<16->∀b:Nat,b<4->∀k:Nat,k<5->b<k->i<2^k->Ot i b<2^k:=by decide+kernel
theorem Zi(k:Nat)(hk:k<5)(b:Nat)(hb:b<k)(i:Nat)(hi:i<2^k):Ot i b<2^k∧Ot (Ot i b) b=i∧(bt i b=0->i+2^b=Ot i b)∧(bt i b≠0->bt (Ot i b) b=0)∧∀a,a<k->a≠b->bt (Ot i b) a=bt i a:=by
 have h16:2^k<=2^4:=Nat.pow_le_pow_right (by omega) (by omega)
 have hi':i<16:=by omega
 have b0:=iI i hi' b (by omega)
 exact⟨fJ i hi' b (by omega) k hk hb hi,b0.1,b0.2.1,b0.2.2,fun a ha hne=>fU i hi' b (by omega) a (by omega) hne⟩
def sG(t:List Int)(p q l:Nat):Prop:=∃i,i<t.length∧bt i p=l∧gd t i≠gd t (Ot i q)
theorem rS{n:Nat}{c:Al}{p q l k:Nat}(hk:k<5)(ht:c.Truth.length=2^k)(hp:p<k)(hq:q<k)(hpq:p≠q)(hn:1048577<=n):BW (sG c.Truth p q l) (Qi n c p q l):=by
 have h16:2^k<=2^4:=Nat.pow_le_pow_right (by omega) (by omega)
 have h16':c.Truth.length<=16:=by rw [ht];exact h16
 rw [Qi]
 have B:=Zi k hk q hq
 refine loop (L:=fun m i (_:Unit)=>JU c p q l _ m i) c.Truth.length (fun i _=>∀j,j<c.Truth.length->j<i->¬(bt j p=l∧bt j q=0∧gd c.Truth j≠gd c.Truth (Ot j q))) _ ?_ ?_ n 0 () (by omega) (by omega) (fun j _ hj=>by omega)
 ·intro m i _ hi hI
  obtain⟨_,r2,_,_,r5⟩:=Vi i (by omega) p (by omega)
  obtain⟨_,s2,_,s4,s5⟩:=Vi i (by omega) q (by omega)
  have hb:=B i (by omega)
  simp only [JU.eq_2,DH hi,cT,r2,r5,s2,s4,s5,cF,Bn,As,gI hi,wT i]
  by_cases c1:bt i p=l∧bt i q=0
  ·have d1:(((bt i p:Int)==(l:Int))&&((bt i q:Int)==0))=true:=by simp only [Bool.and_eq_true,beq_iff_eq];omega
   have e1:=hb.2.2.1 c1.2
   simp only [d1,cT,e1,gI (show Ot i q<c.Truth.length by omega),As]
   by_cases c2:gd c.Truth i=gd c.Truth (Ot i q)
   ·simp only [c2,bne_self_eq_false,cF]
    refine .inl ⟨(),fun j hj hji=>?_,by trivial⟩
    by_cases ej:j=i
    ·subst ej;exact fun h=>h.2.2 c2
    ·exact hI j hj (by omega)
   ·have:(gd c.Truth i !=gd c.Truth (Ot i q))=true:=by rw [bne_iff_ne];exact c2
    simp only [this,cT]
    exact .inr (DI ⟨i,hi,c1.1,c2⟩)
  ·have d1:(((bt i p:Int)==(l:Int))&&((bt i q:Int)==0))=false:=by
    rw [Bool.and_eq_false_iff,beq_eq_false_iff_ne,beq_eq_false_iff_ne];omega
   simp only [d1,cF,As]
   refine .inl ⟨(),fun j hj hji=>?_,by trivial⟩
   by_cases ej:j=i
   ·subst ej;exact fun h=>c1 ⟨h.1,h.2.1⟩
   ·exact hI j hj (by omega)
 ·intro m _ hI
  simp only [JU.eq_2,DQ,cF]
  refine BS ?_
  rintro ⟨i,hi,h1,h2⟩
  have hb:=B i (by omega)
  by_cases h0:bt i q=0
  ·exact hI i hi hi ⟨h1,h0,h2⟩
  ·have hf:Ot i q<c.Truth.length:=by omega
   refine hI (Ot i q) hf hf ⟨by rw [hb.2.2.2.2 p hp hpq];exact h1,hb.2.2.2.1 h0,?_⟩
   rw [hb.2.1];exact fun e=>h2 e.symm
def GB(xs:List ByteArray):Prop:=∀k (h:k<xs.length),EX xs[k]=true∧∀i (hi:i<k),(xs[i].toList==xs[k].toList)=false
theorem aD{n:Nat}{xs:List ByteArray}(h:xs.length<=1048576)(hs:∀x∈xs,x.size<=1048576)(hn:1048577<=n):BW (GB xs) (Zf n xs):=by
 rw [Zf]
 refine(Ez (L:=fun m i=>Ho n xs _ m i) (Q:=True) xs.length 0 (fun i=>∀(hi:i<xs.length),EX xs[i]=true∧∀j (hj:j<i),(xs[j].toList==xs[i].toList)=false) ?_ ?_ n 0 (by omega) (by omega) (by omega) (fun j _ h=>by omega)).iff ⟨fun a k hk=>a.1 k (by omega) hk hk,fun a=>⟨fun i _ _ hi=>a i hi,trivial⟩⟩
 ·intro m i _ hi
  simp only [Ho.eq_2,DH hi,cT,AY hi,As,jZ (hs _ (List.getElem_mem hi)) hn]
  cases hb:EX xs[i]with
  |false=>simp only [Bool.not_false,cT];exact .inr ⟨fun g=>(by have:=(g hi).1;rw [hb]at this;cases this),trivial⟩
  |true=>
   simp only [Bool.not_true,cF]
   have key:Jz xs (i:Int) (fun i22=>Ho n xs (fun i5=>some true) m (wrap .i64 ((i:Int)+1))) n 0=cond ((xs.take i).all (fun x=>!(x.toList==xs[i].toList))) (Ho n xs (fun i5=>some true) m (wrap .i64 ((i:Int)+1))) (some false):=by
    refine OP (xs:=xs.take i) (L:=fun q j=>Jz xs (i:Int) (fun i22=>Ho n xs (fun i5=>some true) m (wrap .i64 ((i:Int)+1))) q j) (fun x=>!(x.toList==xs[i].toList)) ?_ ?_ n (by simp;omega)
    ·intro q j hj
     have hj':j<i:=by simp at hj;omega
     have hd:decide ((j:Int)<(i:Int))=true:=decide_eq_true (by omega)
     simp only [Jz.eq_2,hd,cT,AY (show j<xs.length by omega),AY hi,As,List.getElem_take,wT j]
     cases(xs[j].toList==xs[i].toList)<;>rfl
    ·intro q
     have hl:(xs.take i).length=i:=by simp;omega
     have hd:decide (((xs.take i).length:Int)<(i:Int))=false:=decide_eq_false (by rw [hl];omega)
     simp only [Jz.eq_2,hd,cF]
   rw [key]
   cases ha:(xs.take i).all (fun x=>!(x.toList==xs[i].toList))with
   |true=>
    rw [cT,wT i]
    refine .inl ⟨fun _=>⟨hb,fun j hj=>?_⟩,rfl⟩
    have:=List.all_eq_true.1 ha xs[j] (List.mem_take_iff_getElem.2 ⟨j,by omega,rfl⟩)
    simpa using this
   |false=>
    rw [cF]
    refine .inr ⟨fun g=>?_,rfl⟩
    have:(xs.take i).all (fun x=>!(x.toList==xs[i].toList))=true:=by
     rw [List.all_eq_true]
     intro x hx
     obtain⟨j,hj,rfl⟩:=List.mem_take_iff_getElem.1 hx
     have:=(g hi).2 j (by omega)
     simp [this]
    rw [ha]at this;cases this
 ·intro m i h1 h2 _
  obtain rfl:i=xs.length:=by omega
  simp only [Ho.eq_2,DQ,cF]
  exact DI trivial
structure QR(l:Ay):Prop where
 few:l.Cells.length<=8
 cells:∀i (h:i<l.Cells.length),NB l.Cells[i]
 names:∀k (h:k<l.Cells.length),∀i (hi:i<k),(l.Cells[i].Name.toList==l.Cells[k].Name.toList)=false
def Ry(l:Ay):Prop:=l.Cells.length<=1048576∧∀c∈l.Cells,Tp c
theorem sF{n:Nat}{l:Ay}(h:Ry l)(hn:1048577<=n):BW (QR l) (gG n l):=by
 have h1:=h.1
 rw [gG]
 refine(Ez (L:=fun m i=>IA n l _ m i) (Q:=l.Cells.length<=8) l.Cells.length 0 (fun i=>∀(hi:i<l.Cells.length),NB l.Cells[i]∧∀j (hj:j<i),(l.Cells[j].Name.toList==l.Cells[i].Name.toList)=false) ?_ ?_ n 0 (by omega) (by omega) (by omega) (fun j _ h=>by omega)).iff ⟨fun a=>⟨a.2,fun i hi=>(a.1 i (by omega) hi hi).1,fun k hk=>(a.1 k (by omega) hk hk).2⟩,fun a=>⟨fun i _ _ hi=>⟨a.cells i hi,a.names i hi⟩,a.few⟩⟩
 ·intro m i _ hi
  obtain⟨b,e,hb⟩:=mM (n:=n) (h.2 _ (List.getElem_mem hi)) hn
  simp only [IA.eq_2,DH hi,cT,AY hi,As,e]
  cases b with
  |false=>simp only [Bool.not_false,cT];exact .inr ⟨fun g=>(by have:=hb.2 (g hi).1;cases this),trivial⟩
  |true=>
   simp only [Bool.not_true,cF]
   have key:KQ l (i:Int) (fun i36=>IA n l (fun i12=>some (decide ((l.Cells.length:Int)<=8))) m (wrap .i64 ((i:Int)+1))) n 0=cond ((l.Cells.take i).all (fun x=>!(x.Name.toList==l.Cells[i].Name.toList))) (IA n l (fun i12=>some (decide ((l.Cells.length:Int)<=8))) m (wrap .i64 ((i:Int)+1))) (some false):=by
    refine OP (xs:=l.Cells.take i) (L:=fun q j=>KQ l (i:Int) (fun i36=>IA n l (fun i12=>some (decide ((l.Cells.length:Int)<=8))) m (wrap .i64 ((i:Int)+1))) q j) (fun x=>!(x.Name.toList==l.Cells[i].Name.toList)) ?_ ?_ n (by simp;omega)
    ·intro q j hj
     have hj':j<i:=by simp at hj;omega
     have hd:decide ((j:Int)<(i:Int))=true:=decide_eq_true (by omega)
     simp only [KQ.eq_2,hd,cT,AY (show j<l.Cells.length by omega),AY hi,As,List.getElem_take,wT j]
     cases(l.Cells[j].Name.toList==l.Cells[i].Name.toList)<;>rfl
    ·intro q
     have hl:(l.Cells.take i).length=i:=by simp;omega
     have hd:decide (((l.Cells.take i).length:Int)<(i:Int))=false:=decide_eq_false (by rw [hl];omega)
     simp only [KQ.eq_2,hd,cF]
   rw [key]
   cases ha:(l.Cells.take i).all (fun x=>!(x.Name.toList==l.Cells[i].Name.toList))with
   |true=>
    rw [cT,wT i]
    refine .inl ⟨fun _=>⟨hb.1 rfl,fun j hj=>?_⟩,rfl⟩
    have:=List.all_eq_true.1 ha l.Cells[j] (List.mem_take_iff_getElem.2 ⟨j,by omega,rfl⟩)
    simpa using this
   |false=>
    rw [cF]
    refine .inr ⟨fun g=>?_,rfl⟩
    have:(l.Cells.take i).all (fun x=>!(x.Name.toList==l.Cells[i].Name.toList))=true:=by
     rw [List.all_eq_true]
     intro x hx
     obtain⟨j,hj,rfl⟩:=List.mem_take_iff_getElem.1 hx
     have:=(g hi).2 j (by omega)
     simp [this]
    rw [ha]at this;cases this
 ·intro m i h1 h2 _
  obtain rfl:i=l.Cells.length:=by omega
  simp only [IA.eq_2,DQ,cF]
  exact Bb (by rw [decide_eq_true_eq];omega)
theorem uS{n:Nat}{l:Ay}(h:Ry l)(hn:1048577<=n):BW (QR l) (UH n l):=by
 have h1:=h.1
 rw [UH]
 refine loop (L:=fun m i (s:List ByteArray)=>Ja n l _ m s i) l.Cells.length (fun i s=>s=(l.Cells.take i).map (·.Name)∧∀j (hj:j<l.Cells.length),j<i->NB l.Cells[j]) (fun o=>BW (QR l) o) ?_ ?_ n 0 [] (by omega) (by omega) ⟨by simp,fun j _ h=>by omega⟩
 ·intro m i s hi ⟨hs,hI⟩
  obtain⟨b,e,hb⟩:=pN (n:=n) (h.2 _ (List.getElem_mem hi)) hn
  have hsl:s.length=i:=by rw [hs];simp;omega
  simp only [Ja.eq_2,DH hi,cT,AY hi,As,e]
  cases b with
  |false=>simp only [Bool.not_false,cT];exact .inr (BS fun v=>by have:=hb.2 (v.cells i hi);cases this)
  |true=>
   simp only [Bool.not_true,cF,BN (show s.length+[l.Cells[i].Name].length<=16777216 by simp;omega) (show 16<=1048576 by omega),As,wT i]
   refine .inl ⟨_,⟨?_,fun j hj hji=>?_⟩,rfl⟩
   ·rw [hs,List.take_succ_eq_append_getElem hi,List.map_append];rfl
   ·by_cases ej:j=i
    ·subst ej;exact hb.1 rfl
    ·exact hI j hj (by omega)
 ·intro m s ⟨hs,hI⟩
  rw [List.take_length]at hs
  have hsl:s.length=l.Cells.length:=by rw [hs];simp
  simp only [Ja.eq_2,DQ,cF]
  by_cases c:l.Cells.length<=8
  ·have d:decide ((l.Cells.length:Int)<=8)=true:=decide_eq_true (by omega)
   obtain⟨b,e,hb⟩:=AN (n:=n) (xs:=s) (by omega) (fun x hx=>by
    rw [hs]at hx
    obtain⟨c,hc,rfl⟩:=List.mem_map.1 hx
    exact(h.2 c hc).name) hn
   simp only [d,cT,e,As]
   refine Bb (hb.trans ⟨fun g=>⟨c,fun i hi=>hI i hi hi,fun k hk i hi=>?_⟩,fun v k hk=>⟨?_,fun i hi=>?_⟩⟩)
   ·have:=(g k (by omega)).2 i hi
    simpa [hs] using this
   ·have:=(v.cells k (by omega)).name
    simpa [hs] using this
   ·have:=v.names k (by omega) i hi
    simpa [hs] using this
  ·have d:decide ((l.Cells.length:Int)<=8)=false:=decide_eq_false (by omega)
   simp only [d,cF,As]
   exact BS fun v=>c v.few
def XJ(l:List Int)(lo hi:Int):Prop:=∀i,i<l.length->lo<=gd l i∧gd l i<=hi
theorem Vn{n:Nat}{l:List Int}{lo hi:Int}(h:l.length<=1048576)(hn:1048577<=n):BW (XJ l lo hi) (Me n l lo hi):=by
 rw [Me,Ux,Un]
 obtain⟨r,e,h⟩:=KY (xs:=l) (L:=fun m i=>FY n l lo hi (fun i7=>(some (-1))) m i) (fun x=>!((decide (x>=lo))&&(decide (x<=hi)))) (by
  intro m i hi
  simp only [FY.eq_2,DH hi,cT,AY hi,As,WU,IM,wT i]) (by
  intro m
  simp only [FY.eq_2,DQ,cF]) n (by omega)
 simp only [e,As]
 refine Bb ?_
 rw [h,List.any_eq_not_all_not,Bool.not_not]
 simp only [Bool.not_not]
 exact OZ
structure Qj(w:BY)(s:Int):Prop where
 many:1<=w.Parent.length∧w.Parent.length<=8
 res:w.Res.length=w.Parent.length
 cap:w.Cap.length=w.Parent.length
 sink:(w.Sink.length:Int)=s
 root:gd w.Parent 0= -1∧gd w.Res 0=0
 tree:∀i,0<i->i<w.Parent.length->0<=gd w.Parent i∧gd w.Parent i<=(i:Int)-1
 ress:XJ w.Res 0 1000
 caps:XJ w.Cap 0 500
 sinks:XJ w.Sink 0 ((w.Parent.length:Int)-1)
def Node(w:BY)(i:Nat):Prop:=(i=0->gd w.Parent 0= -1∧gd w.Res 0=0)∧(0<i->0<=gd w.Parent i∧gd w.Parent i<=(i:Int)-1)
theorem sV{n:Nat}{w:BY}{s:Int}(h:w.Sink.length<=1048576)(hn:1048577<=n):BW (Qj w s) (Vz n w s):=by
 rw [Vz]
 refine Fu (fun c=>BS fun v=>?_) (fun c=>?_)
 ·have:=v.many;have:=v.res;have:=v.cap;have:=v.sink
  simp only [Bool.or_eq_true,decide_eq_true_eq,bne_iff_ne,ne_eq]at c;omega
 ·simp only [Bool.or_eq_false_iff,decide_eq_false_iff_not,bne_eq_false_iff_eq]at c
  obtain⟨⟨⟨⟨c1,c2⟩,c3⟩,c4⟩,c5⟩:=c
  refine(Ez (L:=fun m i=>JM n w _ m i) (Q:=XJ w.Sink 0 ((w.Parent.length:Int)-1)) w.Parent.length 0 (fun i=>(0<=gd w.Cap i∧gd w.Cap i<=500)∧(0<=gd w.Res i∧gd w.Res i<=1000)∧Node w i) ?_ ?_ n 0 (by omega) (by omega) (by omega) (fun j _ h=>by omega)).iff ⟨fun a=>⟨by omega,by omega,by omega,c5,(a.1 0 (by omega) (by omega)).2.2.1 rfl,fun i h1 h2=>(a.1 i (by omega) h2).2.2.2 h1,fun i hi=>(a.1 i (by omega) (by omega)).2.1,fun i hi=>(a.1 i (by omega) (by omega)).1,a.2⟩,fun v=>⟨fun i _ hi=>⟨v.caps i (by omega),v.ress i (by omega),fun _=>v.root,fun h=>v.tree i h hi⟩,v.sinks⟩⟩
  ·intro m i _ hi
   have w1:wrap .i64 ((i:Int)-1)=(i:Int)-1:=Af (by omega) (by omega)
   simp only [JM.eq_2,DH hi,cT,gI (show i<w.Parent.length by omega),gI (show i<w.Res.length by omega),gI (show i<w.Cap.length by omega),As,Fk,EY,Bn,w1,wT i]
   cases e1:(!(decide (gd w.Cap i>=0)&&decide (gd w.Cap i<=500))|| !(decide (gd w.Res i>=0)&&decide (gd w.Res i<=1000)))with
   |true=>
    rw [cT]
    refine .inr ⟨fun g=>?_,rfl⟩
    simp only [Bool.or_eq_true,Bool.not_eq_true',Bool.and_eq_false_iff,decide_eq_false_iff_not]at e1;omega
   |false=>
    rw [cF]
    simp only [Bool.or_eq_false_iff,Bool.not_eq_false',Bool.and_eq_true,decide_eq_true_eq]at e1
    cases e2:((((i:Int)==0)&&((gd w.Parent i != -1)||(gd w.Res i !=0)))||(decide ((i:Int)>0)&& !(decide (gd w.Parent i>=0)&&decide (gd w.Parent i<=(i:Int)-1))))with
    |true=>
     rw [cT]
     refine .inr ⟨fun g=>?_,rfl⟩
     obtain⟨_,_,g1,g2⟩:=g
     simp only [Bool.or_eq_true,Bool.not_eq_true',Bool.and_eq_false_iff,Bool.and_eq_true,decide_eq_false_iff_not,decide_eq_true_eq,beq_iff_eq,bne_iff_ne,ne_eq]at e2
     by_cases z:i=0
     ·subst z;have:=g1 rfl;omega
     ·have:=g2 (by omega);omega
    |false=>
     rw [cF]
     refine .inl ⟨⟨by omega,by omega,?_⟩,rfl⟩
     simp only [Bool.or_eq_false_iff,Bool.not_eq_false',Bool.and_eq_false_iff,Bool.and_eq_true,decide_eq_false_iff_not,decide_eq_true_eq,beq_eq_false_iff_ne,bne_eq_false_iff_eq,ne_eq]at e2
     refine⟨fun z=>?_,fun z=>by omega⟩
     subst z;omega
  ·intro m i h1 h2 _
   obtain rfl:i=w.Parent.length:=by omega
   have w1:wrap .i64 ((w.Parent.length:Int)-1)=(w.Parent.length:Int)-1:=Af (by omega) (by omega)
   simp only [JM.eq_2,DQ,cF]
   refine(Ez (L:=fun m i=>JW n w _ m i) (Q:=True) w.Sink.length 0 (fun i=>0<=gd w.Sink i∧gd w.Sink i<=(w.Parent.length:Int)-1) ?_ ?_ n 0 (by omega) (by omega) (by omega) (fun j _ h=>by omega)).iff ⟨fun a i hi=>a.1 i (by omega) hi,fun v=>⟨fun i _ hi=>v i hi,trivial⟩⟩
   ·intro m i _ hi
    simp only [JW.eq_2,DH hi,cT,gI hi,As,Fk,w1,wT i]
    cases e:(!(decide (gd w.Sink i>=0)&&decide (gd w.Sink i<=(w.Parent.length:Int)-1)))with
    |true=>refine .inr ⟨fun g=>?_,by trivial⟩;simp only [Bool.not_eq_true',Bool.and_eq_false_iff,decide_eq_false_iff_not]at e;omega
    |false=>refine .inl ⟨?_,by trivial⟩;simp only [Bool.not_eq_false',Bool.and_eq_true,decide_eq_true_eq]at e;omega
   ·intro m i h1 h2 _
    obtain rfl:i=w.Sink.length:=by omega
    simp only [JW.eq_2,DQ,cF]
    exact DI trivial
theorem oS{n:Nat}{w:BY}(h1:1<=w.Parent.length)(h:w.Parent.length<=8)(h2:w.Res.length=w.Parent.length)(hn:1048577<=n):BW (∀i,0<=i->i<w.Parent.length->Node w i) (Vt n w):=by
 rw [Vt]
 refine(Ez (L:=fun m i=>IZ n w _ m i) (Q:=True) w.Parent.length 0 (fun i=>Node w i) ?_ ?_ n 0 (by omega) (by omega) (by omega) (fun j _ h=>by omega)).iff ⟨fun a=>a.1,fun a=>⟨a,trivial⟩⟩
 ·intro m i _ hi
  have w1:wrap .i64 ((i:Int)-1)=(i:Int)-1:=Af (by omega) (by omega)
  have w0:AL w.Res 0=some (gd w.Res 0):=gI (i:=0) (by omega)
  simp only [IZ.eq_2,DH hi,cT,gI hi,w0,As,IM,EY,Bn,w1,wT i]
  cases e2:((((i:Int)==0)&&((gd w.Parent i != -1)||(gd w.Res 0 !=0)))||(decide ((i:Int)>0)&& !(decide (gd w.Parent i>=0)&&decide (gd w.Parent i<=(i:Int)-1))))with
  |true=>
   rw [cT]
   refine .inr ⟨fun g=>?_,rfl⟩
   obtain⟨g1,g2⟩:=g
   simp only [Bool.or_eq_true,Bool.not_eq_true',Bool.and_eq_false_iff,Bool.and_eq_true,decide_eq_false_iff_not,decide_eq_true_eq,beq_iff_eq,bne_iff_ne,ne_eq]at e2
   by_cases z:i=0
   ·subst z;have:=g1 rfl;omega
   ·have:=g2 (by omega);omega
  |false=>
   rw [cF]
   refine .inl ⟨?_,rfl⟩
   simp only [Bool.or_eq_false_iff,Bool.not_eq_false',Bool.and_eq_false_iff,Bool.and_eq_true,decide_eq_false_iff_not,decide_eq_true_eq,beq_eq_false_iff_ne,bne_eq_false_iff_eq,ne_eq]at e2
   refine⟨fun z=>?_,fun z=>by omega⟩
   subst z;omega
 ·intro m i h1 h2 _
  obtain rfl:i=w.Parent.length:=by omega
  simp only [IZ.eq_2,DQ,cF]
  exact DI trivial
theorem BW.and{P Q:Prop}{o:Option Bool}{c:Bool}(hc:c=true↔P)(h:P->BW Q o):BW (P∧Q) (cond c o (some false)):=by
 cases c with
 |true=>exact(h (hc.1 rfl)).iff ⟨fun q=>⟨hc.1 rfl,q⟩,fun q=>q.2⟩
 |false=>exact BS fun q=>by have:=hc.2 q.1;cases this
theorem BW.ab{P R:Prop}{o:Option Bool}{f:Bool->Option Bool}(h:BW P o)(k:∀c:Bool,(c=true↔P)->BW R (f c)):BW R (Option.bind o f):=by
 obtain⟨b,rfl,h⟩:=h
 exact k b h
theorem Oa{o:Option Bool}:(Option.bind o fun r=>some r)=o:=by cases o<;>rfl
theorem tP{n:Nat}{w:BY}{s:Int}(h:w.Sink.length<=1048576)(hr:w.Res.length<=1048576)(hc:w.Cap.length<=1048576)(hp:w.Parent.length<=1048576)(hn:1048577<=n):BW (Qj w s) (Uo n w s):=by
 have w1:wrap .i64 ((w.Parent.length:Int)-1)=(w.Parent.length:Int)-1:=Af (by omega) (by omega)
 rw [Uo]
 simp only [OM,IM,As,w1,Bn,Oa]
 refine BW.ab (BW.and (P:=(1<=w.Parent.length∧w.Parent.length<=8)∧w.Res.length=w.Parent.length∧w.Cap.length=w.Parent.length) (Q:=∀i,0<=i->i<w.Parent.length->Node w i) ?_ fun p=>oS p.1.1 p.1.2 p.2.1 hn) fun c1 e1=>?_
 ·simp only [Bool.and_eq_true,decide_eq_true_eq,beq_iff_eq];omega
 refine BW.ab (BW.and e1 fun _=>Vn hr hn) fun c2 e2=>?_
 refine BW.ab (BW.and e2 fun _=>Vn hc hn) fun c3 e3=>?_
 refine(BW.and (P:=(((((1<=w.Parent.length∧w.Parent.length<=8)∧w.Res.length=w.Parent.length∧w.Cap.length=w.Parent.length)∧∀i,0<=i->i<w.Parent.length->Node w i)∧XJ w.Res 0 1000)∧XJ w.Cap 0 500)∧(w.Sink.length:Int)=s) ?_ fun _=>Vn h hn).iff ⟨fun⟨⟨⟨⟨⟨⟨a,b,c⟩,t⟩,r⟩,k⟩,s1⟩,s2⟩=>⟨a,b,c,s1,(t 0 (by omega) (by omega)).1 rfl,fun i h1 h2=>(t i (by omega) h2).2 h1,r,k,s2⟩,fun v=>⟨⟨⟨⟨⟨⟨v.many,v.res,v.cap⟩,fun i _ hi=>⟨fun _=>v.root,fun h=>v.tree i h hi⟩⟩,v.ress⟩,v.caps⟩,v.sink⟩,v.sinks⟩⟩
 rw [Bool.and_eq_true,e3,beq_iff_eq]
def IE(t:List Int)(q:Int):List Int:=t.set q.toNat (gd t q.toNat+1)
def Ka(x:Aq):Int:=gd x.Nets (x.Nets.length-1)
def cI(t:List Int)(x:Aq):List Int:=IE t (Ka x)
def cP(t:List Int)(p:CJ):List Int:=if p.Dir=1 then IE t p.Net else t
def drv(d:AV):List Int:=d.Ports.foldl cP (d.Instances.foldl cI (List.replicate d.Nets.length 0))
structure LI(l:Ay)(d:AV)(x:Aq):Prop where
 cell:0<=x.Cell∧x.Cell<=(l.Cells.length:Int)-1
 pins:∀c,AL l.Cells x.Cell=some c->x.Nets.length=c.Pins.length
 nets:XJ x.Nets 0 ((d.Nets.length:Int)-1)
structure NF(d:AV)(p:CJ):Prop where
 dir:p.Dir=1∨p.Dir=2
 net:0<=p.Net∧p.Net<=(d.Nets.length:Int)-1
structure Cu(l:Ay)(d:AV):Prop where
 lib:QR l
 few:d.Instances.length<=14∧d.Nets.length<=30∧d.Ports.length<=8
 inst:∀x∈d.Instances,LI l d x
 port:∀p∈d.Ports,NF d p
 ni:GB (d.Instances.map (·.Name))
 np:GB (d.Ports.map (·.Name))
 nn:GB d.Nets
 one:∀i,i<d.Nets.length->gd (drv d) i=1
structure Vd(d:AV):Prop where
 inst:d.Instances.length<=1048576∧∀x∈d.Instances,x.Name.size<=1048576∧x.Nets.length<=1048576
 nets:d.Nets.length<=1048576∧∀x∈d.Nets,x.size<=1048576
 ports:d.Ports.length<=1048576∧∀p∈d.Ports,p.Name.size<=1048576
theorem LI.long{l:Ay}{d:AV}{x:Aq}(v:LI l d x)(hl:QR l):2<=x.Nets.length∧x.Nets.length<=5:=by
 obtain⟨c,e,hc⟩:=Ei (xs:=l.Cells) v.cell.1 (by have:=v.cell.2;omega)
 have h:=v.pins c e
 obtain⟨h1,h2⟩:=List.getElem?_eq_some_iff.1 hc
 have:=(hl.cells _ h1).pins.few
 rw [h2]at this;omega
theorem LI.last{l:Ay}{d:AV}{x:Aq}(v:LI l d x)(hl:QR l):0<=Ka x∧Ka x<d.Nets.length:=by
 have:=v.long hl
 have:=v.nets (x.Nets.length-1) (by omega)
 unfold Ka;omega
theorem JF{α:Type}{xs:List α}(nm:α->ByteArray){L:Nat->List ByteArray->Int->Option Bool}{k:List ByteArray->Option Bool}(hl:xs.length<=1048576)
 (hs:∀(m i:Nat) (h:i<xs.length) (s:List ByteArray),L (m+1) s (i:Int)=Option.bind (CA s [nm xs[i]] 16) fun z=>L m z ((i+1:Nat):Int))
 (he:∀(m:Nat) (s:List ByteArray),L (m+1) s (xs.length:Int)=k s) (m:Nat) (hm:xs.length<m):L m [] 0=k (xs.map nm):=by
 refine loop (L:=fun m i s=>L m s i) xs.length (fun i s=>s=(xs.take i).map nm) (fun o=>o=k (xs.map nm)) ?_ ?_ m 0 [] (by omega) (by omega) (by simp)
 ·intro m i s hi e
  refine .inl ⟨s++[nm xs[i]],?_,?_⟩
  ·rw [e,List.take_succ_eq_append_getElem hi,List.map_append];rfl
  ·have:s.length=i:=by rw [e];simp;omega
   show L (m+1) s (i:Int)=_
   rw [hs m i hi,BN (by simp;omega) (by omega),As]
 ·intro m s e
  rw [List.take_length]at e
  show L (m+1) s (xs.length:Int)=_
  rw [he,e]
def TS(N B:Nat)(t:List Int):Prop:=t.length=N∧∀j,0<=gd t j∧gd t j<=B
theorem TS.bump{N B:Nat}{t:List Int}{q:Int}(h:TS N B t)(h0:0<=q)(h1:q<N):TS N (B+1) (IE t q):=by
 refine⟨by unfold IE;simpa using h.1,fun j=>?_⟩
 unfold IE
 rw [OK (by have:=h.1;omega)]
 have:=h.2 j;have:=h.2 q.toNat
 split<;>omega
theorem TS.up{N B:Nat}{t:List Int}(h:TS N B t):TS N (B+1) t:=⟨h.1,fun j=>by have:=h.2 j;omega⟩
theorem TS.step{N B:Nat}{t:List Int}{q:Int}(h:TS N B t)(h0:0<=q)(h1:q<N)(hB:B<=1048576):AL t q=some (gd t q.toNat)∧t.set q.toNat (wrap .i64 (gd t q.toNat+1))=IE t q:=by
 refine⟨Si h0 (by rw [h.1];exact h1),?_⟩
 have:=h.2 q.toNat
 rw [Af (by omega) (by omega)];rfl
theorem LV{α σ:Type}{f:σ->α->σ}{xs:List α}{i:Nat}{s:σ}(h:i<xs.length):(xs.take (i+1)).foldl f s=f ((xs.take i).foldl f s) xs[i]:=by
 rw [List.take_succ_eq_append_getElem h,List.foldl_append];rfl
theorem tS{n:Nat}{l:Ay}{d:AV}(hl:QR l)(h:Vd d)(hn:1048577<=n):BW ((∀x∈d.Instances,LI l d x)∧∀p∈d.Ports,NF d p) (gT n l d):=by
 have hi0:=h.inst.1;have hp0:=h.ports.1;have hn0:=h.nets.1;have hl0:=hl.few
 have wN:wrap .i64 ((d.Nets.length:Int)-1)=(d.Nets.length:Int)-1:=Af (by omega) (by omega)
 have wL:wrap .i64 ((l.Cells.length:Int)-1)=(l.Cells.length:Int)-1:=Af (by omega) (by omega)
 rw [gT]
 refine(Ez (L:=fun m i=>Hu n l d _ m i) (Q:=∀p∈d.Ports,NF d p) d.Instances.length 0 (fun i=>∀(hi:i<d.Instances.length),LI l d d.Instances[i]) ?_ ?_ n 0 (by omega) (by omega) (by omega) (fun j _ h=>by omega)).iff ⟨fun a=>⟨fun x hx=>?_,a.2⟩,fun a=>⟨fun i _ _ hi=>a.1 _ (List.getElem_mem hi),a.2⟩⟩
 ·intro m i _ hi
  simp only [Hu.eq_2,DH hi,cT,AY hi,As,Fk,wL,wT i]
  by_cases c1:0<=d.Instances[i].Cell∧d.Instances[i].Cell<=(l.Cells.length:Int)-1
  ·obtain⟨c,ec,hc⟩:=Ei (xs:=l.Cells) c1.1 (by omega)
   have d1:(decide (d.Instances[i].Cell>=0)&&decide (d.Instances[i].Cell<=(l.Cells.length:Int)-1))=true:=by simp only [Bool.and_eq_true,decide_eq_true_eq];omega
   simp only [d1,Bool.not_true,cF,ec,As]
   by_cases c2:d.Instances[i].Nets.length=c.Pins.length
   ·have d2:((d.Instances[i].Nets.length:Int) !=(c.Pins.length:Int))=false:=by rw [bne_eq_false_iff_eq];omega
    simp only [d2,cF]
    have hnl:=(h.inst.2 _ (List.getElem_mem hi)).2
    have key:Jm n d d.Instances[i] (fun i75=>Hu n l d (fun i25=>Hp n d (fun i30=>some true) n 0) m ((i+1:Nat):Int)) n 0=cond (d.Instances[i].Nets.all (fun k=>decide (k>=0)&&decide (k<=(d.Nets.length:Int)-1))) (Hu n l d (fun i25=>Hp n d (fun i30=>some true) n 0) m ((i+1:Nat):Int)) (some false):=by
     refine OP (xs:=d.Instances[i].Nets) (L:=fun q j=>Jm n d d.Instances[i] (fun i75=>Hu n l d (fun i25=>Hp n d (fun i30=>some true) n 0) m ((i+1:Nat):Int)) q j) _ ?_ ?_ n (by omega)
     ·intro q j hj
      simp only [Jm.eq_2,DH hj,cT,AY hj,As,Fk,wN,wT j]
      cases(decide (d.Instances[i].Nets[j]>=0)&&decide (d.Instances[i].Nets[j]<=(d.Nets.length:Int)-1))<;>rfl
     ·intro q
      simp only [Jm.eq_2,DQ,cF]
    rw [key]
    cases ha:d.Instances[i].Nets.all (fun k=>decide (k>=0)&&decide (k<=(d.Nets.length:Int)-1))with
    |true=>
     rw [cT]
     exact .inl ⟨fun _=>⟨c1,fun c' e'=>(by rw [ec]at e';cases e';exact c2),OZ.1 ha⟩,rfl⟩
    |false=>
     rw [cF]
     exact .inr ⟨fun g=>(by have:=OZ.2 (g hi).nets;rw [ha]at this;cases this),rfl⟩
   ·have d2:((d.Instances[i].Nets.length:Int) !=(c.Pins.length:Int))=true:=by rw [bne_iff_ne];omega
    simp only [d2,cT]
    exact .inr ⟨fun g=>c2 ((g hi).pins c ec),by trivial⟩
  ·have d1:(decide (d.Instances[i].Cell>=0)&&decide (d.Instances[i].Cell<=(l.Cells.length:Int)-1))=false:=by rw [Bool.and_eq_false_iff,decide_eq_false_iff_not,decide_eq_false_iff_not];omega
   simp only [d1,Bool.not_false,cT,As]
   exact .inr ⟨fun g=>c1 (g hi).cell,by trivial⟩
 ·intro m i h1 h2 _
  obtain rfl:i=d.Instances.length:=by omega
  simp only [Hu.eq_2,DQ,cF]
  refine(Ez (L:=fun m i=>Hp n d _ m i) (Q:=True) d.Ports.length 0 (fun i=>∀(hi:i<d.Ports.length),NF d d.Ports[i]) ?_ ?_ n 0 (by omega) (by omega) (by omega) (fun j _ h=>by omega)).iff ⟨fun a p hp=>?_,fun a=>⟨fun i _ _ hi=>a _ (List.getElem_mem hi),trivial⟩⟩
  ·intro m i _ hi
   simp only [Hp.eq_2,DH hi,cT,AY hi,As,Fk,wN,EY,wT i]
   cases e1:(!(decide (d.Ports[i].Dir>=1)&&decide (d.Ports[i].Dir<=2))|| !(decide (d.Ports[i].Net>=0)&&decide (d.Ports[i].Net<=(d.Nets.length:Int)-1)))with
   |true=>
    rw [cT]
    refine .inr ⟨fun g=>?_,rfl⟩
    have:=(g hi).dir;have:=(g hi).net
    simp only [Bool.or_eq_true,Bool.not_eq_true',Bool.and_eq_false_iff,decide_eq_false_iff_not]at e1;omega
   |false=>
    rw [cF]
    simp only [Bool.or_eq_false_iff,Bool.not_eq_false',Bool.and_eq_true,decide_eq_true_eq]at e1
    exact .inl ⟨fun _=>⟨by omega,by omega⟩,rfl⟩
  ·intro m i h1 h2 _
   obtain rfl:i=d.Ports.length:=by omega
   simp only [Hp.eq_2,DQ,cF]
   exact DI trivial
  ·obtain⟨j,hj,rfl⟩:=List.getElem_of_mem hp
   exact a.1 j (by omega) hj hj
 ·obtain⟨j,hj,rfl⟩:=List.getElem_of_mem hx
  exact a.1 j (by omega) hj hj
theorem tE{n:Nat}{l:Ay}{d:AV}(h:Ry l)(hd:Vd d)(hn:1048577<=n):BW (Cu l d) (eK n l d):=by
 have hi0:=hd.inst.1;have hp0:=hd.ports.1;have hn0:=hd.nets.1
 rw [eK]
 refine(sF h hn).bind (fun vl=>?_) (fun vl=>?_)
 ·simp only [Bool.not_true,Bool.false_or]
  by_cases c:(d.Instances.length<=14∧d.Nets.length<=30)∧d.Ports.length<=8
  ·have e:(decide ((d.Instances.length:Int)>14)||decide ((d.Nets.length:Int)>30)||decide ((d.Ports.length:Int)>8))=false:=by simp only [Bool.or_eq_false_iff,decide_eq_false_iff_not];omega
   simp only [e,cF]
   obtain⟨b,eb,hb⟩:=tS (n:=n) vl hd hn
   rw [eb,As,As]
   cases b with
   |false=>
    simp only [Bool.not_false,cT]
    exact BS fun v=>by have:=hb.2 ⟨v.inst,v.port⟩;cases this
   |true=>
    obtain⟨v1,v2⟩:=hb.1 rfl
    simp only [Bool.not_true,cF]
    rw [JF (xs:=d.Instances) (·.Name) (L:=fun m s i=>Lf d _ m s i) (k:=fun s=>KN d _ n [] 0) hi0 (by
     intro m i hi s
     simp only [Lf.eq_2,DH hi,cT,AY hi,As,wT i]) (by
     intro m s
     simp only [Lf.eq_2,DQ,cF];rfl) n (by omega)]
    rw [JF (xs:=d.Ports) (·.Name) (L:=fun m s i=>KN d _ m s i) hp0 (by
     intro m i hi s
     simp only [KN.eq_2,DH hi,cT,AY hi,As,wT i]) (by
     intro m s
     simp only [KN.eq_2,DQ,cF];rfl) n (by omega)]
    obtain⟨b1,e1,h1⟩:=aD (n:=n) (xs:=d.Instances.map (·.Name)) (by simpa using hi0) (fun x hx=>by obtain⟨y,hy,rfl⟩:=List.mem_map.1 hx;exact(hd.inst.2 y hy).1) hn
    obtain⟨b2,e2,h2⟩:=aD (n:=n) (xs:=d.Ports.map (·.Name)) (by simpa using hp0) (fun x hx=>by obtain⟨y,hy,rfl⟩:=List.mem_map.1 hx;exact hd.ports.2 y hy) hn
    obtain⟨b3,e3,h3⟩:=aD (n:=n) (xs:=d.Nets) hn0 hd.nets.2 hn
    simp only [e1,e2,e3,As,EY]
    cases eb:((!b1|| !b2)|| !b3)with
    |true=>
     rw [cT]
     refine BS fun v=>?_
     have:=h1.2 v.ni;have:=h2.2 v.np;have:=h3.2 v.nn
     subst b1 b2 b3;cases eb
    |false=>
     rw [cF]
     simp only [Bool.or_eq_false_iff,Bool.not_eq_false']at eb
     obtain⟨⟨rfl,rfl⟩,rfl⟩:=eb
     rw [Fi (by omega) (by omega),As]
     have k1:=PF (xs:=d.Instances) (L:=fun m i s=>Lg d (fun i149 l151=>Hx d (fun i155 l157=>Gc l157 (fun i161=>some true) n 0) n 0 l151) m i s) (k:=fun s=>Hx d (fun i155 l157=>Gc l157 (fun i161=>some true) n 0) n 0 s) cI (fun i s=>TS d.Nets.length i s) (by
      intro m i hi s hs
      have hv:=v1 _ (List.getElem_mem hi)
      have hv2:=hv.long vl
      obtain⟨q0,q1⟩:=hv.last vl
      obtain⟨g1,g2⟩:=hs.step q0 q1 (by omega)
      have wx:wrap .i64 ((d.Instances[i].Nets.length:Int)-1)=((d.Instances[i].Nets.length-1:Nat):Int):=by rw [Af (by omega) (by omega)];omega
      refine⟨?_,hs.bump q0 q1⟩
      simp only [Lg.eq_2,DH hi,cT,AY hi,As,wx,gI (show d.Instances[i].Nets.length-1<d.Instances[i].Nets.length by omega),wT i]
      rw [show gd d.Instances[i].Nets (d.Instances[i].Nets.length-1)=Ka d.Instances[i]from rfl,g1,As,As,g2];rfl) (by
      intro m s _
      simp only [Lg.eq_2,DQ,cF]) n (List.replicate d.Nets.length 0) ⟨by simp,fun j=>by rw [OU];omega⟩ (by omega)
     rw [k1.1]
     have k2:=PF (xs:=d.Ports) (L:=fun m i s=>Hx d (fun i155 l157=>Gc l157 (fun i161=>some true) n 0) m i s) (k:=fun s=>Gc s (fun i161=>some true) n 0) cP (fun i s=>TS d.Nets.length (d.Instances.length+i) s) (by
      intro m i hi s hs
      have hv:=v2 _ (List.getElem_mem hi)
      obtain⟨g1,g2⟩:=hs.step hv.net.1 (by have:=hv.net.2;omega) (by omega)
      simp only [Hx.eq_2,DH hi,cT,AY hi,As,wT i,g1,g2]
      by_cases c:d.Ports[i].Dir=1
      ·have e:(d.Ports[i].Dir==1)=true:=beq_iff_eq.2 c
       have e':cP s d.Ports[i]=IE s d.Ports[i].Net:=if_pos c
       rw [e,cT,e']
       exact⟨rfl,hs.bump hv.net.1 (by have:=hv.net.2;omega)⟩
      ·have e:(d.Ports[i].Dir==1)=false:=beq_eq_false_iff_ne.2 c
       have e':cP s d.Ports[i]=s:=if_neg c
       rw [e,cF,e']
       exact⟨rfl,hs.up⟩) (by
      intro m s _
      simp only [Hx.eq_2,DQ,cF]) n _ k1.2 (by omega)
     rw [k2.1]
     show BW _ (Gc (drv d) (fun i161=>some true) n 0)
     have hlen:(drv d).length=d.Nets.length:=k2.2.1
     refine(Ez (L:=fun m i=>Gc (drv d) (fun i161=>some true) m i) (Q:=True) d.Nets.length 0 (fun i=>gd (drv d) i=1) ?_ ?_ n 0 (by omega) (by omega) (by omega) (fun j _ h=>by omega)).iff ⟨fun a=>⟨vl,⟨c.1.1,c.1.2,c.2⟩,v1,v2,h1.1 rfl,h2.1 rfl,h3.1 rfl,fun i hi=>a.1 i (by omega) hi⟩,fun v=>⟨fun i _ hi=>v.one i hi,trivial⟩⟩
     ·intro m i _ hi
      have hi':i<(drv d).length:=by omega
      simp only [Gc.eq_2,DH hi',cT,gI hi',As,wT i]
      by_cases c:gd (drv d) i=1
      ·have e:(gd (drv d) i !=1)=false:=bne_eq_false_iff_eq.2 c
       rw [e,cF];exact .inl ⟨c,rfl⟩
      ·have e:(gd (drv d) i !=1)=true:=bne_iff_ne.2 c
       rw [e,cT];exact .inr ⟨c,rfl⟩
     ·intro m i q1 q2 _
      obtain rfl:i=d.Nets.length:=by omega
      rw [←hlen]
      simp only [Gc.eq_2,DQ,cF]
      exact DI trivial
  ·have e:(decide ((d.Instances.length:Int)>14)||decide ((d.Nets.length:Int)>30)||decide ((d.Ports.length:Int)>8))=true:=by simp only [Bool.or_eq_true,decide_eq_true_eq];omega
   simp only [e,cT,As]
   exact BS fun v=>c ⟨⟨v.few.1,v.few.2.1⟩,v.few.2.2⟩
 ·simp only [Bool.not_false,Bool.true_or,cT,As]
  exact BS fun v=>vl v.lib
theorem tY{n:Nat}{d:AV}(hd:Vd d)(hn:1048577<=n):BW (((((d.Instances.length<=14∧d.Nets.length<=30)∧d.Ports.length<=8)∧GB (d.Instances.map (·.Name)))∧GB d.Nets)∧GB (d.Ports.map (·.Name))) (iB n d):=by
 have hi0:=hd.inst.1;have hp0:=hd.ports.1;have hn0:=hd.nets.1
 rw [iB]
 rw [JF (xs:=d.Instances) (·.Name) (L:=fun m s i=>Lr d _ m s i) (k:=fun s=>KZ d _ n [] 0) hi0 (by
  intro m i hi s
  simp only [Lr.eq_2,DH hi,cT,AY hi,As,wT i]) (by
  intro m s
  simp only [Lr.eq_2,DQ,cF];rfl) n (by omega)]
 rw [JF (xs:=d.Ports) (·.Name) (L:=fun m s i=>KZ d _ m s i) hp0 (by
  intro m i hi s
  simp only [KZ.eq_2,DH hi,cT,AY hi,As,wT i]) (by
  intro m s
  simp only [KZ.eq_2,DQ,cF];rfl) n (by omega)]
 simp only [Oa,List.length_map]
 refine BW.ab (BW.and (P:=(d.Instances.length<=14∧d.Nets.length<=30)∧d.Ports.length<=8) (Q:=GB (d.Instances.map fun x:Aq=>x.Name)) ?_ fun _=>AN (xs:=d.Instances.map fun x:Aq=>x.Name) (by simpa using hi0) (fun x hx=>by obtain⟨y,hy,rfl⟩:=List.mem_map.1 hx;exact(hd.inst.2 y hy).1) hn) fun c1 e1=>?_
 ·simp only [Bool.and_eq_true,decide_eq_true_eq];omega
 refine BW.ab (BW.and (Q:=GB d.Nets) e1 fun _=>AN hn0 hd.nets.2 hn) fun c2 e2=>?_
 exact BW.and (Q:=GB (d.Ports.map fun x:CJ=>x.Name)) e2 fun _=>AN (xs:=d.Ports.map fun x:CJ=>x.Name) (by simpa using hp0) (fun x hx=>by obtain⟨y,hy,rfl⟩:=List.mem_map.1 hx;exact hd.ports.2 y hy) hn
theorem nN{n:Nat}{d:AV}{q:Int}(hn0:d.Nets.length<=1048576):TZ n d q=some (decide (q>=0)&&decide (q<=(d.Nets.length:Int)-1)):=by
 have wN:wrap .i64 ((d.Nets.length:Int)-1)=(d.Nets.length:Int)-1:=Af (by omega) (by omega)
 simp only [TZ,Wz,IM,As,wN]
theorem kR{n:Nat}{l:Ay}{d:AV}{x:Aq}(hl:QR l)(hn0:d.Nets.length<=1048576)(hx:x.Nets.length<=1048576)(hn:1048577<=n):BW (LI l d x) (VG n d l x):=by
 have hl0:=hl.few
 have wL:wrap .i64 ((l.Cells.length:Int)-1)=(l.Cells.length:Int)-1:=Af (by omega) (by omega)
 rw [VG]
 simp only [YU,IM,As,wL,Oa]
 by_cases c1:0<=x.Cell∧x.Cell<=(l.Cells.length:Int)-1
 ·obtain⟨c,ec,hc⟩:=Ei (xs:=l.Cells) c1.1 (by omega)
  have d1:(decide (x.Cell>=0)&&decide (x.Cell<=(l.Cells.length:Int)-1))=true:=by simp only [Bool.and_eq_true,decide_eq_true_eq];omega
  simp only [d1,cT,ec,As]
  by_cases c2:x.Nets.length=c.Pins.length
  ·have d2:((x.Nets.length:Int)==(c.Pins.length:Int))=true:=by rw [beq_iff_eq];omega
   simp only [d2,cT,XG,XX]
   obtain⟨r,e,h⟩:=KY (xs:=x.Nets) (L:=fun m i=>JY n x.Nets d (fun i7=>(some (-1))) m i) (fun q=>!((decide (q>=0))&&(decide (q<=(d.Nets.length:Int)-1)))) (by
    intro m i hi
    simp only [JY.eq_2,DH hi,cT,AY hi,As,YR,nN hn0,wT i]) (by
    intro m
    simp only [JY.eq_2,DQ,cF]) n (by omega)
   simp only [e,As]
   refine(Bb (P:=XJ x.Nets 0 ((d.Nets.length:Int)-1)) ?_).iff ⟨fun w=>⟨c1,fun c' e'=>(by rw [ec]at e';cases e';exact c2),w⟩,fun v=>v.nets⟩
   rw [h,List.any_eq_not_all_not,Bool.not_not]
   simp only [Bool.not_not]
   exact OZ
  ·have d2:((x.Nets.length:Int)==(c.Pins.length:Int))=false:=by rw [beq_eq_false_iff_ne];omega
   simp only [d2,cF]
   exact BS fun v=>c2 (v.pins c ec)
 ·have d1:(decide (x.Cell>=0)&&decide (x.Cell<=(l.Cells.length:Int)-1))=false:=by rw [Bool.and_eq_false_iff,decide_eq_false_iff_not,decide_eq_false_iff_not];omega
  simp only [d1,cF,As]
  exact BS fun v=>c1 v.cell
theorem tH{n:Nat}{l:Ay}{d:AV}(h:Ry l)(hd:Vd d)(hn:1048577<=n):BW (Cu l d) (fK n l d):=by
 have hi0:=hd.inst.1;have hp0:=hd.ports.1;have hn0:=hd.nets.1
 rw [fK]
 refine(uS h hn).bind (fun vl=>?_) (fun vl=>?_)
 ·simp only [Bool.not_true,cF]
  obtain⟨b,eb,hb⟩:=tY (n:=n) hd hn
  rw [eb,As,As]
  cases b with
  |false=>
   simp only [Bool.not_false,cT]
   exact BS fun v=>by have:=hb.2 ⟨⟨⟨⟨⟨v.few.1,v.few.2.1⟩,v.few.2.2⟩,v.ni⟩,v.nn⟩,v.np⟩;cases this
  |true=>
   obtain⟨⟨⟨c,hni⟩,hnn⟩,hnp⟩:=hb.1 rfl
   simp only [Bool.not_true,cF]
   rw [Fi (by omega) (by omega),As]
   refine loop (L:=fun m i s=>LX n l d _ m i s) d.Instances.length (fun i s=>(s=(d.Instances.take i).foldl cI (List.replicate d.Nets.length 0)∧TS d.Nets.length i s)∧∀j (hj:j<d.Instances.length),j<i->LI l d d.Instances[j]) (fun o=>BW (Cu l d) o) ?_ ?_ n 0 _ (by omega) (by omega) ⟨⟨by simp,⟨by simp,fun j=>by rw [OU];omega⟩⟩,fun j _ h=>by omega⟩
   ·intro m i s hi ⟨⟨hs,hc⟩,hI⟩
    obtain⟨b,eb,hb⟩:=kR (n:=n) vl hn0 (hd.inst.2 _ (List.getElem_mem hi)).2 hn
    simp only [LX.eq_2,DH hi,cT,AY hi,As,eb,wT i]
    cases b with
    |false=>
     simp only [Bool.not_false,cT]
     exact .inr (BS fun v=>by have:=hb.2 (v.inst _ (List.getElem_mem hi));cases this)
    |true=>
     simp only [Bool.not_true,cF]
     have hv:=hb.1 rfl
     have hv2:=hv.long vl
     obtain⟨q0,q1⟩:=hv.last vl
     obtain⟨g1,g2⟩:=hc.step q0 q1 (by omega)
     have wx:wrap .i64 ((d.Instances[i].Nets.length:Int)-1)=((d.Instances[i].Nets.length-1:Nat):Int):=by rw [Af (by omega) (by omega)];omega
     refine .inl ⟨cI s d.Instances[i],⟨⟨by rw [LV hi,hs],hc.bump q0 q1⟩,fun j hj hji=>?_⟩,?_⟩
     ·by_cases ej:j=i
      ·subst ej;exact hv
      ·exact hI j hj (by omega)
     ·rw [wx,gI (show d.Instances[i].Nets.length-1<d.Instances[i].Nets.length by omega),show gd d.Instances[i].Nets (d.Instances[i].Nets.length-1)=Ka d.Instances[i]from rfl,As,g1,As,As,g2];rfl
   ·intro m s ⟨⟨hs,hc⟩,hI⟩
    rw [List.take_length]at hs
    have v1:∀x∈d.Instances,LI l d x:=fun x hx=>by obtain⟨j,hj,rfl⟩:=List.getElem_of_mem hx;exact hI j hj hj
    simp only [LX.eq_2,DQ,cF]
    refine loop (L:=fun m i s=>KO n d _ m i s) d.Ports.length (fun i s'=>(s'=(d.Ports.take i).foldl cP s∧TS d.Nets.length (d.Instances.length+i) s')∧∀j (hj:j<d.Ports.length),j<i->NF d d.Ports[j]) (fun o=>BW (Cu l d) o) ?_ ?_ n 0 _ (by omega) (by omega) ⟨⟨by simp,hc⟩,fun j _ h=>by omega⟩
    ·intro m i s' hi ⟨⟨hs',hc'⟩,hI'⟩
     simp only [KO.eq_2,DH hi,cT,AY hi,As,nN hn0,EY,wT i]
     cases e1:(((d.Ports[i].Dir !=1)&&(d.Ports[i].Dir !=2))|| !(decide (d.Ports[i].Net>=0)&&decide (d.Ports[i].Net<=(d.Nets.length:Int)-1)))with
     |true=>
      rw [cT]
      refine .inr (BS fun v=>?_)
      have g:=v.port _ (List.getElem_mem hi)
      have:=g.dir;have:=g.net
      simp only [Bool.or_eq_true,Bool.not_eq_true',Bool.and_eq_false_iff,Bool.and_eq_true,decide_eq_false_iff_not,bne_iff_ne,ne_eq]at e1;omega
     |false=>
      rw [cF]
      simp only [Bool.or_eq_false_iff,Bool.not_eq_false',Bool.and_eq_true,Bool.and_eq_false_iff,decide_eq_true_eq,bne_eq_false_iff_eq]at e1
      have hv:NF d d.Ports[i]:=⟨e1.1,e1.2⟩
      obtain⟨g1,g2⟩:=hc'.step hv.net.1 (by have:=hv.net.2;omega) (by omega)
      have hV:∀j (hj:j<d.Ports.length),j<i+1->NF d d.Ports[j]:=fun j hj hji=>by
       by_cases ej:j=i
       ·subst ej;exact hv
       ·exact hI' j hj (by omega)
      simp only [g1,g2,As]
      by_cases c:d.Ports[i].Dir=1
      ·have e:(d.Ports[i].Dir==1)=true:=beq_iff_eq.2 c
       have e':cP s' d.Ports[i]=IE s' d.Ports[i].Net:=if_pos c
       rw [e,cT]
       exact .inl ⟨_,⟨⟨by rw [LV hi,←hs',e'],hc'.bump hv.net.1 (by have:=hv.net.2;omega)⟩,hV⟩,rfl⟩
      ·have e:(d.Ports[i].Dir==1)=false:=beq_eq_false_iff_ne.2 c
       have e':cP s' d.Ports[i]=s':=if_neg c
       rw [e,cF]
       exact .inl ⟨_,⟨⟨by rw [LV hi,←hs',e'],hc'.up⟩,hV⟩,rfl⟩
    ·intro m s' ⟨⟨hs',hc'⟩,hI'⟩
     rw [List.take_length,hs]at hs'
     have hs':s'=drv d:=hs'
     have v2:∀p∈d.Ports,NF d p:=fun x hx=>by obtain⟨j,hj,rfl⟩:=List.getElem_of_mem hx;exact hI' j hj hj
     simp only [KO.eq_2,DQ,cF,Xe,Xl]
     have hl':=hc'.1
     obtain⟨r,e,h⟩:=KY (xs:=s') (L:=fun m i=>JV n s' (fun i7=>(some (-1))) m i) (fun q=>q !=1) (by
      intro m i hi
      simp only [JV.eq_2,DH hi,cT,AY hi,As,YG,wT i]) (by
      intro m
      simp only [JV.eq_2,DQ,cF]) n (by omega)
     simp only [e,As]
     refine Bb ?_
     rw [h,Bool.not_eq_true',List.any_eq_false]
     refine⟨fun a=>⟨vl,⟨c.1.1,c.1.2,c.2⟩,v1,v2,hni,hnp,hnn,fun i hi=>?_⟩,fun v x hx=>?_⟩
     ·have:=a s'[i] (List.getElem_mem (by omega))
      rw [←hs',Mj (List.getElem?_eq_getElem (show i<s'.length by omega))]
      simpa using this
     ·obtain⟨j,hj,rfl⟩:=List.getElem_of_mem hx
      have:=v.one j (by omega)
      rw [←hs',Mj (List.getElem?_eq_getElem hj)]at this
      simp [this]
 ·simp only [Bool.not_false,cT,As]
  exact BS fun v=>vl v.lib
def Eh{α β:Type}(g:Nat->α->List β):Nat->List α->List β
 |_,[]=>[]
 |i,x::xs=>g i x++Eh g (i+1) xs
theorem Ld{α β:Type}{g:Nat->α->List β}:∀(xs ys:List α) (i:Nat),Eh g i (xs++ys)=Eh g i xs++Eh g (i+xs.length) ys
 |[],ys,i=>by simp [Eh]
 |x::xs,ys,i=>by simp only [List.cons_append,Eh,Ld xs ys (i+1),List.append_assoc,List.length_cons];rw [show i+1+xs.length=i+(xs.length+1) by omega]
theorem Vw{α β:Type}{g:Nat->α->List β}{xs:List α}{i:Nat}(h:i<xs.length):Eh g 0 (xs.take (i+1))=Eh g 0 (xs.take i)++g i xs[i]:=by
 rw [List.take_succ_eq_append_getElem h,Ld]
 simp [Eh,Nat.min_eq_left (Nat.le_of_lt h)]
theorem EG{α β:Type}{g:Nat->α->List β}{c:Nat}:∀(xs:List α) (i:Nat),(∀j,∀x∈xs,(g j x).length<=c)->(Eh g i xs).length<=xs.length*c
 |[],i,_=>by simp [Eh]
 |x::xs,i,h=>by
  have h1:=h i x (by simp)
  have h2:=EG xs (i+1) fun j y hy=>h j y (by simp [hy])
  simp only [Eh,List.length_append,List.length_cons,Nat.add_mul];omega
theorem Pg{α β γ:Type}{g:Nat->α->List β}(f:β->γ):∀(xs:List α) (i:Nat),(Eh g i xs).map f=Eh (fun i x=>(g i x).map f) i xs
 |[],i=>rfl
 |x::xs,i=>by simp only [Eh,List.map_append,Pg f xs (i+1)]
theorem DW{α β R:Type}{xs:List α}{L:Nat->List β->Int->Option R}{k:List β->Option R}(g:Nat->α->List β)(c B:Nat)(hg:∀j,∀x∈xs,(g j x).length<=c)(hB:B+xs.length*c<=1048576)
 (hs:∀(m i:Nat) (h:i<xs.length) (s:List β),s.length+c<=1048576->L (m+1) s (i:Int)=L m (s++g i xs[i]) ((i+1:Nat):Int))
 (he:∀(m:Nat) (s:List β),L (m+1) s (xs.length:Int)=k s) (m:Nat) (hm:xs.length<m) (s0:List β) (h0:s0.length<=B):L m s0 0=k (s0++Eh g 0 xs):=by
 refine loop (L:=fun m i s=>L m s i) xs.length (fun i s=>s=s0++Eh g 0 (xs.take i)) (fun o=>o=k (s0++Eh g 0 xs)) ?_ ?_ m 0 s0 (by omega) (by omega) (by simp [Eh])
 ·intro m i s hi e
  refine .inl ⟨s++g i xs[i],?_,hs m i hi s ?_⟩
  ·rw [e,Vw hi,List.append_assoc]
  ·have h1:=EG (g:=g) (c:=c) (xs.take i) 0 fun j y hy=>hg j y (List.mem_of_mem_take hy)
   have h2:(xs.take i).length=i:=by simp;omega
   rw [h2]at h1
   have h3:(i+1)*c<=xs.length*c:=Nat.mul_le_mul_right c hi
   rw [Nat.add_mul]at h3
   rw [e,List.length_append];omega
 ·intro m s e
  rw [List.take_length]at e
  show L (m+1) s (xs.length:Int)=_
  rw [he,e]
def NI(i:Nat)(x:Aq):List Az:=Eh (fun j q=>[Az.mk i j q ((j:Int)==(x.Nets.length:Int)-1)]) 0 x.Nets
def Te(i:Nat)(p:CJ):List Az:=[Az.mk (-1) i p.Net (p.Dir==1)]
def pls(d:AV):List Az:=Eh NI 0 d.Instances++Eh Te 0 d.Ports
def GZ(p:Az):BH:=⟨p.instance_,p.pin_,p.net_,p.drives_⟩
theorem NU{i:Nat}{x:Aq}(h:x.Nets.length<=5):(NI i x).length<=5:=by
 have:=EG (c:=1) (g:=fun j q=>[Az.mk i j q ((j:Int)==(x.Nets.length:Int)-1)]) x.Nets 0 fun j q _=>by simp
 unfold NI;omega
theorem CS{d:AV}(h:∀x∈d.Instances,x.Nets.length<=5)(h1:d.Instances.length<=14)(h2:d.Ports.length<=8):(pls d).length<=78:=by
 have a:=EG (c:=5) (g:=NI) d.Instances 0 fun j q hq=>NU (h q hq)
 have b:=EG (c:=1) (g:=Te) d.Ports 0 fun j q _=>by simp [Te]
 unfold pls;rw [List.length_append];omega
theorem Tu{n:Nat}{d:AV}(h:∀x∈d.Instances,x.Nets.length<=5)(h1:d.Instances.length<=14)(h2:d.Ports.length<=8)(hn:1048577<=n):XE n d=some (pls d):=by
 rw [XE]
 have a:=EG (c:=5) (g:=NI) d.Instances 0 fun j q hq=>NU (h q hq)
 rw [DW (xs:=d.Instances) (L:=fun m s i=>Ki n d _ m s i) (k:=fun s=>Jv d _ n s 0) NI 5 0 (fun j q hq=>NU (h q hq)) (by omega) (by
  intro m i hi s hs
  have hx:=h _ (List.getElem_mem hi)
  have wx:wrap .i64 ((d.Instances[i].Nets.length:Int)-1)=(d.Instances[i].Nets.length:Int)-1:=Af (by omega) (by omega)
  simp only [Ki.eq_2,DH hi,cT,AY hi,As,wT i]
  refine DW (xs:=d.Instances[i].Nets) (L:=fun m s j=>Lq (i:Int) d.Instances[i] _ m s j) (k:=fun s=>Ki n d _ m s ((i+1:Nat):Int)) (fun j q=>[Az.mk i j q ((j:Int)==(d.Instances[i].Nets.length:Int)-1)]) 1 s.length (fun j q _=>by simp) (by omega) ?_ ?_ n (by omega) s (by omega)
  ·intro m j hj s hs
   simp only [Lq.eq_2,DH hj,cT,AY hj,As,wx,wT j]
   rw [BN (by simp;omega) (by omega),As]
  ·intro m s
   simp only [Lq.eq_2,DQ,cF]) (by
  intro m s
  simp only [Ki.eq_2,DQ,cF];rfl) n (by omega) [] (by simp)]
 rw [DW (xs:=d.Ports) (L:=fun m s i=>Jv d _ m s i) (k:=fun s=>some s) Te 1 70 (fun j q _=>by simp [Te]) (by omega) (by
  intro m i hi s hs
  simp only [Jv.eq_2,DH hi,cT,AY hi,As,wT i]
  rw [BN (by simp;omega) (by omega),As];rfl) (by
  intro m s
  simp only [Jv.eq_2,DQ,cF]) n (by omega) _ (by simp;omega)]
 simp [pls]
theorem NM{n:Nat}{d:AV}(h:∀x∈d.Instances,x.Nets.length<=5)(h1:d.Instances.length<=14)(h2:d.Ports.length<=8)(hn:1048577<=n):Rg n d=some ((pls d).map GZ):=by
 rw [Rg]
 have hlI:∀j,∀x∈d.Instances,((NI j x).map GZ).length<=5:=fun j x hx=>by rw [List.length_map];exact NU (h x hx)
 have a:=EG (c:=5) (g:=fun i x=>(NI i x).map GZ) d.Instances 0 hlI
 rw [DW (xs:=d.Instances) (L:=fun m s i=>KC n d _ m s i) (k:=fun s=>Jl d _ n s 0) (fun i x=>(NI i x).map GZ) 5 0 hlI (by omega) (by
  intro m i hi s hs
  have hx:=h _ (List.getElem_mem hi)
  have wx:wrap .i64 ((d.Instances[i].Nets.length:Int)-1)=(d.Instances[i].Nets.length:Int)-1:=Af (by omega) (by omega)
  simp only [KC.eq_2,DH hi,cT,AY hi,As,wT i]
  rw [NI,Pg]
  refine DW (xs:=d.Instances[i].Nets) (L:=fun m s j=>Lv (i:Int) d.Instances[i] _ m s j) (k:=fun s=>KC n d _ m s ((i+1:Nat):Int)) (fun j q=>[Az.mk i j q ((j:Int)==(d.Instances[i].Nets.length:Int)-1)].map GZ) 1 s.length (fun j q _=>by simp) (by omega) ?_ ?_ n (by omega) s (by omega)
  ·intro m j hj s hs
   simp only [Lv.eq_2,DH hj,cT,AY hj,As,wx,wT j]
   rw [BN (by simp;omega) (by omega),As];rfl
  ·intro m s
   simp only [Lv.eq_2,DQ,cF]) (by
  intro m s
  simp only [KC.eq_2,DQ,cF];rfl) n (by omega) [] (by simp)]
 rw [DW (xs:=d.Ports) (L:=fun m s i=>Jl d _ m s i) (k:=fun s=>some s) (fun i x=>(Te i x).map GZ) 1 70 (fun j q _=>by simp [Te]) (by omega) (by
  intro m i hi s hs
  simp only [Jl.eq_2,DH hi,cT,AY hi,As,wT i]
  rw [BN (by simp;omega) (by omega),As];rfl) (by
  intro m s
  simp only [Jl.eq_2,DQ,cF]) n (by omega) _ (by simp;omega)]
 simp [pls,Pg]
def Gj(q:Int)(p:Az):Bool:=p.net_==q&& !p.drives_
def snk(d:AV)(q:Int):Nat:=(pls d).countP (Gj q)
structure By(b:AI):Prop where
 design:Cu b.Library b.Design
 many:b.Wires.length=b.Design.Nets.length
 wire:∀i (h:i<b.Wires.length),Qj b.Wires[i] (snk b.Design i)
def uU(w:BY):Prop:=((w.Parent.length<=1048576∧w.Res.length<=1048576)∧w.Cap.length<=1048576)∧w.Sink.length<=1048576
structure NO(b:AI):Prop where
 lib:Ry b.Library
 design:Vd b.Design
 wires:b.Wires.length<=1048576∧∀w∈b.Wires,uU w
theorem Cu.short{l:Ay}{d:AV}(v:Cu l d):∀x∈d.Instances,x.Nets.length<=5:=fun x hx=>((v.inst x hx).long v.lib).2
theorem DX{α β:Type}{g:Nat->α->List β}{Q:β->Prop}:∀(xs:List α) (i:Nat),(∀j (h:j<xs.length),∀y∈g (i+j) xs[j],Q y)->∀y∈Eh g i xs,Q y
 |[],i,_,y,hy=>by simp [Eh]at hy
 |x::xs,i,h,y,hy=>by
  simp only [Eh,List.mem_append]at hy
  rcases hy with hy|hy
  ·exact h 0 (by simp) y (by simpa using hy)
  ·refine DX xs (i+1) (fun j hj y hy=>h (j+1) (by simpa using hj) y ?_) y hy
   simpa [show i+1+j=i+(j+1) by omega] using hy
theorem Cu.net{l:Ay}{d:AV}(v:Cu l d):∀p∈pls d,0<=p.net_∧p.net_<d.Nets.length:=by
 intro p hp
 simp only [pls,List.mem_append]at hp
 rcases hp with hp|hp
 ·refine DX (Q:=fun p:Az=>0<=p.net_∧p.net_<d.Nets.length) d.Instances 0 (fun j hj y hy=>?_) p hp
  refine DX (Q:=fun p:Az=>0<=p.net_∧p.net_<d.Nets.length) _ 0 (fun k hk z hz=>?_) y hy
  have:=(v.inst _ (List.getElem_mem hj)).nets k hk
  rw [Mj (List.getElem?_eq_getElem hk)]at this
  simp only [List.mem_singleton]at hz
  subst hz;show 0<=d.Instances[j].Nets[k]∧d.Instances[j].Nets[k]<_;omega
 ·refine DX (Q:=fun p:Az=>0<=p.net_∧p.net_<d.Nets.length) d.Ports 0 (fun j hj y hy=>?_) p hp
  have:=(v.port _ (List.getElem_mem hj)).net
  simp only [Te,List.mem_singleton]at hy
  subst hy;show 0<=d.Ports[j].Net∧d.Ports[j].Net<_;omega
def Iw(d:AV)(q:Int):List Int:=Eh (fun i p=>if Gj q p=true then [(i:Int)]else []) 0 (pls d)
theorem GN{d:AV}{q:Int}:(Iw d q).length=snk d q:=by
 have:∀(xs:List Az) (i:Nat),(Eh (fun i p=>if Gj q p=true then [(i:Int)]else []) i xs).length=xs.countP (Gj q):=by
  intro xs
  induction xs with
  |nil=>intro i;rfl
  |cons x xs ih=>
   intro i
   simp only [Eh,List.length_append,ih,List.countP_cons]
   split<;>simp<;>omega
 exact this _ 0
theorem aR{n:Nat}{l:Ay}{d:AV}(v:Cu l d)(q:Int)(hn:1048577<=n):Wx n d q=some (Iw d q):=by
 rw [Wx,NM v.short v.few.1 v.few.2.2 hn,As]
 have hl:=CS v.short v.few.1 v.few.2.2
 have e:((pls d).map GZ).length=(pls d).length:=by simp
 have:=DW (xs:=(pls d).map GZ) (L:=fun m s i=>HK q ((pls d).map GZ) (fun l38 i42=>some l38) m s i) (k:=fun s=>some s) (fun i p=>if (p.net_==q&& !p.drives_)=true then [(i:Int)]else []) 1 0 (fun j p _=>by split<;>simp) (by omega) (by
  intro m i hi s hs
  simp only [HK.eq_2,DH hi,cT,AY hi,As,Bn,wT i]
  cases c:(((pls d).map GZ)[i].net_==q&& !((pls d).map GZ)[i].drives_)with
  |true=>rw [cT,if_pos rfl,BN (by simp;omega) (by omega),As]
  |false=>rw [cF,if_neg (by simp),List.append_nil]) (by
  intro m s
  simp only [HK.eq_2,DQ,cF]) n (by omega) [] (by simp)
 rw [this,List.nil_append]
 congr 1
 have:∀(xs:List Az) (i:Nat),Eh (fun i (p:BH)=>if (p.net_==q&& !p.drives_)=true then [(i:Int)]else []) i (xs.map GZ)=Eh (fun i p=>if Gj q p=true then [(i:Int)]else []) i xs:=by
  intro xs
  induction xs with
  |nil=>intro i;rfl
  |cons x xs ih=>intro i;simp only [List.map_cons,Eh,ih];rfl
 exact this _ 0
theorem ZD{n:Nat}{b:AI}(h:NO b)(hn:1048577<=n):BW (By b) (TU n b):=by
 have hw0:=h.wires.1
 rw [TU]
 refine(tE h.lib h.design hn).bind (fun v=>?_) (fun v=>?_)
 ·simp only [Bool.not_true,Bool.false_or]
  refine Fu (fun c=>BS fun g=>?_) (fun c=>?_)
  ·have:=g.many;rw [bne_iff_ne]at c;omega
  ·rw [bne_eq_false_iff_eq]at c
   refine(Ez (L:=fun m i=>LY n b _ m i) (Q:=True) b.Wires.length 0 (fun i=>∀(hi:i<b.Wires.length),Qj b.Wires[i] (snk b.Design i)) ?_ ?_ n 0 (by omega) (by omega) (by omega) (fun j _ h=>by omega)).iff ⟨fun a=>⟨v,by omega,fun i hi=>a.1 i (by omega) hi hi⟩,fun a=>⟨fun i _ _ hi=>a.wire i hi,trivial⟩⟩
   ·intro m i _ hi
    obtain⟨r,e,hr⟩:=sV (n:=n) (w:=b.Wires[i]) (s:=(snk b.Design i:Int)) (h.wires.2 _ (List.getElem_mem hi)).2 hn
    simp only [LY.eq_2,DH hi,cT,AY hi,As,aR v _ hn,GN,e,wT i]
    cases r with
    |true=>exact .inl ⟨fun _=>hr.1 rfl,by trivial⟩
    |false=>exact .inr ⟨fun g=>(by have:=hr.2 (g hi);cases this),by trivial⟩
   ·intro m i h1 h2 _
    obtain rfl:i=b.Wires.length:=by omega
    simp only [LY.eq_2,DQ,cF]
    exact DI trivial
 ·simp only [Bool.not_false,Bool.true_or,cT]
  exact BS fun g=>v g.design
theorem sC{n:Nat}{b:AI}(h:NO b)(hn:1048577<=n):BW (By b) (Vo n b):=by
 have hw0:=h.wires.1
 rw [Vo]
 refine(tH h.lib h.design hn).bind (fun v=>?_) (fun v=>?_)
 ·simp only [Bool.not_true,Bool.false_or]
  refine Fu (fun c=>BS fun g=>?_) (fun c=>?_)
  ·have:=g.many;rw [bne_iff_ne]at c;omega
  ·rw [bne_eq_false_iff_eq]at c
   have hl:=CS v.short v.few.1 v.few.2.2
   rw [Fi (by omega) (by omega),As,Tu v.short v.few.1 v.few.2.2 hn,As]
   refine loop (L:=fun m i s=>Hc (pls b.Design) _ m i s) (pls b.Design).length (fun i s=>TS b.Wires.length i s∧∀q:Nat,q<b.Wires.length->gd s q=((pls b.Design).take i).countP (Gj q)) (fun o=>BW (By b) o) ?_ ?_ n 0 _ (by omega) (by omega) ⟨⟨by simp,fun j=>by rw [OU];omega⟩,fun q _=>by rw [OU];simp⟩
   ·intro m i s hi ⟨hc,hs⟩
    have hp:=v.net _ (List.getElem_mem hi)
    obtain⟨g1,g2⟩:=hc.step hp.1 (by omega) (by omega)
    simp only [Hc.eq_2,DH hi,cT,AY hi,As,g1,g2,wT i]
    cases hd:(pls b.Design)[i].drives_ with
    |true=>
     simp only [Bool.not_true,cF]
     refine .inl ⟨s,⟨hc.up,fun q hq=>?_⟩,rfl⟩
     rw [hs q hq,List.take_succ_eq_append_getElem hi,List.countP_append]
     simp [Gj,hd]
    |false=>
     simp only [Bool.not_false,cT]
     refine .inl ⟨_,⟨hc.bump hp.1 (by omega),fun q hq=>?_⟩,rfl⟩
     rw [List.take_succ_eq_append_getElem hi,List.countP_append]
     unfold IE
     rw [OK (by have:=hc.1;omega)]
     by_cases e:(pls b.Design)[i].net_.toNat=q
     ·have e2:(pls b.Design)[i].net_=(q:Int):=by omega
      rw [if_pos e,e,hs q hq]
      simp [Gj,hd,e2]
     ·have e2:¬(pls b.Design)[i].net_=(q:Int):=by omega
      rw [if_neg e,hs q hq]
      simp [Gj,hd,e2]
   ·intro m s ⟨hc,hs⟩
    simp only [Hc.eq_2,DQ,cF]
    refine(Ez (L:=fun m i=>If n b s _ m i) (Q:=True) b.Wires.length 0 (fun i=>∀(hi:i<b.Wires.length),Qj b.Wires[i] (snk b.Design i)) ?_ ?_ n 0 (by omega) (by omega) (by omega) (fun j _ h=>by omega)).iff ⟨fun a=>⟨v,by omega,fun i hi=>a.1 i (by omega) hi hi⟩,fun a=>⟨fun i _ _ hi=>a.wire i hi,trivial⟩⟩
    ·intro m i _ hi
     have hw:=h.wires.2 _ (List.getElem_mem hi)
     obtain⟨r,e,hr⟩:=tP (n:=n) (w:=b.Wires[i]) (s:=(snk b.Design i:Int)) hw.2 hw.1.1.2 hw.1.2 hw.1.1.1 hn
     have hg:gd s i=(snk b.Design i:Int):=by rw [hs i hi,List.take_length];rfl
     simp only [If.eq_2,DH hi,cT,AY hi,gI (show i<s.length by rw [hc.1];exact hi),hg,As,e,wT i]
     cases r with
     |true=>exact .inl ⟨fun _=>hr.1 rfl,by trivial⟩
     |false=>exact .inr ⟨fun g=>(by have:=hr.2 (g hi);cases this),by trivial⟩
    ·intro m i h1 h2 _
     obtain rfl:i=b.Wires.length:=by omega
     simp only [If.eq_2,DQ,cF]
     exact DI trivial
 ·simp only [Bool.not_false,Bool.true_or,cT]
  exact BS fun g=>v g.design
theorem GR{σ R:Type}{Q:R->Prop}{L:Nat->Int->σ->Option R}(N:Nat)(I:Nat->σ->Prop)
 (hs:∀(m i:Nat) (st:σ),i<N->I i st->∃st',I (i+1) st'∧L (m+1) (i:Int) st=L m ((i+1:Nat):Int) st')
 (he:∀(m:Nat) (st:σ),I N st->BK Q (L (m+1) (N:Int) st)) (m:Nat) (st:σ) (hm:N<m) (h:I 0 st):BK Q (L m 0 st):=
 loop N I (BK Q) (fun m i st a b=>.inl (hs m i st a b)) he m 0 st (by omega) (by omega) h
theorem Oq{σ R:Type}{Q:R->Prop}{L:Nat->Int->σ->Option R}(s N:Nat)(I:Nat->σ->Prop)
 (hs:∀(m i:Nat) (st:σ),s<=i->i<N->I i st->∃st',I (i+1) st'∧L (m+1) (i:Int) st=L m ((i+1:Nat):Int) st')
 (he:∀(m:Nat) (st:σ),I N st->BK Q (L (m+1) (N:Int) st)) (m:Nat) (st:σ) (hsN:s<=N) (hm:N<m) (h:I s st):BK Q (L m (s:Int) st):=
 loop N (fun i st=>s<=i∧I i st) (BK Q) (fun m i st a b=>by
  obtain⟨st',h1,h2⟩:=hs m i st b.1 a b.2
  exact .inl ⟨st',⟨by have:=b.1;omega,h1⟩,h2⟩) (fun m st h=>he m st h.2) m s st hsN (by omega) ⟨Nat.le_refl _,h⟩
theorem oH{n:Nat}{l:Ay}{d:AV}(v:Cu l d)(q:Int)(hn:1048577<=n):Vm n d q=some (Iw d q):=by
 rw [Vm,Tu v.short v.few.1 v.few.2.2 hn,As]
 have hl:=CS v.short v.few.1 v.few.2.2
 have:=DW (xs:=pls d) (L:=fun m s i=>HX q (pls d) (fun l29 i33=>some l29) m s i) (k:=fun s=>some s) (fun i p=>if Gj q p=true then [(i:Int)]else []) 1 0 (fun j p _=>by split<;>simp) (by omega) (by
  intro m i hi s hs
  simp only [HX.eq_2,DH hi,cT,AY hi,As,wT i]
  rw [show((pls d)[i].net_==q&& !(pls d)[i].drives_)=Gj q (pls d)[i]from rfl]
  cases c:Gj q (pls d)[i]with
  |true=>rw [cT,if_pos rfl,BN (by simp;omega) (by omega),As]
  |false=>rw [cF,if_neg (by simp),List.append_nil]) (by
  intro m s
  simp only [HX.eq_2,DQ,cF]) n (by omega) [] (by simp)
 rw [this,List.nil_append];rfl
theorem MU{d:AV}{q:Int}:∀x∈Iw d q,0<=x∧x<(pls d).length:=by
 refine DX (Q:=fun x:Int=>0<=x∧x<(pls d).length) _ 0 fun j hj y hy=>?_
 split at hy
 ·simp only [Nat.zero_add,List.mem_singleton]at hy;omega
 ·cases hy
theorem Cu.place{l:Ay}{d:AV}(v:Cu l d):∀p∈pls d,0<=p.instance_->∃x c pin,AL d.Instances p.instance_=some x∧AL l.Cells x.Cell=some c∧AL c.Pins p.pin_=some pin:=by
 intro p hp
 simp only [pls,List.mem_append]at hp
 rcases hp with hp|hp
 ·refine DX (Q:=fun p:Az=>0<=p.instance_->∃x c pin,AL d.Instances p.instance_=some x∧AL l.Cells x.Cell=some c∧AL c.Pins p.pin_=some pin) d.Instances 0 (fun j hj y hy=>?_) p hp
  refine DX (Q:=fun p:Az=>0<=p.instance_->∃x c pin,AL d.Instances p.instance_=some x∧AL l.Cells x.Cell=some c∧AL c.Pins p.pin_=some pin) _ 0 (fun k hk z hz=>?_) y hy
  have vi:=v.inst _ (List.getElem_mem hj)
  simp only [Nat.zero_add,List.mem_singleton]at hz
  subst hz
  intro _
  obtain⟨c,ec,_⟩:=Ei (xs:=l.Cells) vi.cell.1 (by have:=vi.cell.2;omega)
  have hc:=vi.pins c ec
  exact⟨_,c,_,AY hj,ec,AY (show k<c.Pins.length by omega)⟩
 ·refine DX (Q:=fun p:Az=>0<=p.instance_->∃x c pin,AL d.Instances p.instance_=some x∧AL l.Cells x.Cell=some c∧AL c.Pins p.pin_=some pin) d.Ports 0 (fun j hj y hy=>?_) p hp
  simp only [Te,List.mem_singleton]at hy
  subst hy;intro h;exact absurd h (by show¬(0:Int)<= -1;decide)
theorem mH{n:Nat}{l:Ay}{d:AV}(v:Cu l d){p:Az}(hp:p∈pls d):∃r,Uy n d l p=some r:=by
 rw [Uy]
 by_cases c:p.instance_<0
 ·rw [decide_eq_true c,cT];exact⟨_,rfl⟩
 ·obtain⟨x,c',pin,e1,e2,e3⟩:=v.place p hp (by omega)
  rw [decide_eq_false c,cF,e1,As,e2,As,e3,As];exact⟨_,rfl⟩
theorem El{t:List Int}{i:Int}(h0:0<=i)(h1:i<t.length):∃x,AL t i=some x:=⟨_,Si h0 h1⟩
theorem rJ{n:Nat}{b:AI}(v:By b){i:Nat}(hi:i<b.Wires.length)(hn:1048577<=n):BK (fun r=>r.length=b.Wires[i].Parent.length) (cR n b (i:Int)):=by
 have vd:=v.design
 have vw:=v.wire i hi
 have hm:=vw.many
 have hP:=vw.cap
 have hl:=CS vd.short vd.few.1 vd.few.2.2
 rw [cR,AY hi,As,XP,BN (by simp;omega) (by omega),As,As,Tu vd.short vd.few.1 vd.few.2.2 hn,As,oH vd _ hn,As,List.nil_append]
 have hsl:(Iw b.Design (i:Int)).length=b.Wires[i].Sink.length:=by rw [GN];have:=vw.sink;omega
 have hsn:snk b.Design (i:Int)<=78:=Nat.le_trans List.countP_le_length hl
 have hsn2:=GN (d:=b.Design) (q:=(i:Int))
 refine GR (L:=fun m j s=>Ly n b b.Wires[i] (pls b.Design) (Iw b.Design (i:Int)) _ m j s) (Iw b.Design (i:Int)).length (fun _ s=>s.length=b.Wires[i].Parent.length) ?_ ?_ n _ (by omega) hP
 ·intro m j s hj hs
  have hj2:j<b.Wires[i].Sink.length:=by omega
  have hk:=vw.sinks j hj2
  have hq:=MU _ (List.getElem_mem hj)
  obtain⟨a,ea⟩:=El (t:=s) hk.1 (by omega)
  obtain⟨p,ep,hp⟩:=Ei (xs:=pls b.Design) hq.1 hq.2
  obtain⟨r,er⟩:=mH (n:=n) vd (List.mem_of_getElem? hp)
  simp only [Ly.eq_2,DH hj,cT,AY hj,gI hj2,As,ea,ep,er,wT j]
  exact⟨_,by simpa using hs,rfl⟩
 ·intro m s hs
  simp only [Ly.eq_2,DQ,cF]
  have wx:wrap .i64 ((s.length:Int)-1)=((s.length-1:Nat):Int):=by rw [Af (by omega) (by omega)];omega
  rw [wx]
  have key:∀(m k:Nat) (s:List Int),k<b.Wires[i].Parent.length->s.length=b.Wires[i].Parent.length->k<m->BK (fun r:List Int=>r.length=b.Wires[i].Parent.length) (Lc b.Wires[i] (fun i91 l93=>some l93) m (k:Int) s):=by
   intro m
   induction m with
   |zero=>intro k s _ _ h;omega
   |succ m ih=>
    intro k s hk hs hm
    by_cases c:0<k
    ·have hd:decide ((k:Int)>0)=true:=decide_eq_true (by omega)
     have ht:=vw.tree k c hk
     obtain⟨a,ea⟩:=El (t:=s) ht.1 (by omega)
     have wk:wrap .i64 ((k:Int)-1)=((k-1:Nat):Int):=by rw [Af (by omega) (by omega)];omega
     simp only [Lc.eq_2,hd,cT,gI hk,As,ea,gI (show k<s.length by omega),wk]
     exact ih (k-1) _ (by omega) (by simpa using hs) (by omega)
    ·have hd:decide ((k:Int)>0)=false:=decide_eq_false (by omega)
     simp only [Lc.eq_2,hd,cF]
     exact⟨s,rfl,hs⟩
  exact key n (s.length-1) s (by omega) hs (by omega)
theorem uF{n:Nat}{b:AI}(v:By b){i:Nat}(hi:i<b.Wires.length)(hn:1048577<=n):BK (fun r=>r.length=b.Wires[i].Parent.length) (VW n b (i:Int)):=by
 have vw:=v.wire i hi
 have hm:=vw.many
 have hR:=vw.res
 rw [VW,AY hi,As]
 refine(rJ v hi hn).bind fun r e hr=>?_
 rw [Fi (by omega) (by omega),As]
 refine Oq (L:=fun m j s=>JX b.Wires[i] r _ m j s) 1 b.Wires[i].Parent.length (fun _ s=>s.length=b.Wires[i].Parent.length) ?_ ?_ n _ (by omega) (by omega) (by simpa using hr)
 ·intro m j s h1 hj hs
  have ht:=vw.tree j (by omega) hj
  obtain⟨a,ea⟩:=El (t:=s) ht.1 (by omega)
  simp only [JX.eq_2,DH (show j<s.length by omega),cT,gI hj,gI (show j<b.Wires[i].Res.length by omega),gI (show j<r.length by omega),gI (show j<s.length by omega),As,ea,wT j]
  exact⟨_,by simpa using hs,rfl⟩
 ·intro m s hs
  rw [←hs]
  simp only [JX.eq_2,DQ,cF]
  exact⟨s,rfl,rfl⟩
theorem uG{n:Nat}{b:AI}(v:By b){i:Nat}(hi:i<b.Wires.length)(hn:1048577<=n):BK (fun _=>True) (Ue n b (i:Int)):=by
 have vw:=v.wire i hi
 have vd:=v.design
 have hl:=CS vd.short vd.few.1 vd.few.2.2
 have hsn:snk b.Design (i:Int)<=78:=Nat.le_trans List.countP_le_length hl
 have hsk:=vw.sink
 rw [Ue]
 refine(uF v hi hn).bind fun r e hr=>?_
 rw [AY hi,As]
 refine GR (L:=fun m j s=>Ih r b.Wires[i] _ m s j) b.Wires[i].Sink.length (fun j s=>s.length=j) ?_ ?_ n _ (by omega) rfl
 ·intro m j s hj hs
  have hk:=vw.sinks j hj
  obtain⟨a,ea⟩:=El (t:=r) hk.1 (by omega)
  refine⟨s++[a],by simp;omega,?_⟩
  simp only [Ih.eq_2,DH hj,cT,gI hj,As,ea,wT j]
  rw [BN (by simp;omega) (by omega),As]
 ·intro m s hs
  simp only [Ih.eq_2,DQ,cF]
  exact⟨s,rfl,trivial⟩
theorem tI{n:Nat}(a:Bg):BK (fun r:List Ca=>r.length<=4) (Up n a):=by
 rw [Up]
 repeat' refine Ap (fun _=>?_) (fun _=>?_)
 all_goals exact AP (by simp)
theorem tL{n:Nat}{b:AI}(v:By b){x:Aq}(hx:x∈b.Design.Instances)(q:Int)(hn:1048577<=n):BK (fun r:List AS=>r.length<=32) (jH n b x q):=by
 have vi:=v.design.inst x hx
 obtain⟨c,ec,hc⟩:=Ei (xs:=b.Library.Cells) vi.cell.1 (by have:=vi.cell.2;omega)
 obtain⟨h1,h2⟩:=List.getElem?_eq_some_iff.1 hc
 have few:=(v.design.lib.cells _ h1).few
 rw [h2]at few
 rw [jH,ec,As]
 refine GR (L:=fun m j s=>Hz n q c _ m s j) c.Arcs.length (fun j s=>s.length<=4*j) ?_ ?_ n _ (by omega) (by simp)
 ·intro m j s hj hs
  obtain⟨r,er,hr⟩:=tI (n:=n) c.Arcs[j]
  have key:∃s',s'.length<=4*(j+1)∧KA q (j:Int) c.Arcs[j] r (fun l88 i92=>Hz n q c (fun l46 i50=>some l46) m l88 (wrap .i64 ((j:Int)+1))) n s 0=Hz n q c (fun l46 i50=>some l46) m s' (wrap .i64 ((j:Int)+1)):=by
   refine loop (L:=fun m k s=>KA q (j:Int) c.Arcs[j] r _ m s k) r.length (fun k s=>s.length<=4*j+k) (fun o=>∃s':List AS,s'.length<=4*(j+1)∧o=Hz n q c (fun l46 i50=>some l46) m s' (wrap .i64 ((j:Int)+1))) ?_ ?_ n 0 s (by omega) (by omega) (by omega)
   ·intro m k s hk hs
    simp only [KA.eq_2,DH hk,cT,AY hk,As,wT k]
    rw [BN (by simp;omega) (by omega),As]
    exact .inl ⟨_,by simp;omega,rfl⟩
   ·intro m s hs
    simp only [KA.eq_2,DQ,cF]
    exact⟨s,by omega,rfl⟩
  obtain⟨s',hs',e'⟩:=key
  refine⟨s',hs',?_⟩
  simp only [Hz.eq_2,DH hj,cT,AY hj,As,er]
  rw [e',wT j]
 ·intro m s hs
  simp only [Hz.eq_2,DQ,cF]
  exact⟨s,rfl,by omega⟩
theorem uJ{n:Nat}{b:AI}(v:By b)(hn:1048577<=n):BK (fun r:Cz=>r.places_=pls b.Design) (fF n b):=by
 have vd:=v.design
 have f1:=vd.few.1;have f2:=vd.few.2.1
 have hl:=CS vd.short vd.few.1 vd.few.2.2
 have hW:=v.many
 rw [fF,Tu vd.short vd.few.1 vd.few.2.2 hn,As]
 refine GR (L:=fun m j (s:Int×List AS)=>Lo n b _ m s.1 j s.2) b.Design.Instances.length (fun j s=>s.2.length<=32*j) ?_ ?_ n ((0:Int),[]) (by omega) (by simp)
 ·intro m j s hj hs
  obtain⟨r,er,hr⟩:=tL (n:=n) v (List.getElem_mem hj) s.1 hn
  simp only [Lo.eq_2,DH hj,cT,AY hj,As,er,OM,wT j]
  rw [BN (by omega) (by omega),As]
  exact⟨(_,_),by simp;omega,rfl⟩
 ·intro m s hs
  simp only [Lo.eq_2,DQ,cF]
  rw [Fi (by omega) (by omega),As,Fi (by omega) (by omega),As]
  refine GR (L:=fun m j (s:List Int×List (List Int))=>KG (pls b.Design) _ m j s.1 s.2) (pls b.Design).length (fun j s=>(s.1.length=b.Wires.length∧s.2.length=b.Wires.length)∧∀x∈s.2,x.length<=j) ?_ ?_ n (List.replicate b.Wires.length 0,List.replicate b.Wires.length []) (by omega) (by simp)
  ·intro m j s hj ⟨⟨h1,h2⟩,h3⟩
   have hp:=vd.net _ (List.getElem_mem hj)
   obtain⟨a,ea⟩:=El (t:=s.1) hp.1 (by omega)
   obtain⟨y,ey,hy⟩:=Ei (xs:=s.2) hp.1 (by omega)
   have hyl:=h3 y (List.mem_of_getElem? hy)
   simp only [KG.eq_2,DH hj,cT,AY hj,As,ea,ey,wT j]
   cases(pls b.Design)[j].drives_ with
   |true=>
    rw [cT]
    exact⟨(s.1.set (pls b.Design)[j].net_.toNat (j:Int),s.2),⟨⟨by simpa using h1,h2⟩,fun x hx=>by have:=h3 x hx;omega⟩,rfl⟩
   |false=>
    rw [cF,BN (by simp;omega) (by omega),As]
    refine⟨(s.1,s.2.set (pls b.Design)[j].net_.toNat (y++[(j:Int)])),⟨⟨h1,by simpa using h2⟩,fun x hx=>?_⟩,rfl⟩
    rcases List.mem_or_eq_of_mem_set hx with h|h
    ·have:=h3 x h;omega
    ·subst h;simp;omega
  ·intro m t ⟨⟨h1,h2⟩,h3⟩
   simp only [KG.eq_2,DQ,cF]
   refine GR (L:=fun m j (s:(List AS×List Int)×List Unit)=>Gx n b t.1 t.2 _ m j s.1.1 s.1.2 s.2) b.Wires.length (fun j u=>(u.1.1.length<=448+156*j∧u.1.2.length=j)∧u.2.length=j) ?_ ?_ n ((s.2,[]),[]) (by omega) (by simp;omega)
   ·intro m j u hj ⟨⟨g1,g2⟩,g3⟩
    obtain⟨r,er,hr⟩:=rJ (n:=n) v hj hn
    obtain⟨z,ez,_⟩:=uG (n:=n) v hj hn
    have hm:=(v.wire j hj).many
    have e0:AL r 0=some (gd r 0):=gI (i:=0) (by omega)
    have hj2:j<t.2.length:=by omega
    have hx:=h3 _ (List.getElem_mem hj2)
    simp only [Gx.eq_2,DH hj,cT,As,er,e0,ez,AY hj2]
    rw [BN (by simp;omega) (by omega),As,BN (by simp;omega) (by omega),As]
    have key:∃s',s'.length<=448+156*(j+1)∧Ji n t.1 (j:Int) t.2[j] (fun i418 l421=>Gx n b t.1 t.2 (fun i115 l118 l125 l132=>some (Cz.mk b (pls b.Design) l118 l125 l132 [])) m (wrap .i64 ((j:Int)+1)) l421 (u.1.2++[gd r 0]) (u.2++List.map (fun _=>()) [z])) n 0 u.1.1=Gx n b t.1 t.2 (fun i115 l118 l125 l132=>some (Cz.mk b (pls b.Design) l118 l125 l132 [])) m (wrap .i64 ((j:Int)+1)) s' (u.1.2++[gd r 0]) (u.2++List.map (fun _=>()) [z]):=by
     refine loop (L:=fun m' k s=>Ji n t.1 (j:Int) t.2[j] (fun i418 l421=>Gx n b t.1 t.2 (fun i115 l118 l125 l132=>some (Cz.mk b (pls b.Design) l118 l125 l132 [])) m (wrap .i64 ((j:Int)+1)) l421 (u.1.2++[gd r 0]) (u.2++List.map (fun _=>()) [z])) m' k s) t.2[j].length (fun k s=>s.length<=448+156*j+2*k) (fun o=>∃s':List AS,s'.length<=448+156*(j+1)∧o=Gx n b t.1 t.2 (fun i115 l118 l125 l132=>some (Cz.mk b (pls b.Design) l118 l125 l132 [])) m (wrap .i64 ((j:Int)+1)) s' (u.1.2++[gd r 0]) (u.2++List.map (fun _=>()) [z])) ?_ ?_ n 0 u.1.1 (by omega) (by omega) (by omega)
     ·intro m k s hk hs
      refine .inl ?_
      have a1:=gI (l:=t.1) (i:=j) (by omega)
      simp only [Ji.eq_2,DH hk,cT,gI hk,As,wT k]
      obtain⟨n',rfl⟩:∃n',n=n'+3:=⟨n-3,by omega⟩
      have w1:wrap .i64 ((0:Int)+1)=1:=by decide
      have w2:wrap .i64 ((1:Int)+1)=2:=by decide
      rw [Lt.eq_2,show decide ((0:Int)<2)=true from rfl,cT,a1,As,BN (by simp;omega) (by omega),As,w1,Lt.eq_2,show decide ((1:Int)<2)=true from rfl,cT,a1,As,BN (by simp;omega) (by omega),As,w2,Lt.eq_2,show decide ((2:Int)<2)=false from rfl,cF]
      exact⟨_,by simp;omega,rfl⟩
     ·intro m s hs
      simp only [Ji.eq_2,DQ,cF]
      exact⟨s,by omega,rfl⟩
    obtain⟨s',q1,q2⟩:=key
    rw [q2,wT j]
    exact⟨((_,_),_),⟨⟨q1,by simp;omega⟩,by simp;omega⟩,rfl⟩
   ·intro m u _
    simp only [Gx.eq_2,DQ,cF]
    exact⟨_,rfl,rfl⟩
def EN(b:AI):Int:=2*((pls b.Design).length:Int)
theorem Tg{n:Nat}{b:AI}(v:By b)(hn:1048577<=n):Ma n b=some (EN b):=by
 have hl:=CS v.design.short v.design.few.1 v.design.few.2.2
 rw [Ma,NM v.design.short v.design.few.1 v.design.few.2.2 hn,As,List.length_map,Af (by omega) (by omega)];rfl
theorem pC{n:Nat}{b:AI}{r:Cz}(v:By b)(e:r.places_=pls b.Design):VX n r=some (EN b):=by
 have hl:=CS v.design.short v.design.few.1 v.design.few.2.2
 rw [VX,Xo,e,As,Af (by omega) (by omega)];rfl
def Pf(s:Ai):Bool:=(decide (s.Early>= -1000000000)&&decide (s.Early<=1000000000))&&(decide (s.Late>= -1000000000)&&decide (s.Late<=1000000000))
def OC(s:Ai):Bool:=Pf s&&decide (s.Early<=s.Late)
def PE(s:Ai):Bool:=(decide (s.Early>=0)&&decide (s.Early<=s.Late))&&decide (s.Late<=1000000)
theorem mJ{n:Nat}{s:Ai}:QX n s=some (OC s):=by
 simp only [QX,Fk,As,Bn];rfl
theorem rG{n:Nat}{s:Ai}:TM n s=some (OC s):=by
 simp only [TM,QD,IM,As,Bn];rfl
theorem uC{n:Nat}{s:Ai}:Su n s=some (PE s):=rfl
theorem sT{n:Nat}{s:Ai}:Vh n s=some (PE s):=by
 simp only [Vh,rG,WS,IM,As,Bn]
 congr 1
 rw [Bool.eq_iff_iff]
 simp only [OC,Pf,PE,Bool.and_eq_true,decide_eq_true_eq]
 omega
def Qp(r:Bool)(a s:Ai):Bool:=!((!OC a|| !PE s)||(!r&&(!(a.Early==0&&a.Late==0)|| !(s.Early==0&&s.Late==0))))
structure Vg(b:AI)(x:Ar):Prop where
 reached:(x.Reached.length:Int)=EN b
 arr:(x.Arrival.length:Int)=EN b
 slew:(x.Slew.length:Int)=EN b
 each:∀i (h:i<x.Reached.length) (h2:i<x.Arrival.length) (h3:i<x.Slew.length),Qp x.Reached[i] x.Arrival[i] x.Slew[i]=true
theorem rH{n:Nat}{b:AI}{x:Ar}(hl:x.Reached.length<=1048576)(hn:1048577<=n):BW (Vg b x) (Sw n (EN b) x):=by
 rw [Sw]
 refine Fu (fun c=>BS fun v=>?_) (fun c=>?_)
 ·have:=v.reached;have:=v.arr;have:=v.slew
  simp only [Bool.or_eq_true,bne_iff_ne,ne_eq]at c;omega
 ·simp only [Bool.or_eq_false_iff,bne_eq_false_iff_eq]at c
  refine(Ez (L:=fun m i=>Ip n x _ m i) (Q:=True) x.Reached.length 0 (fun i=>∀(h:i<x.Reached.length) (h2:i<x.Arrival.length) (h3:i<x.Slew.length),Qp x.Reached[i] x.Arrival[i] x.Slew[i]=true) ?_ ?_ n 0 (by omega) (by omega) (by omega) (fun j _ h=>by omega)).iff ⟨fun a=>⟨c.1.1,c.1.2,c.2,fun i h h2 h3=>a.1 i (by omega) h h h2 h3⟩,fun a=>⟨fun i _ _ h h2 h3=>a.each i h h2 h3,trivial⟩⟩
  ·intro m i _ hi
   have hi2:i<x.Arrival.length:=by omega
   have hi3:i<x.Slew.length:=by omega
   simp only [Ip.eq_2,DH hi,cT,AY hi,AY hi2,AY hi3,As,mJ,uC,EY,Bn,wT i]
   cases e:((!OC x.Arrival[i]|| !PE x.Slew[i])||(!x.Reached[i]&&(!(x.Arrival[i].Early==0&&x.Arrival[i].Late==0)|| !(x.Slew[i].Early==0&&x.Slew[i].Late==0))))with
   |true=>rw [cT];exact .inr ⟨fun g=>(by have:=g hi hi2 hi3;unfold Qp at this;rw [e]at this;cases this),rfl⟩
   |false=>rw [cF];exact .inl ⟨fun _ _ _=>(by unfold Qp;rw [e];rfl),rfl⟩
  ·intro m i h1 h2 _
   obtain rfl:i=x.Reached.length:=by omega
   simp only [Ip.eq_2,DQ,cF]
   exact DI trivial
theorem uR{n:Nat}{b:AI}{r:Cz}{x:Ar}(v:By b)(hr:r.places_=pls b.Design)(hl:x.Reached.length<=1048576)(hn:1048577<=n):BW (Vg b x) (WR n r x):=by
 rw [WR]
 simp only [YF,Vx,pC v hr,As,EY]
 refine Fu (fun c=>BS fun v=>?_) (fun c=>?_)
 ·have:=v.reached;have:=v.arr;have:=v.slew
  simp only [Bool.or_eq_true,bne_iff_ne,ne_eq]at c;omega
 ·simp only [Bool.or_eq_false_iff,bne_eq_false_iff_eq]at c
  refine(Ez (L:=fun m i=>JS n x _ m i) (Q:=True) x.Reached.length 0 (fun i=>∀(h:i<x.Reached.length) (h2:i<x.Arrival.length) (h3:i<x.Slew.length),Qp x.Reached[i] x.Arrival[i] x.Slew[i]=true) ?_ ?_ n 0 (by omega) (by omega) (by omega) (fun j _ h=>by omega)).iff ⟨fun a=>⟨c.1.1,c.1.2,c.2,fun i h h2 h3=>a.1 i (by omega) h h h2 h3⟩,fun a=>⟨fun i _ _ h h2 h3=>a.each i h h2 h3,trivial⟩⟩
  ·intro m i _ hi
   have hi2:i<x.Arrival.length:=by omega
   have hi3:i<x.Slew.length:=by omega
   simp only [JS.eq_2,DH hi,cT,AY hi,AY hi2,AY hi3,As,rG,sT,EY,Bn,wT i]
   cases e:((!OC x.Arrival[i]|| !PE x.Slew[i])||(!x.Reached[i]&&(!(x.Arrival[i].Early==0&&x.Arrival[i].Late==0)|| !(x.Slew[i].Early==0&&x.Slew[i].Late==0))))with
   |true=>rw [cT];exact .inr ⟨fun g=>(by have:=g hi hi2 hi3;unfold Qp at this;rw [e]at this;cases this),rfl⟩
   |false=>rw [cF];exact .inl ⟨fun _ _ _=>(by unfold Qp;rw [e];rfl),rfl⟩
  ·intro m i h1 h2 _
   obtain rfl:i=x.Reached.length:=by omega
   simp only [JS.eq_2,DQ,cF]
   exact DI trivial
def TK(n:Nat)(b:AI)(t:Ar):Option Int:=(Option.bind (TU n b) fun r=>(Option.bind (cond (!r) (some true) (Option.bind (Ma n b) fun c=>(Option.bind (Sw n c t) fun q=>(some (!q))))) fun c=>(cond c (some 1) (some 0))))
theorem uL{n:Nat}{b:AI}{t:Ar}(hb:NO b)(ht:t.Reached.length<=1048576)(hn:1048577<=n):
 (TK n b t=some 0∧(By b∧Vg b t)∧∃v:Cz,TR n b t=some (some v,0)∧v.places_=pls b.Design)∨(TK n b t=some 1∧TR n b t=some (none,1)):=by
 obtain⟨c,e1,hc⟩:=ZD hb hn
 obtain⟨c2,e2,hc2⟩:=sC hb hn
 obtain rfl:c=c2:=by rw [Bool.eq_iff_iff,hc,hc2]
 rw [TK,TR,e1,e2]
 simp only [As]
 cases c with
 |false=>exact .inr ⟨rfl,rfl⟩
 |true=>
  have v:=hc.1 rfl
  obtain⟨w,ew,hw⟩:=uJ (n:=n) v hn
  obtain⟨p,f1,hp⟩:=rH (b:=b) ht hn
  obtain⟨p2,f2,hp2⟩:=uR (r:=⟨b,w.places_,w.links_,w.loads_,w.delays_,w.extras_⟩) v hw ht hn
  obtain rfl:p=p2:=by rw [Bool.eq_iff_iff,hp,hp2]
  simp only [Bool.not_true,cF,Tg v hn,As,f1,ew,f2]
  cases p with
  |false=>exact .inr ⟨rfl,rfl⟩
  |true=>exact .inl ⟨rfl,⟨v,hp.1 rfl⟩,_,rfl,hw⟩
def Ff(t:Ar)(x:Int):Ai:=t.Arrival.getD x.toNat ⟨0,0⟩
def Ie(t:Ar)(x:Int):Bool:=t.Reached.getD x.toNat false
theorem TI{t:Ar}{x:Int}(h0:0<=x)(h1:x<t.Arrival.length):AL t.Arrival x=some (Ff t x):=by
 obtain⟨q,rfl⟩:=Int.eq_ofNat_of_zero_le h0
 rw [AY (show q<t.Arrival.length by omega)];unfold Ff;simp [show q<t.Arrival.length by omega]
theorem TG{t:Ar}{x:Int}(h0:0<=x)(h1:x<t.Reached.length):AL t.Reached x=some (Ie t x):=by
 obtain⟨q,rfl⟩:=Int.eq_ofNat_of_zero_le h0
 rw [AY (show q<t.Reached.length by omega)];unfold Ie;simp [show q<t.Reached.length by omega]
theorem MV{α β:Type}(h:Nat->α->β):∀(xs:List α) (s j:Nat),(Eh (fun j q=>[h j q]) s xs)[j]? =(xs[j]?).map (h (s+j))
 |[],s,j=>by simp [Eh]
 |x::xs,s,0=>by simp [Eh]
 |x::xs,s,j+1=>by
  have:=MV h xs (s+1) j
  simp only [Eh,List.singleton_append,List.getElem?_cons_succ,this]
  rw [show s+1+j=s+(j+1) by omega]
structure PP{α:Type}(f:α->Bool)(ys:List α)(k:Nat):Prop where
 hit:∃y,ys[k]? =some y∧f y=true
 miss:∀j y,j<k->ys[j]? =some y->f y=false
theorem PP.lt{α:Type}{f:α->Bool}{ys:List α}{k:Nat}(h:PP f ys k):k<ys.length:=by
 obtain⟨y,e,_⟩:=h.hit
 exact(List.getElem?_eq_some_iff.1 e).1
def FQ(d:AV)(i:Nat):Nat:=(Eh NI 0 (d.Instances.take i)).length
def RW(i q:Int)(p:Az):Bool:=(p.instance_==i)&&(p.pin_==q)
theorem XQ{d:AV}{i:Nat}(hi:i<d.Instances.length):∃C,pls d=Eh NI 0 (d.Instances.take i)++(NI i d.Instances[i]++C):=by
 refine⟨Eh NI (i+1) (d.Instances.drop (i+1))++Eh Te 0 d.Ports,?_⟩
 have e:d.Instances=d.Instances.take i++(d.Instances[i]::d.Instances.drop (i+1)):=by
  rw [←List.drop_eq_getElem_cons hi,List.take_append_drop]
 have e2:Eh NI 0 d.Instances=Eh NI 0 (d.Instances.take i)++(NI i d.Instances[i]++Eh NI (i+1) (d.Instances.drop (i+1))):=by
  conv=>lhs;rw [e]
  rw [Ld]
  simp [Eh,Nat.min_eq_left (Nat.le_of_lt hi)]
 unfold pls
 rw [e2];simp
theorem Em{d:AV}{i q:Nat}(hi:i<d.Instances.length)(hq:q<d.Instances[i].Nets.length):PP (RW i q) (pls d) (FQ d i+q):=by
 obtain⟨C,e⟩:=XQ hi
 have hp:∀j:Nat,(NI i d.Instances[i])[j]? =(d.Instances[i].Nets[j]?).map fun x=>Az.mk i j x ((j:Int)==(d.Instances[i].Nets.length:Int)-1):=by
  intro j
  have:=MV (fun j q=>Az.mk i j q ((j:Int)==(d.Instances[i].Nets.length:Int)-1)) d.Instances[i].Nets 0 j
  rw [Nat.zero_add]at this
  exact this
 have hl:(NI i d.Instances[i]).length=d.Instances[i].Nets.length:=by
  apply Nat.le_antisymm
  ·apply Nat.le_of_not_lt
   intro h
   have:=hp d.Instances[i].Nets.length
   rw [List.getElem?_eq_getElem h]at this
   simp at this
  ·apply Nat.le_of_not_lt
   intro h
   have:=hp (NI i d.Instances[i]).length
   rw [List.getElem?_eq_getElem h]at this
   simp at this
 have hA:∀y∈Eh NI 0 (d.Instances.take i),y.instance_<(i:Int):=by
  refine DX (Q:=fun p:Az=>p.instance_<(i:Int)) _ 0 (fun j hj y hy=>?_)
  have hji:j<i:=by simp at hj;omega
  refine DX (Q:=fun p:Az=>p.instance_<(i:Int)) _ 0 (fun k hk z hz=>?_) y hy
  simp only [List.mem_singleton]at hz
  subst hz
  show((0+j:Nat):Int)<i
  omega
 refine⟨⟨Az.mk i q d.Instances[i].Nets[q] ((q:Int)==(d.Instances[i].Nets.length:Int)-1),?_,by simp [RW]⟩,?_⟩
 ·rw [e,FQ,List.getElem?_append_right (by omega),Nat.add_sub_cancel_left,List.getElem?_append_left (by omega),hp,List.getElem?_eq_getElem hq];rfl
 ·intro j y hj hy
  rw [e]at hy
  by_cases c:j<(Eh NI 0 (d.Instances.take i)).length
  ·rw [List.getElem?_append_left c]at hy
   have:=hA y (List.mem_of_getElem? hy)
   simp only [RW,Bool.and_eq_false_iff,beq_eq_false_iff_ne];left;omega
  ·unfold FQ at hj
   rw [List.getElem?_append_right (by omega),List.getElem?_append_left (by omega),hp]at hy
   obtain⟨x,_,rfl⟩:=Option.map_eq_some_iff.1 hy
   simp only [RW,Bool.and_eq_false_iff,beq_eq_false_iff_ne];right
   show((j-(Eh NI 0 (d.Instances.take i)).length:Nat):Int)≠q
   omega
theorem Sx{n:Nat}{l:Ay}{d:AV}(v:Cu l d){i q:Nat}(hi:i<d.Instances.length)(hq:q<d.Instances[i].Nets.length)(hn:1048577<=n):Ww n d (i:Int) (q:Int)=some ((FQ d i+q:Nat):Int):=by
 have f:=Em hi hq
 have hl:=CS v.short v.few.1 v.few.2.2
 have fl:=f.lt
 rw [Ww,NM v.short v.few.1 v.few.2.2 hn,As]
 refine loop (L:=fun m j (_:Unit)=>KI (i:Int) (q:Int) ((pls d).map GZ) (fun i26=>(some (-1))) m j) (FQ d i+q+1) (fun j _=>j<=FQ d i+q) (fun o=>o=some ((FQ d i+q:Nat):Int)) ?_ ?_ n 0 () (by omega) (by omega) (by omega)
 ·intro m j _ hj hI
  have hjl:j<(pls d).length:=by omega
  have hjm:j<((pls d).map GZ).length:=by simpa using hjl
  have hg:AL ((pls d).map GZ) (j:Int)=some (GZ (pls d)[j]):=by rw [AY hjm];simp
  have hb:(Option.bind (cond ((GZ (pls d)[j]).instance_==(i:Int)) (some ((GZ (pls d)[j]).pin_==(q:Int))) (some false)) fun c35=>(cond c35 (some (j:Int)) (KI (i:Int) (q:Int) ((pls d).map GZ) (fun i26=>(some (-1))) m (wrap .i64 ((j:Int)+1)))))=(cond (RW i q (pls d)[j]) (some (j:Int)) (KI (i:Int) (q:Int) ((pls d).map GZ) (fun i26=>(some (-1))) m ((j+1:Nat):Int))):=by
   rw [wT j,Bn,As];rfl
  simp only [KI.eq_2,DH hjm,cT,hg,As]
  rw [hb]
  by_cases c:j=FQ d i+q
  ·obtain⟨y,e,hy⟩:=f.hit
   rw [←c,List.getElem?_eq_getElem hjl]at e
   obtain rfl:=Option.some.inj e
   rw [hy,cT,←c];exact .inr rfl
  ·have:=f.miss j _ (by omega) (List.getElem?_eq_getElem hjl)
   rw [this,cF];exact .inl ⟨(),by omega,rfl⟩
 ·intro m _ hI
  omega
theorem oJ{n:Nat}{l:Ay}{d:AV}(v:Cu l d){i q:Nat}(hi:i<d.Instances.length)(hq:q<d.Instances[i].Nets.length)(hn:1048577<=n):Sv n d (i:Int) (q:Int)=some ((FQ d i+q:Nat):Int):=by
 have f:=Em hi hq
 have hl:=CS v.short v.few.1 v.few.2.2
 have fl:=f.lt
 rw [Sv,Tu v.short v.few.1 v.few.2.2 hn,As,Xy]
 obtain⟨r,e,hr,h⟩:=Kg (xs:=pls d) (L:=fun m j=>Ii n (pls d) (i:Int) (q:Int) (fun i7=>(some (-1))) m j) (f:=fun p=>some (RW i q p)) (P:=fun p=>RW i q p=true) (fun x _=>⟨_,rfl,Iff.rfl⟩) (by
  intro m j hj
  simp only [Ii.eq_2,DH hj,cT,AY hj,As,Yb,wT j]
  rfl) (by
  intro m
  simp only [Ii.eq_2,DQ,cF]) n (by omega)
 rw [e,As]
 obtain⟨y,ey,hy⟩:=f.hit
 obtain⟨k1,k2⟩:=List.getElem?_eq_some_iff.1 ey
 rcases h with h|⟨j,rfl,hj,h1,h2⟩
 ·subst h
  have:=hr.2 ⟨y,List.mem_of_getElem? ey,hy⟩
  omega
 ·have a:¬j<FQ d i+q:=fun c=>by
   have:=f.miss j _ c (List.getElem?_eq_getElem hj)
   rw [this]at h1;cases h1
  have b:¬FQ d i+q<j:=fun c=>h2 _ k1 c (by rw [k2];exact hy)
  rw [show j=FQ d i+q by omega]
def hul(a b:Ai):Ai:=⟨min a.Early b.Early,max a.Late b.Late⟩
theorem bT{n:Nat}{t:Ar}{e:Int}(h0:0<=e)(h1:e+1<t.Arrival.length)(h2:e+1<t.Reached.length)(hn:1048577<=n):
 TV n t [e,e+1]=some (cond (Ie t e) (cond (Ie t (e+1)) (hul (Ff t e) (Ff t (e+1)),true) (Ff t e,true)) (cond (Ie t (e+1)) (Ff t (e+1),true) (⟨0,0⟩,false))):=by
 obtain⟨m,rfl⟩:∃m,n=m+3:=⟨n-3,by omega⟩
 have l2:(([e,e+1]:List Int).length:Int)=2:=rfl
 have g0:AL [e,e+1] (0:Int)=some e:=rfl
 have g1:AL [e,e+1] (1:Int)=some (e+1):=rfl
 have w1:wrap .i64 (0+1)=1:=rfl
 have w2:wrap .i64 (1+1)=2:=rfl
 rw [TV]
 simp only [Km.eq_2,l2,show decide ((0:Int)<2)=true from rfl,show decide ((1:Int)<2)=true from rfl,show decide ((2:Int)<2)=false from rfl,cT,cF,g0,g1,w1,w2,As,TG (t:=t) (x:=e) h0 (by omega),TG (t:=t) (x:=e+1) (by omega) h2,TI (t:=t) (x:=e) h0 (by omega),TI (t:=t) (x:=e+1) (by omega) h1,XW,Tv]
 cases Ie t e<;>cases Ie t (e+1)<;>simp only [cT,cF,Bool.not_true,Bool.not_false,As,hul]
def Gl(r:BO):Bool:=((decide (r.Setup>= -1000000000)&&decide (r.Setup<=1000000000))&&(decide (r.Hold>= -1000000000)&&decide (r.Hold<=1000000000)))&&(decide (r.Uncertainty>=0)&&decide (r.Uncertainty<=1000000000))
theorem sP{n:Nat}{r:BO}:UY n r=some (Gl r):=by
 simp only [UY,Fk,As,Bn];rfl
theorem bS{n:Nat}{r:BO}:TT n r=some (Gl r):=by
 simp only [TT,QD,IM,As,Bn];rfl
theorem Cu.inst_at{l:Ay}{d:AV}(v:Cu l d){i:Nat}(hi:i<d.Instances.length):∃k,∃h:k<l.Cells.length,d.Instances[i].Cell=(k:Int)∧AL l.Cells d.Instances[i].Cell=some l.Cells[k]∧d.Instances[i].Nets.length=l.Cells[k].Pins.length∧NB l.Cells[k]:=by
 have x:=v.inst _ (List.getElem_mem hi)
 obtain⟨k,hk⟩:=Int.eq_ofNat_of_zero_le x.cell.1
 have hk:d.Instances[i].Cell=(k:Int):=hk
 have h:k<l.Cells.length:=by have:=x.cell.2;omega
 have g:AL l.Cells d.Instances[i].Cell=some l.Cells[k]:=by rw [hk];exact AY h
 exact⟨k,h,hk,g,x.pins _ g,v.lib.cells k h⟩
def SJ(c:Al)(p q:Int):Bool:=(((c.Kind==1)&&(decide (p>=0)&&decide (p<=(c.Pins.length:Int)-2)))&&(decide (q>=0)&&decide (q<=(c.Pins.length:Int)-2)))&&(p !=q)
theorem iC{n:Nat}{c:Al}{p q:Int}(h:c.Pins.length<=1048576):RG n c p q=some (SJ c p q):=by
 have w:wrap .i64 ((c.Pins.length:Int)-2)=(c.Pins.length:Int)-2:=Af (by omega) (by omega)
 simp only [RG,Fk,As,Bn,w];rfl
theorem gY{n:Nat}{c:Al}{p:Int}(h:c.Pins.length<=1048576):PW n c p=some (decide (p>=0)&&decide (p<=(c.Pins.length:Int)-2)):=by
 have w:wrap .i64 ((c.Pins.length:Int)-1)=(c.Pins.length:Int)-1:=Af (by omega) (by omega)
 have w2:wrap .i64 ((c.Pins.length:Int)-1-1)=(c.Pins.length:Int)-2:=by rw [show(c.Pins.length:Int)-1-1=(c.Pins.length:Int)-2 by omega];exact Af (by omega) (by omega)
 simp only [PW,Pw,Qh,IM,As,w,w2]
theorem Ul.mono{l:List Int}(h:Ul l):∀(d i:Nat),i+d+1<l.length->gd l i<gd l (i+d+1)
 |0,i,hi=>by have:=h.2.2 (i+0+1) hi (by omega);simpa using this
 |d+1,i,hi=>by
  have a:=Ul.mono h d i (by omega)
  have b:=h.2.2 (i+(d+1)+1) hi (by omega)
  rw [show i+(d+1)+1-1=i+d+1 by omega]at b
  omega
theorem Ul.lt{l:List Int}(h:Ul l){i j:Nat}(hij:i<j)(hj:j<l.length):gd l i<gd l j:=by
 have:=h.mono (j-i-1) i (by omega)
 rwa [show i+(j-i-1)+1=j by omega]at this
def JN(l:List Int)(x:Int):Int:=min (max x (gd l 0)) (gd l (l.length-1))
theorem Wb{l:List Int}(h:Ul l)(x:Int):gd l 0<=JN l x∧JN l x<=gd l (l.length-1):=by
 have h1:=h.1.1
 have:gd l 0<=gd l (l.length-1):=by
  by_cases c:l.length=1
  ·rw [c];exact Int.le_refl _
  ·have:=h.lt (show 0<l.length-1 by omega) (by omega);omega
 unfold JN;omega
theorem mw{a c:Int}(ha:0<=a∧a<=200000)(hc:0<=c∧c<=200000):wrap .i64 (a*c)=a*c:=by
 have h1:0<=a*c:=Int.mul_nonneg ha.1 hc.1
 have h2:a*c<=200000*c:=Int.mul_le_mul_of_nonneg_right ha.2 hc.1
 exact Af (by omega) (by omega)
theorem sO{i L k u v:Nat}(hi:i+u<=4)(hL:L<=4)(hk:k<=4)(hv:v<=1):wrap .i64 (wrap .i64 (wrap .i64 (wrap .i64 ((i:Int)+(u:Int))*(L:Int))+(k:Int))+(v:Int))=(((i+u)*L+(k+v):Nat):Int):=by
 have:(i+u)*L<=4*4:=Nat.mul_le_mul hi hL
 rw [Af (x:=(i:Int)+(u:Int)) (by omega) (by omega),show(i:Int)+(u:Int)=((i+u:Nat):Int) by omega,Zx hi hL,Af (x:=(((i+u)*L:Nat):Int)+(k:Int)) (by omega) (by omega),Af (by omega) (by omega)];omega
theorem sY{S L i k:Nat}(hi:i<S)(hk:k<L):i*L+k<S*L:=by
 have:(i+1)*L<=S*L:=Nat.mul_le_mul_right L hi
 rw [Nat.add_mul]at this;omega
theorem rE{n:Nat}{b:AI}{t:Ar}{rel:BO}(hb:NO b)(ht:t.Reached.length<=1048576)(hn:1048577<=n):TD n b t rel=Option.bind (TK n b t) fun c=>cond (c !=0) (some 1) (cond (!Gl rel) (some 2) (some 0)):=by
 rw [TD,TK,sP]
 obtain⟨c,e1,hc⟩:=ZD (n:=n) hb hn
 rw [e1]
 cases c with
 |false=>rfl
 |true=>
  simp only [As,Bool.not_true,cF,Tg (hc.1 rfl) hn]
  obtain⟨p,f1,_⟩:=rH (n:=n) (b:=b) (x:=t) ht hn
  rw [f1]
  cases p<;>rfl
theorem wk{k:Int}(h0:0<=k)(h1:k<=2305843009213693952):wrap .i64 (k+1)=k+1:=Af (by omega) (by omega)
def Lh(b:AI)(x:Aq):List Bg:=match AL b.Library.Cells x.Cell with
 |some c=>c.Arcs
 |none=>[]
def FO(q:Int)(p:Az):Bool:=p.net_==q&&p.drives_
theorem Sl(i:Nat)(q L:Int):∀(xs:List Int) (s:Nat),xs≠[]->L=((s+xs.length:Nat):Int)-1->((Eh (fun j n=>[Az.mk i j n ((j:Int)==L)]) s xs).countP (FO q):Int)=if gd xs (xs.length-1)=q then 1 else 0
 |[],_,h,_=>absurd rfl h
 |[x],s,_,hL=>by
  have e:((s:Int)==L)=true:=by rw [beq_iff_eq,hL];simp
  simp only [Eh,List.append_nil,e]
  by_cases c:x=q
  ·subst c;simp [FO,gd]
  ·have:(x==q)=false:=by rw [beq_eq_false_iff_ne];exact c
   simp [FO,gd,this,c]
 |x::y::zs,s,_,hL=>by
  have ih:=Sl i q L (y::zs) (s+1) (by simp) (by rw [hL];simp only [List.length_cons];omega)
  have e:((s:Int)==L)=false:=by rw [beq_eq_false_iff_ne,hL];simp only [List.length_cons];omega
  rw [Eh,List.countP_append]
  have h0:List.countP (FO q) [Az.mk i s x ((s:Int)==L)]=0:=by simp [FO,e]
  rw [h0,Nat.zero_add,ih]
  simp [gd]
theorem Tt{q:Nat}{N:Nat}(hq:q<N):∀(xs:List Aq) (t:List Int) (s:Nat),t.length=N->(∀x∈xs,x.Nets≠[]∧0<=Ka x∧Ka x<N)->gd (xs.foldl cI t) q=gd t q+((Eh NI s xs).countP (FO q):Int)∧(xs.foldl cI t).length=N
 |[],t,s,ht,_=>by simp [Eh,ht]
 |x::xs,t,s,ht,hx=>by
  obtain⟨x1,x2,x3⟩:=hx x (by simp)
  obtain⟨h1,h2⟩:=Tt hq xs (cI t x) (s+1) (by unfold cI IE;simpa using ht) fun y hy=>hx y (by simp [hy])
  refine⟨?_,h2⟩
  rw [List.foldl_cons,h1,Eh,List.countP_append]
  have hc:=Sl s q ((x.Nets.length:Int)-1) x.Nets 0 x1 (by simp)
  have hc:((NI s x).countP (FO q):Int)=if gd x.Nets (x.Nets.length-1)=q then 1 else 0:=hc
  have hb:gd (cI t x) q=gd t q+if gd x.Nets (x.Nets.length-1)=q then 1 else 0:=by
   have hl:Ka x=gd x.Nets (x.Nets.length-1):=rfl
   unfold cI IE
   rw [OK (by omega),←hl]
   by_cases c:Ka x=q
   ·rw [if_pos (by omega),if_pos c];have:(Ka x).toNat=q:=by omega
    rw [this]
   ·rw [if_neg (by omega),if_neg c];omega
  rw [hb];push_cast;omega
theorem VF{q:Nat}{N:Nat}(hq:q<N):∀(xs:List CJ) (t:List Int) (s:Nat),t.length=N->(∀x∈xs,0<=x.Net∧x.Net<N)->gd (xs.foldl cP t) q=gd t q+((Eh Te s xs).countP (FO q):Int)
 |[],t,s,ht,_=>by simp [Eh]
 |x::xs,t,s,ht,hx=>by
  obtain⟨x2,x3⟩:=hx x (by simp)
  have h1:=VF hq xs (cP t x) (s+1) (by unfold cP IE;split<;>simpa using ht) fun y hy=>hx y (by simp [hy])
  rw [List.foldl_cons,h1,Eh,List.countP_append]
  have hb:gd (cP t x) q=gd t q+((Te s x).countP (FO q):Int):=by
   unfold cP Te
   by_cases d:x.Dir=1
   ·have:(x.Dir==1)=true:=by rw [beq_iff_eq];exact d
    rw [if_pos d];unfold IE
    rw [OK (by omega)]
    by_cases c:x.Net=q
    ·have e:(x.Net==(q:Int))=true:=by rw [beq_iff_eq];exact c
     have e2:x.Net.toNat=q:=by omega
     rw [if_pos e2,e2];simp [FO,this,e]
    ·have e:(x.Net==(q:Int))=false:=by rw [beq_eq_false_iff_ne];exact c
     rw [if_neg (by omega)];simp [FO,this,e]
   ·have:(x.Dir==1)=false:=by rw [beq_eq_false_iff_ne];exact d
    rw [if_neg d];simp [FO,this]
  rw [hb];push_cast;omega
theorem YS{l:Ay}{d:AV}(v:Cu l d){q:Nat}(hq:q<d.Nets.length):(pls d).countP (FO q)=1:=by
 obtain⟨h1,h2⟩:=Tt (N:=d.Nets.length) hq d.Instances (List.replicate d.Nets.length 0) 0 (by simp) fun x hx=>by
  have a:=(v.inst x hx).long v.lib
  have b:=(v.inst x hx).last v.lib
  exact⟨fun e=>by rw [e]at a;simp at a,b⟩
 have h3:=VF (N:=d.Nets.length) hq d.Ports _ 0 h2 fun x hx=>by have:=(v.port x hx).net;omega
 have h4:=v.one q hq
 unfold drv at h4
 rw [h3,h1,OU]at h4
 unfold pls
 rw [List.countP_append];omega
theorem PJ{α:Type}(f:α->Bool):∀(xs:List α),xs.countP f=1->∃k,∃h:k<xs.length,f xs[k]=true∧∀j (h:j<xs.length),f xs[j]=true->j=k
 |[],h=>by simp at h
 |x::xs,h=>by
  rw [List.countP_cons]at h
  by_cases c:f x=true
  ·have h0:xs.countP f=0:=by simpa [c] using h
   refine⟨0,by simp,c,fun j hj hf=>?_⟩
   cases j with
   |zero=>rfl
   |succ j=>
    have hf:f (xs[j]'(by simpa using hj))=true:=hf
    rw [List.countP_eq_zero]at h0
    exact absurd hf (h0 _ (List.getElem_mem _))
  ·have h0:xs.countP f=1:=by simpa [c] using h
   obtain⟨k,hk,a,b⟩:=PJ f xs h0
   refine⟨k+1,by simpa using hk,by simpa using a,fun j hj hf=>?_⟩
   cases j with
   |zero=>exact absurd hf c
   |succ j=>rw [b j (by simpa using hj) (by simpa using hf)]
def Lk(d:AV)(q:Nat):Nat:=(pls d).findIdx (FO q)
structure eW(d:AV)(q k:Nat):Prop where
 lt:k<(pls d).length
 hit:FO q (pls d)[k]=true
 only:∀j (h:j<(pls d).length),FO q (pls d)[j]=true->j=k
theorem Pj{l:Ay}{d:AV}(v:Cu l d){q:Nat}(hq:q<d.Nets.length):eW d q (Lk d q):=by
 obtain⟨k,hk,a,b⟩:=PJ _ _ (YS v hq)
 have:Lk d q=k:=by
  unfold Lk
  rw [List.findIdx_eq hk]
  refine⟨a,fun j hj=>?_⟩
  cases c:FO q ((pls d)[j]'(by omega))with
  |false=>rfl
  |true=>have:=b j (by omega) c;omega
 rw [this];exact⟨hk,a,b⟩
theorem pG{n:Nat}{l:Ay}{d:AV}(v:Cu l d){q:Nat}(hq:q<d.Nets.length)(hn:1048577<=n):Ve n d (q:Int)=some (Lk d q:Int):=by
 have hd:=Pj v hq
 have hl:=CS v.short v.few.1 v.few.2.2
 rw [Ve,NM v.short v.few.1 v.few.2.2 hn,As]
 have hk:=hd.lt
 refine loop (L:=fun m i (_:Unit)=>Kp (q:Int) ((pls d).map GZ) (fun i26=>some (-1)) m i) ((pls d).map GZ).length (fun i _=>i<=Lk d q) (fun o=>o=some (Lk d q:Int)) ?_ ?_ n 0 () (by omega) (by simp;omega) (by omega)
 ·intro m i _ hi hI
  have hi2:i<(pls d).length:=by simpa using hi
  have e:((pls d).map GZ)[i]=GZ (pls d)[i]:=by simp
  simp only [Kp.eq_2,DH hi,cT,AY hi,As,Bn,e,wT i]
  have e2:((GZ (pls d)[i]).net_==(q:Int)&&(GZ (pls d)[i]).drives_)=FO q (pls d)[i]:=rfl
  rw [e2]
  cases c:FO q (pls d)[i]with
  |true=>rw [hd.only i hi2 c];exact .inr rfl
  |false=>
   refine .inl ⟨(),?_,rfl⟩
   rcases Nat.lt_or_ge i (Lk d q)with h|h
   ·omega
   ·obtain rfl:i=Lk d q:=by omega
    rw [hd.hit]at c;cases c
 ·intro m _ hI
  have:((pls d).map GZ).length=(pls d).length:=by simp
  omega
def RM(a:Bg)(p:Int×Int):Bool:=cond (a.Kind==1) ((a.Sense==3)||((a.Sense==1)==(p.1==p.2))) (cond (a.Kind==2) (p.1==0) (cond (a.Kind==3) (p.1==1) false))
def cQ(a:Bg):List (Int×Int):=[(0,0),(0,1),(1,0),(1,1)].filter (RM a)
def aO(o k:Nat)(a:Bg):List AS:=(cQ a).map fun t=>⟨2*((o:Int)+a.From)+t.1,2*((o:Int)+a.To)+t.2,1,(k:Int)⟩
def Wo(b:AI)(i:Nat)(x:Aq):List AS:=Eh (aO (FQ b.Design i)) 0 (Lh b x)
def Yn(r:Int)(j:Nat)(s:Int):List AS:=[⟨2*r,2*s,2,(j:Int)⟩,⟨2*r+1,2*s+1,2,(j:Int)⟩]
def iW(d:AV)(q:Nat):List AS:=Eh (Yn (Lk d q:Int)) 0 (Iw d (q:Int))
def IC(b:AI):List AS:=Eh (Wo b) 0 b.Design.Instances++Eh (fun q (_:ByteArray)=>iW b.Design q) 0 b.Design.Nets
theorem YT(a:Bg):(cQ a).length<=4:=Nat.le_trans (List.length_filter_le _ _) (by simp)
theorem Sj(o k:Nat)(a:Bg):(aO o k a).length<=4:=by unfold aO;rw [List.length_map];exact YT a
theorem Pi{b:AI}(v:By b)(i:Nat){x:Aq}(hx:x∈b.Design.Instances):(Wo b i x).length<=32:=by
 obtain⟨j,hj,rfl⟩:=List.getElem_of_mem hx
 obtain⟨k,hk,_,gc,_,vc⟩:=v.design.inst_at hj
 have:=EG (c:=4) (g:=aO (FQ b.Design i)) (Lh b b.Design.Instances[j]) 0 fun j a _=>Sj _ _ a
 have few:=vc.few
 unfold Wo
 unfold Lh at this ⊢
 rw [gc]at this ⊢
 simp only at this ⊢
 omega
theorem SS{l:Ay}{d:AV}(v:Cu l d)(q:Nat):(iW d q).length<=156:=by
 have h1:=EG (c:=2) (g:=Yn (Lk d q:Int)) (Iw d (q:Int)) 0 fun j s _=>by simp [Yn]
 have h2:=GN (d:=d) (q:=(q:Int))
 have hl:=CS v.short v.few.1 v.few.2.2
 have h3:snk d (q:Int)<=78:=Nat.le_trans List.countP_le_length hl
 unfold iW;omega
theorem Gv{b:AI}(v:By b):(IC b).length<=5128:=by
 have h1:=EG (c:=32) (g:=Wo b) b.Design.Instances 0 fun j x hx=>Pi v j hx
 have h2:=EG (c:=156) (g:=fun q (_:ByteArray)=>iW b.Design q) b.Design.Nets 0 fun j x _=>SS v.design j
 have:=v.design.few
 unfold IC;rw [List.length_append];omega
theorem Zm{n:Nat}{l:List AS}{f t a b kd k:Int}(hl:l.length<=10000000)(hf:0<=f∧f<=100000)(ht:0<=t∧t<=100000)(ha:0<=a∧a<=1)(hb:0<=b∧b<=1):Pq n l f t a b kd k=some (l++[⟨2*f+a,2*t+b,kd,k⟩]):=by
 rw [Pq,Af (x:=2*f) (by omega) (by omega),Af (x:=2*t) (by omega) (by omega),Af (by omega) (by omega),Af (by omega) (by omega),BN (by simp;omega) (by omega),As]
theorem Yr{n:Nat}{a:Bg}{f t k i:Int}{k2:List AS->Int->Option (List AS)}(hf:0<=f∧f<=100000)(ht:0<=t∧t<=100000)(hi:0<=i∧i<=1){l:List AS}(hl:l.length<=9000000)(m:Nat):
 FI n a f t k i k2 (m+3) l 0=k2 (l++([(i,0),(i,1)].filter (RM a)).map fun p=>⟨2*f+p.1,2*t+p.2,1,k⟩) 2:=by
 have w1:wrap .i64 ((0:Int)+1)=1:=by decide
 have w2:wrap .i64 ((1:Int)+1)=2:=by decide
 have step:∀(m:Nat) (l:List AS) (j:Int),l.length<=9500000->0<=j->j<=1->FI n a f t k i k2 (m+1) l j=FI n a f t k i k2 m (l++([(i,j)].filter (RM a)).map fun p=>⟨2*f+p.1,2*t+p.2,1,k⟩) (wrap .i64 (j+1)):=by
  intro m l j hl2 h0 h1
  have hp:=Zm (n:=n) (l:=l) (f:=f) (t:=t) (a:=i) (b:=j) (kd:=1) (k:=k) (by omega) hf ht hi ⟨h0,h1⟩
  have dj:decide (j<=1)=true:=decide_eq_true h1
  simp only [FI.eq_2,dj,cT,hp,As,List.filter_cons,List.filter_nil,RM]
  by_cases k1:a.Kind=1
  ·have e1:(a.Kind==1)=true:=by rw [beq_iff_eq];exact k1
   simp only [e1,cT]
   by_cases c:((a.Sense==3)||((a.Sense==1)==(i==j)))=true
   ·rw [c];simp
   ·have c:((a.Sense==3)||((a.Sense==1)==(i==j)))=false:=by simpa using c
    rw [c];simp
  ·have e1:(a.Kind==1)=false:=by rw [beq_eq_false_iff_ne];exact k1
   simp only [e1,cF]
   by_cases k2:a.Kind=2
   ·have e2:(a.Kind==2)=true:=by rw [beq_iff_eq];exact k2
    simp only [e2,cT]
    by_cases c:i=0
    ·subst c;simp
    ·have c:(i==0)=false:=by rw [beq_eq_false_iff_ne];exact c
     rw [c];simp
   ·have e2:(a.Kind==2)=false:=by rw [beq_eq_false_iff_ne];exact k2
    simp only [e2,cF]
    by_cases k3:a.Kind=3
    ·have e3:(a.Kind==3)=true:=by rw [beq_iff_eq];exact k3
     simp only [e3,cT]
     by_cases c:i=1
     ·subst c;simp
     ·have c:(i==1)=false:=by rw [beq_eq_false_iff_ne];exact c
      rw [c];simp
    ·have e3:(a.Kind==3)=false:=by rw [beq_eq_false_iff_ne];exact k3
     simp only [e3,cF];simp
 have hl3:∀j:Int,(([(i,j)].filter (RM a)).map fun p:Int×Int=>(⟨2*f+p.1,2*t+p.2,1,k⟩:AS)).length<=1:=fun j=>by rw [List.length_map];exact Nat.le_trans (List.length_filter_le _ _) (by simp)
 rw [step (m+2) l 0 (by omega) (by omega) (by omega),w1,step (m+1) _ 1 (by have:=hl3 0;rw [List.length_append];omega) (by omega) (by omega),w2,FI.eq_2]
 have d2:decide ((2:Int)<=1)=false:=by decide
 rw [d2,cF,List.append_assoc,←List.map_append,←List.filter_append]
 rfl
theorem pE{n:Nat}{a:Bg}{f t k:Int}(hf:0<=f∧f<=100000)(ht:0<=t∧t<=100000){l:List AS}(hl:l.length<=8000000)(hn:1048577<=n):
 dT n l a f t k=some (l++(cQ a).map fun p=>⟨2*f+p.1,2*t+p.2,1,k⟩):=by
 obtain⟨m,rfl⟩:∃m,n=m+3:=⟨n-3,by omega⟩
 have w1:wrap .i64 ((0:Int)+1)=1:=by decide
 have w2:wrap .i64 ((1:Int)+1)=2:=by decide
 have d0:decide ((0:Int)<=1)=true:=by decide
 have d1:decide ((1:Int)<=1)=true:=by decide
 have d2:decide ((2:Int)<=1)=false:=by decide
 have hl3:(([((0:Int),(0:Int)),(0,1)].filter (RM a)).map fun p:Int×Int=>(⟨2*f+p.1,2*t+p.2,1,k⟩:AS)).length<=2:=by rw [List.length_map];exact Nat.le_trans (List.length_filter_le _ _) (by simp)
 rw [dT,LQ.eq_2,d0,cT,Yr hf ht (by omega) (by omega),w1,LQ.eq_2,d1,cT,Yr hf ht (by omega) (by rw [List.length_append];omega),w2,LQ.eq_2,d2,cF,List.append_assoc,←List.map_append,←List.filter_append]
 rfl
theorem SB{c:Al}(vc:NB c){j:Nat}(hj:j<c.Arcs.length):(0<=c.Arcs[j].From∧c.Arcs[j].From<c.Pins.length)∧(0<=c.Arcs[j].To∧c.Arcs[j].To<c.Pins.length)∧(c.Arcs[j].Kind=1∧(1<=c.Arcs[j].Sense∧c.Arcs[j].Sense<=3)∨c.Arcs[j].Kind=2∨c.Arcs[j].Kind=3∨c.Arcs[j].Kind=4∨c.Arcs[j].Kind=5):=by
 have ar:=(vc.arcs j hj).1
 unfold Mk at ar
 refine⟨by omega,by omega,?_⟩
 obtain⟨_,ar⟩:=ar
 by_cases k1:c.Arcs[j].Kind=1
 ·rw [if_pos k1]at ar;exact .inl ⟨k1,ar.2.2.1⟩
 ·rw [if_neg k1]at ar
  by_cases k2:c.Arcs[j].Kind=2∨c.Arcs[j].Kind=3
  ·rcases k2 with k|k
   ·exact .inr (.inl k)
   ·exact .inr (.inr (.inl k))
  ·rw [if_neg k2]at ar
   by_cases k4:c.Arcs[j].Kind=4∨c.Arcs[j].Kind=5
   ·rcases k4 with k|k
    ·exact .inr (.inr (.inr (.inl k)))
    ·exact .inr (.inr (.inr (.inr k)))
   ·rw [if_neg k4]at ar;exact ar.elim
theorem Qc{a:Bg}(h:3<a.Kind):cQ a=[]:=by
 have e1:(a.Kind==1)=false:=by rw [beq_eq_false_iff_ne];omega
 have e2:(a.Kind==2)=false:=by rw [beq_eq_false_iff_ne];omega
 have e3:(a.Kind==3)=false:=by rw [beq_eq_false_iff_ne];omega
 simp [cQ,RM,e1,e2,e3]
theorem RQ{n:Nat}{b:AI}(v:By b)(hn:1048577<=n):Ws n b=some (IC b):=by
 have vd:=v.design
 have few:=vd.few
 have hl:=CS vd.short vd.few.1 vd.few.2.2
 have hI:=EG (c:=32) (g:=Wo b) b.Design.Instances 0 fun j x hx=>Pi v j hx
 rw [Ws]
 rw [DW (xs:=b.Design.Instances) (L:=fun m s i=>Kh n b (fun l44 i48=>(HF n b (fun l55 i59=>(some l55)) n l44 0)) m s i) (k:=fun s=>HF n b (fun l55 i59=>some l55) n s 0) (Wo b) 32 0 (fun j x hx=>Pi v j hx) (by omega) (by
  intro m i hi s hs
  obtain⟨k,hk,_,gc,hnl,vc⟩:=v.design.inst_at hi
  have fa:=vc.few
  have fp:=vc.pins.few
  have hoff:=(Em (d:=b.Design) (q:=0) hi (by have:=(vd.inst _ (List.getElem_mem hi)).long vd.lib;omega)).lt
  simp only [Kh.eq_2,DH hi,cT,AY hi,gc,As,wT i]
  have ea:Lh b b.Design.Instances[i]=b.Library.Cells[k].Arcs:=by unfold Lh;rw [gc]
  rw [Wo,ea]
  refine DW (xs:=b.Library.Cells[k].Arcs) (L:=fun m s j=>KS n b (i:Int) b.Library.Cells[k] _ m s j) (k:=fun s=>Kh n b (fun l44 i48=>(HF n b (fun l55 i59=>(some l55)) n l44 0)) m s ((i+1:Nat):Int)) (aO (FQ b.Design i)) 4 s.length (fun j a _=>Sj _ _ a) (by omega) ?_ ?_ n (by omega) s (by omega)
  ·intro m j hj s2 hs2
   obtain⟨⟨f0,f1⟩,⟨t0,t1⟩,kd⟩:=SB vc hj
   simp only [KS.eq_2,DH hj,cT,AY hj,As,wT j]
   by_cases c:b.Library.Cells[k].Arcs[j].Kind<=3
   ·rw [decide_eq_true c,cT]
    obtain⟨F,eF⟩:=Int.eq_ofNat_of_zero_le f0
    have eF:b.Library.Cells[k].Arcs[j].From=(F:Int):=eF
    obtain⟨T,eT⟩:=Int.eq_ofNat_of_zero_le t0
    have eT:b.Library.Cells[k].Arcs[j].To=(T:Int):=eT
    have p1:=Sx (n:=n) vd (q:=F) hi (by omega) hn
    have p2:=Sx (n:=n) vd (q:=T) hi (by omega) hn
    rw [eF,eT,p1,As,p2,As,pE (by omega) (by omega) (by omega) hn,As]
    congr 2
    unfold aO
    rw [eF,eT]
    simp
   ·rw [decide_eq_false c,cF]
    unfold aO
    rw [Qc (by omega),List.map_nil,List.append_nil]
  ·intro m s
   simp only [KS.eq_2,DQ,cF]) (by
  intro m s
  simp only [Kh.eq_2,DQ,cF]) n (by omega) [] (by simp)]
 rw [List.nil_append]
 rw [DW (xs:=b.Design.Nets) (L:=fun m s i=>HF n b (fun l55 i59=>(some l55)) m s i) (k:=fun s=>some s) (fun q _=>iW b.Design q) 156 (Eh (Wo b) 0 b.Design.Instances).length (fun j x _=>SS vd j) (by omega) (by
  intro m i hi s hs
  have hd:=(Pj vd hi).lt
  have hsl:(Iw b.Design (i:Int)).length<=78:=by
   rw [GN];exact Nat.le_trans List.countP_le_length hl
  simp only [HF.eq_2,DH hi,cT,pG vd hi hn,aR vd (i:Int) hn,As,wT i]
  refine DW (xs:=Iw b.Design (i:Int)) (L:=fun m s j=>Ll n (Lk b.Design i:Int) (Iw b.Design (i:Int)) _ m s j) (k:=fun s=>HF n b (fun l55 i59=>(some l55)) m s ((i+1:Nat):Int)) (Yn (Lk b.Design i:Int)) 2 s.length (fun j a _=>by simp [Yn]) (by omega) ?_ ?_ n (by omega) s (by omega)
  ·intro m j hj s2 hs2
   have hq:=MU _ (List.getElem_mem hj)
   simp only [Ll.eq_2,DH hj,cT,AY hj,As,wT j]
   rw [Zm (by omega) (by omega) (by omega) (by omega) (by omega),As,Zm (by simp;omega) (by omega) (by omega) (by omega) (by omega),As]
   rw [List.append_assoc]
   congr 2
   simp [Yn]
  ·intro m s
   simp only [Ll.eq_2,DQ,cF]) (by
  intro m s
  simp only [HF.eq_2,DQ,cF]) n (by omega) _ (Nat.le_refl _)]
 rfl
theorem HA{α β:Type}(h:Nat->α->β):∀(xs:List α) (s:Nat),(Eh (fun j q=>[h j q]) s xs).length=xs.length
 |[],_=>rfl
 |x::xs,s=>by simp [Eh,HA h xs (s+1)]
theorem YK{a:Bg}:∀p∈cQ a,(0<=p.1∧p.1<=1)∧0<=p.2∧p.2<=1:=fun p hp=>by
 have:=(List.mem_filter.1 hp).1
 simp only [List.mem_cons,List.not_mem_nil,or_false]at this
 rcases this with rfl|rfl|rfl|rfl<;>simp
def mP(N:Int)(br:List Int):Prop:=∀i,i<br.length->(0<=gd br i∧gd br i<=N-1)∧(0<i->gd br (i-1)<gd br i)
theorem rW{n:Nat}{br:List Int}{N:Int}(h:br.length<=1048576)(hN:0<=N∧N<=1048576)(hn:1048577<=n):BW (mP N br) (Vy n br N):=by
 rw [Vy]
 refine(Ez (L:=fun m i=>JD n br N _ m i) (Q:=True) br.length 0 (fun i=>(0<=gd br i∧gd br i<=N-1)∧(0<i->gd br (i-1)<gd br i)) ?_ ?_ n 0 (by omega) (by omega) (by omega) (fun j _ h=>by omega)).iff ?_
 ·intro m i _ hi
  simp only [JD.eq_2,DH hi,cT,gI hi,As,Fk,wT i,Af (x:=N-1) (by omega) (by omega)]
  by_cases c:0<=gd br i∧gd br i<=N-1
  ·have e:(decide (gd br i>=0)&&decide (gd br i<=N-1))=true:=Ln.2 c
   rw [e]
   simp only [Bool.not_true,cF]
   by_cases c0:0<i
   ·have w1:wrap .i64 ((i:Int)-1)=((i-1:Nat):Int):=by rw [Af (by omega) (by omega)];omega
    simp only [decide_eq_true (show(i:Int)>0 by omega),cT,w1,gI (show i-1<br.length by omega),As]
    by_cases c1:gd br (i-1)<gd br i
    ·rw [decide_eq_false (show¬gd br (i-1)>=gd br i by omega),cF];exact .inl ⟨⟨c,fun _=>c1⟩,rfl⟩
    ·rw [decide_eq_true (show gd br (i-1)>=gd br i by omega),cT];exact .inr ⟨fun h=>c1 (h.2 c0),rfl⟩
   ·simp only [decide_eq_false (show¬(i:Int)>0 by omega),cF,As]
    exact .inl ⟨⟨c,fun h=>absurd h c0⟩,by trivial⟩
  ·have e:(decide (gd br i>=0)&&decide (gd br i<=N-1))=false:=by
    cases q:(decide (gd br i>=0)&&decide (gd br i<=N-1))with
    |false=>rfl
    |true=>exact absurd (Ln.1 q) c
   rw [e]
   simp only [Bool.not_false,cT,As]
   exact .inr ⟨fun h=>c h.1,by trivial⟩
 ·intro m i h1 h2 _
  obtain rfl:i=br.length:=by omega
  simp only [JD.eq_2,DQ,cF]
  exact⟨true,rfl,by simp⟩
 ·exact⟨fun h i hi=>h.1 i (Nat.zero_le _) hi,fun h=>⟨fun i _ hi=>h i hi,trivial⟩⟩
theorem gS{n:Nat}{br:List Int}{x:Int}(h:br.length<=1048576)(hn:1048577<=n):Rj n br x=some (br.any fun y=>y==x):=by
 rw [Rj]
 refine loop (L:=fun m i (_:Unit)=>JC br x (fun i5=>some false) m i) br.length (fun i _=>(br.any fun y=>y==x)=((br.drop i).any fun y=>y==x)) (fun o=>o=some (br.any fun y=>y==x)) ?_ ?_ n 0 () (by omega) (by omega) (by simp)
 ·intro m i _ hi hI
  simp only [JC.eq_2,DH hi,cT,AY hi,As,wT i]
  rw [List.drop_eq_getElem_cons hi,List.any_cons]at hI
  cases c:(br[i]==x)with
  |true=>rw [c,Bool.true_or]at hI;rw [hI];exact .inr rfl
  |false=>rw [c,Bool.false_or]at hI;exact .inl ⟨(),hI,rfl⟩
 ·intro m _ hI
  rw [List.drop_length]at hI
  simp only [JC.eq_2,DQ,cF,hI,List.any_nil]
def WA(b:AI)(x:AS):Option Bg:=Option.bind (AL (pls b.Design) (wrap .i64 (Int.tdiv x.To 2))) fun p=>Option.bind (AL b.Design.Instances p.instance_) fun y=>Option.bind (AL b.Library.Cells y.Cell) fun c=>Option.bind (AL c.Arcs x.Index) fun a=>some a
def RE(b:AI)(x:AS):Bool:=x.Kind==1&&match WA b x with
 |some a=>a.Kind==2||a.Kind==3
 |none=>false
structure Rv(b:AI)(x:AS):Prop where
 from_:0<=x.From∧x.From<EN b
 to_:0<=x.To∧x.To<EN b
 arc:x.Kind=1->∃p y c a,AL (pls b.Design) (wrap .i64 (Int.tdiv x.To 2))=some p∧p∈pls b.Design∧AL b.Design.Instances p.instance_=some y∧AL b.Library.Cells y.Cell=some c∧AL c.Arcs x.Index=some a∧(a.Kind=1∨a.Kind=2∨a.Kind=3)
theorem Nh{b:AI}(v:By b):∀x∈IC b,Rv b x:=by
 have vd:=v.design
 have hl:=CS vd.short vd.few.1 vd.few.2.2
 have nd:EN b=2*((pls b.Design).length:Int):=rfl
 intro x hx
 simp only [IC,List.mem_append]at hx
 rcases hx with hx|hx
 ·refine DX (Q:=Rv b) b.Design.Instances 0 (fun i hi y hy=>?_) x hx
  rw [Nat.zero_add]at hy
  obtain⟨k,hk,_,gc,hnl,vc⟩:=vd.inst_at hi
  have ea:Lh b b.Design.Instances[i]=b.Library.Cells[k].Arcs:=by unfold Lh;rw [gc]
  rw [Wo,ea]at hy
  refine DX (Q:=Rv b) _ 0 (fun j hj z hz=>?_) y hy
  rw [Nat.zero_add]at hz
  obtain⟨⟨f0,f1⟩,⟨t0,t1⟩,kd⟩:=SB vc hj
  obtain⟨t,ht,rfl⟩:=List.mem_map.1 hz
  have tr:=YK t ht
  obtain⟨F,eF⟩:=Int.eq_ofNat_of_zero_le f0
  have eF:b.Library.Cells[k].Arcs[j].From=(F:Int):=eF
  obtain⟨T,eT⟩:=Int.eq_ofNat_of_zero_le t0
  have eT:b.Library.Cells[k].Arcs[j].To=(T:Int):=eT
  have b1:=(Em (d:=b.Design) (q:=F) hi (by omega)).lt
  have pf:=Em (d:=b.Design) (q:=T) hi (by omega)
  have b2:=pf.lt
  obtain⟨p,ep,hp⟩:=pf.hit
  have hp:(p.instance_==(i:Int)&&p.pin_==(T:Int))=true:=hp
  simp only [Bool.and_eq_true,beq_iff_eq]at hp
  have k3:¬3<b.Library.Cells[k].Arcs[j].Kind:=fun h=>by rw [Qc h]at ht;cases ht
  refine⟨?_,?_,fun _=>⟨p,b.Design.Instances[i],b.Library.Cells[k],b.Library.Cells[k].Arcs[j],?_,List.mem_of_getElem? ep,?_,gc,?_,by omega⟩⟩
  ·have h1:0<=2*((FQ b.Design i:Int)+b.Library.Cells[k].Arcs[j].From)+t.1∧2*((FQ b.Design i:Int)+b.Library.Cells[k].Arcs[j].From)+t.1<EN b:=by rw [eF];omega
   exact h1
  ·have h1:0<=2*((FQ b.Design i:Int)+b.Library.Cells[k].Arcs[j].To)+t.2∧2*((FQ b.Design i:Int)+b.Library.Cells[k].Arcs[j].To)+t.2<EN b:=by rw [eT];omega
   exact h1
  ·show AL (pls b.Design) (wrap .i64 (Int.tdiv (2*((FQ b.Design i:Int)+b.Library.Cells[k].Arcs[j].To)+t.2) 2))=some p
   rw [eT]
   have e1:Int.tdiv (2*((FQ b.Design i:Int)+(T:Int))+t.2) 2=((FQ b.Design i+T:Nat):Int):=by
    rw [Int.tdiv_eq_ediv_of_nonneg (by omega)];omega
   rw [e1,Af (by omega) (by omega),HP];exact ep
  ·rw [hp.1];exact AY hi
  ·exact AY hj
 ·refine DX (Q:=Rv b) b.Design.Nets 0 (fun q hq y hy=>?_) x hx
  rw [Nat.zero_add]at hy
  have hd:=(Pj vd hq).lt
  refine DX (Q:=Rv b) _ 0 (fun j hj z hz=>?_) y hy
  have hs:=MU _ (List.getElem_mem hj)
  simp only [Yn,List.mem_cons,List.not_mem_nil,or_false]at hz
  rcases hz with rfl|rfl
  ·exact⟨⟨by show(0:Int)<=2*_;omega,by show(2:Int)*_<_;omega⟩,⟨by show(0:Int)<=2*_;omega,by show(2:Int)*_<_;omega⟩,fun h=>by have h:(2:Int)=1:=h;omega⟩
  ·exact⟨⟨by show(0:Int)<=2*_+1;omega,by show(2:Int)*_+1<_;omega⟩,⟨by show(0:Int)<=2*_+1;omega,by show(2:Int)*_+1<_;omega⟩,fun h=>by have h:(2:Int)=1:=h;omega⟩
theorem lJ{n:Nat}{l:Ay}{d:AV}(v:Cu l d){p:Az}(hp:p∈pls d):∃r,Vu n l d (GZ p)=some r:=by
 rw [Vu]
 by_cases c:p.instance_<0
 ·rw [decide_eq_true (show(GZ p).instance_<0 from c),cT];exact⟨_,rfl⟩
 ·obtain⟨x,c',pin,e1,e2,e3⟩:=v.place p hp (by omega)
  have e1:AL d.Instances (GZ p).instance_=some x:=e1
  have e3:AL c'.Pins (GZ p).pin_=some pin:=e3
  rw [decide_eq_false (show¬(GZ p).instance_<0 from c),cF,e1,As,e2,As,e3,As];exact⟨_,rfl⟩
theorem mY{n:Nat}{b:AI}(v:By b){i:Nat}(hi:i<b.Wires.length)(hn:1048577<=n):BK (fun r=>r.length=b.Wires[i].Parent.length) (cV n b (i:Int)):=by
 have vd:=v.design
 have vw:=v.wire i hi
 have hm:=vw.many
 have hP:=vw.cap
 have hl:=CS vd.short vd.few.1 vd.few.2.2
 have hsl:(Iw b.Design (i:Int)).length=b.Wires[i].Sink.length:=by rw [GN];have:=vw.sink;omega
 have hsn:snk b.Design (i:Int)<=78:=Nat.le_trans List.countP_le_length hl
 have hsn2:=GN (d:=b.Design) (q:=(i:Int))
 rw [cV,AY hi,As,On,BN (by simp;omega) (by omega),As,As,NM vd.short vd.few.1 vd.few.2.2 hn,As,aR vd (i:Int) hn,As]
 refine GR (L:=fun m j s=>LW n b b.Wires[i] ((pls b.Design).map GZ) (Iw b.Design (i:Int)) _ m j s) (Iw b.Design (i:Int)).length (fun _ s=>s.length=b.Wires[i].Parent.length) ?_ ?_ n _ (by omega) (by simp;omega)
 ·intro m j s hj hs
  have hj2:j<b.Wires[i].Sink.length:=by omega
  have hk:=vw.sinks j hj2
  have hq:=MU _ (List.getElem_mem hj)
  obtain⟨a,ea⟩:=El (t:=s) hk.1 (by omega)
  obtain⟨p,ep,hp⟩:=Ei (xs:=pls b.Design) hq.1 hq.2
  obtain⟨r,er⟩:=lJ (n:=n) vd (List.mem_of_getElem? hp)
  have ep2:AL ((pls b.Design).map GZ) (Iw b.Design (i:Int))[j]=some (GZ p):=by
   obtain⟨N,hN⟩:=Int.eq_ofNat_of_zero_le hq.1
   have hN:(Iw b.Design (i:Int))[j]=(N:Int):=hN
   rw [hN]at hp ⊢
   rw [HP,List.getElem?_map]
   rw [Int.toNat_natCast]at hp
   rw [hp];rfl
  simp only [LW.eq_2,DH hj,cT,AY hj,gI hj2,As,ea,ep2,er,wT j]
  exact⟨_,by simpa using hs,rfl⟩
 ·intro m s hs
  simp only [LW.eq_2,DQ,cF]
  have wx:wrap .i64 ((s.length:Int)-1)=((s.length-1:Nat):Int):=by rw [Af (by omega) (by omega)];omega
  rw [wx]
  have key:∀(m k:Nat) (s:List Int),k<b.Wires[i].Parent.length->s.length=b.Wires[i].Parent.length->k<m->BK (fun r:List Int=>r.length=b.Wires[i].Parent.length) (LR b.Wires[i] (fun i92 l94=>(some l94)) m (k:Int) s):=by
   intro m
   induction m with
   |zero=>intro k s _ _ h;omega
   |succ m ih=>
    intro k s hk hs hm
    by_cases c:0<k
    ·have hd:decide ((k:Int)>0)=true:=decide_eq_true (by omega)
     have ht:=vw.tree k c hk
     obtain⟨a,ea⟩:=El (t:=s) ht.1 (by omega)
     have wk:wrap .i64 ((k:Int)-1)=((k-1:Nat):Int):=by rw [Af (by omega) (by omega)];omega
     simp only [LR.eq_2,hd,cT,gI hk,As,ea,gI (show k<s.length by omega),wk]
     exact ih (k-1) _ (by omega) (by simpa using hs) (by omega)
    ·have hd:decide ((k:Int)>0)=false:=decide_eq_false (by omega)
     simp only [LR.eq_2,hd,cF]
     exact⟨s,rfl,hs⟩
  exact key n (s.length-1) s (by omega) hs (by omega)
end Go.Proofs.YthojemmmflaicacGreatDoor
