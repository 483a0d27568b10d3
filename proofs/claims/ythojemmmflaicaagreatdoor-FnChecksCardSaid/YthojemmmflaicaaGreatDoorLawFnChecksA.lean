/- The plain law behind FnChecks: the plain function answers true; no condition. -/
import Derived.Test.YthojemmmflaicaaGreatDoorWalkFnChecks
set_option linter.all false
set_option maxHeartbeats 4000000
namespace Go.Proofs.YthojemmmflaicaaGreatDoor
open Go Go.RowKit Go.Eng
open Go.IntKind (wrap)

theorem FM{b c:Bool}:(cond b (some true) (some c))=some (b||c):=by cases b<;>rfl
theorem CQ{b c:Bool}:(cond b (some c) (some false))=some (b&&c):=by cases b<;>rfl
theorem DE{i N:Nat}(h:i<N):decide ((i:Int)<(N:Int))=true:=decide_eq_true (by omega)
theorem DX(N:Nat):decide ((N:Int)<(N:Int))=false:=decide_eq_false (by omega)
theorem wS{i:Nat}(h:i<4611686018427387904):wrap .i64 ((i:Int)+1)=((i+1:Nat):Int):=by rw [Ah (by omega) (by omega)];simp
theorem AV{α:Type}{xs:List α}{i:Nat}(h:i<xs.length):AI xs (i:Int)=some xs[i]:=by rw [Hy];exact List.getElem?_eq_getElem h
theorem CY{α:Type}{xs:List α}{i:Int}(h0:0<=i)(h1:i<xs.length):∃x,AI xs i=some x∧xs[i.toNat]? =some x:=by
 obtain⟨x,hx,_⟩:=Ek h0 h1
 exact⟨x,hx,(El hx).2.2⟩
theorem loop{σ R:Type}{L:Nat->Int->σ->Option R}(N:Nat)(I:Nat->σ->Prop)(Post:Option R->Prop)
 (hs:∀(m i:Nat) (st:σ),i<N->I i st->(∃st',I (i+1) st'∧L (m+1) (i:Int) st=L m ((i+1:Nat):Int) st')∨Post (L (m+1) (i:Int) st))
 (he:∀(m:Nat) (st:σ),I N st->Post (L (m+1) (N:Int) st)):∀(m i:Nat) (st:σ),i<=N->N-i<m->I i st->Post (L m (i:Int) st)
 |0,i,st,_,hm,_=>by omega
 |m+1,i,st,hi,hm,h=>by
  by_cases hlt:i<N
  ·rcases hs m i st hlt h with ⟨st',h1,h2⟩|h1
   ·rw [h2];exact loop N I Post hs he m (i+1) st' (by omega) (by omega) h1
   ·exact h1
  ·obtain rfl:i=N:=by omega
   exact he m st h
theorem PW{α σ R:Type}{xs:List α}{L:Nat->Int->σ->Option R}{k:σ->Option R}(f:σ->α->σ)(I:Nat->σ->Prop)
 (hs:∀(m i:Nat) (h:i<xs.length) (st:σ),I i st->L (m+1) (i:Int) st=L m ((i+1:Nat):Int) (f st xs[i])∧I (i+1) (f st xs[i]))
 (he:∀(m:Nat) (st:σ),I xs.length st->L (m+1) (xs.length:Int) st=k st) (m:Nat) (st:σ) (h:I 0 st) (hm:xs.length<m):L m 0 st=k (xs.foldl f st)∧I xs.length (xs.foldl f st):=by
 refine loop xs.length (fun i s=>I i s∧(xs.drop i).foldl f s=xs.foldl f st) (fun o=>o=k (xs.foldl f st)∧I xs.length (xs.foldl f st)) ?_ ?_ m 0 st (by omega) (by omega) ⟨h,by simp⟩
 ·intro m i s hi ⟨h1,h2⟩
  obtain⟨e,h3⟩:=hs m i hi s h1
  exact .inl ⟨_,⟨h3,by rw [List.drop_eq_getElem_cons hi]at h2;exact h2⟩,e⟩
 ·intro m s ⟨h1,h2⟩
  rw [List.drop_length]at h2
  have h2:s=xs.foldl f st:=h2
  rw [←h2]
  exact⟨he m s h1,h1⟩
theorem BK{α:Type}{xs ys:List α}{b:Nat}(h:xs.length+ys.length<=16777216)(hb:b<=1048576):Bv xs ys b=some (xs++ys):=by
 unfold Bv
 have:(xs.length+ys.length)*b<=16777216*1048576:=Nat.mul_le_mul h hb
 rw [if_pos ⟨by omega,by omega⟩]
theorem OK{α R:Type}{xs:List α}{L:Nat->Int->Option R}{k no:Option R}(p:α->Bool)(hs:∀(m i:Nat) (h:i<xs.length),L (m+1) (i:Int)=cond (p xs[i]) (L m ((i+1:Nat):Int)) no)
 (he:∀m:Nat,L (m+1) (xs.length:Int)=k) (m:Nat) (hm:xs.length<m):L m 0=cond (xs.all p) k no:=by
 refine loop (L:=fun m i (_:Unit)=>L m i) xs.length (fun i _=>xs.all p=(xs.drop i).all p) (fun o=>o=cond (xs.all p) k no) ?_ ?_ m 0 () (by omega) (by omega) (by simp)
 ·intro m i _ hi h
  rw [List.drop_eq_getElem_cons hi,List.all_cons]at h
  cases hp:p xs[i]with
  |false=>refine .inr ?_;rw [h,hp];simp only [hs m i hi,hp,cF,Bool.false_and]
  |true=>refine .inl ⟨(),by rw [h,hp];simp,?_⟩;simp only [hs m i hi,hp,cT]
 ·intro m _ h
  rw [List.drop_length]at h
  rw [h];simp [he m]
theorem TH{σ R:Type}{L:Nat->σ->Option R}(μ:σ->Nat)(I:σ->Prop)(Post:Option R->Prop)
 (hs:∀(m:Nat) (st:σ),I st->(∀st',I st'->μ st'<μ st->Post (L m st'))->Post (L (m+1) st)):∀(m:Nat) (st:σ),μ st<m->I st->Post (L m st)
 |0,st,h,_=>by omega
 |m+1,st,h,hI=>hs m st hI fun st' h1 h2=>TH μ I Post hs m st' (by omega) h1
theorem Fk{σ R:Type}{L:Nat->Int->σ->Option R}(N:Nat)(I:Nat->σ->Prop)(Post:Option R->Prop)
 (hs:∀(m i:Nat) (st:σ),i<N->I i st->(∀st',I (i+1) st'->Post (L m ((i+1:Nat):Int) st'))->Post (L (m+1) (i:Int) st))
 (he:∀(m:Nat) (st:σ),I N st->Post (L (m+1) (N:Int) st)):∀(m i:Nat) (st:σ),i<=N->N-i<m->I i st->Post (L m (i:Int) st)
 |0,i,st,_,hm,_=>by omega
 |m+1,i,st,hi,hm,h=>by
  by_cases hlt:i<N
  ·exact hs m i st hlt h fun st' h'=>Fk N I Post hs he m (i+1) st' (by omega) (by omega) h'
  ·obtain rfl:i=N:=by omega
   exact he m st h
def BQ{α:Type}(Q:α->Prop)(o:Option α):Prop:=∃v,o=some v∧Q v
theorem AS{α:Type}{Q:α->Prop}{v:α}(h:Q v):BQ Q (some v):=⟨v,rfl,h⟩
theorem BQ.bind{α β:Type}{A:α->Prop}{Q:β->Prop}{o:Option α}{f:α->Option β}(h:BQ A o)(k:∀v,o=Option.some v->A v->BQ Q (f v)):BQ Q (Option.bind o f):=by
 obtain⟨v,e,hv⟩:=h
 rw [e];exact k v e hv
theorem Ap{α:Type}{Q:α->Prop}{c:Bool}{x y:Option α}(h1:c=true->BQ Q x)(h2:c=false->BQ Q y):BQ Q (cond c x y):=by
 cases c
 ·exact h2 rfl
 ·exact h1 rfl
theorem BQ.weaken{α:Type}{Q Q':α->Prop}{o:Option α}(h:BQ Q o)(hq:∀v,Q v->Q' v):BQ Q' o:=by
 obtain⟨v,e,hv⟩:=h
 exact⟨v,e,hq v hv⟩
theorem BQ.get{α:Type}{Q:α->Prop}{xs:List α}{i:Int}(h0:0<=i)(h1:i<xs.length)(h:∀x∈xs,Q x):BQ Q (AI xs i):=by
 obtain⟨x,hx,hm⟩:=Ek h0 h1
 exact⟨x,hx,h x hm⟩
theorem Cd{α:Type}{xs:List α}{i:Int}(h0:0<=i)(h1:i<xs.length):BQ (fun x=>x∈xs) (AI xs i):=BQ.get h0 h1 fun _ h=>h
theorem Kk{α:Type}{xs:List α}{L:Nat->Int->Option Int}(p:α->Bool)(hs:∀(m i:Nat) (h:i<xs.length),L (m+1) (i:Int)=cond (p xs[i]) (some (i:Int)) (L m ((i+1:Nat):Int)))
 (he:∀m:Nat,L (m+1) (xs.length:Int)=some (-1)) (m:Nat) (hm:xs.length<m):∃r,L m 0=some r∧decide (r>=0)=xs.any p:=by
 refine loop (L:=fun m i (_:Unit)=>L m i) xs.length (fun i _=>xs.any p=(xs.drop i).any p) (fun o=>∃r,o=some r∧decide (r>=0)=xs.any p) ?_ ?_ m 0 () (by omega) (by omega) (by simp)
 ·intro m i _ hi h
  rw [List.drop_eq_getElem_cons hi,List.any_cons]at h
  cases hp:p xs[i]with
  |false=>refine .inl ⟨(),by rw [h,hp];simp,?_⟩;simp only [hs m i hi,hp,cF]
  |true=>refine .inr ⟨(i:Int),?_,?_⟩
         ·simp only [hs m i hi,hp,cT]
         ·rw [h,hp];simp
 ·intro m _ h
  rw [List.drop_length]at h
  exact⟨-1,he m,by rw [h];rfl⟩
structure EB(c:List Int)(s:AA):Prop where
 code:s.code_=c
 at0:0<=s.at_∧s.at_<=c.length
 sd:0<=s.seed_∧s.seed_<2147483647
def Je(c:List Int):Prop:=c.length<=4096∧∀x∈c,0<=x∧x<=255
theorem FF{a b:Int}(ha:0<=a)(hb:0<b):0<=Int.tmod a b∧Int.tmod a b<b:=⟨Int.tmod_nonneg _ ha,Int.tmod_lt_of_pos _ hb⟩
theorem Nx{n:Nat}{c:List Int}(hc:Je c){s:AA}(h:EB c s)(k:Int):BQ (fun r=>EB c r.2∧0<=r.1∧(r.1<k∨r.1=0∧k<=1)) (EK n s k):=by
 obtain⟨h1,h2,h3⟩:=h
 have hl:=hc.1
 rw [EK]
 refine Ap (fun hk=>AS ⟨⟨h1,h2,h3⟩,Int.le_refl _,.inr ⟨rfl,of_decide_eq_true hk⟩⟩) fun hk=>?_
 have hk:=of_decide_eq_false hk
 have hk0:(k==0)=false:=by rw [beq_eq_false_iff_ne];omega
 refine Ap (fun ha=>?_) fun ha=>?_
 ·have ha:=of_decide_eq_true ha
  rw [h1]at ha ⊢
  refine BQ.bind (BQ.get h2.1 ha hc.2) fun x _ hx=>?_
  have wx:wrap .i64 x=x:=Ah (by omega) (by omega)
  have wa:wrap .i64 (s.at_+1)=s.at_+1:=Ah (by omega) (by omega)
  have wm:wrap .i64 (s.seed_*48271)=s.seed_*48271:=Ah (by omega) (by omega)
  simp only [hk0,cF,wx,wa,wm,Ah (x:=s.seed_*48271+x) (by omega) (by omega),Ah (x:=s.seed_*48271+x+1) (by omega) (by omega)]
  have m1:=FF (a:=s.seed_*48271+x+1) (b:=2147483647) (by omega) (by omega)
  refine Ap (fun _=>AS ⟨⟨rfl,⟨?_,?_⟩,h3⟩,?_⟩) fun _=>AS ⟨⟨rfl,⟨?_,?_⟩,m1⟩,?_⟩
  ·show 0<=s.at_+1;omega
  ·show s.at_+1<=_;omega
  ·exact⟨(FF hx.1 (by omega)).1,.inl (FF hx.1 (by omega)).2⟩
  ·show 0<=s.at_+1;omega
  ·show s.at_+1<=_;omega
  ·exact⟨(FF m1.1 (by omega)).1,.inl (FF m1.1 (by omega)).2⟩
 ·have wm:wrap .i64 (s.seed_*48271)=s.seed_*48271:=Ah (by omega) (by omega)
  have m1:=FF (a:=s.seed_*48271+11) (b:=2147483647) (by omega) (by omega)
  simp only [hk0,cF,wm,Ah (x:=s.seed_*48271+11) (by omega) (by omega)]
  generalize Int.tmod (s.seed_*48271+11) 2147483647=q at*
  have d0:0<=Int.tdiv q 7:=Int.tdiv_nonneg m1.1 (by omega)
  have d1:Int.tdiv q 7<=q:=Int.tdiv_le_self _ m1.1
  rw [Ah (x:=Int.tdiv q 7) (by omega) (by omega)]
  exact AS ⟨⟨h1,h2,m1⟩,(FF d0 (by omega)).1,.inl (FF d0 (by omega)).2⟩
theorem EB.mk2{c d:List Int}{s:AA}(h:EB c s)(e:d=c):EB c (AA.mk d s.at_ s.seed_):=⟨e,h.at0,h.sd⟩
theorem Fr{n:Nat}{c:List Int}(hc:Je c)(hn:1048577<=n):BQ (fun r=>EB c r) (Vl n c):=by
 have hl:=hc.1
 rw [Vl]
 refine Fk (L:=fun m i (p:Int×Int)=>IX c (fun i12 i14 i15=>(some ((AA.mk c i14 i15)))) m i p.1 p.2) (min c.length 64) (fun _ p=>p.1=0∧0<=p.2∧p.2<2147483647) _ ?_ ?_ n 0 (0,12345) (by omega) (by omega) ⟨rfl,by omega,by omega⟩
 ·intro m i ⟨a,sd⟩ hi ⟨h1,h2⟩ ih
  dsimp only at h1 h2 ⊢
  have hi1:i<c.length:=by omega
  have hx:=hc.2 _ (List.getElem_mem hi1)
  simp only [IX.eq_2,DE hi1,DE (show i<64 by omega),Bool.and_self,cT,AV hi1,Am,show((64:Int))=((64:Nat):Int)from rfl,wT i]
  generalize c[i]=x at*
  rw [Ah (x:=sd*31) (by omega) (by omega),Ah (x:=x) (by omega) (by omega),Ah (x:=sd*31+x) (by omega) (by omega)]
  have m1:=FF (a:=sd*31+x) (b:=2147483647) (by omega) (by omega)
  exact ih (a,_) ⟨h1,m1⟩
 ·intro m ⟨a,sd⟩ ⟨h1,h2⟩
  dsimp only at h1 h2 ⊢
  have:(decide (((min c.length 64:Nat):Int)<(c.length:Int))&&decide (((min c.length 64:Nat):Int)<64))=false:=by
   rw [Bool.and_eq_false_iff,decide_eq_false_iff_not,decide_eq_false_iff_not];omega
  simp only [IX.eq_2,this,cF]
  exact AS ⟨rfl,⟨by subst h1;exact Int.le_refl _,by subst h1;exact Int.natCast_nonneg _⟩,h2⟩
theorem Je.of{code:List Int}(hR:code.length<=9223372036854775807∧∀x∈code,eQ .u8 x)(h:¬(code.length:Int)>4096):Je code:=⟨by omega,fun x hx=>hR.2 x hx⟩
def gd(t:List Int)(j:Nat):Int:=t.getD j 0
theorem Mw{t:List Int}{j:Nat}{v:Int}(h:t[j]? =some v):gd t j=v:=by simp [gd,h]
theorem bL{t:List Int}{j:Nat}(h:j<t.length):t[j]? =some (gd t j):=by simp [gd,h]
theorem Ny{t:List Int}{i j:Nat}{v:Int}(h:i<t.length):gd (t.set i v) j=if i=j then v else gd t j:=by
 unfold gd
 rw [List.getD_eq_getElem?_getD,List.getD_eq_getElem?_getD,List.getElem?_set]
 by_cases e:i=j
 ·subst e;simp [h]
 ·simp [e]
theorem Sg{t:List Int}{i:Int}(h0:0<=i)(h1:i<t.length):AI t i=some (gd t i.toNat):=by
 obtain⟨x,hx,h⟩:=CY h0 h1
 rw [hx,Mw h]
def gb(t:List Bool)(j:Nat):Bool:=t.getD j false
theorem Nv{t:List Bool}{i j:Nat}{v:Bool}(h:i<t.length):gb (t.set i v) j=if i=j then v else gb t j:=by
 unfold gb
 rw [List.getD_eq_getElem?_getD,List.getD_eq_getElem?_getD,List.getElem?_set]
 by_cases e:i=j
 ·subst e;simp [h]
 ·simp [e]
theorem OO{n j:Nat}:gd (List.replicate n 0) j=0:=by
 simp only [gd,List.getD_eq_getElem?_getD,List.getElem?_replicate];split<;>rfl
theorem YW(m:Int):0<=Nt .u64 m 16777215∧Nt .u64 m 16777215<=16777215:=by
 unfold Nt
 have h:(BitVec.ofInt IntKind.u64.bits m&&&BitVec.ofInt IntKind.u64.bits 16777215).toNat<=16777215:=by
  rw [BitVec.toNat_and]
  refine Nat.le_trans Nat.and_le_right ?_
  decide
 generalize (BitVec.ofInt IntKind.u64.bits m&&&BitVec.ofInt IntKind.u64.bits 16777215).toNat=q at h
 have:IntKind.wrap IntKind.u64 (q:Int)=q:=by
  have e:IntKind.wrap IntKind.u64 (q:Int)=(q:Int)%18446744073709551616:=rfl
  rw [e];omega
 rw [this];omega
structure eJ(c:List Int)(d:EN):Prop where
 b:d.b_=c
 i0:0<=d.i_∧d.i_<=c.length
theorem vH{n:Nat}{c:List Int}(hc:Je c)(hn:1048577<=n)(seed:Int):BQ (fun d=>eJ c d) (VE n c seed):=by
 have hl:=hc.1
 rw [VE]
 generalize IntKind.wrap IntKind.u64 _=h0
 refine Fk (L:=fun m i (p:Int×Int)=>JR c (fun i12 i14 i15=>(some ((EN.mk c i14 i15)))) m i p.1 p.2) c.length (fun _ p=>p.1=0) _ ?_ ?_ n 0 (0,h0) (by omega) (by omega) rfl
 ·intro m i ⟨a,h⟩ hi h1 ih
  dsimp only at h1 ⊢
  simp only [JR.eq_2,DE hi,cT,AV hi,Am,wT i]
  exact ih (a,_) h1
 ·intro m ⟨a,h⟩ h1
  dsimp only at h1 ⊢
  subst h1
  simp only [JR.eq_2,DX,cF]
  exact AS ⟨rfl,by show(0:Int)<=0∧(0:Int)<=c.length;omega⟩
theorem tZ{n:Nat}{c:List Int}(hc:Je c){d:EN}(hd:eJ c d){k:Int}(hk:1<=k):BQ (fun r=>(0<=r.1∧r.1<k)∧eJ c r.2) (VC n d k):=by
 have hl:=hc.1
 have h0:=hd.i0
 rw [VC]
 have hk0:(k==0)=false:=by rw [beq_eq_false_iff_ne];omega
 simp only [hk0,cF,hd.b]
 obtain⟨q0,q1⟩:=YW (Nc .u64 (IntKind.wrap IntKind.u64 ((IntKind.wrap IntKind.u64 (d.h_*6364136223846793005))+1442695040888963407)) 33)
 generalize Nt .u64 (Nc .u64 (IntKind.wrap IntKind.u64 ((IntKind.wrap IntKind.u64 (d.h_*6364136223846793005))+1442695040888963407)) 33) 16777215=q at*
 rw [Ah (x:=q) (by omega) (by omega)]
 refine Ap (fun hi=>?_) fun hi=>?_
 ·have hi:=of_decide_eq_true hi
  refine BQ.bind (BQ.get h0.1 hi hc.2) fun x _ hx=>?_
  rw [Ah (x:=x) (by omega) (by omega),Ah (x:=q+x) (by omega) (by omega),Ah (x:=d.i_+1) (by omega) (by omega)]
  exact AS ⟨FF (by omega) (by omega),rfl,by show 0<=d.i_+1∧d.i_+1<=_;omega⟩
 ·exact AS ⟨FF (by omega) (by omega),rfl,h0⟩
theorem eJ.mk2{c d:List Int}{x:EN}(h:eJ c x)(e:d=c):eJ c (EN.mk d x.i_ x.h_):=⟨e,h.i0⟩
def LH(b:UInt8):Bool:=decide ((b.toNat:Int)>=97)&&decide ((b.toNat:Int)<=122)
def Pk(b:UInt8):Bool:=decide ((b.toNat:Int)>=48)&&decide ((b.toNat:Int)<=57)
def Ea(s:ByteArray):Bool:=(decide ((s.size:Int)>=1)&&decide ((s.size:Int)<=8))&&(s.data.toList.all fun b=>LH b||Pk b)&&(s.data.toList.take 1).all LH
theorem NE(s:ByteArray):s.size=s.data.toList.length:=by rw [Array.length_toList];rfl
theorem Sq{s:ByteArray}{i:Nat}(h:i<s.data.toList.length):Pv s (i:Int)=some ((s.data.toList[i].toNat:Nat):Int):=by
 unfold Pv
 rw [if_pos (by omega),Int.toNat_natCast]
 have:s[i]? =some s.data.toList[i]:=by
  have hs:i<s.size:=by rw [NE];exact h
  rw [show s[i]? =some s[i]from getElem?_pos s i hs]
  rfl
 rw [this];rfl
theorem XH(p q:UInt8->Bool)(h:(List.range 256).all (fun i=>p (UInt8.ofNat i)==q (UInt8.ofNat i))=true)(b:UInt8):p b=q b:=by
 have:=List.all_eq_true.1 h b.toNat (List.mem_range.2 b.toNat_lt)
 rw [UInt8.ofNat_toNat]at this
 exact eq_of_beq this
def lettersL:List UInt8:=[97,98,99,100,101,102,103,104,105,106,107,108,109,110,111,112,113,114,115,116,117,118,119,120,121,122]
def nameL:List UInt8:=[97,98,99,100,101,102,103,104,105,106,107,108,109,110,111,112,113,114,115,116,117,118,119,120,121,122,48,49,50,51,52,53,54,55,56,57]
theorem Um(b:UInt8):nameL.contains b=(LH b||Pk b):=XH (fun b=>nameL.contains b) (fun b=>LH b||Pk b) (by decide+kernel) b
theorem QM(b:UInt8):lettersL.contains b=LH b:=XH (fun b=>lettersL.contains b) (fun b=>LH b) (by decide+kernel) b
theorem NG{p:UInt8->Bool}:∀{l:List UInt8} (h:0<l.length),(l.take 1).all p=p l[0]
 |[],h=>by simp at h
 |a::r,_=>by simp
theorem Fy{p:UInt8->Bool}:∀(l:List UInt8),(l.dropWhile p=[])↔l.all p=true
 |[]=>by simp
 |a::l=>by
  rw [List.dropWhile_cons,List.all_cons]
  cases h:p a with
  |true=>simpa using Fy l
  |false=>simp
theorem Jm{p:UInt8->Bool}:∀{l:List UInt8} {a:UInt8} {r:List UInt8},l.dropWhile p=a::r->p a=false
 |b::l,a,r,h=>by
  rw [List.dropWhile_cons]at h
  split at h
  ·exact Jm h
  ·next q=>simp only [List.cons.injEq]at h;rw [←h.1];simpa using q
theorem XC(l cs:List UInt8):(Lib.trimS l cs==[])=l.all (cs.contains ·):=by
 rw [Bool.eq_iff_iff,beq_iff_eq]
 unfold Lib.trimS Lib.trimLeftS Lib.trimRightS
 rw [Fy,List.all_reverse]
 rw [show l.all (cs.contains ·)=l.reverse.all (cs.contains ·) by rw [List.all_reverse]]
 constructor
 ·intro h
  cases hd:l.reverse.dropWhile (cs.contains ·)with
  |nil=>exact(Fy _).1 hd
  |cons a r=>
   have h1:=Jm hd
   rw [hd,List.all_cons,h1]at h
   cases h
 ·intro h
  rw [(Fy _).2 h];rfl
theorem MS:∀(l:List UInt8) (c:UInt8),decide (Lib.indexByte l c>=0)=l.contains c∧Lib.indexByte l c>= -1
 |[],c=>by simp [Lib.indexByte]
 |b::l,c=>by
  obtain⟨h1,h2⟩:=MS l c
  rw [Lib.indexByte,List.contains_cons]
  by_cases e:b=c
  ·subst e;simp
  ·have e1:(b==c)=false:=beq_eq_false_iff_ne.2 e
   have e2:(c==b)=false:=beq_eq_false_iff_ne.2 fun q=>e q.symm
   rw [e1,e2,Bool.false_or,←h1]
   by_cases h:Lib.indexByte l c= -1
   ·rw [h];simp
   ·have:(Lib.indexByte l c== -1)=false:=beq_eq_false_iff_ne.2 h
    rw [this]
    have hge:Lib.indexByte l c>=0:=by omega
    rw [decide_eq_true hge]
    simp only [Bool.false_eq_true,if_false]
    exact⟨decide_eq_true (by omega),by omega⟩
theorem sV{n:Nat}{s:ByteArray}(hs:s.size<=1048576)(hn:1048577<=n):TY n s=some (Ea s):=by
 rw [TY,Jg,Am]
 unfold Ea
 cases hw:(decide ((s.size:Int)>=1)&&decide ((s.size:Int)<=8))with
 |false=>simp
 |true=>
  have hsz:1<=s.size:=by simp only [Bool.and_eq_true,decide_eq_true_eq]at hw;omega
  have ht:XK n s ((ByteArray.mk #[97,98,99,100,101,102,103,104,105,106,107,108,109,110,111,112,113,114,115,116,117,118,119,120,121,122,48,49,50,51,52,53,54,55,56,57]))=some ⟨(Lib.trimS s.data.toList nameL).toArray⟩:=by
   unfold XK
   rw [if_pos ⟨by omega,by decide,by decide⟩];rfl
  simp only [cT,ht,Am,Bool.true_and]
  have hb:((⟨(Lib.trimS s.data.toList nameL).toArray⟩:ByteArray).toList==((ByteArray.mk #[])).toList)=(s.data.toList.all fun b=>LH b||Pk b):=by
   rw [Lib.toList_data,Lib.toList_data]
   show((Lib.trimS s.data.toList nameL)==[])=_
   rw [XC]
   congr 1
   funext b;exact Um b
  rw [hb]
  cases(s.data.toList.all fun b=>LH b||Pk b)with
  |false=>simp
  |true=>
   rw [NE]at hsz
   have hg:=Sq (s:=s) (i:=0) (by omega)
   simp only [cT,show((0:Int))=((0:Nat):Int)from rfl,hg,Am,aZ,Bool.true_and]
   have h1:=(MS lettersL (s.data.toList[0])).1
   rw [QM]at h1
   have e1:(((s.data.toList[0].toNat:Nat):Int).toNat.toUInt8)=s.data.toList[0]:=by rw [Int.toNat_natCast];exact UInt8.ofNat_toNat
   rw [e1]
   have e2:(s.data.toList.take 1).all LH=LH s.data.toList[0]:=NG (by omega)
   rw [e2,←h1];rfl
theorem lO{n:Nat}{s:ByteArray}(hs:s.size<=1048576)(hn:1048577<=n):Zl n s=some (Ea s):=by
 rw [Zl]
 have hl:=NE s
 refine loop (L:=fun m i (_:Unit)=>GS s _ m i) s.data.toList.length (fun i _=>Ea s=((decide ((s.size:Int)>=1)&&decide ((s.size:Int)<=8))&&((s.data.toList.drop i).all fun b=>LH b||Pk b)&&((s.data.toList.take 1).drop i).all LH)) (fun r=>r=some (Ea s)) ?_ ?_ n 0 () (by omega) (by omega) (by simp [Ea])
 ·intro m i _ hi hI
  have g:=Sq hi
  have hd:decide ((i:Int)<(s.size:Int))=true:=decide_eq_true (by omega)
  have key:GS s (fun i3=>(some (((decide ((s.size:Int)>=1))&&(decide ((s.size:Int)<=8)))))) (m+1) (i:Int)=cond (!LH s.data.toList[i]&& !(Pk s.data.toList[i]&&decide (0<i))) (some false) (GS s (fun i3=>(some (((decide ((s.size:Int)>=1))&&(decide ((s.size:Int)<=8)))))) m ((i+1:Nat):Int)):=by
   have e0:decide ((i:Int)>0)=decide (0<i):=by by_cases h:0<i<;>simp [h]<;>omega
   simp only [GS.eq_2,hd,cT,g,Am,CQ,wT i,e0]
   rfl
  by_cases hc:(!LH s.data.toList[i]&& !(Pk s.data.toList[i]&&decide (0<i)))=true
  ·refine .inr ?_
   show GS s _ (m+1) (i:Int)=_
   rw [key,hc,cT]
   have:Ea s=false:=by
    rw [hI,List.drop_eq_getElem_cons hi,List.all_cons]
    simp only [Bool.and_eq_true,Bool.not_eq_true',Bool.and_eq_false_iff,decide_eq_false_iff_not]at hc
    obtain⟨h1,h2⟩:=hc
    rw [h1]
    rcases h2 with h2|h2
    ·rw [h2];simp
    ·obtain rfl:i=0:=by omega
     rw [List.drop_zero,NG hi,h1];simp
   rw [this]
  ·refine .inl ⟨(),?_,?_⟩
   ·rw [hI,List.drop_eq_getElem_cons hi,List.all_cons]
    have hc:=Bool.eq_false_iff.2 hc
    simp only [Bool.and_eq_false_iff,Bool.not_eq_false',Bool.and_eq_true,decide_eq_true_eq]at hc
    by_cases h0:i=0
    ·subst h0
     have h1:LH s.data.toList[0]=true:=by
      rcases hc with h|h
      ·exact h
      ·omega
     have e2:(s.data.toList.take 1).drop (0+1)=[]:=List.drop_eq_nil_of_le (by simp;omega)
     rw [List.drop_zero,NG hi,e2,h1];simp
    ·have e1:(s.data.toList.take 1).drop i=[]:=List.drop_eq_nil_of_le (by simp;omega)
     have e2:(s.data.toList.take 1).drop (i+1)=[]:=List.drop_eq_nil_of_le (by simp;omega)
     rw [e1,e2]
     have:(LH s.data.toList[i]||Pk s.data.toList[i])=true:=by
      rcases hc with h|h
      ·rw [h];rfl
      ·rw [h.1];simp
     rw [this];simp
   ·show GS s _ (m+1) (i:Int)=GS s _ m ((i+1:Nat):Int)
    rw [key,Bool.eq_false_iff.2 hc,cF]
 ·intro m _ hI
  have hd:decide (((s.data.toList.length:Nat):Int)<(s.size:Int))=false:=decide_eq_false (by omega)
  simp only [GS.eq_2,hd,cF]
  rw [hI,List.drop_length,List.drop_eq_nil_of_le (by simp;omega)]
  simp
def BX(P:Prop)(r:Option Bool):Prop:=∃b:Bool,r=some b∧(b=true↔P)
theorem BU{P:Prop}(h:¬P):BX P (some false):=⟨false,rfl,by simp [h]⟩
theorem DS{P:Prop}(h:P):BX P (some true):=⟨true,rfl,by simp [h]⟩
theorem vU{n:Nat}{xs:List ByteArray}{x:ByteArray}(h:xs.length<=1048576)(hn:1048577<=n):WD n xs x=some (xs.any fun y=>x.toList==y.toList):=by
 rw [WD,ZP]
 obtain⟨r,e1,e2⟩:=Kk (xs:=xs) (L:=fun m i=>HR xs x (fun i5=>(some (-1))) m i) (fun y=>x.toList==y.toList) (fun m i hi=>by
  simp only [HR.eq_2,DE hi,cT,AV hi,Am,wT i]) (fun m=>by
  simp only [HR.eq_2,DX,cF]) n (by omega)
 have e1:HR xs x (fun i5=>(some (-1))) n 0=some r:=e1
 rw [e1,Am,e2]
theorem AN{n:Nat}{xs:List ByteArray}(h:xs.length<=1048576)(hs:∀x∈xs,x.size<=1048576)(hn:1048577<=n):BX (∀k (h:k<xs.length),Ea xs[k]=true∧∀i (hi:i<k),(xs[i].toList==xs[k].toList)=false) (Pj n xs):=by
 rw [Pj]
 refine loop (L:=fun m i (_:Unit)=>Ip n xs _ m i) xs.length (fun i _=>∀k (h:k<xs.length),k<i->Ea xs[k]=true∧∀i (hi:i<k),(xs[i].toList==xs[k].toList)=false) _ ?_ ?_ n 0 () (by omega) (by omega) (fun k h hk=>by omega)
 ·intro m i _ hi hI
  have hsub:LI xs 0 (i:Int)=some (xs.take i):=by
   unfold LI
   rw [if_pos ⟨by omega,by omega,by omega⟩];simp
  have hct:=vU (n:=n) (xs:=xs.take i) (x:=xs[i]) (by simp;omega) hn
  simp only [Ip.eq_2,DE hi,cT,AV hi,Am,sV (hs _ (List.getElem_mem hi)) hn,hsub,hct,FM,wT i]
  cases hb:(!Ea xs[i]||(xs.take i).any fun y=>xs[i].toList==y.toList)with
  |true=>
   refine .inr (BU fun hv=>?_)
   obtain⟨h1,h2⟩:=hv i hi
   rw [h1,Bool.not_true,Bool.false_or,List.any_eq_true]at hb
   obtain⟨y,hy,he⟩:=hb
   obtain⟨j,hj,rfl⟩:=List.mem_iff_getElem.1 hy
   rw [List.length_take]at hj
   rw [List.getElem_take]at he
   have:=h2 j (by omega)
   rw [beq_eq_false_iff_ne]at this
   exact this (eq_of_beq he).symm
  |false=>
   simp only [Bool.or_eq_false_iff,Bool.not_eq_false']at hb
   refine .inl ⟨(),fun k h hk=>?_,rfl⟩
   by_cases e:k=i
   ·subst e
    refine⟨hb.1,fun j hj=>?_⟩
    rw [beq_eq_false_iff_ne]
    intro he
    have:=List.any_eq_false.1 hb.2 xs[j] (List.mem_iff_getElem.2 ⟨j,by rw [List.length_take];omega,by rw [List.getElem_take]⟩)
    exact this (by rw [he];simp)
   ·exact hI k h (by omega)
 ·intro m _ hI
  simp only [Ip.eq_2,DX,cF]
  exact DS fun k h=>hI k h h
theorem AW{n:Nat}{ks:List Int}{lo hi:Int}(h:ks.length<=1048576)(hn:1048577<=n):Mp n ks lo hi=some (ks.all fun k=>decide (k>=lo)&&decide (k<=hi)):=by
 rw [Mp,WQ,Vf]
 obtain⟨r,e1,e2⟩:=Kk (xs:=ks) (L:=fun m i=>FZ n ks lo hi (fun i7=>(some (-1))) m i) (fun k=>!(decide (k>=lo)&&decide (k<=hi))) (fun m i hi=>by
  simp only [FZ.eq_2,DE hi,cT,AV hi,Am,VM,Jg,wT i]) (fun m=>by
  simp only [FZ.eq_2,DX,cF]) n (by omega)
 have e1:FZ n ks lo hi (fun i7=>(some (-1))) n 0=some r:=e1
 rw [e1,Am,Am,e2]
 congr 1
 rw [List.not_any_eq_all_not]
 congr 1
 funext k;rw [Bool.not_not]
theorem vY{n:Nat}{e:Int}:Tt n e=some (decide (e>=0)&&decide (e<=1)):=by
 rw [Tt]
 congr 1
 rw [Bool.eq_iff_iff]
 simp only [Bool.or_eq_true,beq_iff_eq,Bool.and_eq_true,decide_eq_true_eq];omega
theorem Nb{n0:Nat}:∀(j n:Nat) (k:Int),0<=k->k<(10:Int)^(j+1)->k<=1000000000000000000->j<n->j<=100->BQ (fun t=>t.size<=j+1) (OE n k)
 |j,0,k,_,_,_,h,_=>by omega
 |j,n+1,k,k0,k1,k2,h,hj=>by
  rw [gF,decide_eq_false (show¬k<0 by omega),cF]
  by_cases hk:k<10
  ·rw [decide_eq_true hk,cT]
   exact AS (by rw [NA];simp)
  ·rw [decide_eq_false hk,cF]
   match j,k1 with
   |0,k1=>simp at k1;omega
   |j+1,k1=>
    have e:wrap .i64 (Int.tdiv k 10)=k/10:=by rw [Int.tdiv_eq_ediv_of_nonneg k0];exact Ah (by omega) (by omega)
    rw [e]
    rw [Int.pow_succ]at k1
    refine BQ.bind (Nb (n0:=n0) j n (k/10) (by omega) (by omega) (by omega) (by omega) (by omega)) fun r _ hr=>?_
    rw [Nj (by rw [NA];simp;omega)]
    exact AS (by rw [ByteArray.size_append,NA];simp;omega)
theorem tG{n:Nat}{k:Nat}(hk:k<=1000)(hn:1048577<=n):BQ (fun t=>t.size<=4) (OE n (k:Int)):=
 (Nb (n0:=0) 3 n k (by omega) (by show _<(10000:Int);omega) (by omega) (by omega) (by omega))
theorem BX.iff{P Q:Prop}{o:Option Bool}(h:BX P o)(e:P↔Q):BX Q o:=by
 obtain⟨b,rfl,h⟩:=h;exact⟨b,rfl,h.trans e⟩
theorem Bb{P:Prop}{b:Bool}(h:b=true↔P):BX P (some b):=⟨b,rfl,h⟩
theorem BX.bind{P R:Prop}{o:Option Bool}{f:Bool->Option Bool}(h:BX P o)(h1:P->BX R (f true))(h0:¬P->BX R (f false)):BX R (Option.bind o f):=by
 obtain⟨b,rfl,h⟩:=h
 cases b with
 |true=>exact h1 (h.1 rfl)
 |false=>exact h0 fun p=>by have:=h.2 p;cases this
theorem Fp{R:Prop}{c:Bool}{x y:Option Bool}(h1:c=true->BX R x)(h0:c=false->BX R y):BX R (cond c x y):=by
 cases c
 ·exact h0 rfl
 ·exact h1 rfl
theorem FD{L:Nat->Int->Option Bool}{Q:Prop}(N s:Nat)(p:Nat->Prop)
 (hs:∀(m i:Nat),s<=i->i<N->(p i∧L (m+1) (i:Int)=L m ((i+1:Nat):Int))∨(¬p i∧L (m+1) (i:Int)=some false))
 (he:∀(m i:Nat),N<=i->i<=N+s->(∀j,s<=j->j<N->p j)->BX Q (L (m+1) (i:Int))):∀(m i:Nat),s<=i->i<=N+s->N-i<m->(∀j,s<=j->j<i->j<N->p j)->BX ((∀i,s<=i->i<N->p i)∧Q) (L m (i:Int))
 |0,i,_,_,hm,_=>by omega
 |m+1,i,hi,hi2,hm,hI=>by
  by_cases hlt:i<N
  ·rcases hs m i hi hlt with ⟨h1,h2⟩|⟨h1,h2⟩
   ·rw [h2]
    refine FD N s p hs he m (i+1) (by omega) (by omega) (by omega) fun j h3 h4 h5=>?_
    by_cases e:j=i
    ·subst e;exact h1
    ·exact hI j h3 (by omega) h5
   ·rw [h2];exact BU fun h=>h1 (h.1 i hi hlt)
  ·have ha:∀j,s<=j->j<N->p j:=fun j h3 h4=>hI j h3 (by omega) h4
   exact(he m i (by omega) hi2 ha).iff ⟨fun q=>⟨ha,q⟩,fun q=>q.2⟩
theorem KP{α:Type}{xs:List α}{L:Nat->Int->Option Int}{f:α->Option Bool}{P:α->Prop}(hf:∀x∈xs,BX (P x) (f x))(hs:∀(m i:Nat) (h:i<xs.length),L (m+1) (i:Int)=Option.bind (f xs[i]) fun r=>cond r (some (i:Int)) (L m ((i+1:Nat):Int)))
 (he:∀m:Nat,L (m+1) (xs.length:Int)=some (-1)) (m:Nat) (hm:xs.length<m):∃r,L m 0=some r∧(r>=0↔∃x∈xs,P x)∧(r= -1∨∃j:Nat,r=(j:Int)∧∃h:j<xs.length,P xs[j]∧∀i (hi:i<xs.length),i<j->¬P xs[i]):=by
 refine loop (L:=fun m i (_:Unit)=>L m i) xs.length (fun i _=>∀j (h:j<xs.length),j<i->¬P xs[j]) (fun o=>∃r,o=some r∧(r>=0↔∃x∈xs,P x)∧(r= -1∨∃j:Nat,r=(j:Int)∧∃h:j<xs.length,P xs[j]∧∀i (hi:i<xs.length),i<j->¬P xs[i])) ?_ ?_ m 0 () (by omega) (by omega) (fun j _ h=>by omega)
 ·intro m i _ hi hI
  obtain⟨b,e,hb⟩:=hf _ (List.getElem_mem hi)
  rw [hs m i hi,e,Am]
  cases b with
  |true=>exact .inr ⟨(i:Int),rfl,⟨fun _=>⟨_,List.getElem_mem hi,hb.1 rfl⟩,fun _=>by omega⟩,.inr ⟨i,rfl,hi,hb.1 rfl,hI⟩⟩
  |false=>
   refine .inl ⟨(),fun j h hj=>?_,by trivial⟩
   by_cases ej:j=i
   ·subst ej;intro hp;have:=hb.2 hp;cases this
   ·exact hI j h (by omega)
 ·intro m _ hI
  refine⟨-1,he m,⟨fun h=>by omega,fun⟨x,hx,hp⟩=>?_⟩,.inl rfl⟩
  obtain⟨j,hj,rfl⟩:=List.getElem_of_mem hx
  exact absurd hp (hI j hj hj)
theorem gI{l:List Int}{i:Nat}(h:i<l.length):AI l (i:Int)=some (gd l i):=by rw [Hy];exact bL h
def Se(l:List Int):Prop:=(1<=l.length∧l.length<=4)∧(∀i,i<l.length->0<=gd l i∧gd l i<=100000)∧∀i,i<l.length->0<i->gd l (i-1)<gd l i
def VT(t:BF):Prop:=(Se t.Slews∧Se t.Loads)∧t.Values.length=t.Slews.length*t.Loads.length∧∀i,i<t.Values.length-> -1000000<=gd t.Values i∧gd t.Values i<=1000000
theorem OL{l:List Int}{lo hi:Int}:(l.all fun k=>decide (k>=lo)&&decide (k<=hi))=true↔∀i,i<l.length->lo<=gd l i∧gd l i<=hi:=by
 rw [List.all_eq_true]
 constructor
 ·intro h i hi
  have:=h _ (List.getElem_mem hi)
  simp only [Bool.and_eq_true,decide_eq_true_eq]at this
  rw [Mw (List.getElem?_eq_getElem hi)];omega
 ·intro h x hx
  obtain⟨j,hj,rfl⟩:=List.getElem_of_mem hx
  have:=h j hj
  rw [Mw (List.getElem?_eq_getElem hj)]at this
  simp only [Bool.and_eq_true,decide_eq_true_eq];omega
theorem sX{n:Nat}{l:List Int}(h:l.length<=1048576)(hn:1048577<=n):BX (Se l) (TW n l):=by
 rw [TW]
 refine(FD (L:=fun m i=>JC n l _ m i) (Q:=1<=l.length∧l.length<=4) l.length 0 (fun i=>(0<=gd l i∧gd l i<=100000)∧(0<i->gd l (i-1)<gd l i)) ?_ ?_ n 0 (by omega) (by omega) (by omega) (fun j _ h=>by omega)).iff ?_
 ·intro m i _ hi
  have w1:0<i->wrap .i64 ((i:Int)-1)=((i-1:Nat):Int):=fun h0=>by rw [Ah (by omega) (by omega)];omega
  simp only [JC.eq_2,DE hi,cT,gI hi,Am,Hq,wT i]
  by_cases c1:0<=gd l i∧gd l i<=100000
  ·have d1:(decide (gd l i>=0)&&decide (gd l i<=100000))=true:=by simp only [Bool.and_eq_true,decide_eq_true_eq];omega
   simp only [d1,Bool.not_true,cF]
   by_cases h0:0<i
   ·have d2:decide ((i:Int)>0)=true:=decide_eq_true (by omega)
    simp only [d2,cT,w1 h0,gI (show i-1<l.length by omega),Am]
    by_cases c2:gd l (i-1)<gd l i
    ·have d3:decide (gd l (i-1)>=gd l i)=false:=decide_eq_false (by omega)
     simp only [d3,cF]
     exact .inl ⟨⟨c1,fun _=>c2⟩,by trivial⟩
    ·have d3:decide (gd l (i-1)>=gd l i)=true:=decide_eq_true (by omega)
     simp only [d3,cT]
     exact .inr ⟨fun h=>c2 (h.2 h0),by trivial⟩
   ·have d2:decide ((i:Int)>0)=false:=decide_eq_false (by omega)
    simp only [d2,cF,Am]
    exact .inl ⟨⟨c1,fun h=>absurd h h0⟩,by trivial⟩
  ·have d1:(decide (gd l i>=0)&&decide (gd l i<=100000))=false:=by
    rw [Bool.and_eq_false_iff,decide_eq_false_iff_not,decide_eq_false_iff_not];omega
   simp only [d1,Bool.not_false,cT,Am]
   exact .inr ⟨fun h=>c1 h.1,by trivial⟩
 ·intro m i h1 h2 _
  obtain rfl:i=l.length:=by omega
  simp only [JC.eq_2,DX,cF]
  exact Bb (by simp only [Bool.and_eq_true,decide_eq_true_eq];omega)
 ·exact⟨fun⟨a,b⟩=>⟨b,fun i hi=>(a i (by omega) hi).1,fun i hi h0=>(a i (by omega) hi).2 h0⟩,fun⟨a,b,c⟩=>⟨fun i _ hi=>⟨b i hi,c i hi⟩,a⟩⟩
theorem vA{n:Nat}{l:List Int}(h:l.length<=1048576)(hn:1048577<=n):BX (∀i,i<l.length->0<i->gd l (i-1)<gd l i) (Uh n l):=by
 rw [Uh]
 refine(FD (L:=fun m i=>If l _ m i) (Q:=True) l.length 1 (fun i=>gd l (i-1)<gd l i) ?_ ?_ n 1 (by omega) (by omega) (by omega) (fun j _ h=>by omega)).iff ?_
 ·intro m i h0 hi
  have w1:wrap .i64 ((i:Int)-1)=((i-1:Nat):Int):=by rw [Ah (by omega) (by omega)];omega
  simp only [If.eq_2,DE hi,cT,w1,gI hi,gI (show i-1<l.length by omega),Am,wT i]
  by_cases c2:gd l (i-1)<gd l i
  ·have d3:decide (gd l (i-1)>=gd l i)=false:=decide_eq_false (by omega)
   simp only [d3,cF]
   exact .inl ⟨c2,by trivial⟩
  ·have d3:decide (gd l (i-1)>=gd l i)=true:=decide_eq_true (by omega)
   simp only [d3,cT]
   exact .inr ⟨c2,by trivial⟩
 ·intro m i h1 h2 _
  have:decide ((i:Int)<(l.length:Int))=false:=decide_eq_false (by omega)
  simp only [If.eq_2,this,cF]
  exact DS trivial
 ·exact⟨fun a i hi h0=>a.1 i h0 hi,fun a=>⟨fun i h0 hi=>a i hi h0,trivial⟩⟩
theorem tV{n:Nat}{l:List Int}(h:l.length<=1048576)(hn:1048577<=n):BX (Se l) (TK n l):=by
 obtain⟨b,e,hb⟩:=vA (n:=n) h hn
 rw [TK]
 simp only [OZ,Jg,AW (n:=n) h hn,e,Am,CQ]
 refine Bb ?_
 rw [Bool.and_eq_true,Bool.and_eq_true,OL,hb]
 simp only [Bool.and_eq_true,decide_eq_true_eq]
 exact⟨fun⟨⟨a,b⟩,c⟩=>⟨by omega,b,c⟩,fun⟨a,b,c⟩=>⟨⟨by omega,b⟩,c⟩⟩
theorem ZG{a b:Nat}(ha:a<=4)(hb:b<=4):wrap .i64 ((a:Int)*(b:Int))=((a*b:Nat):Int):=by
 have:a*b<=4*4:=Nat.mul_le_mul ha hb
 have e:((a*b:Nat):Int)=(a:Int)*b:=by simp
 rw [←e,Ah (by omega) (by omega)]
def UM(t:BF):Prop:=t.Slews.length<=1048576∧t.Loads.length<=1048576∧t.Values.length<=1048576
theorem vV{n:Nat}{t:BF}(h:UM t)(hn:1048577<=n):BX (VT t) (Vi n t):=by
 rw [Vi]
 refine BX.bind (sX h.1 hn) (fun v1=>?_) fun v1=>?_
 ·simp only [Bool.not_true,cF]
  obtain⟨b,e,hb⟩:=sX (n:=n) h.2.1 hn
  rw [e,Am,Am]
  cases b with
  |false=>
   simp only [Bool.not_false,Bool.true_or,cT]
   exact BU fun v=>by have:=hb.2 v.1.2;cases this
  |true=>
   have v2:=hb.1 rfl
   rw [ZG v1.1.2 v2.1.2]
   simp only [Bool.not_true,Bool.false_or]
   refine Fp (fun c=>?_) fun c=>?_
   ·refine BU fun v=>?_
    rw [v.2.1]at c;simp at c
   ·have c:t.Values.length=t.Slews.length*t.Loads.length:=by
     rw [bne_eq_false_iff_eq]at c;omega
    have hv:=h.2.2
    refine(FD (L:=fun m i=>In n t _ m i) (Q:=True) t.Values.length 0 (fun i=>-1000000<=gd t.Values i∧gd t.Values i<=1000000) ?_ ?_ n 0 (by omega) (by omega) (by omega) (fun j _ h=>by omega)).iff ?_
    ·intro m i _ hi
     simp only [In.eq_2,DE hi,cT,gI hi,Am,Hq,wT i]
     by_cases c1:-1000000<=gd t.Values i∧gd t.Values i<=1000000
     ·have d1:(decide (gd t.Values i>= -1000000)&&decide (gd t.Values i<=1000000))=true:=by simp only [Bool.and_eq_true,decide_eq_true_eq];omega
      simp only [d1,Bool.not_true,cF]
      exact .inl ⟨c1,by trivial⟩
     ·have d1:(decide (gd t.Values i>= -1000000)&&decide (gd t.Values i<=1000000))=false:=by
       rw [Bool.and_eq_false_iff,decide_eq_false_iff_not,decide_eq_false_iff_not];omega
      simp only [d1,Bool.not_false,cT]
      exact .inr ⟨c1,by trivial⟩
    ·intro m i h1 h2 _
     obtain rfl:i=t.Values.length:=by omega
     simp only [In.eq_2,DX,cF]
     exact DS trivial
    ·exact⟨fun a=>⟨⟨v1,v2⟩,c,fun i hi=>a.1 i (by omega) hi⟩,fun a=>⟨fun i _ hi=>a.2.2 i hi,trivial⟩⟩
 ·simp only [Bool.not_false,cT,Am,Bool.true_or]
  exact BU fun v=>v1 v.1.1
theorem uQ{n:Nat}{t:BF}(h:UM t)(hn:1048577<=n):BX (VT t) (Vo n t):=by
 rw [Vo]
 refine BX.bind (tV h.1 hn) (fun v1=>?_) fun v1=>?_
 ·simp only [cT]
  obtain⟨b,e,hb⟩:=tV (n:=n) h.2.1 hn
  rw [e,Am,Am]
  cases b with
  |false=>
   simp only [Bool.false_and,cF,Am]
   exact BU fun v=>by have:=hb.2 v.1.2;cases this
  |true=>
   have v2:=hb.1 rfl
   rw [ZG v1.1.2 v2.1.2,AW (n:=n) h.2.2 hn]
   simp only [Bool.true_and,Am,CQ]
   refine Bb ?_
   rw [Bool.and_eq_true,OL,beq_iff_eq]
   exact⟨fun⟨a,b⟩=>⟨⟨v1,v2⟩,by omega,b⟩,fun a=>⟨by have:=a.2.1;omega,a.2.2⟩⟩
 ·simp only [cF,Am,Bool.false_and]
  exact BU fun v=>v1 v.1.1
theorem VT.pos{t:BF}(h:VT t):0<t.Values.length∧t.Values.length<=16:=by
 have a:=h.1.1.1
 have b:=h.1.2.1
 rw [h.2.1]
 exact⟨Nat.mul_pos (by omega) (by omega),(Nat.mul_le_mul a.2 b.2:_<=4*4)⟩
def VP(t:BF):Prop:=∀j,j<t.Values.length->0<=gd t.Values j
theorem uW{n:Nat}{t:BF}(h:UM t)(hn:1048577<=n):(¬VT t∧∃s:Ar,TS n t=some (s,1))∨(VT t∧∃s:Ar,TS n t=some (s,0)∧(s.Early<0↔¬VP t)):=by
 obtain⟨b,e,hb⟩:=vV (n:=n) h hn
 rw [TS,e,Am]
 cases b with
 |false=>exact .inl ⟨fun v=>(by have:=hb.2 v;cases this),_,rfl⟩
 |true=>
  have v:=hb.1 rfl
  have hp:=v.pos
  have g0:AI t.Values 0=some (gd t.Values 0):=gI (i:=0) (by omega)
  refine .inr ⟨v,?_⟩
  simp only [Bool.not_true,cF,g0,Am]
  refine loop (L:=fun m i (p:Int×Int)=>JS t (fun i93 i97 i98=>(some ((Ar.mk i97 i98),0))) m i p.1 p.2) t.Values.length (fun i p=>(p.1<0↔¬∀j,j<i->0<=gd t.Values j)) (fun o=>∃s:Ar,o=some (s,0)∧(s.Early<0↔¬VP t)) ?_ ?_ n 1 (gd t.Values 0,gd t.Values 0) (by omega) (by omega) ?_
  ·intro m i ⟨a,c⟩ hi hI
   dsimp only at hI ⊢
   refine .inl ⟨(min a (gd t.Values i),max c (gd t.Values i)),?_,?_⟩
   ·dsimp only
    constructor
    ·intro hm hall
     by_cases ha:a<0
     ·exact hI.1 ha fun j hj=>hall j (by omega)
     ·have:=hall i (by omega);omega
    ·intro hna
     by_cases ha:a<0
     ·omega
     ·have hall:∀j,j<i->0<=gd t.Values j:=fun j hj=>by
       by_cases q:0<=gd t.Values j
       ·exact q
       ·exact absurd (hI.2 fun hh=>q (hh j hj)) ha
      by_cases q:0<=gd t.Values i
      ·exfalso;apply hna;intro j hj
       by_cases ej:j=i
       ·subst ej;exact q
       ·exact hall j (by omega)
      ·omega
   ·simp only [JS.eq_2,DE hi,cT,gI hi,Am,wT i]
  ·intro m ⟨a,c⟩ hI
   dsimp only at hI ⊢
   simp only [JS.eq_2,DX,cF]
   exact⟨_,rfl,hI⟩
  ·dsimp only
   constructor
   ·intro h0 hall;have:=hall 0 (by omega);omega
   ·intro h0
    by_cases q:gd t.Values 0<0
    ·exact q
    ·exfalso;apply h0;intro j hj;obtain rfl:j=0:=by omega
     omega
theorem Mn{n:Nat}{l:List Int}(h0:0<l.length)(h:l.length<=1048576)(hn:1048577<=n):∃r,VZ n l=some r∧(r<0↔¬∀j,j<l.length->0<=gd l j):=by
 have g0:AI l 0=some (gd l 0):=gI (i:=0) (by omega)
 have d0:decide ((l.length:Int)<1)=false:=decide_eq_false (by omega)
 rw [VZ,d0,cF,g0,Am]
 refine loop (L:=fun m i (a:Int)=>JQ l (fun i15 i16=>(some i15)) m a i) l.length (fun i a=>(a<0↔¬∀j,j<i->0<=gd l j)) (fun o=>∃r,o=some r∧(r<0↔¬∀j,j<l.length->0<=gd l j)) ?_ ?_ n 1 (gd l 0) (by omega) (by omega) ?_
 ·intro m i a hi hI
  refine .inl ⟨min a (gd l i),?_,?_⟩
  ·constructor
   ·intro hm hall
    by_cases ha:a<0
    ·exact hI.1 ha fun j hj=>hall j (by omega)
    ·have:=hall i (by omega);omega
   ·intro hna
    by_cases ha:a<0
    ·omega
    ·have hall:∀j,j<i->0<=gd l j:=fun j hj=>by
      by_cases q:0<=gd l j
      ·exact q
      ·exact absurd (hI.2 fun hh=>q (hh j hj)) ha
     by_cases q:0<=gd l i
     ·exfalso;apply hna;intro j hj
      by_cases ej:j=i
      ·subst ej;exact q
      ·exact hall j (by omega)
     ·omega
  ·simp only [JQ.eq_2,DE hi,cT,gI hi,Am,wT i]
 ·intro m a hI
  simp only [JQ.eq_2,DX,cF]
  exact⟨_,rfl,hI⟩
 ·constructor
  ·intro h0 hall;have:=hall 0 (by omega);omega
  ·intro h0
   by_cases q:gd l 0<0
   ·exact q
   ·exfalso;apply h0;intro j hj;obtain rfl:j=0:=by omega
    omega
def RS(l:List BF)(pos:Bool):Prop:=l.length=2∧∀t∈l,VT t∧(pos=true->VP t)
theorem rZ{n:Nat}{l:List BF}{pos:Bool}(h:∀t∈l,UM t)(hn:1048577<=n):BX (RS l pos) (TA n l pos):=by
 rw [TA]
 refine Fp (fun c=>?_) fun c=>?_
 ·refine BU fun v=>?_
  rw [v.1]at c;simp at c
 ·have c:l.length=2:=by rw [bne_eq_false_iff_eq]at c;omega
  refine(FD (L:=fun m i=>MB n l pos _ m i) (Q:=True) 2 0 (fun i=>∀t,l[i]? =some t->VT t∧(pos=true->VP t)) ?_ ?_ n 0 (by omega) (by omega) (by omega) (fun j _ h=>by omega)).iff ?_
  ·intro m i _ hi
   have hil:i<l.length:=by omega
   have g:=List.getElem?_eq_getElem hil
   have d1:decide ((i:Int)<2)=true:=decide_eq_true (by omega)
   simp only [MB.eq_2,d1,cT,AV hil,Am,wT i,g]
   rcases uW (n:=n) (h _ (List.getElem_mem hil)) hn with ⟨v,s,e⟩|⟨v,s,e,hs⟩
   ·rw [e]
    exact .inr ⟨fun q=>v (q _ rfl).1,by trivial⟩
   ·rw [e]
    simp only [Am,bne_self_eq_false,Bool.false_or]
    by_cases hp:pos=true
    ·subst hp
     by_cases q:s.Early<0
     ·rw [decide_eq_true q]
      exact .inr ⟨fun r=>(hs.1 q) ((r _ rfl).2 rfl),by trivial⟩
     ·rw [decide_eq_false q]
      refine .inl ⟨fun t ht=>?_,by trivial⟩
      obtain rfl:=Option.some.inj ht
      exact⟨v,fun _=>Classical.byContradiction fun r=>q (hs.2 r)⟩
    ·have hp:pos=false:=by simpa using hp
     subst hp
     refine .inl ⟨fun t ht=>?_,by trivial⟩
     obtain rfl:=Option.some.inj ht
     exact⟨v,fun h=>by cases h⟩
  ·intro m i h1 h2 _
   obtain rfl:i=2:=by omega
   simp only [MB.eq_2,show decide (((2:Nat):Int)<2)=false from rfl,cF]
   exact DS trivial
  ·constructor
   ·rintro ⟨a,_⟩
    refine⟨c,fun t ht=>?_⟩
    obtain⟨j,hj⟩:=List.getElem?_of_mem ht
    have hjl:j<l.length:=(List.getElem?_eq_some_iff.1 hj).1
    exact a j (by omega) (by omega) t hj
   ·rintro ⟨_,a⟩
    exact⟨fun i _ _ t ht=>a t (List.mem_of_getElem? ht),trivial⟩
theorem rH{n:Nat}{l:List BF}{pos:Bool}(h:∀t∈l,UM t)(hl:l.length<=1048576)(hn:1048577<=n):BX (RS l pos) (SL n l pos):=by
 rw [SL]
 have hf:∀t∈l,BX (¬(VT t∧(pos=true->VP t))) (Tk n t pos):=by
  intro t ht
  have hm:=h t ht
  rw [Tk]
  refine BX.bind (uQ hm hn) (fun v=>?_) fun v=>?_
  ·simp only [Bool.not_true,cF]
   by_cases hp:pos=true
   ·subst hp
    obtain⟨r,e,hr⟩:=Mn (n:=n) v.pos.1 hm.2.2 hn
    simp only [cT,e,Am]
    refine Bb ?_
    rw [decide_eq_true_eq,hr]
    exact⟨fun a b=>a (b.2 trivial),fun a b=>a ⟨v,fun _=>b⟩⟩
   ·have hp:pos=false:=by simpa using hp
    subst hp
    exact BU fun a=>a ⟨v,fun h=>by cases h⟩
  ·simp only [Bool.not_false,cT,Am]
   exact DS fun a=>v a.1
 obtain⟨r,e,hr,_⟩:=KP (xs:=l) (L:=fun m i=>HP n l pos (fun i6=>(some (-1))) m i) (f:=fun t=>Tk n t pos) hf (fun m i hi=>by
  simp only [HP.eq_2,DE hi,cT,AV hi,Am,wT i]) (fun m=>by
  simp only [HP.eq_2,DX,cF]) n (by omega)
 have e:HP n l pos (fun i6=>(some (-1))) n 0=some r:=e
 rw [Xl,Xg,e]
 simp only [Am]
 by_cases c:l.length=2
 ·have:((l.length:Int)==2)=true:=by simp;omega
  rw [this]
  simp only [cT,Am]
  refine Bb ?_
  rw [Bool.not_eq_true',decide_eq_false_iff_not,hr]
  exact⟨fun a=>⟨c,fun t ht=>Classical.byContradiction fun q=>a ⟨t,ht,q⟩⟩,fun a ⟨t,ht,q⟩=>q (a.2 t ht)⟩
 ·have:((l.length:Int)==2)=false:=by rw [beq_eq_false_iff_ne];omega
  rw [this]
  exact BU fun v=>c v.1
def Qi(N i:Nat)(p:Bz):Prop:=(0<=p.Cap∧p.Cap<=500)∧(i+1=N->p.Dir=2∧p.Cap=0∧p.Clock=false)∧(i+1<N->p.Dir=1)
structure LJ(l:List Bz):Prop where
 few:2<=l.length∧l.length<=5
 pin:∀i (h:i<l.length),Qi l.length i l[i]
 nm:∀k (h:k<l.length),Ea l[k].Name=true∧∀i (hi:i<k),(l[i].Name.toList==l[k].Name.toList)=false
def cnt(l:List Bz):Nat:=l.countP (·.Clock)
def bN(l:List Bz):Prop:=l.length<=1048576∧∀p∈l,p.Name.size<=1048576
theorem QZ{l:List Bz}{i:Nat}(h:i<l.length):cnt (l.take (i+1))=cnt (l.take i)+if l[i].Clock=true then 1 else 0:=by
 unfold cnt
 rw [List.take_succ_eq_append_getElem h,List.countP_append]
 congr 1
 by_cases e:l[i].Clock=true
 ·rw [if_pos e];simp [e]
 ·rw [if_neg e];simp [e]
theorem uG{n:Nat}{c:Al}(h:bN c.Pins)(hn:1048577<=n):∃r:Int×Bool,gN n c=some r∧(r.2=true↔LJ c.Pins)∧(r.2=true->r.1=cnt c.Pins):=by
 rw [gN]
 by_cases hl:2<=c.Pins.length∧c.Pins.length<=5
 ·have d:(decide ((c.Pins.length:Int)<2)||decide ((c.Pins.length:Int)>5))=false:=by
   simp only [Bool.or_eq_false_iff,decide_eq_false_iff_not];omega
  rw [d,cF]
  have wl:wrap .i64 ((c.Pins.length:Int)-1)=(c.Pins.length:Int)-1:=Ah (by omega) (by omega)
  refine loop (L:=fun m i (q:Int)=>KU n c (fun i23 i24=>(some (i23,true))) m q i) c.Pins.length (fun i q=>q=cnt (c.Pins.take i)∧∀k (h:k<c.Pins.length),k<i->Qi c.Pins.length k c.Pins[k]∧Ea c.Pins[k].Name=true∧∀j (hj:j<k),(c.Pins[j].Name.toList==c.Pins[k].Name.toList)=false)
   (fun o=>∃r:Int×Bool,o=some r∧(r.2=true↔LJ c.Pins)∧(r.2=true->r.1=cnt c.Pins)) ?_ ?_ n 0 0 (by omega) (by omega) ⟨by simp [cnt],fun k _ hk=>by omega⟩
  ·intro m i q hi ⟨hq,hI⟩
   have no:∀o:Option (Int×Bool),o=some (0,false)->¬LJ c.Pins->∃r:Int×Bool,o=some r∧(r.2=true↔LJ c.Pins)∧(r.2=true->r.1=cnt c.Pins):=fun o e hv=>⟨_,e,by simp [hv],fun h=>by cases h⟩
   have wi:decide ((i:Int)<(c.Pins.length:Int))=true:=DE hi
   rw [KU.eq_2]
   simp only [wi,cT,AV hi,Am]
   have inner:∀k2:Int->Option (Int×Bool),(∀j (hj:j<i),(c.Pins[j].Name.toList==c.Pins[i].Name.toList)=false)∧JX c i c.Pins[i] k2 n 0=k2 i∨(¬∀j (hj:j<i),(c.Pins[j].Name.toList==c.Pins[i].Name.toList)=false)∧JX c i c.Pins[i] k2 n 0=some (0,false):=by
    intro k2
    refine loop (L:=fun m j (_:Unit)=>JX c i c.Pins[i] k2 m j) i (fun b _=>∀j (hj:j<i),j<b->(c.Pins[j].Name.toList==c.Pins[i].Name.toList)=false) (fun o=>(∀j (hj:j<i),(c.Pins[j].Name.toList==c.Pins[i].Name.toList)=false)∧o=k2 i∨(¬∀j (hj:j<i),(c.Pins[j].Name.toList==c.Pins[i].Name.toList)=false)∧o=some (0,false)) ?_ ?_ n 0 () (by omega) (by omega) (fun j _ hj=>by omega)
    ·intro m j _ hj hJ
     simp only [JX.eq_2,DE hj,cT,AV (show j<c.Pins.length by omega),Am,wT j]
     cases e:(c.Pins[j].Name.toList==c.Pins[i].Name.toList)with
     |true=>exact .inr (.inr ⟨fun h=>(by rw [h j hj]at e;cases e),by trivial⟩)
     |false=>
      refine .inl ⟨(),fun a ha hb=>?_,by trivial⟩
      by_cases ea:a=j
      ·subst ea;exact e
      ·exact hJ a ha (by omega)
    ·intro m _ hJ
     simp only [JX.eq_2,DX,cF]
     exact .inl ⟨fun j hj=>hJ j hj hj,by trivial⟩
   rcases inner _ with ⟨g1,g2⟩|⟨g1,g2⟩
   ·rw [g2]
    have hsz:=h.2 _ (List.getElem_mem hi)
    simp only [lO hsz hn,Am,Hq,FM,wl]
    cases hnm:Ea c.Pins[i].Name with
    |false=>
     simp only [Bool.not_false,Bool.true_or,cT]
     exact .inr (no _ rfl fun v=>by have:=(v.nm i hi).1;rw [hnm]at this;cases this)
    |true=>
     simp only [Bool.not_true,Bool.false_or]
     by_cases c1:0<=c.Pins[i].Cap∧c.Pins[i].Cap<=500
     ·have d1:(decide (c.Pins[i].Cap>=0)&&decide (c.Pins[i].Cap<=500))=true:=by simp only [Bool.and_eq_true,decide_eq_true_eq];omega
      simp only [d1,Bool.not_true,cF]
      have pI:Qi c.Pins.length i c.Pins[i]↔((((i:Int)==(c.Pins.length:Int)-1)&&((((c.Pins[i].Dir !=2))||((c.Pins[i].Cap !=0)))||c.Pins[i].Clock))||((decide ((i:Int)<(c.Pins.length:Int)-1))&&((c.Pins[i].Dir !=1))))=false:=by
       unfold Qi
       by_cases e1:i+1=c.Pins.length
       ·have t1:((i:Int)==(c.Pins.length:Int)-1)=true:=by rw [beq_iff_eq];omega
        have t2:decide ((i:Int)<(c.Pins.length:Int)-1)=false:=decide_eq_false (by omega)
        simp only [t1,t2,Bool.true_and,Bool.false_and,Bool.or_false,Bool.or_eq_false_iff,bne_eq_false_iff_eq]
        exact⟨fun⟨_,a,_⟩=>⟨⟨(a e1).1,(a e1).2.1⟩,(a e1).2.2⟩,fun⟨⟨a,b⟩,d⟩=>⟨c1,fun _=>⟨a,b,d⟩,fun h=>by omega⟩⟩
       ·have t1:((i:Int)==(c.Pins.length:Int)-1)=false:=by rw [beq_eq_false_iff_ne];omega
        have t2:decide ((i:Int)<(c.Pins.length:Int)-1)=true:=decide_eq_true (by omega)
        simp only [t1,t2,Bool.true_and,Bool.false_and,Bool.false_or,bne_eq_false_iff_eq]
        exact⟨fun⟨_,_,a⟩=>a (by omega),fun a=>⟨c1,fun h=>absurd h e1,fun _=>a⟩⟩
      cases hc:((((i:Int)==(c.Pins.length:Int)-1)&&((((c.Pins[i].Dir !=2))||((c.Pins[i].Cap !=0)))||c.Pins[i].Clock))||((decide ((i:Int)<(c.Pins.length:Int)-1))&&((c.Pins[i].Dir !=1))))with
      |true=>
       rw [hc]at pI
       simp only [cT]
       exact .inr (no _ rfl fun v=>by have:=pI.1 (v.pin i hi);cases this)
      |false=>
       have hp:=pI.2 hc
       simp only [cF]
       have hI':∀k (h:k<c.Pins.length),k<i+1->Qi c.Pins.length k c.Pins[k]∧Ea c.Pins[k].Name=true∧∀j (hj:j<k),(c.Pins[j].Name.toList==c.Pins[k].Name.toList)=false:=fun k hk hki=>by
        by_cases ek:k=i
        ·subst ek;exact⟨hp,hnm,g1⟩
        ·exact hI k hk (by omega)
       have ct:=QZ hi
       have cl:cnt (c.Pins.take i)<=5:=Nat.le_trans List.countP_le_length (by simp;omega)
       cases hk:c.Pins[i].Clock with
       |true=>
        rw [hk,if_pos rfl]at ct
        refine .inl ⟨q+1,⟨by rw [ct,hq];simp,hI'⟩,?_⟩
        simp only [cT,wT i,Ah (x:=q+1) (by omega) (by omega)]
       |false=>
        rw [hk]at ct
        refine .inl ⟨q,⟨by rw [ct,hq];simp,hI'⟩,?_⟩
        simp only [cF,wT i]
     ·have d1:(decide (c.Pins[i].Cap>=0)&&decide (c.Pins[i].Cap<=500))=false:=by
       rw [Bool.and_eq_false_iff,decide_eq_false_iff_not,decide_eq_false_iff_not];omega
      simp only [d1,Bool.not_false,cT]
      exact .inr (no _ rfl fun v=>c1 (v.pin i hi).1)
   ·rw [g2]
    exact .inr (no _ rfl fun v=>g1 (v.nm i hi).2)
  ·intro m q ⟨hq,hI⟩
   simp only [KU.eq_2,DX,cF]
   rw [List.take_length]at hq
   exact⟨_,rfl,⟨fun _=>⟨hl,fun i h=>(hI i h h).1,fun k h=>(hI k h h).2⟩,fun _=>rfl⟩,fun _=>hq⟩
 ·have d:(decide ((c.Pins.length:Int)<2)||decide ((c.Pins.length:Int)>5))=true:=by
   rw [Bool.or_eq_true,decide_eq_true_eq,decide_eq_true_eq];omega
  rw [d,cT]
  exact⟨_,rfl,⟨fun h=>(by cases h),fun v=>absurd v.few hl⟩,fun h=>(by cases h)⟩
theorem vW{n:Nat}{l:List Bz}(h:bN l)(hn:1048577<=n):BX (LJ l) (Wp n l):=by
 have hl:=h.1
 rw [Wp]
 have wl:0<l.length->wrap .i64 ((l.length:Int)-1)=(l.length:Int)-1:=fun h0=>Ah (by omega) (by omega)
 refine loop (L:=fun m i (q:List ByteArray)=>HO n l _ m q i) l.length (fun i q=>q=(l.take i).map (·.Name)∧∀k (h:k<l.length),k<i->Qi l.length k l[k]) _ ?_ ?_ n 0 [] (by omega) (by omega) ⟨by simp,fun k _ hk=>by omega⟩
 ·intro m i q hi ⟨hq,hI⟩
  have hql:q.length<=1048576:=by rw [hq];simp;omega
  have ha:=BK (xs:=q) (ys:=[l[i].Name]) (b:=16) (by simp;omega) (by omega)
  have hq':q++[l[i].Name]=(l.take (i+1)).map (·.Name):=by rw [hq,List.take_succ_eq_append_getElem hi,List.map_append];rfl
  simp only [HO.eq_2,DE hi,cT,AV hi,Am,ha,wl (by omega),Jg,wT i]
  have stepI:Qi l.length i l[i]->∀k (h:k<l.length),k<i+1->Qi l.length k l[k]:=fun hp k hk hki=>by
   by_cases ek:k=i
   ·subst ek;exact hp
   ·exact hI k hk (by omega)
  by_cases e1:i+1=l.length
  ·have t1:((i:Int)==(l.length:Int)-1)=true:=by rw [beq_iff_eq];omega
   simp only [t1,cT]
   cases hc:((((l[i].Dir !=2))||((l[i].Cap !=0)))||l[i].Clock)with
   |true=>
    refine .inr (BU fun v=>?_)
    have:=(v.pin i hi).2.1 e1
    rw [this.1,this.2.1,this.2.2]at hc;cases hc
   |false=>
    simp only [Bool.or_eq_false_iff,bne_eq_false_iff_eq]at hc
    exact .inl ⟨_,⟨hq',stepI ⟨by omega,fun _=>⟨hc.1.1,hc.1.2,hc.2⟩,fun h=>by omega⟩⟩,by trivial⟩
  ·have t1:((i:Int)==(l.length:Int)-1)=false:=by rw [beq_eq_false_iff_ne];omega
   simp only [t1,cF,FM,Am]
   by_cases c1:l[i].Dir=1∧0<=l[i].Cap∧l[i].Cap<=500
   ·have d1:((l[i].Dir !=1)|| !(decide (l[i].Cap>=0)&&decide (l[i].Cap<=500)))=false:=by
     simp only [Bool.or_eq_false_iff,bne_eq_false_iff_eq,Bool.not_eq_false',Bool.and_eq_true,decide_eq_true_eq];omega
    simp only [d1,cF]
    exact .inl ⟨_,⟨hq',stepI ⟨by omega,fun h=>absurd h e1,fun _=>c1.1⟩⟩,by trivial⟩
   ·have d1:((l[i].Dir !=1)|| !(decide (l[i].Cap>=0)&&decide (l[i].Cap<=500)))=true:=by
     simp only [Bool.or_eq_true,bne_iff_ne,Bool.not_eq_true',Bool.and_eq_false_iff,decide_eq_false_iff_not];omega
    simp only [d1,cT]
    exact .inr (BU fun v=>c1 ⟨(v.pin i hi).2.2 (by omega),(v.pin i hi).1⟩)
 ·intro m q ⟨hq,hI⟩
  rw [List.take_length]at hq
  obtain⟨b,e,hb⟩:=AN (n:=n) (xs:=q) (by rw [hq];simpa using hl) (by rw [hq];intro x hx;obtain⟨p,hp,rfl⟩:=List.mem_map.1 hx;exact h.2 p hp) hn
  simp only [HO.eq_2,DX,cF,SA,Jg,e,Am,CQ]
  refine Bb ?_
  rw [Bool.and_eq_true,hb,Bool.and_eq_true,decide_eq_true_eq,decide_eq_true_eq]
  subst hq
  simp only [List.length_map,List.getElem_map]
  exact⟨fun⟨a,b⟩=>⟨by omega,fun i hi=>hI i hi hi,b⟩,fun v=>⟨by have:=v.few;omega,v.nm⟩⟩
def IC(l:List Bz)(i:Int):Bool:=((l[i.toNat]?).map (·.Clock)).getD false
theorem dF{l:List Bz}{i:Int}(h0:0<=i)(h1:i<l.length):∃x,AI l i=some x∧x.Clock=IC l i:=by
 obtain⟨x,e,h⟩:=CY h0 h1
 exact⟨x,e,by simp [IC,h]⟩
theorem Rl{l:List Bz}{j:Nat}(h:j<l.length):IC l (j:Int)=l[j].Clock:=by simp [IC,h]
theorem Sj{l:List Bz}(hc:cnt l<=1){i j:Nat}(hi:i<l.length)(hj:j<l.length)(h1:l[i].Clock=true)(h2:l[j].Clock=true):i=j:=by
 have key:∀i j:Nat,∀(hi:i<l.length) (hj:j<l.length),l[i].Clock=true->l[j].Clock=true->¬i<j:=by
  intro i j hi hj h1 h2 hlt
  have e:cnt l=cnt (l.take (i+1))+cnt (l.drop (i+1)):=by unfold cnt;rw [←List.countP_append,List.take_append_drop]
  have p1:0<cnt (l.take (i+1)):=List.countP_pos_iff.2 ⟨l[i],by rw [List.mem_take_iff_getElem];exact⟨i,by omega,rfl⟩,h1⟩
  have p2:0<cnt (l.drop (i+1)):=List.countP_pos_iff.2 ⟨l[j],by rw [List.mem_drop_iff_getElem];exact⟨j-(i+1),by omega,by congr 1;omega⟩,h2⟩
  omega
 have a:=key i j hi hj h1 h2
 have b:=key j i hj hi h2 h1
 omega
theorem Ck{n:Nat}{c:Al}(h:c.Pins.length<=1048576)(hn:1048577<=n):∃r,SR n c=some r∧(r>=0↔∃x∈c.Pins,x.Clock=true)∧(r= -1∨∃j:Nat,r=(j:Int)∧∃h:j<c.Pins.length,c.Pins[j].Clock=true∧∀i (hi:i<c.Pins.length),i<j->¬c.Pins[i].Clock=true):=by
 obtain⟨r,e,hr⟩:=KP (xs:=c.Pins) (L:=fun m i=>Hi n c.Pins (fun i5=>(some (-1))) m i) (f:=fun p=>Wz n p) (P:=fun p=>p.Clock=true) (fun p _=>by rw [Wz];exact Bb Iff.rfl) (fun m i hi=>by
  simp only [Hi.eq_2,DE hi,cT,AV hi,Am,wT i]) (fun m=>by
  simp only [Hi.eq_2,DX,cF]) n (by omega)
 have e:Hi n c.Pins (fun i5=>(some (-1))) n 0=some r:=e
 exact⟨r,by rw [SR,YX,e];rfl,hr⟩
def jE(a:BS):Prop:=(a.Delay.length<=1048576∧∀t∈a.Delay,UM t)∧(a.Slew.length<=1048576∧∀t∈a.Slew,UM t)
structure UA(c:Al):Prop where
 name:c.Name.size<=1048576
 pins:bN c.Pins
 arcs:c.Arcs.length<=1048576∧∀a∈c.Arcs,jE a
 truth:c.Truth.length<=1048576
def ME(c:Al)(a:BS):Prop:=((0<=a.From∧a.From+2<=c.Pins.length)∧(0<=a.To∧a.To+1<=c.Pins.length))∧
 if a.Kind=1 then IC c.Pins a.From=false∧a.To+1=c.Pins.length∧(1<=a.Sense∧a.Sense<=3)∧RS a.Delay true∧RS a.Slew true
 else if a.Kind=2∨a.Kind=3 then IC c.Pins a.From=true∧a.To+1=c.Pins.length∧a.Sense=0∧RS a.Delay true∧RS a.Slew true
 else if a.Kind=4∨a.Kind=5 then IC c.Pins a.From=true∧a.To+1<c.Pins.length∧IC c.Pins a.To=false∧a.Sense=0∧RS a.Delay false∧a.Slew.length=0
 else False
def Tf(c:Al)(a:BS)(r:Int):Prop:=
 if a.Kind=4∨a.Kind=5 then a.Sense=0∧a.Slew.length=0∧RS a.Delay false∧a.From=r∧0<=a.From∧(0<=a.To∧a.To+2<=c.Pins.length)∧a.To≠a.From
 else RS a.Delay true∧RS a.Slew true∧a.To+1=c.Pins.length∧(0<=a.From∧a.From+2<=c.Pins.length)∧
  if a.Kind=1 then IC c.Pins a.From=false∧1<=a.Sense∧a.Sense<=3 else if a.Kind=2∨a.Kind=3 then IC c.Pins a.From=true∧a.Sense=0 else False
theorem Zc(k:Int):k=1∨k=2∨k=3∨k=4∨k=5∨(k≠1∧k≠2∧k≠3∧k≠4∧k≠5):=by omega
theorem Nh{x lo hi:Int}:(decide (x>=lo)&&decide (x<=hi))=true↔lo<=x∧x<=hi:=by simp only [Bool.and_eq_true,decide_eq_true_eq,ge_iff_le]
theorem sD{n:Nat}{c:Al}{a:BS}(hp:c.Pins.length<=5)(h2:2<=c.Pins.length)(h:jE a)(hn:1048577<=n):BX (ME c a) (UQ n c a):=by
 have w1:wrap .i64 ((c.Pins.length:Int)-1)=(c.Pins.length:Int)-1:=Ah (by omega) (by omega)
 have w2:wrap .i64 ((c.Pins.length:Int)-1-1)=(c.Pins.length:Int)-1-1:=Ah (by omega) (by omega)
 obtain⟨t1,e1,h1⟩:=rZ (n:=n) (pos:=true) h.1.2 hn
 obtain⟨t2,e2,h2'⟩:=rZ (n:=n) (pos:=true) h.2.2 hn
 obtain⟨t3,e3,h3⟩:=rZ (n:=n) (pos:=false) h.1.2 hn
 rw [UQ]
 simp only [Hq,Am,w1,w2,FM]
 by_cases c1:(0<=a.From∧a.From+2<=c.Pins.length)∧(0<=a.To∧a.To+1<=c.Pins.length)
 ·have d1:(decide (a.From>=0)&&decide (a.From<=(c.Pins.length:Int)-1-1))=true:=Nh.2 (by omega)
  have d2:(decide (a.To>=0)&&decide (a.To<=(c.Pins.length:Int)-1))=true:=Nh.2 (by omega)
  obtain⟨x,ex,hx⟩:=dF (l:=c.Pins) c1.1.1 (by omega)
  obtain⟨y,ey,hy⟩:=dF (l:=c.Pins) c1.2.1 (by omega)
  simp only [d1,d2,Bool.not_true,Bool.or_self,cF,ex,ey,Am,hx,hy,e1,e2,e3,CQ]
  have to1:(a.To==(c.Pins.length:Int)-1)=true↔a.To+1=c.Pins.length:=by rw [beq_iff_eq];omega
  have to2:decide (a.To<(c.Pins.length:Int)-1)=true↔a.To+1<c.Pins.length:=by rw [decide_eq_true_eq];omega
  have sl:((a.Slew.length:Int)==0)=true↔a.Slew.length=0:=by rw [beq_iff_eq];omega
  have nb:∀b:Bool,(!b)=true↔b=false:=by simp
  rcases Zc a.Kind with k|k|k|k|k|k
  ·have:ME c a↔_:=Iff.rfl
   simp only [k,show((1:Int)==1)=true from rfl,cT]
   refine Bb ?_
   unfold ME
   simp only [k,if_true,Bool.and_eq_true,nb,to1,Nh,h1,h2']
   exact⟨fun⟨⟨⟨⟨p,q⟩,s⟩,u⟩,v⟩=>⟨c1,p,q,by simpa using s,u,v⟩,fun⟨_,p,q,s,u,v⟩=>⟨⟨⟨⟨p,q⟩,by simpa using s⟩,u⟩,v⟩⟩
  ·simp only [k,show((2:Int)==1)=false from rfl,show((2:Int)==2)=true from rfl,cT,cF]
   refine Bb ?_
   unfold ME
   simp only [k,show¬((2:Int)=1) by omega,if_false,true_or,if_true,Bool.and_eq_true,beq_iff_eq,to1,h1,h2']
   exact⟨fun⟨⟨⟨⟨p,q⟩,s⟩,u⟩,v⟩=>⟨c1,p,by omega,s,u,v⟩,fun⟨_,p,q,s,u,v⟩=>⟨⟨⟨⟨p,by omega⟩,s⟩,u⟩,v⟩⟩
  ·simp only [k,show((3:Int)==1)=false from rfl,show((3:Int)==2)=false from rfl,show((3:Int)==3)=true from rfl,cT,cF]
   refine Bb ?_
   unfold ME
   simp only [k,show¬((3:Int)=1) by omega,if_false,or_true,if_true,Bool.and_eq_true,beq_iff_eq,to1,h1,h2']
   exact⟨fun⟨⟨⟨⟨p,q⟩,s⟩,u⟩,v⟩=>⟨c1,p,by omega,s,u,v⟩,fun⟨_,p,q,s,u,v⟩=>⟨⟨⟨⟨p,by omega⟩,s⟩,u⟩,v⟩⟩
  ·simp only [k,show((4:Int)==1)=false from rfl,show((4:Int)==2)=false from rfl,show((4:Int)==3)=false from rfl,show((4:Int)==4)=true from rfl,cT,cF]
   refine Bb ?_
   unfold ME
   simp only [k,show¬((4:Int)=1) by omega,show¬((4:Int)=2∨(4:Int)=3) by omega,if_false,true_or,if_true,Bool.and_eq_true,beq_iff_eq,nb,to2,sl,h3,true_and]
   exact⟨fun⟨⟨⟨⟨⟨p,q⟩,z⟩,s⟩,u⟩,v⟩=>⟨c1,p,q,z,s,u,by omega⟩,fun⟨_,p,q,z,s,u,v⟩=>⟨⟨⟨⟨⟨p,q⟩,z⟩,s⟩,u⟩,by omega⟩⟩
  ·simp only [k,show((5:Int)==1)=false from rfl,show((5:Int)==2)=false from rfl,show((5:Int)==3)=false from rfl,show((5:Int)==4)=false from rfl,show((5:Int)==5)=true from rfl,cT,cF]
   refine Bb ?_
   unfold ME
   simp only [k,show¬((5:Int)=1) by omega,show¬((5:Int)=2∨(5:Int)=3) by omega,if_false,or_true,if_true,Bool.and_eq_true,beq_iff_eq,nb,to2,sl,h3,true_and]
   exact⟨fun⟨⟨⟨⟨⟨p,q⟩,z⟩,s⟩,u⟩,v⟩=>⟨c1,p,q,z,s,u,by omega⟩,fun⟨_,p,q,z,s,u,v⟩=>⟨⟨⟨⟨⟨p,q⟩,z⟩,s⟩,u⟩,by omega⟩⟩
  ·obtain⟨k1,k2,k3,k4,k5⟩:=k
   simp only [beq_eq_false_iff_ne.2 k1,beq_eq_false_iff_ne.2 k2,beq_eq_false_iff_ne.2 k3,beq_eq_false_iff_ne.2 k4,beq_eq_false_iff_ne.2 k5,cF]
   refine BU fun v=>?_
   have:=v.2
   rw [if_neg k1,if_neg (by omega),if_neg (by omega)]at this
   exact this
 ·have d1:(!(decide (a.From>=0)&&decide (a.From<=(c.Pins.length:Int)-1-1))|| !(decide (a.To>=0)&&decide (a.To<=(c.Pins.length:Int)-1)))=true:=by
   rw [Bool.or_eq_true,Bool.not_eq_true',Bool.not_eq_true',Bool.and_eq_false_iff,Bool.and_eq_false_iff,decide_eq_false_iff_not,decide_eq_false_iff_not,decide_eq_false_iff_not,decide_eq_false_iff_not]
   omega
  simp only [d1,cT]
  exact BU fun v=>c1 v.1
theorem sM{n:Nat}{c:Al}{a:BS}{r:Int}(hp:c.Pins.length<=5)(h2:2<=c.Pins.length)(h:jE a)(hr:SR n c=some r)(hn:1048577<=n):BX (Tf c a r) (VA n c a):=by
 have w1:wrap .i64 ((c.Pins.length:Int)-1)=(c.Pins.length:Int)-1:=Ah (by omega) (by omega)
 have w2:wrap .i64 ((c.Pins.length:Int)-1-1)=(c.Pins.length:Int)-1-1:=Ah (by omega) (by omega)
 obtain⟨t1,e1,h1⟩:=rH (n:=n) (pos:=true) h.1.2 h.1.1 hn
 obtain⟨t2,e2,h2'⟩:=rH (n:=n) (pos:=true) h.2.2 h.2.1 hn
 obtain⟨t3,e3,h3⟩:=rH (n:=n) (pos:=false) h.1.2 h.1.1 hn
 rw [VA]
 simp only [QP,Vt,QN,SA,Jg,Am,w1,w2,e1,e2,e3,hr,CQ,FM]
 unfold Tf
 by_cases k:a.Kind=4∨a.Kind=5
 ·have kb:((a.Kind==4)||(a.Kind==5))=true:=by rw [Bool.or_eq_true,beq_iff_eq,beq_iff_eq];exact k
  simp only [kb,cT,if_pos k]
  refine Bb ?_
  simp only [Bool.and_eq_true,beq_iff_eq,bne_iff_ne,decide_eq_true_eq,h3]
  exact⟨fun⟨⟨⟨⟨⟨⟨p,q⟩,s⟩,t⟩,u⟩,v⟩,x⟩=>⟨p,by omega,s,t,by omega,by omega,x⟩,fun⟨p,q,s,t,u,v,x⟩=>⟨⟨⟨⟨⟨⟨p,by omega⟩,s⟩,t⟩,by omega⟩,by omega⟩,x⟩⟩
 ·have kb:((a.Kind==4)||(a.Kind==5))=false:=by rw [Bool.or_eq_false_iff,beq_eq_false_iff_ne,beq_eq_false_iff_ne];omega
  simp only [kb,cF,if_neg k]
  by_cases g:(RS a.Delay true∧RS a.Slew true)∧a.To+1=c.Pins.length∧(0<=a.From∧a.From+2<=c.Pins.length)
  ·have gb:(((!t1|| !t2)||(a.To !=(c.Pins.length:Int)-1))|| !(decide (a.From>=0)&&decide (a.From<=(c.Pins.length:Int)-1-1)))=false:=by
    rw [h1.2 g.1.1,h2'.2 g.1.2]
    simp only [Bool.not_true,Bool.or_self,Bool.false_or,Bool.or_eq_false_iff,bne_eq_false_iff_eq,Bool.not_eq_false',Nh];omega
   obtain⟨x,ex,hx⟩:=dF (l:=c.Pins) g.2.2.1 (by omega)
   simp only [gb,cF,ex,Am,hx]
   have nb:∀b:Bool,(!b)=true↔b=false:=by simp
   have red:∀R:Prop,(RS a.Delay true∧RS a.Slew true∧a.To+1=c.Pins.length∧(0<=a.From∧a.From+2<=c.Pins.length)∧R)↔R:=fun R=>⟨fun q=>q.2.2.2.2,fun q=>⟨g.1.1,g.1.2,g.2.1,g.2.2,q⟩⟩
   rw [red]
   by_cases k1:a.Kind=1
   ·simp only [k1,show((1:Int)==1)=true from rfl,cT,if_true]
    refine Bb ?_
    simp only [Bool.and_eq_true,nb,decide_eq_true_eq]
   ·simp only [beq_eq_false_iff_ne.2 k1,cF,if_neg k1]
    by_cases k2:a.Kind=2
    ·simp only [k2,show((2:Int)==2)=true from rfl,cT,true_or,if_true]
     refine Bb ?_
     simp only [Bool.and_eq_true,beq_iff_eq]
    ·simp only [beq_eq_false_iff_ne.2 k2,cF]
     by_cases k3:a.Kind=3
     ·simp only [k3,show((3:Int)==3)=true from rfl,cT,or_true,if_true]
      refine Bb ?_
      simp only [Bool.and_eq_true,beq_iff_eq]
     ·simp only [beq_eq_false_iff_ne.2 k3,cF]
      rw [if_neg (by omega)]
      exact BU fun v=>v
  ·have gb:(((!t1|| !t2)||(a.To !=(c.Pins.length:Int)-1))|| !(decide (a.From>=0)&&decide (a.From<=(c.Pins.length:Int)-1-1)))=true:=by
    cases hq:(((!t1|| !t2)||(a.To !=(c.Pins.length:Int)-1))|| !(decide (a.From>=0)&&decide (a.From<=(c.Pins.length:Int)-1-1)))with
    |true=>rfl
    |false=>
     exfalso;apply g
     simp only [Bool.or_eq_false_iff,Bool.not_eq_false',bne_eq_false_iff_eq,Nh]at hq
     exact⟨⟨h1.1 hq.1.1.1,h2'.1 hq.1.1.2⟩,by omega,by omega⟩
   simp only [gb,cT]
   exact BU fun v=>g ⟨⟨v.1,v.2.1⟩,v.2.2.1,v.2.2.2.1⟩
theorem TF{c:Al}{a:BS}{r:Int}(hv:LJ c.Pins)(hc:cnt c.Pins<=1)(hr:r= -1∨∃j:Nat,r=(j:Int)∧∃h:j<c.Pins.length,c.Pins[j].Clock=true∧∀i (hi:i<c.Pins.length),i<j->¬c.Pins[i].Clock=true)(hr0:r>=0↔∃x∈c.Pins,x.Clock=true):ME c a↔Tf c a r:=by
 have few:=hv.few
 unfold ME Tf
 by_cases k:a.Kind=4∨a.Kind=5
 ·rw [if_neg (by omega),if_neg (by omega),if_pos k,if_pos k]
  constructor
  ·rintro ⟨⟨⟨a1,a2⟩,a3,a4⟩,b1,b2,b3,b4,b5,b6⟩
   obtain⟨f,hf⟩:=Int.eq_ofNat_of_zero_le a1
   have hf:a.From=(f:Int):=hf
   have hfl:f<c.Pins.length:=by omega
   have cf:c.Pins[f].Clock=true:=by rw [hf,Rl hfl]at b1;exact b1
   have hge:r>=0:=hr0.2 ⟨_,List.getElem_mem hfl,cf⟩
   rcases hr with hr|⟨j,rfl,hj,hj1,_⟩
   ·omega
   ·have:=Sj hc hfl hj cf hj1
    subst this
    refine⟨b4,b6,b5,hf,a1,by omega,fun e=>?_⟩
    rw [e,b1]at b3;cases b3
  ·rintro ⟨b1,b2,b3,b4,b5,⟨b6,b7⟩,b8⟩
   rcases hr with hr|⟨j,hj0,hj,hj1,_⟩
   ·omega
   ·have cf:IC c.Pins a.From=true:=by rw [b4,hj0,Rl hj];exact hj1
    have hjl:j+1<c.Pins.length:=by
     by_cases q:j+1<c.Pins.length
     ·exact q
     ·have:=(hv.pin j hj).2.1 (by omega)
      rw [this.2.2]at hj1;cases hj1
    obtain⟨t,ht⟩:=Int.eq_ofNat_of_zero_le b6
    have ht:a.To=(t:Int):=ht
    have htl:t<c.Pins.length:=by omega
    refine⟨⟨⟨by omega,by omega⟩,by omega,by omega⟩,cf,by omega,?_,b1,b3,b2⟩
    rw [ht,Rl htl]
    cases hq:c.Pins[t].Clock with
    |false=>rfl
    |true=>have:=Sj hc htl hj hq hj1;omega
 ·rw [if_neg k,if_neg k]
  by_cases k1:a.Kind=1
  ·rw [if_pos k1,if_pos k1]
   exact⟨fun⟨p,q,s,t,u,v⟩=>⟨u,v,s,p.1,q,t⟩,fun⟨u,v,s,p,q,t⟩=>⟨⟨p,by omega,by omega⟩,q,s,t,u,v⟩⟩
  ·rw [if_neg k1,if_neg k1]
   by_cases k2:a.Kind=2∨a.Kind=3
   ·rw [if_pos k2,if_pos k2]
    exact⟨fun⟨p,q,s,t,u,v⟩=>⟨u,v,s,p.1,q,t⟩,fun⟨u,v,s,p,q,t⟩=>⟨⟨p,by omega,by omega⟩,q,s,t,u,v⟩⟩
   ·rw [if_neg k2,if_neg k2]
    exact⟨fun h=>h.2.elim,fun h=>h.2.2.2.2.elim⟩
def ID(a b:BS):Prop:=(a.Kind=b.Kind∧a.From=b.From)∧a.To=b.To
def Ej(l:List BS)(k:Int):Prop:=∃a∈l,a.Kind=k
def Gp(c:Al):Prop:=
 (c.Kind=1∧cnt c.Pins=0∧c.Truth.length=2^(c.Pins.length-1)∧∀i,i<c.Truth.length->0<=gd c.Truth i∧gd c.Truth i<=1)∨
 (c.Kind=2∧cnt c.Pins=1∧c.Truth.length=0∧¬Ej c.Arcs 1∧¬(Ej c.Arcs 2↔Ej c.Arcs 3))∨
 (c.Kind=3∧cnt c.Pins=1∧c.Truth.length=0∧Ej c.Arcs 1∧Ej c.Arcs 2∧¬Ej c.Arcs 3)
def WF(A:BS->Prop)(l:List BS):Prop:=∀i (h:i<l.length),A l[i]∧∀j (hj:j<i),¬ID l[j] l[i]
structure Ml(c:Al):Prop where
 name:Ea c.Name=true
 pins:LJ c.Pins
 few:c.Arcs.length<=8
 leak:0<=c.Leak∧c.Leak<=100000
 energy:0<=c.Energy∧c.Energy<=100000
 arcs:WF (ME c) c.Arcs
 kind:Gp c
theorem Gp.cnt{c:Al}(h:Gp c):cnt c.Pins<=1:=by
 rcases h with h|h|h<;>omega
theorem Kd{n:Nat}{c:Al}(hl:c.Arcs.length<=1048576)(hk:∀a∈c.Arcs,0<=a.Kind∧a.Kind<6)(hn:1048577<=n):∃l,VW n c=some l∧l.length=6∧∀k:Nat,k<6->0<=gd l k∧(gd l k>0↔Ej c.Arcs k):=by
 have m6:Ox 6 8=some 6:=FX (n:=6) (by omega) (by omega)
 rw [VW,m6,Am]
 refine loop (L:=fun m i (l:List Int)=>Ih c (fun i31 l33=>(some l33)) m i l) c.Arcs.length (fun i l=>l.length=6∧∀k:Nat,k<6->(0<=gd l k∧gd l k<=i)∧(gd l k>0↔Ej (c.Arcs.take i) k)) (fun o=>∃l,o=some l∧l.length=6∧∀k:Nat,k<6->0<=gd l k∧(gd l k>0↔Ej c.Arcs k)) ?_ ?_ n 0 (List.replicate 6 0) (by omega) (by omega) ⟨by simp,fun k hk=>?_⟩
 ·intro m i l hi ⟨hll,hI⟩
  have hx:=hk _ (List.getElem_mem hi)
  obtain⟨q,hq⟩:=Int.eq_ofNat_of_zero_le hx.1
  have hq:c.Arcs[i].Kind=(q:Int):=hq
  have hq6:q<6:=by omega
  have hg:AI l c.Arcs[i].Kind=some (gd l q):=by rw [hq];exact gI (by omega)
  have hb:=(hI q hq6).1
  refine .inl ⟨l.set q (gd l q+1),⟨by simpa using hll,fun k hk6=>?_⟩,?_⟩
  ·have h1:=hI k hk6
   rw [Ny (by omega)]
   have hs:Ej (c.Arcs.take (i+1)) k↔Ej (c.Arcs.take i) k∨c.Arcs[i].Kind=(k:Int):=by
    rw [List.take_succ_eq_append_getElem hi]
    unfold Ej
    constructor
    ·rintro ⟨a,ha,e⟩
     rcases List.mem_append.1 ha with ha|ha
     ·exact .inl ⟨a,ha,e⟩
     ·obtain rfl:=List.mem_singleton.1 ha;exact .inr e
    ·rintro (⟨a,ha,e⟩|e)
     ·exact⟨a,List.mem_append.2 (.inl ha),e⟩
     ·exact⟨_,List.mem_append.2 (.inr (List.mem_singleton.2 rfl)),e⟩
   rw [hs]
   by_cases e:q=k
   ·subst e
    rw [if_pos rfl]
    exact⟨⟨by omega,by omega⟩,⟨fun _=>.inr hq,fun _=>by omega⟩⟩
   ·rw [if_neg e]
    refine⟨⟨by omega,by omega⟩,h1.2.trans ⟨.inl,fun h=>h.resolve_right fun h=>e (by omega)⟩⟩
  ·simp only [Ih.eq_2,DE hi,cT,AV hi,Am,hg,wT i,Ah (x:=gd l q+1) (by omega) (by omega)]
   rw [hq,Int.toNat_natCast]
 ·intro m l ⟨hll,hI⟩
  simp only [Ih.eq_2,DX,cF]
  refine⟨l,rfl,hll,fun k hk6=>?_⟩
  have:=hI k hk6
  rw [List.take_length]at this
  exact⟨this.1.1,this.2⟩
 ·have:gd (List.replicate 6 0) k=0:=by simp only [gd,List.getD_eq_getElem?_getD,List.getElem?_replicate];split<;>rfl
  rw [this]
  refine⟨by omega,⟨fun h=>by omega,fun⟨a,ha,_⟩=>by simp at ha⟩⟩
theorem Hs{n:Nat}{c:Al}(hl:c.Arcs.length<=1048576)(k:Int)(hn:1048577<=n):BX (Ej c.Arcs k) (Qf n c k):=by
 obtain⟨r,e,hr,_⟩:=KP (xs:=c.Arcs) (L:=fun m i=>Hh n c.Arcs k (fun i6=>(some (-1))) m i) (f:=fun a=>Ur n a k) (P:=fun a=>a.Kind=k) (fun p _=>by rw [Ur];exact Bb beq_iff_eq) (fun m i hi=>by
  simp only [Hh.eq_2,DE hi,cT,AV hi,Am,wT i]) (fun m=>by
  simp only [Hh.eq_2,DX,cF]) n (by omega)
 have e:Hh n c.Arcs k (fun i6=>(some (-1))) n 0=some r:=e
 rw [Qf,Xk,Xv,e]
 exact Bb (by rw [decide_eq_true_eq];exact hr)
theorem Up{L:Nat}(h1:2<=L)(h2:L<=5):Lj .i64 1 ((L:Int)-1)=((2^(L-1):Nat):Int)∧Lj .i64 1 (IntKind.wrap IntKind.u64 ((L:Int)-1))=((2^(L-1):Nat):Int)∧decide (IntKind.wrap IntKind.u64 ((L:Int)-1)<0)=false:=by
 have:L=2∨L=3∨L=4∨L=5:=by omega
 rcases this with rfl|rfl|rfl|rfl<;>decide
theorem wO{n:Nat}{c:Al}{o:Option Bool}{Q:Prop}(h:c.Truth.length<=1048576)(hn:1048577<=n)(hQ:BX Q o):BX ((∀i,i<c.Truth.length->0<=gd c.Truth i∧gd c.Truth i<=1)∧Q) (Jo n c (fun _=>o) n 0):=by
 refine(FD (L:=fun m i=>Jo n c (fun _=>o) m i) (Q:=Q) c.Truth.length 0 (fun i=>0<=gd c.Truth i∧gd c.Truth i<=1) ?_ ?_ n 0 (by omega) (by omega) (by omega) (fun j _ h=>by omega)).iff ⟨fun a=>⟨fun i hi=>a.1 i (by omega) hi,a.2⟩,fun a=>⟨fun i _ hi=>a.1 i hi,a.2⟩⟩
 ·intro m i _ hi
  simp only [Jo.eq_2,DE hi,cT,gI hi,Am,Hq,wT i]
  by_cases c1:0<=gd c.Truth i∧gd c.Truth i<=1
  ·have d1:(decide (gd c.Truth i>=0)&&decide (gd c.Truth i<=1))=true:=Nh.2 c1
   simp only [d1,Bool.not_true,cF]
   exact .inl ⟨c1,by trivial⟩
  ·have d1:(decide (gd c.Truth i>=0)&&decide (gd c.Truth i<=1))=false:=by
    rw [Bool.and_eq_false_iff,decide_eq_false_iff_not,decide_eq_false_iff_not];omega
   simp only [d1,Bool.not_false,cT]
   exact .inr ⟨c1,by trivial⟩
 ·intro m i h1 h2 _
  obtain rfl:i=c.Truth.length:=by omega
  simp only [Jo.eq_2,DX,cF]
  exact hQ
theorem vK{n:Nat}{c:Al}{i:Nat}(hi:i<c.Arcs.length)(hl:c.Arcs.length<=1048576)(hn:1048577<=n)(k2:Int->Option Bool):(∀j (hj:j<i),¬ID c.Arcs[j] c.Arcs[i])∧IQ c i c.Arcs[i] k2 n 0=k2 i∨(¬∀j (hj:j<i),¬ID c.Arcs[j] c.Arcs[i])∧IQ c i c.Arcs[i] k2 n 0=some false:=by
 refine loop (L:=fun m j (_:Unit)=>IQ c i c.Arcs[i] k2 m j) i (fun b _=>∀j (hj:j<i),j<b->¬ID c.Arcs[j] c.Arcs[i]) (fun o=>(∀j (hj:j<i),¬ID c.Arcs[j] c.Arcs[i])∧o=k2 i∨(¬∀j (hj:j<i),¬ID c.Arcs[j] c.Arcs[i])∧o=some false) ?_ ?_ n 0 () (by omega) (by omega) (fun j _ hj=>by omega)
 ·intro m j _ hj hJ
  have e1:ID c.Arcs[j] c.Arcs[i]↔(((c.Arcs[j].Kind==c.Arcs[i].Kind)&&(c.Arcs[j].From==c.Arcs[i].From))&&(c.Arcs[j].To==c.Arcs[i].To))=true:=by
   unfold ID;simp only [Bool.and_eq_true,beq_iff_eq]
  simp only [IQ.eq_2,DE hj,cT,AV (show j<c.Arcs.length by omega),Am,CQ,wT j]
  cases e:(((c.Arcs[j].Kind==c.Arcs[i].Kind)&&(c.Arcs[j].From==c.Arcs[i].From))&&(c.Arcs[j].To==c.Arcs[i].To))with
  |true=>exact .inr (.inr ⟨fun h=>h j hj (e1.2 e),by trivial⟩)
  |false=>
   refine .inl ⟨(),fun a ha hb=>?_,by trivial⟩
   by_cases ea:a=j
   ·subst ea;intro hs;rw [e1.1 hs]at e;cases e
   ·exact hJ a ha (by omega)
 ·intro m _ hJ
  simp only [IQ.eq_2,DX,cF]
  exact .inl ⟨fun j hj=>hJ j hj hj,by trivial⟩
theorem nG{n:Nat}{c:Al}(h:UA c)(hn:1048577<=n):BX (Ml c) (hZ n c):=by
 obtain⟨r,e,hr,hc⟩:=uG (n:=n) h.pins hn
 rw [hZ,e]
 simp only [Am,lO h.name hn,Hq,FM]
 by_cases g:(LJ c.Pins∧Ea c.Name=true)∧c.Arcs.length<=8∧(0<=c.Leak∧c.Leak<=100000)∧(0<=c.Energy∧c.Energy<=100000)
 ·have rt:r.2=true:=hr.2 g.1.1
  have gb:((((!r.2|| !Ea c.Name)||decide ((c.Arcs.length:Int)>8))|| !(decide (c.Leak>=0)&&decide (c.Leak<=100000)))|| !(decide (c.Energy>=0)&&decide (c.Energy<=100000)))=false:=by
   rw [rt,g.1.2]
   simp only [Bool.not_true,Bool.or_self,Bool.false_or,Bool.or_eq_false_iff,decide_eq_false_iff_not,Bool.not_eq_false',Nh];omega
  simp only [gb,cF]
  have few:=g.1.1.few
  have hal:=h.arcs.1
  have hcnt:=hc rt
  refine(FD (L:=fun m i=>KM n c _ m i) (Q:=Gp c) c.Arcs.length 0 (fun i=>∀(hi:i<c.Arcs.length),ME c c.Arcs[i]∧∀j (hj:j<i),¬ID c.Arcs[j] c.Arcs[i]) ?_ ?_ n 0 (by omega) (by omega) (by omega) (fun j _ h=>by omega)).iff ?_
  ·intro m i _ hi
   obtain⟨b,e,hb⟩:=sD (n:=n) (c:=c) few.2 few.1 (h.arcs.2 _ (List.getElem_mem hi)) hn
   simp only [KM.eq_2,DE hi,cT,AV hi,Am,e]
   cases b with
   |false=>exact .inr ⟨fun q=>(by have:=hb.2 (q hi).1;cases this),by trivial⟩
   |true=>
    simp only [Bool.not_true,cF,wT i]
    rcases vK (n:=n) hi hal hn (fun _=>KM n c _ m ((i+1:Nat):Int))with ⟨q1,q2⟩|⟨q1,q2⟩
    ·exact .inl ⟨fun _=>⟨hb.1 rfl,q1⟩,q2⟩
    ·exact .inr ⟨fun q=>q1 (q hi).2,q2⟩
  ·intro m i h1 h2 hA
   obtain rfl:i=c.Arcs.length:=by omega
   simp only [KM.eq_2,DX,cF]
   obtain⟨l,e,hl6,hl⟩:=Kd (n:=n) hal (fun a ha=>by
    obtain⟨j,hj,rfl⟩:=List.getElem_of_mem ha
    have:=(hA j (by omega) hj hj).1.2
    rcases Zc c.Arcs[j].Kind with k|k|k|k|k|k<;>first|omega|skip
    obtain⟨k1,k2,k3,k4,k5⟩:=k
    rw [if_neg k1,if_neg (by omega),if_neg (by omega)]at this
    exact this.elim) hn
   have g1:AI l 1=some (gd l 1):=gI (i:=1) (by omega)
   have g2:AI l 2=some (gd l 2):=gI (i:=2) (by omega)
   have g3:AI l 3=some (gd l 3):=gI (i:=3) (by omega)
   have k1:0<=gd l 1∧(gd l 1>0↔Ej c.Arcs 1):=hl 1 (by omega)
   have k2:0<=gd l 2∧(gd l 2>0↔Ej c.Arcs 2):=hl 2 (by omega)
   have k3:0<=gd l 3∧(gd l 3>0↔Ej c.Arcs 3):=hl 3 (by omega)
   have wl:wrap .i64 ((c.Pins.length:Int)-1)=(c.Pins.length:Int)-1:=Ah (by omega) (by omega)
   obtain⟨s1,s2,s3⟩:=Up few.1 few.2
   rw [e,Am]
   simp only [g1,g2,g3,Am,wl,s2,s3,cF,CQ]
   have tl:((c.Truth.length:Int)==0)=true↔c.Truth.length=0:=by rw [beq_iff_eq];omega
   have tw:((c.Truth.length:Int)==((2^(c.Pins.length-1):Nat):Int))=true↔c.Truth.length=2^(c.Pins.length-1):=by rw [beq_iff_eq];omega
   have c0:(r.1==0)=true↔cnt c.Pins=0:=by rw [beq_iff_eq,hcnt];omega
   have c1:(r.1==1)=true↔cnt c.Pins=1:=by rw [beq_iff_eq,hcnt];omega
   have kk1:(gd l 1==0)=true↔¬Ej c.Arcs 1:=by rw [beq_iff_eq,←k1.2];omega
   have kk3:(gd l 3==0)=true↔¬Ej c.Arcs 3:=by rw [beq_iff_eq,←k3.2];omega
   have p1:decide (gd l 1>0)=true↔Ej c.Arcs 1:=by rw [decide_eq_true_eq];exact k1.2
   have p2:decide (gd l 2>0)=true↔Ej c.Arcs 2:=by rw [decide_eq_true_eq];exact k2.2
   have p3:decide (gd l 3>0)=true↔Ej c.Arcs 3:=by rw [decide_eq_true_eq];exact k3.2
   have x23:(decide (gd l 2>0) !=decide (gd l 3>0))=true↔¬(Ej c.Arcs 2↔Ej c.Arcs 3):=by
    rw [←p2,←p3];cases decide (gd l 2>0)<;>cases decide (gd l 3>0)<;>simp
   by_cases q1:c.Kind=1
   ·simp only [q1,show((1:Int)==1)=true from rfl,cT]
    refine(wO (c:=c) (o:=some ((r.1==0)&&((c.Truth.length:Int)==((2^(c.Pins.length-1):Nat):Int)))) (Q:=cnt c.Pins=0∧c.Truth.length=2^(c.Pins.length-1)) h.truth hn (Bb (by rw [Bool.and_eq_true,c0,tw]))).iff ?_
    unfold Gp
    constructor
    ·rintro ⟨a,b,d⟩;exact .inl ⟨q1,b,d,a⟩
    ·rintro (⟨_,b,d,a⟩|⟨a,_⟩|⟨a,_⟩)
     ·exact⟨a,b,d⟩
     ·omega
     ·omega
   ·simp only [beq_eq_false_iff_ne.2 q1,cF]
    by_cases q2:c.Kind=2
    ·simp only [q2,show((2:Int)==2)=true from rfl,cT]
     refine Bb ?_
     rw [Bool.and_eq_true,Bool.and_eq_true,Bool.and_eq_true,c1,kk1,x23,tl]
     unfold Gp
     constructor
     ·rintro ⟨⟨⟨a,b⟩,d⟩,f⟩;exact .inr (.inl ⟨q2,a,f,b,d⟩)
     ·rintro (⟨a,_⟩|⟨_,a,f,b,d⟩|⟨a,_⟩)
      ·omega
      ·exact⟨⟨⟨a,b⟩,d⟩,f⟩
      ·omega
    ·simp only [beq_eq_false_iff_ne.2 q2,cF]
     by_cases q3:c.Kind=3
     ·simp only [q3,show((3:Int)==3)=true from rfl,cT]
      refine Bb ?_
      simp only [Bool.and_eq_true,true_and,c1,p1,p2,kk3,tl]
      unfold Gp
      constructor
      ·rintro ⟨⟨⟨⟨a,b⟩,d⟩,x⟩,f⟩;exact .inr (.inr ⟨q3,a,f,b,d,x⟩)
      ·rintro (⟨a,_⟩|⟨a,_⟩|⟨_,a,f,b,d,x⟩)
       ·omega
       ·omega
       ·exact⟨⟨⟨⟨a,b⟩,d⟩,x⟩,f⟩
     ·simp only [beq_eq_false_iff_ne.2 q3,cF]
      refine BU ?_
      rintro (⟨a,_⟩|⟨a,_⟩|⟨a,_⟩)
      ·exact q1 a
      ·exact q2 a
      ·exact q3 a
  ·constructor
   ·rintro ⟨a,b⟩
    exact⟨g.1.2,g.1.1,g.2.1,g.2.2.1,g.2.2.2,fun i hi=>a i (by omega) hi hi,b⟩
   ·rintro v
    exact⟨fun i _ _ hi=>v.arcs i hi,v.kind⟩
 ·have gb:((((!r.2|| !Ea c.Name)||decide ((c.Arcs.length:Int)>8))|| !(decide (c.Leak>=0)&&decide (c.Leak<=100000)))|| !(decide (c.Energy>=0)&&decide (c.Energy<=100000)))=true:=by
   cases hq:((((!r.2|| !Ea c.Name)||decide ((c.Arcs.length:Int)>8))|| !(decide (c.Leak>=0)&&decide (c.Leak<=100000)))|| !(decide (c.Energy>=0)&&decide (c.Energy<=100000)))with
   |true=>rfl
   |false=>
    exfalso;apply g
    simp only [Bool.or_eq_false_iff,Bool.not_eq_false',decide_eq_false_iff_not,Nh]at hq
    exact⟨⟨hr.1 hq.1.1.1.1,hq.1.1.1.2⟩,by omega,by simpa using hq.1.2,by simpa using hq.2⟩
  simp only [gb,cT]
  exact BU fun v=>g ⟨⟨v.pins,v.name⟩,v.few,v.leak,v.energy⟩
theorem Cn{n:Nat}{l:List Bz}{K:Int->Option Bool}{c:Al}(hc:c.Pins=l)(hl:l.length<=1048576)(hn:1048577<=n):Fz c (fun i _=>K i) n 0 0=K (cnt l):=by
 subst hc
 refine loop (L:=fun m i (q:Int)=>Fz c (fun i _=>K i) m q i) c.Pins.length (fun i q=>q=cnt (c.Pins.take i)) (fun o=>o=K (cnt c.Pins)) ?_ ?_ n 0 0 (by omega) (by omega) (by simp [cnt])
 ·intro m i q hi hq
  have ct:=QZ hi
  have cl:cnt (c.Pins.take i)<=1048576:=Nat.le_trans List.countP_le_length (by simp;omega)
  cases hk:c.Pins[i].Clock with
  |true=>
   rw [hk,if_pos rfl]at ct
   refine .inl ⟨q+1,by rw [ct,hq];simp,?_⟩
   simp only [Fz.eq_2,DE hi,cT,AV hi,Am,hk,wT i,Ah (x:=q+1) (by omega) (by omega)]
  |false=>
   rw [hk]at ct
   refine .inl ⟨q,by rw [ct,hq];simp,?_⟩
   simp only [Fz.eq_2,DE hi,cT,AV hi,Am,hk,cF,wT i]
 ·intro m q hq
  rw [List.take_length]at hq
  simp only [Fz.eq_2,DX,cF,hq]
theorem uE{n:Nat}{c:Al}(h:UA c)(hv:LJ c.Pins)(hn:1048577<=n):BX (Gp c) (WT n c):=by
 have few:=hv.few
 obtain⟨b1,e1,h1⟩:=Hs (n:=n) h.arcs.1 1 hn
 obtain⟨b2,e2,h2⟩:=Hs (n:=n) h.arcs.1 2 hn
 obtain⟨b3,e3,h3⟩:=Hs (n:=n) h.arcs.1 3 hn
 have wl:wrap .i64 ((c.Pins.length:Int)-1)=(c.Pins.length:Int)-1:=Ah (by omega) (by omega)
 have o:=(Cn (n:=n) (c:=c) (l:=c.Pins) (K:=fun i16=>(cond (c.Kind==1) (Option.bind (cond (i16==0) (Option.bind (QN n c) fun r20=>(cond (decide (r20<0)) none (some ((((c.Truth.length:Int))==(Lj .i64 1 r20)))))) (some false)) fun c20=>(Option.bind (cond c20 (Option.bind (Mp n c.Truth 0 1) fun r26=>(some r26)) (some false)) fun c26=>(some c26))) (cond (c.Kind==2) (Option.bind (cond (((i16==1))&&((((c.Truth.length:Int))==0))) (Option.bind (Qf n c 1) fun r38=>(some (!r38))) (some false)) fun c38=>(Option.bind (cond c38 (Option.bind (Qf n c 2) fun r43=>(Option.bind (Qf n c 3) fun r45=>(some ((r43 !=r45))))) (some false)) fun c43=>(some c43))) (cond (c.Kind==3) (Option.bind (cond (((i16==1))&&((((c.Truth.length:Int))==0))) (Option.bind (Qf n c 1) fun r61=>(some r61)) (some false)) fun c61=>(Option.bind (cond c61 (Option.bind (Qf n c 2) fun r74=>(some r74)) (some false)) fun c74=>(Option.bind (cond c74 (Option.bind (Qf n c 3) fun r87=>(some (!r87))) (some false)) fun c87=>(some c87)))) (some false))))) rfl h.pins.1 hn)
 have o2:WT n c=_:=o
 rw [o2]
 obtain⟨s1,s2,s3⟩:=Up few.1 few.2
 have d0:decide ((c.Pins.length:Int)-1<0)=false:=decide_eq_false (by omega)
 simp only [QN,SA,Am,wl,d0,cF,s1,AW (n:=n) h.truth hn,e1,e2,e3,CQ]
 have tl:((c.Truth.length:Int)==0)=true↔c.Truth.length=0:=by rw [beq_iff_eq];omega
 have tw:((c.Truth.length:Int)==((2^(c.Pins.length-1):Nat):Int))=true↔c.Truth.length=2^(c.Pins.length-1):=by rw [beq_iff_eq];omega
 have c0:((cnt c.Pins:Int)==0)=true↔cnt c.Pins=0:=by rw [beq_iff_eq];omega
 have c1:((cnt c.Pins:Int)==1)=true↔cnt c.Pins=1:=by rw [beq_iff_eq];omega
 have n1:(!b1)=true↔¬Ej c.Arcs 1:=by rw [←h1];cases b1<;>simp
 have n3:(!b3)=true↔¬Ej c.Arcs 3:=by rw [←h3];cases b3<;>simp
 have x23:(b2 !=b3)=true↔¬(Ej c.Arcs 2↔Ej c.Arcs 3):=by rw [←h2,←h3];cases b2<;>cases b3<;>simp
 by_cases q1:c.Kind=1
 ·simp only [q1,show((1:Int)==1)=true from rfl,cT]
  refine Bb ?_
  rw [Bool.and_eq_true,Bool.and_eq_true,c0,tw,OL]
  unfold Gp
  constructor
  ·rintro ⟨⟨a,b⟩,d⟩;exact .inl ⟨q1,a,b,d⟩
  ·rintro (⟨_,a,b,d⟩|⟨a,_⟩|⟨a,_⟩)
   ·exact⟨⟨a,b⟩,d⟩
   ·omega
   ·omega
 ·simp only [beq_eq_false_iff_ne.2 q1,cF]
  by_cases q2:c.Kind=2
  ·simp only [q2,show((2:Int)==2)=true from rfl,cT]
   refine Bb ?_
   simp only [Bool.and_eq_true,c1,tl,n1,x23]
   unfold Gp
   constructor
   ·rintro ⟨⟨⟨a,b⟩,d⟩,f⟩;exact .inr (.inl ⟨q2,a,b,d,f⟩)
   ·rintro (⟨a,_⟩|⟨_,a,b,d,f⟩|⟨a,_⟩)
    ·omega
    ·exact⟨⟨⟨a,b⟩,d⟩,f⟩
    ·omega
  ·simp only [beq_eq_false_iff_ne.2 q2,cF]
   by_cases q3:c.Kind=3
   ·simp only [q3,show((3:Int)==3)=true from rfl,cT]
    refine Bb ?_
    simp only [Bool.and_eq_true,true_and,c1,tl,h1,h2,n3]
    unfold Gp
    constructor
    ·rintro ⟨⟨⟨⟨a,b⟩,d⟩,x⟩,f⟩;exact .inr (.inr ⟨q3,a,b,d,x,f⟩)
    ·rintro (⟨a,_⟩|⟨a,_⟩|⟨_,a,b,d,x,f⟩)
     ·omega
     ·omega
     ·exact⟨⟨⟨⟨a,b⟩,d⟩,x⟩,f⟩
   ·simp only [beq_eq_false_iff_ne.2 q3,cF]
    refine BU ?_
    rintro (⟨a,_⟩|⟨a,_⟩|⟨a,_⟩)
    ·exact q1 a
    ·exact q2 a
    ·exact q3 a
theorem uZ{n:Nat}{c:Al}{r:Int}(h:UA c)(hv:LJ c.Pins)(hr:SR n c=some r)(hn:1048577<=n):BX (WF (fun a=>Tf c a r) c.Arcs∧c.Arcs.length<=8) (UO n c):=by
 have few:=hv.few
 have hal:=h.arcs.1
 rw [UO]
 refine(FD (L:=fun m i=>JP n c _ m i) (Q:=c.Arcs.length<=8) c.Arcs.length 0 (fun i=>∀(hi:i<c.Arcs.length),Tf c c.Arcs[i] r∧∀j (hj:j<i),¬ID c.Arcs[j] c.Arcs[i]) ?_ ?_ n 0 (by omega) (by omega) (by omega) (fun j _ h=>by omega)).iff ⟨fun a=>⟨fun i hi=>a.1 i (by omega) hi hi,a.2⟩,fun a=>⟨fun i _ _ hi=>a.1 i hi,a.2⟩⟩
 ·intro m i _ hi
  obtain⟨b,e,hb⟩:=sM (n:=n) (c:=c) few.2 few.1 (h.arcs.2 _ (List.getElem_mem hi)) hr hn
  have hsub:LI c.Arcs 0 (i:Int)=some (c.Arcs.take i):=by
   unfold LI
   rw [if_pos ⟨by omega,by omega,by omega⟩];simp
  obtain⟨q,e2,hq,_⟩:=KP (xs:=c.Arcs.take i) (L:=fun m j=>HY n (c.Arcs.take i) c.Arcs[i] (fun i6=>(some (-1))) m j) (f:=fun a=>Wh n a c.Arcs[i]) (P:=fun a=>ID a c.Arcs[i]) (fun p _=>by rw [Wh];exact Bb (by unfold ID;simp only [Bool.and_eq_true,beq_iff_eq])) (fun m j hj=>by
   simp only [HY.eq_2,DE hj,cT,AV hj,Am,wS (show j<4611686018427387904 by have:=hj;simp at this;omega)]) (fun m=>by
   simp only [HY.eq_2,DX,cF]) n (by simp;omega)
  have e2:HY n (c.Arcs.take i) c.Arcs[i] (fun i6=>(some (-1))) n 0=some q:=e2
  simp only [JP.eq_2,DE hi,cT,AV hi,Am,e,hsub,Xf,Xn,e2,FM,wT i]
  have hd:(decide (q>=0))=true↔¬∀j (hj:j<i),¬ID c.Arcs[j] c.Arcs[i]:=by
   rw [decide_eq_true_eq,hq]
   constructor
   ·rintro ⟨x,hx,hs⟩ hall
    obtain⟨j,hj,rfl⟩:=List.mem_take_iff_getElem.1 hx
    exact hall j (by omega) hs
   ·intro hna
    refine Classical.byContradiction fun hne=>hna fun j hj hs=>hne ⟨c.Arcs[j],List.mem_take_iff_getElem.2 ⟨j,by omega,rfl⟩,hs⟩
  cases hc:(!b||decide (q>=0))with
  |true=>
   refine .inr ⟨fun g=>?_,by trivial⟩
   have:=g hi
   rw [Bool.or_eq_true]at hc
   rcases hc with hc|hc
   ·rw [hb.2 this.1]at hc;cases hc
   ·exact hd.1 hc this.2
  |false=>
   rw [Bool.or_eq_false_iff]at hc
   refine .inl ⟨fun _=>⟨hb.1 (by simpa using hc.1),Classical.byContradiction fun g=>?_⟩,by trivial⟩
   have:=hd.2 g
   rw [hc.2]at this;cases this
 ·intro m i h1 h2 _
  obtain rfl:i=c.Arcs.length:=by omega
  simp only [JP.eq_2,DX,cF]
  exact Bb (by rw [decide_eq_true_eq];omega)
theorem rP{n:Nat}{c:Al}(h:UA c)(hn:1048577<=n):BX (Ml c) (Vq n c):=by
 obtain⟨r,hr,hr0,hr1⟩:=Ck (n:=n) h.pins.1 hn
 rw [Vq,sV h.name hn,Am]
 cases hnm:Ea c.Name with
 |false=>
  simp only [cF,Am]
  exact BU fun v=>(by have:=v.name;rw [hnm]at this;cases this)
 |true=>
  obtain⟨b,e,hb⟩:=vW (n:=n) h.pins hn
  simp only [cT,e,Am]
  cases b with
  |false=>
   simp only [cF,Am]
   exact BU fun v=>(by have:=hb.2 v.pins;cases this)
  |true=>
   have hv:=hb.1 rfl
   obtain⟨b1,e1,h1⟩:=uZ (n:=n) h hv hr hn
   obtain⟨b2,e2,h2⟩:=uE (n:=n) h hv hn
   simp only [cT,e1,e2,Jg,Am,CQ]
   refine Bb ?_
   rw [Bool.and_eq_true,Bool.and_eq_true,Bool.and_eq_true,h1,h2,Nh,Nh]
   constructor
   ·rintro ⟨⟨⟨⟨a,a8⟩,b⟩,d⟩,f⟩
    exact⟨hnm,hv,a8,b,d,fun i hi=>⟨(TF hv f.cnt hr1 hr0).2 (a i hi).1,(a i hi).2⟩,f⟩
   ·rintro v
    exact⟨⟨⟨⟨fun i hi=>⟨(TF hv v.kind.cnt hr1 hr0).1 (v.arcs i hi).1,(v.arcs i hi).2⟩,v.few⟩,v.leak⟩,v.energy⟩,v.kind⟩
def GA(xs:List ByteArray):Prop:=∀k (h:k<xs.length),Ea xs[k]=true∧∀i (hi:i<k),(xs[i].toList==xs[k].toList)=false
theorem cN{n:Nat}{xs:List ByteArray}(h:xs.length<=1048576)(hs:∀x∈xs,x.size<=1048576)(hn:1048577<=n):BX (GA xs) (aJ n xs):=by
 rw [aJ]
 refine(FD (L:=fun m i=>Hn n xs _ m i) (Q:=True) xs.length 0 (fun i=>∀(hi:i<xs.length),Ea xs[i]=true∧∀j (hj:j<i),(xs[j].toList==xs[i].toList)=false) ?_ ?_ n 0 (by omega) (by omega) (by omega) (fun j _ h=>by omega)).iff ⟨fun a k hk=>a.1 k (by omega) hk hk,fun a=>⟨fun i _ _ hi=>a i hi,trivial⟩⟩
 ·intro m i _ hi
  simp only [Hn.eq_2,DE hi,cT,AV hi,Am,lO (hs _ (List.getElem_mem hi)) hn]
  cases hb:Ea xs[i]with
  |false=>simp only [Bool.not_false,cT];exact .inr ⟨fun g=>(by have:=(g hi).1;rw [hb]at this;cases this),trivial⟩
  |true=>
   simp only [Bool.not_true,cF]
   have key:KZ xs (i:Int) (fun i22=>Hn n xs (fun i5=>some true) m (wrap .i64 ((i:Int)+1))) n 0=cond ((xs.take i).all (fun x=>!(x.toList==xs[i].toList))) (Hn n xs (fun i5=>some true) m (wrap .i64 ((i:Int)+1))) (some false):=by
    refine OK (xs:=xs.take i) (L:=fun q j=>KZ xs (i:Int) (fun i22=>Hn n xs (fun i5=>some true) m (wrap .i64 ((i:Int)+1))) q j) (fun x=>!(x.toList==xs[i].toList)) ?_ ?_ n (by simp;omega)
    ·intro q j hj
     have hj':j<i:=by simp at hj;omega
     have hd:decide ((j:Int)<(i:Int))=true:=decide_eq_true (by omega)
     simp only [KZ.eq_2,hd,cT,AV (show j<xs.length by omega),AV hi,Am,List.getElem_take,wT j]
     cases(xs[j].toList==xs[i].toList)<;>rfl
    ·intro q
     have hl:(xs.take i).length=i:=by simp;omega
     have hd:decide (((xs.take i).length:Int)<(i:Int))=false:=decide_eq_false (by rw [hl];omega)
     simp only [KZ.eq_2,hd,cF]
   rw [key]
   cases ha:(xs.take i).all (fun x=>!(x.toList==xs[i].toList))with
   |true=>
    rw [cT,wT i]
    refine .inl ⟨fun _=>⟨hb,fun j hj=>?_⟩,rfl⟩
    have:=List.all_eq_true.1 ha xs[j] (List.mem_take_iff_getElem.2 ⟨j,by omega,rfl⟩)
    simpa using this
   |false=>
    rw [cF]
    refine .inr ⟨fun g=>?_,rfl⟩
    have:(xs.take i).all (fun x=>!(x.toList==xs[i].toList))=true:=by
     rw [List.all_eq_true]
     intro x hx
     obtain⟨j,hj,rfl⟩:=List.mem_take_iff_getElem.1 hx
     have:=(g hi).2 j (by omega)
     simp [this]
    rw [ha]at this;cases this
 ·intro m i h1 h2 _
  obtain rfl:i=xs.length:=by omega
  simp only [Hn.eq_2,DX,cF]
  exact DS trivial
structure QR(l:Ax):Prop where
 few:l.Cells.length<=8
 cells:∀i (h:i<l.Cells.length),Ml l.Cells[i]
 names:∀k (h:k<l.Cells.length),∀i (hi:i<k),(l.Cells[i].Name.toList==l.Cells[k].Name.toList)=false
def Rn(l:Ax):Prop:=l.Cells.length<=1048576∧∀c∈l.Cells,UA c
theorem uX{n:Nat}{l:Ax}(h:Rn l)(hn:1048577<=n):BX (QR l) (kO n l):=by
 have h1:=h.1
 rw [kO]
 refine(FD (L:=fun m i=>Hx n l _ m i) (Q:=l.Cells.length<=8) l.Cells.length 0 (fun i=>∀(hi:i<l.Cells.length),Ml l.Cells[i]∧∀j (hj:j<i),(l.Cells[j].Name.toList==l.Cells[i].Name.toList)=false) ?_ ?_ n 0 (by omega) (by omega) (by omega) (fun j _ h=>by omega)).iff ⟨fun a=>⟨a.2,fun i hi=>(a.1 i (by omega) hi hi).1,fun k hk=>(a.1 k (by omega) hk hk).2⟩,fun a=>⟨fun i _ _ hi=>⟨a.cells i hi,a.names i hi⟩,a.few⟩⟩
 ·intro m i _ hi
  obtain⟨b,e,hb⟩:=nG (n:=n) (h.2 _ (List.getElem_mem hi)) hn
  simp only [Hx.eq_2,DE hi,cT,AV hi,Am,e]
  cases b with
  |false=>simp only [Bool.not_false,cT];exact .inr ⟨fun g=>(by have:=hb.2 (g hi).1;cases this),trivial⟩
  |true=>
   simp only [Bool.not_true,cF]
   have key:KT l (i:Int) (fun i36=>Hx n l (fun i12=>some (decide ((l.Cells.length:Int)<=8))) m (wrap .i64 ((i:Int)+1))) n 0=cond ((l.Cells.take i).all (fun x=>!(x.Name.toList==l.Cells[i].Name.toList))) (Hx n l (fun i12=>some (decide ((l.Cells.length:Int)<=8))) m (wrap .i64 ((i:Int)+1))) (some false):=by
    refine OK (xs:=l.Cells.take i) (L:=fun q j=>KT l (i:Int) (fun i36=>Hx n l (fun i12=>some (decide ((l.Cells.length:Int)<=8))) m (wrap .i64 ((i:Int)+1))) q j) (fun x=>!(x.Name.toList==l.Cells[i].Name.toList)) ?_ ?_ n (by simp;omega)
    ·intro q j hj
     have hj':j<i:=by simp at hj;omega
     have hd:decide ((j:Int)<(i:Int))=true:=decide_eq_true (by omega)
     simp only [KT.eq_2,hd,cT,AV (show j<l.Cells.length by omega),AV hi,Am,List.getElem_take,wT j]
     cases(l.Cells[j].Name.toList==l.Cells[i].Name.toList)<;>rfl
    ·intro q
     have hl:(l.Cells.take i).length=i:=by simp;omega
     have hd:decide (((l.Cells.take i).length:Int)<(i:Int))=false:=decide_eq_false (by rw [hl];omega)
     simp only [KT.eq_2,hd,cF]
   rw [key]
   cases ha:(l.Cells.take i).all (fun x=>!(x.Name.toList==l.Cells[i].Name.toList))with
   |true=>
    rw [cT,wT i]
    refine .inl ⟨fun _=>⟨hb.1 rfl,fun j hj=>?_⟩,rfl⟩
    have:=List.all_eq_true.1 ha l.Cells[j] (List.mem_take_iff_getElem.2 ⟨j,by omega,rfl⟩)
    simpa using this
   |false=>
    rw [cF]
    refine .inr ⟨fun g=>?_,rfl⟩
    have:(l.Cells.take i).all (fun x=>!(x.Name.toList==l.Cells[i].Name.toList))=true:=by
     rw [List.all_eq_true]
     intro x hx
     obtain⟨j,hj,rfl⟩:=List.mem_take_iff_getElem.1 hx
     have:=(g hi).2 j (by omega)
     simp [this]
    rw [ha]at this;cases this
 ·intro m i h1 h2 _
  obtain rfl:i=l.Cells.length:=by omega
  simp only [Hx.eq_2,DX,cF]
  exact Bb (by rw [decide_eq_true_eq];omega)
theorem uT{n:Nat}{l:Ax}(h:Rn l)(hn:1048577<=n):BX (QR l) (UD n l):=by
 have h1:=h.1
 rw [UD]
 refine loop (L:=fun m i (s:List ByteArray)=>Ic n l _ m s i) l.Cells.length (fun i s=>s=(l.Cells.take i).map (·.Name)∧∀j (hj:j<l.Cells.length),j<i->Ml l.Cells[j]) (fun o=>BX (QR l) o) ?_ ?_ n 0 [] (by omega) (by omega) ⟨by simp,fun j _ h=>by omega⟩
 ·intro m i s hi ⟨hs,hI⟩
  obtain⟨b,e,hb⟩:=rP (n:=n) (h.2 _ (List.getElem_mem hi)) hn
  have hsl:s.length=i:=by rw [hs];simp;omega
  simp only [Ic.eq_2,DE hi,cT,AV hi,Am,e]
  cases b with
  |false=>simp only [Bool.not_false,cT];exact .inr (BU fun v=>by have:=hb.2 (v.cells i hi);cases this)
  |true=>
   simp only [Bool.not_true,cF,BK (show s.length+[l.Cells[i].Name].length<=16777216 by simp;omega) (show 16<=1048576 by omega),Am,wT i]
   refine .inl ⟨_,⟨?_,fun j hj hji=>?_⟩,rfl⟩
   ·rw [hs,List.take_succ_eq_append_getElem hi,List.map_append];rfl
   ·by_cases ej:j=i
    ·subst ej;exact hb.1 rfl
    ·exact hI j hj (by omega)
 ·intro m s ⟨hs,hI⟩
  rw [List.take_length]at hs
  have hsl:s.length=l.Cells.length:=by rw [hs];simp
  simp only [Ic.eq_2,DX,cF]
  by_cases c:l.Cells.length<=8
  ·have d:decide ((l.Cells.length:Int)<=8)=true:=decide_eq_true (by omega)
   obtain⟨b,e,hb⟩:=AN (n:=n) (xs:=s) (by omega) (fun x hx=>by
    rw [hs]at hx
    obtain⟨c,hc,rfl⟩:=List.mem_map.1 hx
    exact(h.2 c hc).name) hn
   simp only [d,cT,e,Am]
   refine Bb (hb.trans ⟨fun g=>⟨c,fun i hi=>hI i hi hi,fun k hk i hi=>?_⟩,fun v k hk=>⟨?_,fun i hi=>?_⟩⟩)
   ·have:=(g k (by omega)).2 i hi
    simpa [hs] using this
   ·have:=(v.cells k (by omega)).name
    simpa [hs] using this
   ·have:=v.names k (by omega) i hi
    simpa [hs] using this
  ·have d:decide ((l.Cells.length:Int)<=8)=false:=decide_eq_false (by omega)
   simp only [d,cF,Am]
   exact BU fun v=>c v.few
def Yx(l:List Int)(lo hi:Int):Prop:=∀i,i<l.length->lo<=gd l i∧gd l i<=hi
theorem VH{n:Nat}{l:List Int}{lo hi:Int}(h:l.length<=1048576)(hn:1048577<=n):BX (Yx l lo hi) (Mp n l lo hi):=by
 rw [Mp,WQ,Vf]
 obtain⟨r,e,h⟩:=Kk (xs:=l) (L:=fun m i=>FZ n l lo hi (fun i7=>(some (-1))) m i) (fun x=>!((decide (x>=lo))&&(decide (x<=hi)))) (by
  intro m i hi
  simp only [FZ.eq_2,DE hi,cT,AV hi,Am,VM,Jg,wT i]) (by
  intro m
  simp only [FZ.eq_2,DX,cF]) n (by omega)
 simp only [e,Am]
 refine Bb ?_
 rw [h,List.any_eq_not_all_not,Bool.not_not]
 simp only [Bool.not_not]
 exact OL
structure QU(w:BZ)(s:Int):Prop where
 many:1<=w.Parent.length∧w.Parent.length<=8
 res:w.Res.length=w.Parent.length
 cap:w.Cap.length=w.Parent.length
 sink:(w.Sink.length:Int)=s
 root:gd w.Parent 0= -1∧gd w.Res 0=0
 tree:∀i,0<i->i<w.Parent.length->0<=gd w.Parent i∧gd w.Parent i<=(i:Int)-1
 ress:Yx w.Res 0 1000
 caps:Yx w.Cap 0 500
 sinks:Yx w.Sink 0 ((w.Parent.length:Int)-1)
def Node(w:BZ)(i:Nat):Prop:=(i=0->gd w.Parent 0= -1∧gd w.Res 0=0)∧(0<i->0<=gd w.Parent i∧gd w.Parent i<=(i:Int)-1)
theorem wF{n:Nat}{w:BZ}{s:Int}(h:w.Sink.length<=1048576)(hn:1048577<=n):BX (QU w s) (Wj n w s):=by
 rw [Wj]
 refine Fp (fun c=>BU fun v=>?_) (fun c=>?_)
 ·have:=v.many;have:=v.res;have:=v.cap;have:=v.sink
  simp only [Bool.or_eq_true,decide_eq_true_eq,bne_iff_ne,ne_eq]at c;omega
 ·simp only [Bool.or_eq_false_iff,decide_eq_false_iff_not,bne_eq_false_iff_eq]at c
  obtain⟨⟨⟨⟨c1,c2⟩,c3⟩,c4⟩,c5⟩:=c
  refine(FD (L:=fun m i=>Ib n w _ m i) (Q:=Yx w.Sink 0 ((w.Parent.length:Int)-1)) w.Parent.length 0 (fun i=>(0<=gd w.Cap i∧gd w.Cap i<=500)∧(0<=gd w.Res i∧gd w.Res i<=1000)∧Node w i) ?_ ?_ n 0 (by omega) (by omega) (by omega) (fun j _ h=>by omega)).iff ⟨fun a=>⟨by omega,by omega,by omega,c5,(a.1 0 (by omega) (by omega)).2.2.1 rfl,fun i h1 h2=>(a.1 i (by omega) h2).2.2.2 h1,fun i hi=>(a.1 i (by omega) (by omega)).2.1,fun i hi=>(a.1 i (by omega) (by omega)).1,a.2⟩,fun v=>⟨fun i _ hi=>⟨v.caps i (by omega),v.ress i (by omega),fun _=>v.root,fun h=>v.tree i h hi⟩,v.sinks⟩⟩
  ·intro m i _ hi
   have w1:wrap .i64 ((i:Int)-1)=(i:Int)-1:=Ah (by omega) (by omega)
   simp only [Ib.eq_2,DE hi,cT,gI (show i<w.Parent.length by omega),gI (show i<w.Res.length by omega),gI (show i<w.Cap.length by omega),Am,Hq,FM,CQ,w1,wT i]
   cases e1:(!(decide (gd w.Cap i>=0)&&decide (gd w.Cap i<=500))|| !(decide (gd w.Res i>=0)&&decide (gd w.Res i<=1000)))with
   |true=>
    rw [cT]
    refine .inr ⟨fun g=>?_,rfl⟩
    simp only [Bool.or_eq_true,Bool.not_eq_true',Bool.and_eq_false_iff,decide_eq_false_iff_not]at e1;omega
   |false=>
    rw [cF]
    simp only [Bool.or_eq_false_iff,Bool.not_eq_false',Bool.and_eq_true,decide_eq_true_eq]at e1
    cases e2:((((i:Int)==0)&&((gd w.Parent i != -1)||(gd w.Res i !=0)))||(decide ((i:Int)>0)&& !(decide (gd w.Parent i>=0)&&decide (gd w.Parent i<=(i:Int)-1))))with
    |true=>
     rw [cT]
     refine .inr ⟨fun g=>?_,rfl⟩
     obtain⟨_,_,g1,g2⟩:=g
     simp only [Bool.or_eq_true,Bool.not_eq_true',Bool.and_eq_false_iff,Bool.and_eq_true,decide_eq_false_iff_not,decide_eq_true_eq,beq_iff_eq,bne_iff_ne,ne_eq]at e2
     by_cases z:i=0
     ·subst z;have:=g1 rfl;omega
     ·have:=g2 (by omega);omega
    |false=>
     rw [cF]
     refine .inl ⟨⟨by omega,by omega,?_⟩,rfl⟩
     simp only [Bool.or_eq_false_iff,Bool.not_eq_false',Bool.and_eq_false_iff,Bool.and_eq_true,decide_eq_false_iff_not,decide_eq_true_eq,beq_eq_false_iff_ne,bne_eq_false_iff_eq,ne_eq]at e2
     refine⟨fun z=>?_,fun z=>by omega⟩
     subst z;omega
  ·intro m i h1 h2 _
   obtain rfl:i=w.Parent.length:=by omega
   have w1:wrap .i64 ((w.Parent.length:Int)-1)=(w.Parent.length:Int)-1:=Ah (by omega) (by omega)
   simp only [Ib.eq_2,DX,cF]
   refine(FD (L:=fun m i=>JO n w _ m i) (Q:=True) w.Sink.length 0 (fun i=>0<=gd w.Sink i∧gd w.Sink i<=(w.Parent.length:Int)-1) ?_ ?_ n 0 (by omega) (by omega) (by omega) (fun j _ h=>by omega)).iff ⟨fun a i hi=>a.1 i (by omega) hi,fun v=>⟨fun i _ hi=>v i hi,trivial⟩⟩
   ·intro m i _ hi
    simp only [JO.eq_2,DE hi,cT,gI hi,Am,Hq,w1,wT i]
    cases e:(!(decide (gd w.Sink i>=0)&&decide (gd w.Sink i<=(w.Parent.length:Int)-1)))with
    |true=>refine .inr ⟨fun g=>?_,by trivial⟩;simp only [Bool.not_eq_true',Bool.and_eq_false_iff,decide_eq_false_iff_not]at e;omega
    |false=>refine .inl ⟨?_,by trivial⟩;simp only [Bool.not_eq_false',Bool.and_eq_true,decide_eq_true_eq]at e;omega
   ·intro m i h1 h2 _
    obtain rfl:i=w.Sink.length:=by omega
    simp only [JO.eq_2,DX,cF]
    exact DS trivial
theorem oJ{n:Nat}{w:BZ}(h1:1<=w.Parent.length)(h:w.Parent.length<=8)(h2:w.Res.length=w.Parent.length)(hn:1048577<=n):BX (∀i,0<=i->i<w.Parent.length->Node w i) (VB n w):=by
 rw [VB]
 refine(FD (L:=fun m i=>Ik n w _ m i) (Q:=True) w.Parent.length 0 (fun i=>Node w i) ?_ ?_ n 0 (by omega) (by omega) (by omega) (fun j _ h=>by omega)).iff ⟨fun a=>a.1,fun a=>⟨a,trivial⟩⟩
 ·intro m i _ hi
  have w1:wrap .i64 ((i:Int)-1)=(i:Int)-1:=Ah (by omega) (by omega)
  have w0:AI w.Res 0=some (gd w.Res 0):=gI (i:=0) (by omega)
  simp only [Ik.eq_2,DE hi,cT,gI hi,w0,Am,Jg,FM,CQ,w1,wT i]
  cases e2:((((i:Int)==0)&&((gd w.Parent i != -1)||(gd w.Res 0 !=0)))||(decide ((i:Int)>0)&& !(decide (gd w.Parent i>=0)&&decide (gd w.Parent i<=(i:Int)-1))))with
  |true=>
   rw [cT]
   refine .inr ⟨fun g=>?_,rfl⟩
   obtain⟨g1,g2⟩:=g
   simp only [Bool.or_eq_true,Bool.not_eq_true',Bool.and_eq_false_iff,Bool.and_eq_true,decide_eq_false_iff_not,decide_eq_true_eq,beq_iff_eq,bne_iff_ne,ne_eq]at e2
   by_cases z:i=0
   ·subst z;have:=g1 rfl;omega
   ·have:=g2 (by omega);omega
  |false=>
   rw [cF]
   refine .inl ⟨?_,rfl⟩
   simp only [Bool.or_eq_false_iff,Bool.not_eq_false',Bool.and_eq_false_iff,Bool.and_eq_true,decide_eq_false_iff_not,decide_eq_true_eq,beq_eq_false_iff_ne,bne_eq_false_iff_eq,ne_eq]at e2
   refine⟨fun z=>?_,fun z=>by omega⟩
   subst z;omega
 ·intro m i h1 h2 _
  obtain rfl:i=w.Parent.length:=by omega
  simp only [Ik.eq_2,DX,cF]
  exact DS trivial
theorem BX.and{P Q:Prop}{o:Option Bool}{c:Bool}(hc:c=true↔P)(h:P->BX Q o):BX (P∧Q) (cond c o (some false)):=by
 cases c with
 |true=>exact(h (hc.1 rfl)).iff ⟨fun q=>⟨hc.1 rfl,q⟩,fun q=>q.2⟩
 |false=>exact BU fun q=>by have:=hc.2 q.1;cases this
theorem BX.ab{P R:Prop}{o:Option Bool}{f:Bool->Option Bool}(h:BX P o)(k:∀c:Bool,(c=true↔P)->BX R (f c)):BX R (Option.bind o f):=by
 obtain⟨b,rfl,h⟩:=h
 exact k b h
theorem Nu{o:Option Bool}:(Option.bind o fun r=>some r)=o:=by cases o<;>rfl
theorem uR{n:Nat}{w:BZ}{s:Int}(h:w.Sink.length<=1048576)(hr:w.Res.length<=1048576)(hc:w.Cap.length<=1048576)(hp:w.Parent.length<=1048576)(hn:1048577<=n):BX (QU w s) (Vx n w s):=by
 have w1:wrap .i64 ((w.Parent.length:Int)-1)=(w.Parent.length:Int)-1:=Ah (by omega) (by omega)
 rw [Vx]
 simp only [OZ,Jg,Am,w1,CQ,Nu]
 refine BX.ab (BX.and (P:=(1<=w.Parent.length∧w.Parent.length<=8)∧w.Res.length=w.Parent.length∧w.Cap.length=w.Parent.length) (Q:=∀i,0<=i->i<w.Parent.length->Node w i) ?_ fun p=>oJ p.1.1 p.1.2 p.2.1 hn) fun c1 e1=>?_
 ·simp only [Bool.and_eq_true,decide_eq_true_eq,beq_iff_eq];omega
 refine BX.ab (BX.and e1 fun _=>VH hr hn) fun c2 e2=>?_
 refine BX.ab (BX.and e2 fun _=>VH hc hn) fun c3 e3=>?_
 refine(BX.and (P:=(((((1<=w.Parent.length∧w.Parent.length<=8)∧w.Res.length=w.Parent.length∧w.Cap.length=w.Parent.length)∧∀i,0<=i->i<w.Parent.length->Node w i)∧Yx w.Res 0 1000)∧Yx w.Cap 0 500)∧(w.Sink.length:Int)=s) ?_ fun _=>VH h hn).iff ⟨fun⟨⟨⟨⟨⟨⟨a,b,c⟩,t⟩,r⟩,k⟩,s1⟩,s2⟩=>⟨a,b,c,s1,(t 0 (by omega) (by omega)).1 rfl,fun i h1 h2=>(t i (by omega) h2).2 h1,r,k,s2⟩,fun v=>⟨⟨⟨⟨⟨⟨v.many,v.res,v.cap⟩,fun i _ hi=>⟨fun _=>v.root,fun h=>v.tree i h hi⟩⟩,v.ress⟩,v.caps⟩,v.sink⟩,v.sinks⟩⟩
 rw [Bool.and_eq_true,e3,beq_iff_eq]
def II(t:List Int)(q:Int):List Int:=t.set q.toNat (gd t q.toNat+1)
def KN(x:Aq):Int:=gd x.Nets (x.Nets.length-1)
def cI(t:List Int)(x:Aq):List Int:=II t (KN x)
def cP(t:List Int)(p:CM):List Int:=if p.Dir=1 then II t p.Net else t
def drv(d:AX):List Int:=d.Ports.foldl cP (d.Instances.foldl cI (List.replicate d.Nets.length 0))
structure LV(l:Ax)(d:AX)(x:Aq):Prop where
 cell:0<=x.Cell∧x.Cell<=(l.Cells.length:Int)-1
 pins:∀c,AI l.Cells x.Cell=some c->x.Nets.length=c.Pins.length
 nets:Yx x.Nets 0 ((d.Nets.length:Int)-1)
structure NN(d:AX)(p:CM):Prop where
 dir:p.Dir=1∨p.Dir=2
 net:0<=p.Net∧p.Net<=(d.Nets.length:Int)-1
structure Ct(l:Ax)(d:AX):Prop where
 lib:QR l
 few:d.Instances.length<=14∧d.Nets.length<=30∧d.Ports.length<=8
 inst:∀x∈d.Instances,LV l d x
 port:∀p∈d.Ports,NN d p
 ni:GA (d.Instances.map (·.Name))
 np:GA (d.Ports.map (·.Name))
 nn:GA d.Nets
 one:∀i,i<d.Nets.length->gd (drv d) i=1
structure Us(d:AX):Prop where
 inst:d.Instances.length<=1048576∧∀x∈d.Instances,x.Name.size<=1048576∧x.Nets.length<=1048576
 nets:d.Nets.length<=1048576∧∀x∈d.Nets,x.size<=1048576
 ports:d.Ports.length<=1048576∧∀p∈d.Ports,p.Name.size<=1048576
theorem LV.long{l:Ax}{d:AX}{x:Aq}(v:LV l d x)(hl:QR l):2<=x.Nets.length∧x.Nets.length<=5:=by
 obtain⟨c,e,hc⟩:=CY (xs:=l.Cells) v.cell.1 (by have:=v.cell.2;omega)
 have h:=v.pins c e
 obtain⟨h1,h2⟩:=List.getElem?_eq_some_iff.1 hc
 have:=(hl.cells _ h1).pins.few
 rw [h2]at this;omega
theorem LV.last{l:Ax}{d:AX}{x:Aq}(v:LV l d x)(hl:QR l):0<=KN x∧KN x<d.Nets.length:=by
 have:=v.long hl
 have:=v.nets (x.Nets.length-1) (by omega)
 unfold KN;omega
theorem JF{α:Type}{xs:List α}(nm:α->ByteArray){L:Nat->List ByteArray->Int->Option Bool}{k:List ByteArray->Option Bool}(hl:xs.length<=1048576)
 (hs:∀(m i:Nat) (h:i<xs.length) (s:List ByteArray),L (m+1) s (i:Int)=Option.bind (Bv s [nm xs[i]] 16) fun z=>L m z ((i+1:Nat):Int))
 (he:∀(m:Nat) (s:List ByteArray),L (m+1) s (xs.length:Int)=k s) (m:Nat) (hm:xs.length<m):L m [] 0=k (xs.map nm):=by
 refine loop (L:=fun m i s=>L m s i) xs.length (fun i s=>s=(xs.take i).map nm) (fun o=>o=k (xs.map nm)) ?_ ?_ m 0 [] (by omega) (by omega) (by simp)
 ·intro m i s hi e
  refine .inl ⟨s++[nm xs[i]],?_,?_⟩
  ·rw [e,List.take_succ_eq_append_getElem hi,List.map_append];rfl
  ·have:s.length=i:=by rw [e];simp;omega
   show L (m+1) s (i:Int)=_
   rw [hs m i hi,BK (by simp;omega) (by omega),Am]
 ·intro m s e
  rw [List.take_length]at e
  show L (m+1) s (xs.length:Int)=_
  rw [he,e]
def Ta(N B:Nat)(t:List Int):Prop:=t.length=N∧∀j,0<=gd t j∧gd t j<=B
theorem Ta.bump{N B:Nat}{t:List Int}{q:Int}(h:Ta N B t)(h0:0<=q)(h1:q<N):Ta N (B+1) (II t q):=by
 refine⟨by unfold II;simpa using h.1,fun j=>?_⟩
 unfold II
 rw [Ny (by have:=h.1;omega)]
 have:=h.2 j;have:=h.2 q.toNat
 split<;>omega
theorem Ta.up{N B:Nat}{t:List Int}(h:Ta N B t):Ta N (B+1) t:=⟨h.1,fun j=>by have:=h.2 j;omega⟩
theorem Ta.step{N B:Nat}{t:List Int}{q:Int}(h:Ta N B t)(h0:0<=q)(h1:q<N)(hB:B<=1048576):AI t q=some (gd t q.toNat)∧t.set q.toNat (wrap .i64 (gd t q.toNat+1))=II t q:=by
 refine⟨Sg h0 (by rw [h.1];exact h1),?_⟩
 have:=h.2 q.toNat
 rw [Ah (by omega) (by omega)];rfl
theorem Ls{α σ:Type}{f:σ->α->σ}{xs:List α}{i:Nat}{s:σ}(h:i<xs.length):(xs.take (i+1)).foldl f s=f ((xs.take i).foldl f s) xs[i]:=by
 rw [List.take_succ_eq_append_getElem h,List.foldl_append];rfl
theorem wJ{n:Nat}{l:Ax}{d:AX}(hl:QR l)(h:Us d)(hn:1048577<=n):BX ((∀x∈d.Instances,LV l d x)∧∀p∈d.Ports,NN d p) (iY n l d):=by
 have hi0:=h.inst.1;have hp0:=h.ports.1;have hn0:=h.nets.1;have hl0:=hl.few
 have wN:wrap .i64 ((d.Nets.length:Int)-1)=(d.Nets.length:Int)-1:=Ah (by omega) (by omega)
 have wL:wrap .i64 ((l.Cells.length:Int)-1)=(l.Cells.length:Int)-1:=Ah (by omega) (by omega)
 rw [iY]
 refine(FD (L:=fun m i=>Hu n l d _ m i) (Q:=∀p∈d.Ports,NN d p) d.Instances.length 0 (fun i=>∀(hi:i<d.Instances.length),LV l d d.Instances[i]) ?_ ?_ n 0 (by omega) (by omega) (by omega) (fun j _ h=>by omega)).iff ⟨fun a=>⟨fun x hx=>?_,a.2⟩,fun a=>⟨fun i _ _ hi=>a.1 _ (List.getElem_mem hi),a.2⟩⟩
 ·intro m i _ hi
  simp only [Hu.eq_2,DE hi,cT,AV hi,Am,Hq,wL,wT i]
  by_cases c1:0<=d.Instances[i].Cell∧d.Instances[i].Cell<=(l.Cells.length:Int)-1
  ·obtain⟨c,ec,hc⟩:=CY (xs:=l.Cells) c1.1 (by omega)
   have d1:(decide (d.Instances[i].Cell>=0)&&decide (d.Instances[i].Cell<=(l.Cells.length:Int)-1))=true:=by simp only [Bool.and_eq_true,decide_eq_true_eq];omega
   simp only [d1,Bool.not_true,cF,ec,Am]
   by_cases c2:d.Instances[i].Nets.length=c.Pins.length
   ·have d2:((d.Instances[i].Nets.length:Int) !=(c.Pins.length:Int))=false:=by rw [bne_eq_false_iff_eq];omega
    simp only [d2,cF]
    have hnl:=(h.inst.2 _ (List.getElem_mem hi)).2
    have key:Js n d d.Instances[i] (fun i75=>Hu n l d (fun i25=>Hk n d (fun i30=>some true) n 0) m ((i+1:Nat):Int)) n 0=cond (d.Instances[i].Nets.all (fun k=>decide (k>=0)&&decide (k<=(d.Nets.length:Int)-1))) (Hu n l d (fun i25=>Hk n d (fun i30=>some true) n 0) m ((i+1:Nat):Int)) (some false):=by
     refine OK (xs:=d.Instances[i].Nets) (L:=fun q j=>Js n d d.Instances[i] (fun i75=>Hu n l d (fun i25=>Hk n d (fun i30=>some true) n 0) m ((i+1:Nat):Int)) q j) _ ?_ ?_ n (by omega)
     ·intro q j hj
      simp only [Js.eq_2,DE hj,cT,AV hj,Am,Hq,wN,wT j]
      cases(decide (d.Instances[i].Nets[j]>=0)&&decide (d.Instances[i].Nets[j]<=(d.Nets.length:Int)-1))<;>rfl
     ·intro q
      simp only [Js.eq_2,DX,cF]
    rw [key]
    cases ha:d.Instances[i].Nets.all (fun k=>decide (k>=0)&&decide (k<=(d.Nets.length:Int)-1))with
    |true=>
     rw [cT]
     exact .inl ⟨fun _=>⟨c1,fun c' e'=>(by rw [ec]at e';cases e';exact c2),OL.1 ha⟩,rfl⟩
    |false=>
     rw [cF]
     exact .inr ⟨fun g=>(by have:=OL.2 (g hi).nets;rw [ha]at this;cases this),rfl⟩
   ·have d2:((d.Instances[i].Nets.length:Int) !=(c.Pins.length:Int))=true:=by rw [bne_iff_ne];omega
    simp only [d2,cT]
    exact .inr ⟨fun g=>c2 ((g hi).pins c ec),by trivial⟩
  ·have d1:(decide (d.Instances[i].Cell>=0)&&decide (d.Instances[i].Cell<=(l.Cells.length:Int)-1))=false:=by rw [Bool.and_eq_false_iff,decide_eq_false_iff_not,decide_eq_false_iff_not];omega
   simp only [d1,Bool.not_false,cT,Am]
   exact .inr ⟨fun g=>c1 (g hi).cell,by trivial⟩
 ·intro m i h1 h2 _
  obtain rfl:i=d.Instances.length:=by omega
  simp only [Hu.eq_2,DX,cF]
  refine(FD (L:=fun m i=>Hk n d _ m i) (Q:=True) d.Ports.length 0 (fun i=>∀(hi:i<d.Ports.length),NN d d.Ports[i]) ?_ ?_ n 0 (by omega) (by omega) (by omega) (fun j _ h=>by omega)).iff ⟨fun a p hp=>?_,fun a=>⟨fun i _ _ hi=>a _ (List.getElem_mem hi),trivial⟩⟩
  ·intro m i _ hi
   simp only [Hk.eq_2,DE hi,cT,AV hi,Am,Hq,wN,FM,wT i]
   cases e1:(!(decide (d.Ports[i].Dir>=1)&&decide (d.Ports[i].Dir<=2))|| !(decide (d.Ports[i].Net>=0)&&decide (d.Ports[i].Net<=(d.Nets.length:Int)-1)))with
   |true=>
    rw [cT]
    refine .inr ⟨fun g=>?_,rfl⟩
    have:=(g hi).dir;have:=(g hi).net
    simp only [Bool.or_eq_true,Bool.not_eq_true',Bool.and_eq_false_iff,decide_eq_false_iff_not]at e1;omega
   |false=>
    rw [cF]
    simp only [Bool.or_eq_false_iff,Bool.not_eq_false',Bool.and_eq_true,decide_eq_true_eq]at e1
    exact .inl ⟨fun _=>⟨by omega,by omega⟩,rfl⟩
  ·intro m i h1 h2 _
   obtain rfl:i=d.Ports.length:=by omega
   simp only [Hk.eq_2,DX,cF]
   exact DS trivial
  ·obtain⟨j,hj,rfl⟩:=List.getElem_of_mem hp
   exact a.1 j (by omega) hj hj
 ·obtain⟨j,hj,rfl⟩:=List.getElem_of_mem hx
  exact a.1 j (by omega) hj hj
theorem wQ{n:Nat}{l:Ax}{d:AX}(h:Rn l)(hd:Us d)(hn:1048577<=n):BX (Ct l d) (fI n l d):=by
 have hi0:=hd.inst.1;have hp0:=hd.ports.1;have hn0:=hd.nets.1
 rw [fI]
 refine(uX h hn).bind (fun vl=>?_) (fun vl=>?_)
 ·simp only [Bool.not_true,Bool.false_or]
  by_cases c:(d.Instances.length<=14∧d.Nets.length<=30)∧d.Ports.length<=8
  ·have e:(decide ((d.Instances.length:Int)>14)||decide ((d.Nets.length:Int)>30)||decide ((d.Ports.length:Int)>8))=false:=by simp only [Bool.or_eq_false_iff,decide_eq_false_iff_not];omega
   simp only [e,cF]
   obtain⟨b,eb,hb⟩:=wJ (n:=n) vl hd hn
   rw [eb,Am,Am]
   cases b with
   |false=>
    simp only [Bool.not_false,cT]
    exact BU fun v=>by have:=hb.2 ⟨v.inst,v.port⟩;cases this
   |true=>
    obtain⟨v1,v2⟩:=hb.1 rfl
    simp only [Bool.not_true,cF]
    rw [JF (xs:=d.Instances) (·.Name) (L:=fun m s i=>MF d _ m s i) (k:=fun s=>Jl d _ n [] 0) hi0 (by
     intro m i hi s
     simp only [MF.eq_2,DE hi,cT,AV hi,Am,wT i]) (by
     intro m s
     simp only [MF.eq_2,DX,cF];rfl) n (by omega)]
    rw [JF (xs:=d.Ports) (·.Name) (L:=fun m s i=>Jl d _ m s i) hp0 (by
     intro m i hi s
     simp only [Jl.eq_2,DE hi,cT,AV hi,Am,wT i]) (by
     intro m s
     simp only [Jl.eq_2,DX,cF];rfl) n (by omega)]
    obtain⟨b1,e1,h1⟩:=cN (n:=n) (xs:=d.Instances.map (·.Name)) (by simpa using hi0) (fun x hx=>by obtain⟨y,hy,rfl⟩:=List.mem_map.1 hx;exact(hd.inst.2 y hy).1) hn
    obtain⟨b2,e2,h2⟩:=cN (n:=n) (xs:=d.Ports.map (·.Name)) (by simpa using hp0) (fun x hx=>by obtain⟨y,hy,rfl⟩:=List.mem_map.1 hx;exact hd.ports.2 y hy) hn
    obtain⟨b3,e3,h3⟩:=cN (n:=n) (xs:=d.Nets) hn0 hd.nets.2 hn
    simp only [e1,e2,e3,Am,FM]
    cases eb:((!b1|| !b2)|| !b3)with
    |true=>
     rw [cT]
     refine BU fun v=>?_
     have:=h1.2 v.ni;have:=h2.2 v.np;have:=h3.2 v.nn
     subst b1 b2 b3;cases eb
    |false=>
     rw [cF]
     simp only [Bool.or_eq_false_iff,Bool.not_eq_false']at eb
     obtain⟨⟨rfl,rfl⟩,rfl⟩:=eb
     rw [FX (by omega) (by omega),Am]
     have k1:=PW (xs:=d.Instances) (L:=fun m i s=>MA d (fun i149 l151=>Ho d (fun i155 l157=>GR l157 (fun i161=>some true) n 0) n 0 l151) m i s) (k:=fun s=>Ho d (fun i155 l157=>GR l157 (fun i161=>some true) n 0) n 0 s) cI (fun i s=>Ta d.Nets.length i s) (by
      intro m i hi s hs
      have hv:=v1 _ (List.getElem_mem hi)
      have hv2:=hv.long vl
      obtain⟨q0,q1⟩:=hv.last vl
      obtain⟨g1,g2⟩:=hs.step q0 q1 (by omega)
      have wx:wrap .i64 ((d.Instances[i].Nets.length:Int)-1)=((d.Instances[i].Nets.length-1:Nat):Int):=by rw [Ah (by omega) (by omega)];omega
      refine⟨?_,hs.bump q0 q1⟩
      simp only [MA.eq_2,DE hi,cT,AV hi,Am,wx,gI (show d.Instances[i].Nets.length-1<d.Instances[i].Nets.length by omega),wT i]
      rw [show gd d.Instances[i].Nets (d.Instances[i].Nets.length-1)=KN d.Instances[i]from rfl,g1,Am,Am,g2];rfl) (by
      intro m s _
      simp only [MA.eq_2,DX,cF]) n (List.replicate d.Nets.length 0) ⟨by simp,fun j=>by rw [OO];omega⟩ (by omega)
     rw [k1.1]
     have k2:=PW (xs:=d.Ports) (L:=fun m i s=>Ho d (fun i155 l157=>GR l157 (fun i161=>some true) n 0) m i s) (k:=fun s=>GR s (fun i161=>some true) n 0) cP (fun i s=>Ta d.Nets.length (d.Instances.length+i) s) (by
      intro m i hi s hs
      have hv:=v2 _ (List.getElem_mem hi)
      obtain⟨g1,g2⟩:=hs.step hv.net.1 (by have:=hv.net.2;omega) (by omega)
      simp only [Ho.eq_2,DE hi,cT,AV hi,Am,wT i,g1,g2]
      by_cases c:d.Ports[i].Dir=1
      ·have e:(d.Ports[i].Dir==1)=true:=beq_iff_eq.2 c
       have e':cP s d.Ports[i]=II s d.Ports[i].Net:=if_pos c
       rw [e,cT,e']
       exact⟨rfl,hs.bump hv.net.1 (by have:=hv.net.2;omega)⟩
      ·have e:(d.Ports[i].Dir==1)=false:=beq_eq_false_iff_ne.2 c
       have e':cP s d.Ports[i]=s:=if_neg c
       rw [e,cF,e']
       exact⟨rfl,hs.up⟩) (by
      intro m s _
      simp only [Ho.eq_2,DX,cF]) n _ k1.2 (by omega)
     rw [k2.1]
     show BX _ (GR (drv d) (fun i161=>some true) n 0)
     have hlen:(drv d).length=d.Nets.length:=k2.2.1
     refine(FD (L:=fun m i=>GR (drv d) (fun i161=>some true) m i) (Q:=True) d.Nets.length 0 (fun i=>gd (drv d) i=1) ?_ ?_ n 0 (by omega) (by omega) (by omega) (fun j _ h=>by omega)).iff ⟨fun a=>⟨vl,⟨c.1.1,c.1.2,c.2⟩,v1,v2,h1.1 rfl,h2.1 rfl,h3.1 rfl,fun i hi=>a.1 i (by omega) hi⟩,fun v=>⟨fun i _ hi=>v.one i hi,trivial⟩⟩
     ·intro m i _ hi
      have hi':i<(drv d).length:=by omega
      simp only [GR.eq_2,DE hi',cT,gI hi',Am,wT i]
      by_cases c:gd (drv d) i=1
      ·have e:(gd (drv d) i !=1)=false:=bne_eq_false_iff_eq.2 c
       rw [e,cF];exact .inl ⟨c,rfl⟩
      ·have e:(gd (drv d) i !=1)=true:=bne_iff_ne.2 c
       rw [e,cT];exact .inr ⟨c,rfl⟩
     ·intro m i q1 q2 _
      obtain rfl:i=d.Nets.length:=by omega
      rw [←hlen]
      simp only [GR.eq_2,DX,cF]
      exact DS trivial
  ·have e:(decide ((d.Instances.length:Int)>14)||decide ((d.Nets.length:Int)>30)||decide ((d.Ports.length:Int)>8))=true:=by simp only [Bool.or_eq_true,decide_eq_true_eq];omega
   simp only [e,cT,Am]
   exact BU fun v=>c ⟨⟨v.few.1,v.few.2.1⟩,v.few.2.2⟩
 ·simp only [Bool.not_false,Bool.true_or,cT,Am]
  exact BU fun v=>vl v.lib
theorem wU{n:Nat}{d:AX}(hd:Us d)(hn:1048577<=n):BX (((((d.Instances.length<=14∧d.Nets.length<=30)∧d.Ports.length<=8)∧GA (d.Instances.map (·.Name)))∧GA d.Nets)∧GA (d.Ports.map (·.Name))) (Ve n d):=by
 have hi0:=hd.inst.1;have hp0:=hd.ports.1;have hn0:=hd.nets.1
 rw [Ve]
 rw [JF (xs:=d.Instances) (·.Name) (L:=fun m s i=>Ig d _ m s i) (k:=fun s=>Hc d _ n [] 0) hi0 (by
  intro m i hi s
  simp only [Ig.eq_2,DE hi,cT,AV hi,Am,wT i]) (by
  intro m s
  simp only [Ig.eq_2,DX,cF];rfl) n (by omega)]
 rw [JF (xs:=d.Ports) (·.Name) (L:=fun m s i=>Hc d _ m s i) hp0 (by
  intro m i hi s
  simp only [Hc.eq_2,DE hi,cT,AV hi,Am,wT i]) (by
  intro m s
  simp only [Hc.eq_2,DX,cF];rfl) n (by omega)]
 simp only [Nu,List.length_map]
 refine BX.ab (BX.and (P:=(d.Instances.length<=14∧d.Nets.length<=30)∧d.Ports.length<=8) (Q:=GA (d.Instances.map fun x:Aq=>x.Name)) ?_ fun _=>AN (xs:=d.Instances.map fun x:Aq=>x.Name) (by simpa using hi0) (fun x hx=>by obtain⟨y,hy,rfl⟩:=List.mem_map.1 hx;exact(hd.inst.2 y hy).1) hn) fun c1 e1=>?_
 ·simp only [Bool.and_eq_true,decide_eq_true_eq];omega
 refine BX.ab (BX.and (Q:=GA d.Nets) e1 fun _=>AN hn0 hd.nets.2 hn) fun c2 e2=>?_
 exact BX.and (Q:=GA (d.Ports.map fun x:CM=>x.Name)) e2 fun _=>AN (xs:=d.Ports.map fun x:CM=>x.Name) (by simpa using hp0) (fun x hx=>by obtain⟨y,hy,rfl⟩:=List.mem_map.1 hx;exact hd.ports.2 y hy) hn
theorem nN{n:Nat}{d:AX}{q:Int}(hn0:d.Nets.length<=1048576):Tu n d q=some (decide (q>=0)&&decide (q<=(d.Nets.length:Int)-1)):=by
 have wN:wrap .i64 ((d.Nets.length:Int)-1)=(d.Nets.length:Int)-1:=Ah (by omega) (by omega)
 simp only [Tu,ZK,Jg,Am,wN]
theorem nW{n:Nat}{l:Ax}{d:AX}{x:Aq}(hl:QR l)(hn0:d.Nets.length<=1048576)(hx:x.Nets.length<=1048576)(hn:1048577<=n):BX (LV l d x) (Vz n d l x):=by
 have hl0:=hl.few
 have wL:wrap .i64 ((l.Cells.length:Int)-1)=(l.Cells.length:Int)-1:=Ah (by omega) (by omega)
 rw [Vz]
 simp only [YI,Jg,Am,wL,Nu]
 by_cases c1:0<=x.Cell∧x.Cell<=(l.Cells.length:Int)-1
 ·obtain⟨c,ec,hc⟩:=CY (xs:=l.Cells) c1.1 (by omega)
  have d1:(decide (x.Cell>=0)&&decide (x.Cell<=(l.Cells.length:Int)-1))=true:=by simp only [Bool.and_eq_true,decide_eq_true_eq];omega
  simp only [d1,cT,ec,Am]
  by_cases c2:x.Nets.length=c.Pins.length
  ·have d2:((x.Nets.length:Int)==(c.Pins.length:Int))=true:=by rw [beq_iff_eq];omega
   simp only [d2,cT,Ym,ZO]
   obtain⟨r,e,h⟩:=Kk (xs:=x.Nets) (L:=fun m i=>IW n x.Nets d (fun i7=>(some (-1))) m i) (fun q=>!((decide (q>=0))&&(decide (q<=(d.Nets.length:Int)-1)))) (by
    intro m i hi
    simp only [IW.eq_2,DE hi,cT,AV hi,Am,Xr,nN hn0,wT i]) (by
    intro m
    simp only [IW.eq_2,DX,cF]) n (by omega)
   simp only [e,Am]
   refine(Bb (P:=Yx x.Nets 0 ((d.Nets.length:Int)-1)) ?_).iff ⟨fun w=>⟨c1,fun c' e'=>(by rw [ec]at e';cases e';exact c2),w⟩,fun v=>v.nets⟩
   rw [h,List.any_eq_not_all_not,Bool.not_not]
   simp only [Bool.not_not]
   exact OL
  ·have d2:((x.Nets.length:Int)==(c.Pins.length:Int))=false:=by rw [beq_eq_false_iff_ne];omega
   simp only [d2,cF]
   exact BU fun v=>c2 (v.pins c ec)
 ·have d1:(decide (x.Cell>=0)&&decide (x.Cell<=(l.Cells.length:Int)-1))=false:=by rw [Bool.and_eq_false_iff,decide_eq_false_iff_not,decide_eq_false_iff_not];omega
  simp only [d1,cF,Am]
  exact BU fun v=>c1 v.cell
theorem uF{n:Nat}{l:Ax}{d:AX}(h:Rn l)(hd:Us d)(hn:1048577<=n):BX (Ct l d) (We n l d):=by
 have hi0:=hd.inst.1;have hp0:=hd.ports.1;have hn0:=hd.nets.1
 rw [We]
 refine(uT h hn).bind (fun vl=>?_) (fun vl=>?_)
 ·simp only [Bool.not_true,cF]
  obtain⟨b,eb,hb⟩:=wU (n:=n) hd hn
  rw [eb,Am,Am]
  cases b with
  |false=>
   simp only [Bool.not_false,cT]
   exact BU fun v=>by have:=hb.2 ⟨⟨⟨⟨⟨v.few.1,v.few.2.1⟩,v.few.2.2⟩,v.ni⟩,v.nn⟩,v.np⟩;cases this
  |true=>
   obtain⟨⟨⟨c,hni⟩,hnn⟩,hnp⟩:=hb.1 rfl
   simp only [Bool.not_true,cF]
   rw [FX (by omega) (by omega),Am]
   refine loop (L:=fun m i s=>Iu n l d _ m i s) d.Instances.length (fun i s=>(s=(d.Instances.take i).foldl cI (List.replicate d.Nets.length 0)∧Ta d.Nets.length i s)∧∀j (hj:j<d.Instances.length),j<i->LV l d d.Instances[j]) (fun o=>BX (Ct l d) o) ?_ ?_ n 0 _ (by omega) (by omega) ⟨⟨by simp,⟨by simp,fun j=>by rw [OO];omega⟩⟩,fun j _ h=>by omega⟩
   ·intro m i s hi ⟨⟨hs,hc⟩,hI⟩
    obtain⟨b,eb,hb⟩:=nW (n:=n) vl hn0 (hd.inst.2 _ (List.getElem_mem hi)).2 hn
    simp only [Iu.eq_2,DE hi,cT,AV hi,Am,eb,wT i]
    cases b with
    |false=>
     simp only [Bool.not_false,cT]
     exact .inr (BU fun v=>by have:=hb.2 (v.inst _ (List.getElem_mem hi));cases this)
    |true=>
     simp only [Bool.not_true,cF]
     have hv:=hb.1 rfl
     have hv2:=hv.long vl
     obtain⟨q0,q1⟩:=hv.last vl
     obtain⟨g1,g2⟩:=hc.step q0 q1 (by omega)
     have wx:wrap .i64 ((d.Instances[i].Nets.length:Int)-1)=((d.Instances[i].Nets.length-1:Nat):Int):=by rw [Ah (by omega) (by omega)];omega
     refine .inl ⟨cI s d.Instances[i],⟨⟨by rw [Ls hi,hs],hc.bump q0 q1⟩,fun j hj hji=>?_⟩,?_⟩
     ·by_cases ej:j=i
      ·subst ej;exact hv
      ·exact hI j hj (by omega)
     ·rw [wx,gI (show d.Instances[i].Nets.length-1<d.Instances[i].Nets.length by omega),show gd d.Instances[i].Nets (d.Instances[i].Nets.length-1)=KN d.Instances[i]from rfl,Am,g1,Am,Am,g2];rfl
   ·intro m s ⟨⟨hs,hc⟩,hI⟩
    rw [List.take_length]at hs
    have v1:∀x∈d.Instances,LV l d x:=fun x hx=>by obtain⟨j,hj,rfl⟩:=List.getElem_of_mem hx;exact hI j hj hj
    simp only [Iu.eq_2,DX,cF]
    refine loop (L:=fun m i s=>Hb n d _ m i s) d.Ports.length (fun i s'=>(s'=(d.Ports.take i).foldl cP s∧Ta d.Nets.length (d.Instances.length+i) s')∧∀j (hj:j<d.Ports.length),j<i->NN d d.Ports[j]) (fun o=>BX (Ct l d) o) ?_ ?_ n 0 _ (by omega) (by omega) ⟨⟨by simp,hc⟩,fun j _ h=>by omega⟩
    ·intro m i s' hi ⟨⟨hs',hc'⟩,hI'⟩
     simp only [Hb.eq_2,DE hi,cT,AV hi,Am,nN hn0,FM,wT i]
     cases e1:(((d.Ports[i].Dir !=1)&&(d.Ports[i].Dir !=2))|| !(decide (d.Ports[i].Net>=0)&&decide (d.Ports[i].Net<=(d.Nets.length:Int)-1)))with
     |true=>
      rw [cT]
      refine .inr (BU fun v=>?_)
      have g:=v.port _ (List.getElem_mem hi)
      have:=g.dir;have:=g.net
      simp only [Bool.or_eq_true,Bool.not_eq_true',Bool.and_eq_false_iff,Bool.and_eq_true,decide_eq_false_iff_not,bne_iff_ne,ne_eq]at e1;omega
     |false=>
      rw [cF]
      simp only [Bool.or_eq_false_iff,Bool.not_eq_false',Bool.and_eq_true,Bool.and_eq_false_iff,decide_eq_true_eq,bne_eq_false_iff_eq]at e1
      have hv:NN d d.Ports[i]:=⟨e1.1,e1.2⟩
      obtain⟨g1,g2⟩:=hc'.step hv.net.1 (by have:=hv.net.2;omega) (by omega)
      have hV:∀j (hj:j<d.Ports.length),j<i+1->NN d d.Ports[j]:=fun j hj hji=>by
       by_cases ej:j=i
       ·subst ej;exact hv
       ·exact hI' j hj (by omega)
      simp only [g1,g2,Am]
      by_cases c:d.Ports[i].Dir=1
      ·have e:(d.Ports[i].Dir==1)=true:=beq_iff_eq.2 c
       have e':cP s' d.Ports[i]=II s' d.Ports[i].Net:=if_pos c
       rw [e,cT]
       exact .inl ⟨_,⟨⟨by rw [Ls hi,←hs',e'],hc'.bump hv.net.1 (by have:=hv.net.2;omega)⟩,hV⟩,rfl⟩
      ·have e:(d.Ports[i].Dir==1)=false:=beq_eq_false_iff_ne.2 c
       have e':cP s' d.Ports[i]=s':=if_neg c
       rw [e,cF]
       exact .inl ⟨_,⟨⟨by rw [Ls hi,←hs',e'],hc'.up⟩,hV⟩,rfl⟩
    ·intro m s' ⟨⟨hs',hc'⟩,hI'⟩
     rw [List.take_length,hs]at hs'
     have hs':s'=drv d:=hs'
     have v2:∀p∈d.Ports,NN d p:=fun x hx=>by obtain⟨j,hj,rfl⟩:=List.getElem_of_mem hx;exact hI' j hj hj
     simp only [Hb.eq_2,DX,cF,Ys,Xz]
     have hl':=hc'.1
     obtain⟨r,e,h⟩:=Kk (xs:=s') (L:=fun m i=>JJ n s' (fun i7=>(some (-1))) m i) (fun q=>q !=1) (by
      intro m i hi
      simp only [JJ.eq_2,DE hi,cT,AV hi,Am,YO,wT i]) (by
      intro m
      simp only [JJ.eq_2,DX,cF]) n (by omega)
     simp only [e,Am]
     refine Bb ?_
     rw [h,Bool.not_eq_true',List.any_eq_false]
     refine⟨fun a=>⟨vl,⟨c.1.1,c.1.2,c.2⟩,v1,v2,hni,hnp,hnn,fun i hi=>?_⟩,fun v x hx=>?_⟩
     ·have:=a s'[i] (List.getElem_mem (by omega))
      rw [←hs',Mw (List.getElem?_eq_getElem (show i<s'.length by omega))]
      simpa using this
     ·obtain⟨j,hj,rfl⟩:=List.getElem_of_mem hx
      have:=v.one j (by omega)
      rw [←hs',Mw (List.getElem?_eq_getElem hj)]at this
      simp [this]
 ·simp only [Bool.not_false,cT,Am]
  exact BU fun v=>vl v.lib
def Ex{α β:Type}(g:Nat->α->List β):Nat->List α->List β
 |_,[]=>[]
 |i,x::xs=>g i x++Ex g (i+1) xs
theorem Le{α β:Type}{g:Nat->α->List β}:∀(xs ys:List α) (i:Nat),Ex g i (xs++ys)=Ex g i xs++Ex g (i+xs.length) ys
 |[],ys,i=>by simp [Ex]
 |x::xs,ys,i=>by simp only [List.cons_append,Ex,Le xs ys (i+1),List.append_assoc,List.length_cons];rw [show i+1+xs.length=i+(xs.length+1) by omega]
theorem UV{α β:Type}{g:Nat->α->List β}{xs:List α}{i:Nat}(h:i<xs.length):Ex g 0 (xs.take (i+1))=Ex g 0 (xs.take i)++g i xs[i]:=by
 rw [List.take_succ_eq_append_getElem h,Le]
 simp [Ex,Nat.min_eq_left (Nat.le_of_lt h)]
theorem EQ{α β:Type}{g:Nat->α->List β}{c:Nat}:∀(xs:List α) (i:Nat),(∀j,∀x∈xs,(g j x).length<=c)->(Ex g i xs).length<=xs.length*c
 |[],i,_=>by simp [Ex]
 |x::xs,i,h=>by
  have h1:=h i x (by simp)
  have h2:=EQ xs (i+1) fun j y hy=>h j y (by simp [hy])
  simp only [Ex,List.length_append,List.length_cons,Nat.add_mul];omega
theorem Ir{α β γ:Type}{g:Nat->α->List β}(f:β->γ):∀(xs:List α) (i:Nat),(Ex g i xs).map f=Ex (fun i x=>(g i x).map f) i xs
 |[],i=>rfl
 |x::xs,i=>by simp only [Ex,List.map_append,Ir f xs (i+1)]
theorem DJ{α β R:Type}{xs:List α}{L:Nat->List β->Int->Option R}{k:List β->Option R}(g:Nat->α->List β)(c B:Nat)(hg:∀j,∀x∈xs,(g j x).length<=c)(hB:B+xs.length*c<=1048576)
 (hs:∀(m i:Nat) (h:i<xs.length) (s:List β),s.length+c<=1048576->L (m+1) s (i:Int)=L m (s++g i xs[i]) ((i+1:Nat):Int))
 (he:∀(m:Nat) (s:List β),L (m+1) s (xs.length:Int)=k s) (m:Nat) (hm:xs.length<m) (s0:List β) (h0:s0.length<=B):L m s0 0=k (s0++Ex g 0 xs):=by
 refine loop (L:=fun m i s=>L m s i) xs.length (fun i s=>s=s0++Ex g 0 (xs.take i)) (fun o=>o=k (s0++Ex g 0 xs)) ?_ ?_ m 0 s0 (by omega) (by omega) (by simp [Ex])
 ·intro m i s hi e
  refine .inl ⟨s++g i xs[i],?_,hs m i hi s ?_⟩
  ·rw [e,UV hi,List.append_assoc]
  ·have h1:=EQ (g:=g) (c:=c) (xs.take i) 0 fun j y hy=>hg j y (List.mem_of_mem_take hy)
   have h2:(xs.take i).length=i:=by simp;omega
   rw [h2]at h1
   have h3:(i+1)*c<=xs.length*c:=Nat.mul_le_mul_right c hi
   rw [Nat.add_mul]at h3
   rw [e,List.length_append];omega
 ·intro m s e
  rw [List.take_length]at e
  show L (m+1) s (xs.length:Int)=_
  rw [he,e]
def NQ(i:Nat)(x:Aq):List BA:=Ex (fun j q=>[BA.mk i j q ((j:Int)==(x.Nets.length:Int)-1)]) 0 x.Nets
def Tl(i:Nat)(p:CM):List BA:=[BA.mk (-1) i p.Net (p.Dir==1)]
def pls(d:AX):List BA:=Ex NQ 0 d.Instances++Ex Tl 0 d.Ports
def Gk(p:BA):BJ:=⟨p.instance_,p.pin_,p.net_,p.drives_⟩
theorem Nl{i:Nat}{x:Aq}(h:x.Nets.length<=5):(NQ i x).length<=5:=by
 have:=EQ (c:=1) (g:=fun j q=>[BA.mk i j q ((j:Int)==(x.Nets.length:Int)-1)]) x.Nets 0 fun j q _=>by simp
 unfold NQ;omega
theorem Cp{d:AX}(h:∀x∈d.Instances,x.Nets.length<=5)(h1:d.Instances.length<=14)(h2:d.Ports.length<=8):(pls d).length<=78:=by
 have a:=EQ (c:=5) (g:=NQ) d.Instances 0 fun j q hq=>Nl (h q hq)
 have b:=EQ (c:=1) (g:=Tl) d.Ports 0 fun j q _=>by simp [Tl]
 unfold pls;rw [List.length_append];omega
theorem Vd{n:Nat}{d:AX}(h:∀x∈d.Instances,x.Nets.length<=5)(h1:d.Instances.length<=14)(h2:d.Ports.length<=8)(hn:1048577<=n):YJ n d=some (pls d):=by
 rw [YJ]
 have a:=EQ (c:=5) (g:=NQ) d.Instances 0 fun j q hq=>Nl (h q hq)
 rw [DJ (xs:=d.Instances) (L:=fun m s i=>KA n d _ m s i) (k:=fun s=>KY d _ n s 0) NQ 5 0 (fun j q hq=>Nl (h q hq)) (by omega) (by
  intro m i hi s hs
  have hx:=h _ (List.getElem_mem hi)
  have wx:wrap .i64 ((d.Instances[i].Nets.length:Int)-1)=(d.Instances[i].Nets.length:Int)-1:=Ah (by omega) (by omega)
  simp only [KA.eq_2,DE hi,cT,AV hi,Am,wT i]
  refine DJ (xs:=d.Instances[i].Nets) (L:=fun m s j=>Lt (i:Int) d.Instances[i] _ m s j) (k:=fun s=>KA n d _ m s ((i+1:Nat):Int)) (fun j q=>[BA.mk i j q ((j:Int)==(d.Instances[i].Nets.length:Int)-1)]) 1 s.length (fun j q _=>by simp) (by omega) ?_ ?_ n (by omega) s (by omega)
  ·intro m j hj s hs
   simp only [Lt.eq_2,DE hj,cT,AV hj,Am,wx,wT j]
   rw [BK (by simp;omega) (by omega),Am]
  ·intro m s
   simp only [Lt.eq_2,DX,cF]) (by
  intro m s
  simp only [KA.eq_2,DX,cF];rfl) n (by omega) [] (by simp)]
 rw [DJ (xs:=d.Ports) (L:=fun m s i=>KY d _ m s i) (k:=fun s=>some s) Tl 1 70 (fun j q _=>by simp [Tl]) (by omega) (by
  intro m i hi s hs
  simp only [KY.eq_2,DE hi,cT,AV hi,Am,wT i]
  rw [BK (by simp;omega) (by omega),Am];rfl) (by
  intro m s
  simp only [KY.eq_2,DX,cF]) n (by omega) _ (by simp;omega)]
 simp [pls]
theorem Ph{n:Nat}{d:AX}(h:∀x∈d.Instances,x.Nets.length<=5)(h1:d.Instances.length<=14)(h2:d.Ports.length<=8)(hn:1048577<=n):TU n d=some ((pls d).map Gk):=by
 rw [TU]
 have hlI:∀j,∀x∈d.Instances,((NQ j x).map Gk).length<=5:=fun j x hx=>by rw [List.length_map];exact Nl (h x hx)
 have a:=EQ (c:=5) (g:=fun i x=>(NQ i x).map Gk) d.Instances 0 hlI
 rw [DJ (xs:=d.Instances) (L:=fun m s i=>Ji n d _ m s i) (k:=fun s=>KJ d _ n s 0) (fun i x=>(NQ i x).map Gk) 5 0 hlI (by omega) (by
  intro m i hi s hs
  have hx:=h _ (List.getElem_mem hi)
  have wx:wrap .i64 ((d.Instances[i].Nets.length:Int)-1)=(d.Instances[i].Nets.length:Int)-1:=Ah (by omega) (by omega)
  simp only [Ji.eq_2,DE hi,cT,AV hi,Am,wT i]
  rw [NQ,Ir]
  refine DJ (xs:=d.Instances[i].Nets) (L:=fun m s j=>LX (i:Int) d.Instances[i] _ m s j) (k:=fun s=>Ji n d _ m s ((i+1:Nat):Int)) (fun j q=>[BA.mk i j q ((j:Int)==(d.Instances[i].Nets.length:Int)-1)].map Gk) 1 s.length (fun j q _=>by simp) (by omega) ?_ ?_ n (by omega) s (by omega)
  ·intro m j hj s hs
   simp only [LX.eq_2,DE hj,cT,AV hj,Am,wx,wT j]
   rw [BK (by simp;omega) (by omega),Am];rfl
  ·intro m s
   simp only [LX.eq_2,DX,cF]) (by
  intro m s
  simp only [Ji.eq_2,DX,cF];rfl) n (by omega) [] (by simp)]
 rw [DJ (xs:=d.Ports) (L:=fun m s i=>KJ d _ m s i) (k:=fun s=>some s) (fun i x=>(Tl i x).map Gk) 1 70 (fun j q _=>by simp [Tl]) (by omega) (by
  intro m i hi s hs
  simp only [KJ.eq_2,DE hi,cT,AV hi,Am,wT i]
  rw [BK (by simp;omega) (by omega),Am];rfl) (by
  intro m s
  simp only [KJ.eq_2,DX,cF]) n (by omega) _ (by simp;omega)]
 simp [pls,Ir]
def GZ(q:Int)(p:BA):Bool:=p.net_==q&& !p.drives_
def snk(d:AX)(q:Int):Nat:=(pls d).countP (GZ q)
structure Bf(b:AF):Prop where
 design:Ct b.Library b.Design
 many:b.Wires.length=b.Design.Nets.length
 wire:∀i (h:i<b.Wires.length),QU b.Wires[i] (snk b.Design i)
def uK(w:BZ):Prop:=((w.Parent.length<=1048576∧w.Res.length<=1048576)∧w.Cap.length<=1048576)∧w.Sink.length<=1048576
structure My(b:AF):Prop where
 lib:Rn b.Library
 design:Us b.Design
 wires:b.Wires.length<=1048576∧∀w∈b.Wires,uK w
theorem Ct.short{l:Ax}{d:AX}(v:Ct l d):∀x∈d.Instances,x.Nets.length<=5:=fun x hx=>((v.inst x hx).long v.lib).2
theorem DI{α β:Type}{g:Nat->α->List β}{Q:β->Prop}:∀(xs:List α) (i:Nat),(∀j (h:j<xs.length),∀y∈g (i+j) xs[j],Q y)->∀y∈Ex g i xs,Q y
 |[],i,_,y,hy=>by simp [Ex]at hy
 |x::xs,i,h,y,hy=>by
  simp only [Ex,List.mem_append]at hy
  rcases hy with hy|hy
  ·exact h 0 (by simp) y (by simpa using hy)
  ·refine DI xs (i+1) (fun j hj y hy=>h (j+1) (by simpa using hj) y ?_) y hy
   simpa [show i+1+j=i+(j+1) by omega] using hy
theorem Ct.net{l:Ax}{d:AX}(v:Ct l d):∀p∈pls d,0<=p.net_∧p.net_<d.Nets.length:=by
 intro p hp
 simp only [pls,List.mem_append]at hp
 rcases hp with hp|hp
 ·refine DI (Q:=fun p:BA=>0<=p.net_∧p.net_<d.Nets.length) d.Instances 0 (fun j hj y hy=>?_) p hp
  refine DI (Q:=fun p:BA=>0<=p.net_∧p.net_<d.Nets.length) _ 0 (fun k hk z hz=>?_) y hy
  have:=(v.inst _ (List.getElem_mem hj)).nets k hk
  rw [Mw (List.getElem?_eq_getElem hk)]at this
  simp only [List.mem_singleton]at hz
  subst hz;show 0<=d.Instances[j].Nets[k]∧d.Instances[j].Nets[k]<_;omega
 ·refine DI (Q:=fun p:BA=>0<=p.net_∧p.net_<d.Nets.length) d.Ports 0 (fun j hj y hy=>?_) p hp
  have:=(v.port _ (List.getElem_mem hj)).net
  simp only [Tl,List.mem_singleton]at hy
  subst hy;show 0<=d.Ports[j].Net∧d.Ports[j].Net<_;omega
def JV(d:AX)(q:Int):List Int:=Ex (fun i p=>if GZ q p=true then [(i:Int)]else []) 0 (pls d)
theorem GG{d:AX}{q:Int}:(JV d q).length=snk d q:=by
 have:∀(xs:List BA) (i:Nat),(Ex (fun i p=>if GZ q p=true then [(i:Int)]else []) i xs).length=xs.countP (GZ q):=by
  intro xs
  induction xs with
  |nil=>intro i;rfl
  |cons x xs ih=>
   intro i
   simp only [Ex,List.length_append,ih,List.countP_cons]
   split<;>simp<;>omega
 exact this _ 0
theorem dZ{n:Nat}{l:Ax}{d:AX}(v:Ct l d)(q:Int)(hn:1048577<=n):XQ n d q=some (JV d q):=by
 rw [XQ,Ph v.short v.few.1 v.few.2.2 hn,Am]
 have hl:=Cp v.short v.few.1 v.few.2.2
 have e:((pls d).map Gk).length=(pls d).length:=by simp
 have:=DJ (xs:=(pls d).map Gk) (L:=fun m s i=>Gy q ((pls d).map Gk) (fun l38 i42=>some l38) m s i) (k:=fun s=>some s) (fun i p=>if (p.net_==q&& !p.drives_)=true then [(i:Int)]else []) 1 0 (fun j p _=>by split<;>simp) (by omega) (by
  intro m i hi s hs
  simp only [Gy.eq_2,DE hi,cT,AV hi,Am,CQ,wT i]
  cases c:(((pls d).map Gk)[i].net_==q&& !((pls d).map Gk)[i].drives_)with
  |true=>rw [cT,if_pos rfl,BK (by simp;omega) (by omega),Am]
  |false=>rw [cF,if_neg (by simp),List.append_nil]) (by
  intro m s
  simp only [Gy.eq_2,DX,cF]) n (by omega) [] (by simp)
 rw [this,List.nil_append]
 congr 1
 have:∀(xs:List BA) (i:Nat),Ex (fun i (p:BJ)=>if (p.net_==q&& !p.drives_)=true then [(i:Int)]else []) i (xs.map Gk)=Ex (fun i p=>if GZ q p=true then [(i:Int)]else []) i xs:=by
  intro xs
  induction xs with
  |nil=>intro i;rfl
  |cons x xs ih=>intro i;simp only [List.map_cons,Ex,ih];rfl
 exact this _ 0
theorem XP{n:Nat}{b:AF}(h:My b)(hn:1048577<=n):BX (Bf b) (Tv n b):=by
 have hw0:=h.wires.1
 rw [Tv]
 refine(wQ h.lib h.design hn).bind (fun v=>?_) (fun v=>?_)
 ·simp only [Bool.not_true,Bool.false_or]
  refine Fp (fun c=>BU fun g=>?_) (fun c=>?_)
  ·have:=g.many;rw [bne_iff_ne]at c;omega
  ·rw [bne_eq_false_iff_eq]at c
   refine(FD (L:=fun m i=>Ln n b _ m i) (Q:=True) b.Wires.length 0 (fun i=>∀(hi:i<b.Wires.length),QU b.Wires[i] (snk b.Design i)) ?_ ?_ n 0 (by omega) (by omega) (by omega) (fun j _ h=>by omega)).iff ⟨fun a=>⟨v,by omega,fun i hi=>a.1 i (by omega) hi hi⟩,fun a=>⟨fun i _ _ hi=>a.wire i hi,trivial⟩⟩
   ·intro m i _ hi
    obtain⟨r,e,hr⟩:=wF (n:=n) (w:=b.Wires[i]) (s:=(snk b.Design i:Int)) (h.wires.2 _ (List.getElem_mem hi)).2 hn
    simp only [Ln.eq_2,DE hi,cT,AV hi,Am,dZ v _ hn,GG,e,wT i]
    cases r with
    |true=>exact .inl ⟨fun _=>hr.1 rfl,by trivial⟩
    |false=>exact .inr ⟨fun g=>(by have:=hr.2 (g hi);cases this),by trivial⟩
   ·intro m i h1 h2 _
    obtain rfl:i=b.Wires.length:=by omega
    simp only [Ln.eq_2,DX,cF]
    exact DS trivial
 ·simp only [Bool.not_false,Bool.true_or,cT]
  exact BU fun g=>v g.design
theorem sY{n:Nat}{b:AF}(h:My b)(hn:1048577<=n):BX (Bf b) (VG n b):=by
 have hw0:=h.wires.1
 rw [VG]
 refine(uF h.lib h.design hn).bind (fun v=>?_) (fun v=>?_)
 ·simp only [Bool.not_true,Bool.false_or]
  refine Fp (fun c=>BU fun g=>?_) (fun c=>?_)
  ·have:=g.many;rw [bne_iff_ne]at c;omega
  ·rw [bne_eq_false_iff_eq]at c
   have hl:=Cp v.short v.few.1 v.few.2.2
   rw [FX (by omega) (by omega),Am,Vd v.short v.few.1 v.few.2.2 hn,Am]
   refine loop (L:=fun m i s=>HZ (pls b.Design) _ m i s) (pls b.Design).length (fun i s=>Ta b.Wires.length i s∧∀q:Nat,q<b.Wires.length->gd s q=((pls b.Design).take i).countP (GZ q)) (fun o=>BX (Bf b) o) ?_ ?_ n 0 _ (by omega) (by omega) ⟨⟨by simp,fun j=>by rw [OO];omega⟩,fun q _=>by rw [OO];simp⟩
   ·intro m i s hi ⟨hc,hs⟩
    have hp:=v.net _ (List.getElem_mem hi)
    obtain⟨g1,g2⟩:=hc.step hp.1 (by omega) (by omega)
    simp only [HZ.eq_2,DE hi,cT,AV hi,Am,g1,g2,wT i]
    cases hd:(pls b.Design)[i].drives_ with
    |true=>
     simp only [Bool.not_true,cF]
     refine .inl ⟨s,⟨hc.up,fun q hq=>?_⟩,rfl⟩
     rw [hs q hq,List.take_succ_eq_append_getElem hi,List.countP_append]
     simp [GZ,hd]
    |false=>
     simp only [Bool.not_false,cT]
     refine .inl ⟨_,⟨hc.bump hp.1 (by omega),fun q hq=>?_⟩,rfl⟩
     rw [List.take_succ_eq_append_getElem hi,List.countP_append]
     unfold II
     rw [Ny (by have:=hc.1;omega)]
     by_cases e:(pls b.Design)[i].net_.toNat=q
     ·have e2:(pls b.Design)[i].net_=(q:Int):=by omega
      rw [if_pos e,e,hs q hq]
      simp [GZ,hd,e2]
     ·have e2:¬(pls b.Design)[i].net_=(q:Int):=by omega
      rw [if_neg e,hs q hq]
      simp [GZ,hd,e2]
   ·intro m s ⟨hc,hs⟩
    simp only [HZ.eq_2,DX,cF]
    refine(FD (L:=fun m i=>Ii n b s _ m i) (Q:=True) b.Wires.length 0 (fun i=>∀(hi:i<b.Wires.length),QU b.Wires[i] (snk b.Design i)) ?_ ?_ n 0 (by omega) (by omega) (by omega) (fun j _ h=>by omega)).iff ⟨fun a=>⟨v,by omega,fun i hi=>a.1 i (by omega) hi hi⟩,fun a=>⟨fun i _ _ hi=>a.wire i hi,trivial⟩⟩
    ·intro m i _ hi
     have hw:=h.wires.2 _ (List.getElem_mem hi)
     obtain⟨r,e,hr⟩:=uR (n:=n) (w:=b.Wires[i]) (s:=(snk b.Design i:Int)) hw.2 hw.1.1.2 hw.1.2 hw.1.1.1 hn
     have hg:gd s i=(snk b.Design i:Int):=by rw [hs i hi,List.take_length];rfl
     simp only [Ii.eq_2,DE hi,cT,AV hi,gI (show i<s.length by rw [hc.1];exact hi),hg,Am,e,wT i]
     cases r with
     |true=>exact .inl ⟨fun _=>hr.1 rfl,by trivial⟩
     |false=>exact .inr ⟨fun g=>(by have:=hr.2 (g hi);cases this),by trivial⟩
    ·intro m i h1 h2 _
     obtain rfl:i=b.Wires.length:=by omega
     simp only [Ii.eq_2,DX,cF]
     exact DS trivial
 ·simp only [Bool.not_false,Bool.true_or,cT]
  exact BU fun g=>v g.design
theorem GJ{σ R:Type}{Q:R->Prop}{L:Nat->Int->σ->Option R}(N:Nat)(I:Nat->σ->Prop)
 (hs:∀(m i:Nat) (st:σ),i<N->I i st->∃st',I (i+1) st'∧L (m+1) (i:Int) st=L m ((i+1:Nat):Int) st')
 (he:∀(m:Nat) (st:σ),I N st->BQ Q (L (m+1) (N:Int) st)) (m:Nat) (st:σ) (hm:N<m) (h:I 0 st):BQ Q (L m 0 st):=
 loop N I (BQ Q) (fun m i st a b=>.inl (hs m i st a b)) he m 0 st (by omega) (by omega) h
theorem PQ{σ R:Type}{Q:R->Prop}{L:Nat->Int->σ->Option R}(s N:Nat)(I:Nat->σ->Prop)
 (hs:∀(m i:Nat) (st:σ),s<=i->i<N->I i st->∃st',I (i+1) st'∧L (m+1) (i:Int) st=L m ((i+1:Nat):Int) st')
 (he:∀(m:Nat) (st:σ),I N st->BQ Q (L (m+1) (N:Int) st)) (m:Nat) (st:σ) (hsN:s<=N) (hm:N<m) (h:I s st):BQ Q (L m (s:Int) st):=
 loop N (fun i st=>s<=i∧I i st) (BQ Q) (fun m i st a b=>by
  obtain⟨st',h1,h2⟩:=hs m i st b.1 a b.2
  exact .inl ⟨st',⟨by have:=b.1;omega,h1⟩,h2⟩) (fun m st h=>he m st h.2) m s st hsN (by omega) ⟨Nat.le_refl _,h⟩
theorem mI{n:Nat}{l:Ax}{d:AX}(v:Ct l d)(q:Int)(hn:1048577<=n):VJ n d q=some (JV d q):=by
 rw [VJ,Vd v.short v.few.1 v.few.2.2 hn,Am]
 have hl:=Cp v.short v.few.1 v.few.2.2
 have:=DJ (xs:=pls d) (L:=fun m s i=>Hg q (pls d) (fun l29 i33=>some l29) m s i) (k:=fun s=>some s) (fun i p=>if GZ q p=true then [(i:Int)]else []) 1 0 (fun j p _=>by split<;>simp) (by omega) (by
  intro m i hi s hs
  simp only [Hg.eq_2,DE hi,cT,AV hi,Am,wT i]
  rw [show((pls d)[i].net_==q&& !(pls d)[i].drives_)=GZ q (pls d)[i]from rfl]
  cases c:GZ q (pls d)[i]with
  |true=>rw [cT,if_pos rfl,BK (by simp;omega) (by omega),Am]
  |false=>rw [cF,if_neg (by simp),List.append_nil]) (by
  intro m s
  simp only [Hg.eq_2,DX,cF]) n (by omega) [] (by simp)
 rw [this,List.nil_append];rfl
theorem Me{d:AX}{q:Int}:∀x∈JV d q,0<=x∧x<(pls d).length:=by
 refine DI (Q:=fun x:Int=>0<=x∧x<(pls d).length) _ 0 fun j hj y hy=>?_
 split at hy
 ·simp only [Nat.zero_add,List.mem_singleton]at hy;omega
 ·cases hy
theorem Ct.place{l:Ax}{d:AX}(v:Ct l d):∀p∈pls d,0<=p.instance_->∃x c pin,AI d.Instances p.instance_=some x∧AI l.Cells x.Cell=some c∧AI c.Pins p.pin_=some pin:=by
 intro p hp
 simp only [pls,List.mem_append]at hp
 rcases hp with hp|hp
 ·refine DI (Q:=fun p:BA=>0<=p.instance_->∃x c pin,AI d.Instances p.instance_=some x∧AI l.Cells x.Cell=some c∧AI c.Pins p.pin_=some pin) d.Instances 0 (fun j hj y hy=>?_) p hp
  refine DI (Q:=fun p:BA=>0<=p.instance_->∃x c pin,AI d.Instances p.instance_=some x∧AI l.Cells x.Cell=some c∧AI c.Pins p.pin_=some pin) _ 0 (fun k hk z hz=>?_) y hy
  have vi:=v.inst _ (List.getElem_mem hj)
  simp only [Nat.zero_add,List.mem_singleton]at hz
  subst hz
  intro _
  obtain⟨c,ec,_⟩:=CY (xs:=l.Cells) vi.cell.1 (by have:=vi.cell.2;omega)
  have hc:=vi.pins c ec
  exact⟨_,c,_,AV hj,ec,AV (show k<c.Pins.length by omega)⟩
 ·refine DI (Q:=fun p:BA=>0<=p.instance_->∃x c pin,AI d.Instances p.instance_=some x∧AI l.Cells x.Cell=some c∧AI c.Pins p.pin_=some pin) d.Ports 0 (fun j hj y hy=>?_) p hp
  simp only [Tl,List.mem_singleton]at hy
  subst hy;intro h;exact absurd h (by show¬(0:Int)<= -1;decide)
theorem qI{n:Nat}{l:Ax}{d:AX}(v:Ct l d){p:BA}(hp:p∈pls d):∃r,WJ n d l p=some r:=by
 rw [WJ]
 by_cases c:p.instance_<0
 ·rw [decide_eq_true c,cT];exact⟨_,rfl⟩
 ·obtain⟨x,c',pin,e1,e2,e3⟩:=v.place p hp (by omega)
  rw [decide_eq_false c,cF,e1,Am,e2,Am,e3,Am];exact⟨_,rfl⟩
theorem Ek{t:List Int}{i:Int}(h0:0<=i)(h1:i<t.length):∃x,AI t i=some x:=⟨_,Sg h0 h1⟩
theorem tU{n:Nat}{b:AF}(v:Bf b){i:Nat}(hi:i<b.Wires.length)(hn:1048577<=n):BQ (fun r=>r.length=b.Wires[i].Parent.length) (eL n b (i:Int)):=by
 have vd:=v.design
 have vw:=v.wire i hi
 have hm:=vw.many
 have hP:=vw.cap
 have hl:=Cp vd.short vd.few.1 vd.few.2.2
 rw [eL,AV hi,Am,YQ,BK (by simp;omega) (by omega),Am,Am,Vd vd.short vd.few.1 vd.few.2.2 hn,Am,mI vd _ hn,Am,List.nil_append]
 have hsl:(JV b.Design (i:Int)).length=b.Wires[i].Sink.length:=by rw [GG];have:=vw.sink;omega
 have hsn:snk b.Design (i:Int)<=78:=Nat.le_trans List.countP_le_length hl
 have hsn2:=GG (d:=b.Design) (q:=(i:Int))
 refine GJ (L:=fun m j s=>Lo n b b.Wires[i] (pls b.Design) (JV b.Design (i:Int)) _ m j s) (JV b.Design (i:Int)).length (fun _ s=>s.length=b.Wires[i].Parent.length) ?_ ?_ n _ (by omega) hP
 ·intro m j s hj hs
  have hj2:j<b.Wires[i].Sink.length:=by omega
  have hk:=vw.sinks j hj2
  have hq:=Me _ (List.getElem_mem hj)
  obtain⟨a,ea⟩:=Ek (t:=s) hk.1 (by omega)
  obtain⟨p,ep,hp⟩:=CY (xs:=pls b.Design) hq.1 hq.2
  obtain⟨r,er⟩:=qI (n:=n) vd (List.mem_of_getElem? hp)
  simp only [Lo.eq_2,DE hj,cT,AV hj,gI hj2,Am,ea,ep,er,wT j]
  exact⟨_,by simpa using hs,rfl⟩
 ·intro m s hs
  simp only [Lo.eq_2,DX,cF]
  have wx:wrap .i64 ((s.length:Int)-1)=((s.length-1:Nat):Int):=by rw [Ah (by omega) (by omega)];omega
  rw [wx]
  have key:∀(m k:Nat) (s:List Int),k<b.Wires[i].Parent.length->s.length=b.Wires[i].Parent.length->k<m->BQ (fun r:List Int=>r.length=b.Wires[i].Parent.length) (Lg b.Wires[i] (fun i91 l93=>some l93) m (k:Int) s):=by
   intro m
   induction m with
   |zero=>intro k s _ _ h;omega
   |succ m ih=>
    intro k s hk hs hm
    by_cases c:0<k
    ·have hd:decide ((k:Int)>0)=true:=decide_eq_true (by omega)
     have ht:=vw.tree k c hk
     obtain⟨a,ea⟩:=Ek (t:=s) ht.1 (by omega)
     have wk:wrap .i64 ((k:Int)-1)=((k-1:Nat):Int):=by rw [Ah (by omega) (by omega)];omega
     simp only [Lg.eq_2,hd,cT,gI hk,Am,ea,gI (show k<s.length by omega),wk]
     exact ih (k-1) _ (by omega) (by simpa using hs) (by omega)
    ·have hd:decide ((k:Int)>0)=false:=decide_eq_false (by omega)
     simp only [Lg.eq_2,hd,cF]
     exact⟨s,rfl,hs⟩
  exact key n (s.length-1) s (by omega) hs (by omega)
theorem uA{n:Nat}{b:AF}(v:Bf b){i:Nat}(hi:i<b.Wires.length)(hn:1048577<=n):BQ (fun r=>r.length=b.Wires[i].Parent.length) (Uf n b (i:Int)):=by
 have vw:=v.wire i hi
 have hm:=vw.many
 have hR:=vw.res
 rw [Uf,AV hi,Am]
 refine(tU v hi hn).bind fun r e hr=>?_
 rw [FX (by omega) (by omega),Am]
 refine PQ (L:=fun m j s=>IS b.Wires[i] r _ m j s) 1 b.Wires[i].Parent.length (fun _ s=>s.length=b.Wires[i].Parent.length) ?_ ?_ n _ (by omega) (by omega) (by simpa using hr)
 ·intro m j s h1 hj hs
  have ht:=vw.tree j (by omega) hj
  obtain⟨a,ea⟩:=Ek (t:=s) ht.1 (by omega)
  simp only [IS.eq_2,DE (show j<s.length by omega),cT,gI hj,gI (show j<b.Wires[i].Res.length by omega),gI (show j<r.length by omega),gI (show j<s.length by omega),Am,ea,wT j]
  exact⟨_,by simpa using hs,rfl⟩
 ·intro m s hs
  rw [←hs]
  simp only [IS.eq_2,DX,cF]
  exact⟨s,rfl,rfl⟩
theorem vN{n:Nat}{b:AF}(v:Bf b){i:Nat}(hi:i<b.Wires.length)(hn:1048577<=n):BQ (fun _=>True) (Wg n b (i:Int)):=by
 have vw:=v.wire i hi
 have vd:=v.design
 have hl:=Cp vd.short vd.few.1 vd.few.2.2
 have hsn:snk b.Design (i:Int)<=78:=Nat.le_trans List.countP_le_length hl
 have hsk:=vw.sink
 rw [Wg]
 refine(uA v hi hn).bind fun r e hr=>?_
 rw [AV hi,Am]
 refine GJ (L:=fun m j s=>JW r b.Wires[i] _ m s j) b.Wires[i].Sink.length (fun j s=>s.length=j) ?_ ?_ n _ (by omega) rfl
 ·intro m j s hj hs
  have hk:=vw.sinks j hj
  obtain⟨a,ea⟩:=Ek (t:=r) hk.1 (by omega)
  refine⟨s++[a],by simp;omega,?_⟩
  simp only [JW.eq_2,DE hj,cT,gI hj,Am,ea,wT j]
  rw [BK (by simp;omega) (by omega),Am]
 ·intro m s hs
  simp only [JW.eq_2,DX,cF]
  exact⟨s,rfl,trivial⟩
theorem vE{n:Nat}(a:BS):BQ (fun r:List Ce=>r.length<=4) (Uz n a):=by
 rw [Uz]
 repeat' refine Ap (fun _=>?_) (fun _=>?_)
 all_goals exact AS (by simp)
theorem uP{n:Nat}{b:AF}(v:Bf b){x:Aq}(hx:x∈b.Design.Instances)(q:Int)(hn:1048577<=n):BQ (fun r:List AU=>r.length<=32) (kP n b x q):=by
 have vi:=v.design.inst x hx
 obtain⟨c,ec,hc⟩:=CY (xs:=b.Library.Cells) vi.cell.1 (by have:=vi.cell.2;omega)
 obtain⟨h1,h2⟩:=List.getElem?_eq_some_iff.1 hc
 have few:=(v.design.lib.cells _ h1).few
 rw [h2]at few
 rw [kP,ec,Am]
 refine GJ (L:=fun m j s=>Ht n q c _ m s j) c.Arcs.length (fun j s=>s.length<=4*j) ?_ ?_ n _ (by omega) (by simp)
 ·intro m j s hj hs
  obtain⟨r,er,hr⟩:=vE (n:=n) c.Arcs[j]
  have key:∃s',s'.length<=4*(j+1)∧KI q (j:Int) c.Arcs[j] r (fun l88 i92=>Ht n q c (fun l46 i50=>some l46) m l88 (wrap .i64 ((j:Int)+1))) n s 0=Ht n q c (fun l46 i50=>some l46) m s' (wrap .i64 ((j:Int)+1)):=by
   refine loop (L:=fun m k s=>KI q (j:Int) c.Arcs[j] r _ m s k) r.length (fun k s=>s.length<=4*j+k) (fun o=>∃s':List AU,s'.length<=4*(j+1)∧o=Ht n q c (fun l46 i50=>some l46) m s' (wrap .i64 ((j:Int)+1))) ?_ ?_ n 0 s (by omega) (by omega) (by omega)
   ·intro m k s hk hs
    simp only [KI.eq_2,DE hk,cT,AV hk,Am,wT k]
    rw [BK (by simp;omega) (by omega),Am]
    exact .inl ⟨_,by simp;omega,rfl⟩
   ·intro m s hs
    simp only [KI.eq_2,DX,cF]
    exact⟨s,by omega,rfl⟩
  obtain⟨s',hs',e'⟩:=key
  refine⟨s',hs',?_⟩
  simp only [Ht.eq_2,DE hj,cT,AV hj,Am,er]
  rw [e',wT j]
 ·intro m s hs
  simp only [Ht.eq_2,DX,cF]
  exact⟨s,rfl,by omega⟩
theorem sS{n:Nat}{b:AF}(v:Bf b)(hn:1048577<=n):BQ (fun r:Bh=>r.places_=pls b.Design) (jT n b):=by
 have vd:=v.design
 have f1:=vd.few.1;have f2:=vd.few.2.1
 have hl:=Cp vd.short vd.few.1 vd.few.2.2
 have hW:=v.many
 rw [jT,Vd vd.short vd.few.1 vd.few.2.2 hn,Am]
 refine GJ (L:=fun m j (s:Int×List AU)=>MG n b _ m s.1 j s.2) b.Design.Instances.length (fun j s=>s.2.length<=32*j) ?_ ?_ n ((0:Int),[]) (by omega) (by simp)
 ·intro m j s hj hs
  obtain⟨r,er,hr⟩:=uP (n:=n) v (List.getElem_mem hj) s.1 hn
  simp only [MG.eq_2,DE hj,cT,AV hj,Am,er,OZ,wT j]
  rw [BK (by omega) (by omega),Am]
  exact⟨(_,_),by simp;omega,rfl⟩
 ·intro m s hs
  simp only [MG.eq_2,DX,cF]
  rw [FX (by omega) (by omega),Am,FX (by omega) (by omega),Am]
  refine GJ (L:=fun m j (s:List Int×List (List Int))=>KQ (pls b.Design) _ m j s.1 s.2) (pls b.Design).length (fun j s=>(s.1.length=b.Wires.length∧s.2.length=b.Wires.length)∧∀x∈s.2,x.length<=j) ?_ ?_ n (List.replicate b.Wires.length 0,List.replicate b.Wires.length []) (by omega) (by simp)
  ·intro m j s hj ⟨⟨h1,h2⟩,h3⟩
   have hp:=vd.net _ (List.getElem_mem hj)
   obtain⟨a,ea⟩:=Ek (t:=s.1) hp.1 (by omega)
   obtain⟨y,ey,hy⟩:=CY (xs:=s.2) hp.1 (by omega)
   have hyl:=h3 y (List.mem_of_getElem? hy)
   simp only [KQ.eq_2,DE hj,cT,AV hj,Am,ea,ey,wT j]
   cases(pls b.Design)[j].drives_ with
   |true=>
    rw [cT]
    exact⟨(s.1.set (pls b.Design)[j].net_.toNat (j:Int),s.2),⟨⟨by simpa using h1,h2⟩,fun x hx=>by have:=h3 x hx;omega⟩,rfl⟩
   |false=>
    rw [cF,BK (by simp;omega) (by omega),Am]
    refine⟨(s.1,s.2.set (pls b.Design)[j].net_.toNat (y++[(j:Int)])),⟨⟨h1,by simpa using h2⟩,fun x hx=>?_⟩,rfl⟩
    rcases List.mem_or_eq_of_mem_set hx with h|h
    ·have:=h3 x h;omega
    ·subst h;simp;omega
  ·intro m t ⟨⟨h1,h2⟩,h3⟩
   simp only [KQ.eq_2,DX,cF]
   refine GJ (L:=fun m j (s:(List AU×List Int)×List Unit)=>HE n b t.1 t.2 _ m j s.1.1 s.1.2 s.2) b.Wires.length (fun j u=>(u.1.1.length<=448+156*j∧u.1.2.length=j)∧u.2.length=j) ?_ ?_ n ((s.2,[]),[]) (by omega) (by simp;omega)
   ·intro m j u hj ⟨⟨g1,g2⟩,g3⟩
    obtain⟨r,er,hr⟩:=tU (n:=n) v hj hn
    obtain⟨z,ez,_⟩:=vN (n:=n) v hj hn
    have hm:=(v.wire j hj).many
    have e0:AI r 0=some (gd r 0):=gI (i:=0) (by omega)
    have hj2:j<t.2.length:=by omega
    have hx:=h3 _ (List.getElem_mem hj2)
    simp only [HE.eq_2,DE hj,cT,Am,er,e0,ez,AV hj2]
    rw [BK (by simp;omega) (by omega),Am,BK (by simp;omega) (by omega),Am]
    have key:∃s',s'.length<=448+156*(j+1)∧KF n t.1 (j:Int) t.2[j] (fun i418 l421=>HE n b t.1 t.2 (fun i115 l118 l125 l132=>some (Bh.mk b (pls b.Design) l118 l125 l132 [])) m (wrap .i64 ((j:Int)+1)) l421 (u.1.2++[gd r 0]) (u.2++List.map (fun _=>()) [z])) n 0 u.1.1=HE n b t.1 t.2 (fun i115 l118 l125 l132=>some (Bh.mk b (pls b.Design) l118 l125 l132 [])) m (wrap .i64 ((j:Int)+1)) s' (u.1.2++[gd r 0]) (u.2++List.map (fun _=>()) [z]):=by
     refine loop (L:=fun m' k s=>KF n t.1 (j:Int) t.2[j] (fun i418 l421=>HE n b t.1 t.2 (fun i115 l118 l125 l132=>some (Bh.mk b (pls b.Design) l118 l125 l132 [])) m (wrap .i64 ((j:Int)+1)) l421 (u.1.2++[gd r 0]) (u.2++List.map (fun _=>()) [z])) m' k s) t.2[j].length (fun k s=>s.length<=448+156*j+2*k) (fun o=>∃s':List AU,s'.length<=448+156*(j+1)∧o=HE n b t.1 t.2 (fun i115 l118 l125 l132=>some (Bh.mk b (pls b.Design) l118 l125 l132 [])) m (wrap .i64 ((j:Int)+1)) s' (u.1.2++[gd r 0]) (u.2++List.map (fun _=>()) [z])) ?_ ?_ n 0 u.1.1 (by omega) (by omega) (by omega)
     ·intro m k s hk hs
      refine .inl ?_
      have a1:=gI (l:=t.1) (i:=j) (by omega)
      simp only [KF.eq_2,DE hk,cT,gI hk,Am,wT k]
      obtain⟨n',rfl⟩:∃n',n=n'+3:=⟨n-3,by omega⟩
      have w1:wrap .i64 ((0:Int)+1)=1:=by decide
      have w2:wrap .i64 ((1:Int)+1)=2:=by decide
      rw [MD.eq_2,show decide ((0:Int)<2)=true from rfl,cT,a1,Am,BK (by simp;omega) (by omega),Am,w1,MD.eq_2,show decide ((1:Int)<2)=true from rfl,cT,a1,Am,BK (by simp;omega) (by omega),Am,w2,MD.eq_2,show decide ((2:Int)<2)=false from rfl,cF]
      exact⟨_,by simp;omega,rfl⟩
     ·intro m s hs
      simp only [KF.eq_2,DX,cF]
      exact⟨s,by omega,rfl⟩
    obtain⟨s',q1,q2⟩:=key
    rw [q2,wT j]
    exact⟨((_,_),_),⟨⟨q1,by simp;omega⟩,by simp;omega⟩,rfl⟩
   ·intro m u _
    simp only [HE.eq_2,DX,cF]
    exact⟨_,rfl,rfl⟩
def EI(b:AF):Int:=2*((pls b.Design).length:Int)
theorem Pw{n:Nat}{b:AF}(v:Bf b)(hn:1048577<=n):PH n b=some (EI b):=by
 have hl:=Cp v.design.short v.design.few.1 v.design.few.2.2
 rw [PH,Ph v.design.short v.design.few.1 v.design.few.2.2 hn,Am,List.length_map,Ah (by omega) (by omega)];rfl
theorem mL{n:Nat}{b:AF}{r:Bh}(v:Bf b)(e:r.places_=pls b.Design):XF n r=some (EI b):=by
 have hl:=Cp v.design.short v.design.few.1 v.design.few.2.2
 rw [XF,Yz,e,Am,Ah (by omega) (by omega)];rfl
def St(s:Ar):Bool:=(decide (s.Early>= -1000000000)&&decide (s.Early<=1000000000))&&(decide (s.Late>= -1000000000)&&decide (s.Late<=1000000000))
def PX(s:Ar):Bool:=St s&&decide (s.Early<=s.Late)
def PJ(s:Ar):Bool:=(decide (s.Early>=0)&&decide (s.Early<=s.Late))&&decide (s.Late<=1000000)
theorem pA{n:Nat}{s:Ar}:RK n s=some (PX s):=by
 simp only [RK,Hq,Am,CQ];rfl
theorem tJ{n:Nat}{s:Ar}:TQ n s=some (PX s):=by
 simp only [TQ,Qu,Jg,Am,CQ];rfl
theorem uU{n:Nat}{s:Ar}:Tm n s=some (PJ s):=rfl
theorem wH{n:Nat}{s:Ar}:Wb n s=some (PJ s):=by
 simp only [Wb,tJ,Ui,Jg,Am,CQ]
 congr 1
 rw [Bool.eq_iff_iff]
 simp only [PX,St,PJ,Bool.and_eq_true,decide_eq_true_eq]
 omega
def Ra(r:Bool)(a s:Ar):Bool:=!((!PX a|| !PJ s)||(!r&&(!(a.Early==0&&a.Late==0)|| !(s.Early==0&&s.Late==0))))
structure Oz(b:AF)(x:Af):Prop where
 reached:(x.Reached.length:Int)=EI b
 arr:(x.Arrival.length:Int)=EI b
 slew:(x.Slew.length:Int)=EI b
 each:∀i (h:i<x.Reached.length) (h2:i<x.Arrival.length) (h3:i<x.Slew.length),Ra x.Reached[i] x.Arrival[i] x.Slew[i]=true
theorem jC{n:Nat}{b:AF}{x:Af}(hl:x.Reached.length<=1048576)(hn:1048577<=n):BX (Oz b x) (Tp n (EI b) x):=by
 rw [Tp]
 refine Fp (fun c=>BU fun v=>?_) (fun c=>?_)
 ·have:=v.reached;have:=v.arr;have:=v.slew
  simp only [Bool.or_eq_true,bne_iff_ne,ne_eq]at c;omega
 ·simp only [Bool.or_eq_false_iff,bne_eq_false_iff_eq]at c
  refine(FD (L:=fun m i=>IU n x _ m i) (Q:=True) x.Reached.length 0 (fun i=>∀(h:i<x.Reached.length) (h2:i<x.Arrival.length) (h3:i<x.Slew.length),Ra x.Reached[i] x.Arrival[i] x.Slew[i]=true) ?_ ?_ n 0 (by omega) (by omega) (by omega) (fun j _ h=>by omega)).iff ⟨fun a=>⟨c.1.1,c.1.2,c.2,fun i h h2 h3=>a.1 i (by omega) h h h2 h3⟩,fun a=>⟨fun i _ _ h h2 h3=>a.each i h h2 h3,trivial⟩⟩
  ·intro m i _ hi
   have hi2:i<x.Arrival.length:=by omega
   have hi3:i<x.Slew.length:=by omega
   simp only [IU.eq_2,DE hi,cT,AV hi,AV hi2,AV hi3,Am,pA,uU,FM,CQ,wT i]
   cases e:((!PX x.Arrival[i]|| !PJ x.Slew[i])||(!x.Reached[i]&&(!(x.Arrival[i].Early==0&&x.Arrival[i].Late==0)|| !(x.Slew[i].Early==0&&x.Slew[i].Late==0))))with
   |true=>rw [cT];exact .inr ⟨fun g=>(by have:=g hi hi2 hi3;unfold Ra at this;rw [e]at this;cases this),rfl⟩
   |false=>rw [cF];exact .inl ⟨fun _ _ _=>(by unfold Ra;rw [e];rfl),rfl⟩
  ·intro m i h1 h2 _
   obtain rfl:i=x.Reached.length:=by omega
   simp only [IU.eq_2,DX,cF]
   exact DS trivial
theorem sU{n:Nat}{b:AF}{r:Bh}{x:Af}(v:Bf b)(hr:r.places_=pls b.Design)(hl:x.Reached.length<=1048576)(hn:1048577<=n):BX (Oz b x) (WY n r x):=by
 rw [WY]
 simp only [YU,UT,mL v hr,Am,FM]
 refine Fp (fun c=>BU fun v=>?_) (fun c=>?_)
 ·have:=v.reached;have:=v.arr;have:=v.slew
  simp only [Bool.or_eq_true,bne_iff_ne,ne_eq]at c;omega
 ·simp only [Bool.or_eq_false_iff,bne_eq_false_iff_eq]at c
  refine(FD (L:=fun m i=>JH n x _ m i) (Q:=True) x.Reached.length 0 (fun i=>∀(h:i<x.Reached.length) (h2:i<x.Arrival.length) (h3:i<x.Slew.length),Ra x.Reached[i] x.Arrival[i] x.Slew[i]=true) ?_ ?_ n 0 (by omega) (by omega) (by omega) (fun j _ h=>by omega)).iff ⟨fun a=>⟨c.1.1,c.1.2,c.2,fun i h h2 h3=>a.1 i (by omega) h h h2 h3⟩,fun a=>⟨fun i _ _ h h2 h3=>a.each i h h2 h3,trivial⟩⟩
  ·intro m i _ hi
   have hi2:i<x.Arrival.length:=by omega
   have hi3:i<x.Slew.length:=by omega
   simp only [JH.eq_2,DE hi,cT,AV hi,AV hi2,AV hi3,Am,tJ,wH,FM,CQ,wT i]
   cases e:((!PX x.Arrival[i]|| !PJ x.Slew[i])||(!x.Reached[i]&&(!(x.Arrival[i].Early==0&&x.Arrival[i].Late==0)|| !(x.Slew[i].Early==0&&x.Slew[i].Late==0))))with
   |true=>rw [cT];exact .inr ⟨fun g=>(by have:=g hi hi2 hi3;unfold Ra at this;rw [e]at this;cases this),rfl⟩
   |false=>rw [cF];exact .inl ⟨fun _ _ _=>(by unfold Ra;rw [e];rfl),rfl⟩
  ·intro m i h1 h2 _
   obtain rfl:i=x.Reached.length:=by omega
   simp only [JH.eq_2,DX,cF]
   exact DS trivial
theorem Ze{σ τ R R':Type}{L:Nat->Int->σ->Option R}{M:Nat->Int->τ->Option R'}(N:Nat)(I:Nat->σ->τ->Prop)(Post:Option R->Option R'->Prop)
 (hs:∀(m i:Nat) (s:σ) (t:τ),i<N->I i s t->∃s' t',I (i+1) s' t'∧L (m+1) (i:Int) s=L m ((i+1:Nat):Int) s'∧M (m+1) (i:Int) t=M m ((i+1:Nat):Int) t')
 (he:∀(m:Nat) (s:σ) (t:τ),I N s t->Post (L (m+1) (N:Int) s) (M (m+1) (N:Int) t)):∀(m i:Nat) (s:σ) (t:τ),i<=N->N-i<m->I i s t->Post (L m (i:Int) s) (M m (i:Int) t)
 |0,i,_,_,_,hm,_=>by omega
 |m+1,i,s,t,hi,hm,h=>by
  by_cases hlt:i<N
  ·obtain⟨s',t',h1,h2,h3⟩:=hs m i s t hlt h
   rw [h2,h3];exact Ze N I Post hs he m (i+1) s' t' (by omega) (by omega) h1
  ·obtain rfl:i=N:=by omega
   exact he m s t h
def Ri(n:Nat)(b:AF)(t:Af):Option Int:=(Option.bind (Tv n b) fun r=>(Option.bind (cond (!r) (some true) (Option.bind (PH n b) fun c=>(Option.bind (Tp n c t) fun q=>(some (!q))))) fun c=>(cond c (some 1) (some 0))))
theorem qH{n:Nat}{b:AF}{t:Af}(hb:My b)(ht:t.Reached.length<=1048576)(hn:1048577<=n):
 (Ri n b t=some 0∧(Bf b∧Oz b t)∧∃v:Bh,SJ n b t=some (some v,0)∧v.places_=pls b.Design)∨(Ri n b t=some 1∧SJ n b t=some (none,1)):=by
 obtain⟨c,e1,hc⟩:=XP hb hn
 obtain⟨c2,e2,hc2⟩:=sY hb hn
 obtain rfl:c=c2:=by rw [Bool.eq_iff_iff,hc,hc2]
 rw [Ri,SJ,e1,e2]
 simp only [Am]
 cases c with
 |false=>exact .inr ⟨rfl,rfl⟩
 |true=>
  have v:=hc.1 rfl
  obtain⟨w,ew,hw⟩:=sS (n:=n) v hn
  obtain⟨p,f1,hp⟩:=jC (b:=b) ht hn
  obtain⟨p2,f2,hp2⟩:=sU (r:=⟨b,w.places_,w.links_,w.loads_,w.delays_,w.extras_⟩) v hw ht hn
  obtain rfl:p=p2:=by rw [Bool.eq_iff_iff,hp,hp2]
  simp only [Bool.not_true,cF,Pw v hn,Am,f1,ew,f2]
  cases p with
  |false=>exact .inr ⟨rfl,rfl⟩
  |true=>exact .inl ⟨rfl,⟨v,hp.1 rfl⟩,_,rfl,hw⟩
theorem RN{α β:Type}(h:Nat->α->β):∀(xs:List α) (s j:Nat),(Ex (fun j q=>[h j q]) s xs)[j]? =(xs[j]?).map (h (s+j))
 |[],s,j=>by simp [Ex]
 |x::xs,s,0=>by simp [Ex]
 |x::xs,s,j+1=>by
  have:=RN h xs (s+1) j
  simp only [Ex,List.singleton_append,List.getElem?_cons_succ,this]
  rw [show s+1+j=s+(j+1) by omega]
structure Pz{α:Type}(f:α->Bool)(ys:List α)(k:Nat):Prop where
 hit:∃y,ys[k]? =some y∧f y=true
 miss:∀j y,j<k->ys[j]? =some y->f y=false
theorem Pz.lt{α:Type}{f:α->Bool}{ys:List α}{k:Nat}(h:Pz f ys k):k<ys.length:=by
 obtain⟨y,e,_⟩:=h.hit
 exact(List.getElem?_eq_some_iff.1 e).1
def Gi(d:AX)(i:Nat):Nat:=(Ex NQ 0 (d.Instances.take i)).length
def Rv(i q:Int)(p:BA):Bool:=(p.instance_==i)&&(p.pin_==q)
theorem Yr{d:AX}{i:Nat}(hi:i<d.Instances.length):∃C,pls d=Ex NQ 0 (d.Instances.take i)++(NQ i d.Instances[i]++C):=by
 refine⟨Ex NQ (i+1) (d.Instances.drop (i+1))++Ex Tl 0 d.Ports,?_⟩
 have e:d.Instances=d.Instances.take i++(d.Instances[i]::d.Instances.drop (i+1)):=by
  rw [←List.drop_eq_getElem_cons hi,List.take_append_drop]
 have e2:Ex NQ 0 d.Instances=Ex NQ 0 (d.Instances.take i)++(NQ i d.Instances[i]++Ex NQ (i+1) (d.Instances.drop (i+1))):=by
  conv=>lhs;rw [e]
  rw [Le]
  simp [Ex,Nat.min_eq_left (Nat.le_of_lt hi)]
 unfold pls
 rw [e2];simp
theorem Fv{d:AX}{i q:Nat}(hi:i<d.Instances.length)(hq:q<d.Instances[i].Nets.length):Pz (Rv i q) (pls d) (Gi d i+q):=by
 obtain⟨C,e⟩:=Yr hi
 have hp:∀j:Nat,(NQ i d.Instances[i])[j]? =(d.Instances[i].Nets[j]?).map fun x=>BA.mk i j x ((j:Int)==(d.Instances[i].Nets.length:Int)-1):=by
  intro j
  have:=RN (fun j q=>BA.mk i j q ((j:Int)==(d.Instances[i].Nets.length:Int)-1)) d.Instances[i].Nets 0 j
  rw [Nat.zero_add]at this
  exact this
 have hl:(NQ i d.Instances[i]).length=d.Instances[i].Nets.length:=by
  apply Nat.le_antisymm
  ·apply Nat.le_of_not_lt
   intro h
   have:=hp d.Instances[i].Nets.length
   rw [List.getElem?_eq_getElem h]at this
   simp at this
  ·apply Nat.le_of_not_lt
   intro h
   have:=hp (NQ i d.Instances[i]).length
   rw [List.getElem?_eq_getElem h]at this
   simp at this
 have hA:∀y∈Ex NQ 0 (d.Instances.take i),y.instance_<(i:Int):=by
  refine DI (Q:=fun p:BA=>p.instance_<(i:Int)) _ 0 (fun j hj y hy=>?_)
  have hji:j<i:=by simp at hj;omega
  refine DI (Q:=fun p:BA=>p.instance_<(i:Int)) _ 0 (fun k hk z hz=>?_) y hy
  simp only [List.mem_singleton]at hz
  subst hz
  show((0+j:Nat):Int)<i
  omega
 refine⟨⟨BA.mk i q d.Instances[i].Nets[q] ((q:Int)==(d.Instances[i].Nets.length:Int)-1),?_,by simp [Rv]⟩,?_⟩
 ·rw [e,Gi,List.getElem?_append_right (by omega),Nat.add_sub_cancel_left,List.getElem?_append_left (by omega),hp,List.getElem?_eq_getElem hq];rfl
 ·intro j y hj hy
  rw [e]at hy
  by_cases c:j<(Ex NQ 0 (d.Instances.take i)).length
  ·rw [List.getElem?_append_left c]at hy
   have:=hA y (List.mem_of_getElem? hy)
   simp only [Rv,Bool.and_eq_false_iff,beq_eq_false_iff_ne];left;omega
  ·unfold Gi at hj
   rw [List.getElem?_append_right (by omega),List.getElem?_append_left (by omega),hp]at hy
   obtain⟨x,_,rfl⟩:=Option.map_eq_some_iff.1 hy
   simp only [Rv,Bool.and_eq_false_iff,beq_eq_false_iff_ne];right
   show((j-(Ex NQ 0 (d.Instances.take i)).length:Nat):Int)≠q
   omega
theorem Xe{n:Nat}{l:Ax}{d:AX}(v:Ct l d){i q:Nat}(hi:i<d.Instances.length)(hq:q<d.Instances[i].Nets.length)(hn:1048577<=n):RL n d (i:Int) (q:Int)=some ((Gi d i+q:Nat):Int):=by
 have f:=Fv hi hq
 have hl:=Cp v.short v.few.1 v.few.2.2
 have fl:=f.lt
 rw [RL,Ph v.short v.few.1 v.few.2.2 hn,Am]
 refine loop (L:=fun m j (_:Unit)=>He (i:Int) (q:Int) ((pls d).map Gk) (fun i26=>(some (-1))) m j) (Gi d i+q+1) (fun j _=>j<=Gi d i+q) (fun o=>o=some ((Gi d i+q:Nat):Int)) ?_ ?_ n 0 () (by omega) (by omega) (by omega)
 ·intro m j _ hj hI
  have hjl:j<(pls d).length:=by omega
  have hjm:j<((pls d).map Gk).length:=by simpa using hjl
  have hg:AI ((pls d).map Gk) (j:Int)=some (Gk (pls d)[j]):=by rw [AV hjm];simp
  have hb:(Option.bind (cond ((Gk (pls d)[j]).instance_==(i:Int)) (some ((Gk (pls d)[j]).pin_==(q:Int))) (some false)) fun c35=>(cond c35 (some (j:Int)) (He (i:Int) (q:Int) ((pls d).map Gk) (fun i26=>(some (-1))) m (wrap .i64 ((j:Int)+1)))))=(cond (Rv i q (pls d)[j]) (some (j:Int)) (He (i:Int) (q:Int) ((pls d).map Gk) (fun i26=>(some (-1))) m ((j+1:Nat):Int))):=by
   rw [wT j,CQ,Am];rfl
  simp only [He.eq_2,DE hjm,cT,hg,Am]
  rw [hb]
  by_cases c:j=Gi d i+q
  ·obtain⟨y,e,hy⟩:=f.hit
   rw [←c,List.getElem?_eq_getElem hjl]at e
   obtain rfl:=Option.some.inj e
   rw [hy,cT,←c];exact .inr rfl
  ·have:=f.miss j _ (by omega) (List.getElem?_eq_getElem hjl)
   rw [this,cF];exact .inl ⟨(),by omega,rfl⟩
 ·intro m _ hI
  omega
theorem pH{n:Nat}{l:Ax}{d:AX}(v:Ct l d){i q:Nat}(hi:i<d.Instances.length)(hq:q<d.Instances[i].Nets.length)(hn:1048577<=n):TJ n d (i:Int) (q:Int)=some ((Gi d i+q:Nat):Int):=by
 have f:=Fv hi hq
 have hl:=Cp v.short v.few.1 v.few.2.2
 have fl:=f.lt
 rw [TJ,Vd v.short v.few.1 v.few.2.2 hn,Am,YY]
 obtain⟨r,e,hr,h⟩:=KP (xs:=pls d) (L:=fun m j=>Iw n (pls d) (i:Int) (q:Int) (fun i7=>(some (-1))) m j) (f:=fun p=>some (Rv i q p)) (P:=fun p=>Rv i q p=true) (fun x _=>⟨_,rfl,Iff.rfl⟩) (by
  intro m j hj
  simp only [Iw.eq_2,DE hj,cT,AV hj,Am,YT,wT j]
  rfl) (by
  intro m
  simp only [Iw.eq_2,DX,cF]) n (by omega)
 rw [e,Am]
 obtain⟨y,ey,hy⟩:=f.hit
 obtain⟨k1,k2⟩:=List.getElem?_eq_some_iff.1 ey
 rcases h with h|⟨j,rfl,hj,h1,h2⟩
 ·subst h
  have:=hr.2 ⟨y,List.mem_of_getElem? ey,hy⟩
  omega
 ·have a:¬j<Gi d i+q:=fun c=>by
   have:=f.miss j _ c (List.getElem?_eq_getElem hj)
   rw [this]at h1;cases h1
  have b:¬Gi d i+q<j:=fun c=>h2 _ k1 c (by rw [k2];exact hy)
  rw [show j=Gi d i+q by omega]
def Iy(r:Ak):Bool:=((decide (r.Setup>= -1000000000)&&decide (r.Setup<=1000000000))&&(decide (r.Hold>= -1000000000)&&decide (r.Hold<=1000000000)))&&(decide (r.Uncertainty>=0)&&decide (r.Uncertainty<=1000000000))
theorem tF{n:Nat}{r:Ak}:WZ n r=some (Iy r):=by
 simp only [WZ,Hq,Am,CQ];rfl
theorem vT{n:Nat}{r:Ak}:Tn n r=some (Iy r):=by
 simp only [Tn,Qu,Jg,Am,CQ];rfl
theorem Ct.inst_at{l:Ax}{d:AX}(v:Ct l d){i:Nat}(hi:i<d.Instances.length):∃k,∃h:k<l.Cells.length,d.Instances[i].Cell=(k:Int)∧AI l.Cells d.Instances[i].Cell=some l.Cells[k]∧d.Instances[i].Nets.length=l.Cells[k].Pins.length∧Ml l.Cells[k]:=by
 have x:=v.inst _ (List.getElem_mem hi)
 obtain⟨k,hk⟩:=Int.eq_ofNat_of_zero_le x.cell.1
 have hk:d.Instances[i].Cell=(k:Int):=hk
 have h:k<l.Cells.length:=by have:=x.cell.2;omega
 have g:AI l.Cells d.Instances[i].Cell=some l.Cells[k]:=by rw [hk];exact AV h
 exact⟨k,h,hk,g,x.pins _ g,v.lib.cells k h⟩
theorem oQ:∀a:Nat,a<5->∀b:Nat,b<5->wrap .i64 (Nc .u64 (IntKind.wrap IntKind.u64 (wrap .i64 ((a:Int)+(b:Int)))) 1)=(((a+b)/2:Nat):Int):=by decide
theorem Se.mono{l:List Int}(h:Se l):∀(d i:Nat),i+d+1<l.length->gd l i<gd l (i+d+1)
 |0,i,hi=>by have:=h.2.2 (i+0+1) hi (by omega);simpa using this
 |d+1,i,hi=>by
  have a:=Se.mono h d i (by omega)
  have b:=h.2.2 (i+(d+1)+1) hi (by omega)
  rw [show i+(d+1)+1-1=i+d+1 by omega]at b
  omega
theorem Se.lt{l:List Int}(h:Se l){i j:Nat}(hij:i<j)(hj:j<l.length):gd l i<gd l j:=by
 have:=h.mono (j-i-1) i (by omega)
 rwa [show i+(j-i-1)+1=j by omega]at this
theorem sJ{n:Nat}{l:List Int}(h:Se l){c:Int}{K:Int->Int->Option (Int×Bool)}:∀(m i j:Nat),i<=j->j<=l.length->j-i<m->(∀k,k<i->gd l k<c)->(∀k,j<=k->k<l.length->c<=gd l k)->
 ∃p:Nat,p<=l.length∧(∀k,k<p->gd l k<c)∧(∀k,p<=k->k<l.length->c<=gd l k)∧IV n l c K m (i:Int) (j:Int)=K (p:Int) (p:Int)
 |0,i,j,_,_,hm,_,_=>by omega
 |m+1,i,j,hij,hj,hm,h1,h2=>by
  have few:=h.1.2
  rw [IV.eq_2]
  by_cases c0:i<j
  ·have d0:decide ((i:Int)<(j:Int))=true:=decide_eq_true (by omega)
   have hq:(i+j)/2<l.length:=by omega
   simp only [d0,cT,oQ i (by omega) j (by omega),gI hq,Am,Xd,Wo,bne_self_eq_false,cF,Bool.false_or]
   by_cases c1:gd l ((i+j)/2)<c
   ·rw [decide_eq_true c1,cT,wS (show(i+j)/2<4611686018427387904 by omega)]
    refine sJ h m ((i+j)/2+1) j (by omega) hj (by omega) (fun k hk=>?_) h2
    by_cases e:k=(i+j)/2
    ·rw [e];exact c1
    ·have:=h.lt (show k<(i+j)/2 by omega) hq;omega
   ·rw [decide_eq_false c1,cF]
    refine sJ h m i ((i+j)/2) (by omega) (by omega) (by omega) h1 (fun k hk hk2=>?_)
    by_cases e:k=(i+j)/2
    ·rw [e];omega
    ·have:=h.lt (show(i+j)/2<k by omega) hk2;omega
  ·obtain rfl:i=j:=by omega
   have d0:decide ((i:Int)<(i:Int))=false:=decide_eq_false (by omega)
   rw [d0,cF]
   exact⟨i,hj,h1,h2,rfl⟩
def CU(l:List Int)(x:Int):Int:=min (max x (gd l 0)) (gd l (l.length-1))
theorem Qo{l:List Int}(h:Se l)(x:Int):gd l 0<=CU l x∧CU l x<=gd l (l.length-1):=by
 have h1:=h.1.1
 have:gd l 0<=gd l (l.length-1):=by
  by_cases c:l.length=1
  ·rw [c];exact Int.le_refl _
  ·have:=h.lt (show 0<l.length-1 by omega) (by omega);omega
 unfold CU;omega
theorem pQ{l:List Int}(h:Se l){x:Int}{q:Nat}{R:Int×Int×Int}(hq:q<l.length)(hk:∀k,q<k->k<l.length->CU l x<gd l k)
 (hR:∀m,GV l x (gd l 0) (gd l (l.length-1)) (fun i21=>(some (0,1,0))) (m+1) (q:Int)=some R):
 ∀(m i:Nat),q<=i->i<l.length->i-q<m->GV l x (gd l 0) (gd l (l.length-1)) (fun i21=>(some (0,1,0))) m (i:Int)=some R
 |0,i,_,_,hm=>by omega
 |m+1,i,hi,hil,hm=>by
  by_cases e:i=q
  ·rw [e];exact hR m
  ·have a:=hk i (by omega) hil
   have a:min (max x (gd l 0)) (gd l (l.length-1))<gd l i:=a
   have d0:decide ((i:Int)>=0)=true:=decide_eq_true (by omega)
   have d1:(min (max x (gd l 0)) (gd l (l.length-1))==gd l i)=false:=by rw [beq_eq_false_iff_ne];omega
   have d2:decide (min (max x (gd l 0)) (gd l (l.length-1))>gd l i)=false:=decide_eq_false (by omega)
   have w:wrap .i64 ((i:Int)-1)=((i-1:Nat):Int):=by rw [Ah (by omega) (by have:=h.1.2;omega)];omega
   simp only [GV.eq_2,d0,cT,gI hil,Am,d1,d2,cF,w]
   exact pQ h hq hk hR m (i-1) (by omega) (by omega) (by omega)
theorem Wt{n:Nat}{l:List Int}(h:Se l)(x:Int)(hn:1048577<=n):∃(i:Nat) (a b:Int),Yw n l x=some ((i:Int),a,b)∧
 ((i<l.length∧a=1∧b=0∧QO n l x=some ([⟨(i:Int),1⟩],1))∨(i+1<l.length∧(1<=a∧a<=100000)∧(1<=b∧b<=100000)∧QO n l x=some ([⟨(i:Int),a⟩,⟨((i+1:Nat):Int),b⟩],a+b))):=by
 have h1:=h.1
 have ci:=Qo h x
 have w1:wrap .i64 ((l.length:Int)-1)=((l.length-1:Nat):Int):=by rw [Ah (by omega) (by omega)];omega
 have g0:AI l 0=some (gd l 0):=gI (l:=l) (i:=0) (by omega)
 have gL:AI l ((l.length-1:Nat):Int)=some (gd l (l.length-1)):=gI (by omega)
 obtain⟨p,p1,p2,p3,p4⟩:=sJ (n:=n) h (c:=CU l x) (K:=fun i5 i6=>(Option.bind (cond (decide (i5<(l.length:Int))) (Option.bind (AI l i5) fun x7=>(Option.bind (cond (x7==CU l x) (some true) (Option.bind (AI l i5) fun x15=>(Option.bind (SB n x15) fun r23=>(Option.bind (cond r23 (Option.bind (SB n (CU l x)) fun r29=>(some r29)) (some false)) fun c29=>(some c29))))) fun c15=>(some c15))) (some false)) fun c7=>(some (i5,c7)))) n 0 l.length (by omega) (by omega) (by omega) (fun k hk=>by omega) (fun k hk hk2=>by omega)
 have pl:p<l.length:=by
  apply Nat.lt_of_not_le
  intro c
  have:=p2 (l.length-1) (by omega);omega
 have hb:TO n l (CU l x)=some ((p:Int),gd l p==CU l x):=by
  rw [TO]
  refine p4.trans ?_
  simp only [DE pl,cT,gI pl,Am,SB,bne_self_eq_false,cF]
  cases(gd l p==CU l x)<;>rfl
 have hi:QO n l x=(Option.bind (TO n l (CU l x)) fun r23=>(cond r23.2 (some ([(CK.mk r23.1 1)],1)) (Option.bind (AI l r23.1) fun x41=>(Option.bind (AI l (wrap .i64 (r23.1-1))) fun x49=>(Option.bind (AI l r23.1) fun x69=>(Option.bind (AI l (wrap .i64 (r23.1-1))) fun x77=>(some ([(CK.mk (wrap .i64 (r23.1-1)) (wrap .i64 (x41-(CU l x)))),(CK.mk r23.1 (wrap .i64 ((CU l x)-x49)))],wrap .i64 (x69-x77))))))))):=by
  rw [QO,g0,w1,Am,gL,Am];rfl
 have hsp:Yw n l x=GV l x (gd l 0) (gd l (l.length-1)) (fun i21=>(some (0,1,0))) n ((l.length-1:Nat):Int):=by
  rw [Yw,g0,w1,Am,gL,Am]
 have cp:=p3 p (Nat.le_refl _) pl
 by_cases c:gd l p=CU l x
 ·refine⟨p,1,0,?_,.inl ⟨pl,rfl,rfl,?_⟩⟩
  ·rw [hsp]
   refine pQ h pl (fun k hk hk2=>by have:=h.lt hk hk2;omega) (fun m=>?_) n _ (by omega) (by omega) (by omega)
   have d0:decide ((p:Int)>=0)=true:=decide_eq_true (by omega)
   have d1:(min (max x (gd l 0)) (gd l (l.length-1))==gd l p)=true:=by rw [beq_iff_eq];exact c.symm
   simp only [GV.eq_2,d0,cT,gI pl,Am,d1]
  ·rw [hi,hb,Am,show(gd l p==CU l x)=true from by rw [beq_iff_eq];exact c];rfl
 ·have p0:0<p:=by
   apply Nat.pos_of_ne_zero
   intro e;subst e;omega
  have b1:=p2 (p-1) (by omega)
  have r1:=h.2.1 p pl
  have r2:=h.2.1 (p-1) (by omega)
  have wp:wrap .i64 ((p:Int)-1)=((p-1:Nat):Int):=by rw [Ah (by omega) (by omega)];omega
  have wq:wrap .i64 (((p-1:Nat):Int)+1)=(p:Int):=by rw [Ah (by omega) (by omega)];omega
  have e1:wrap .i64 (gd l p-CU l x)=gd l p-CU l x:=Ah (by omega) (by omega)
  have e2:wrap .i64 (CU l x-gd l (p-1))=CU l x-gd l (p-1):=Ah (by omega) (by omega)
  have e3:wrap .i64 (gd l p-gd l (p-1))=gd l p-CU l x+(CU l x-gd l (p-1)):=by rw [Ah (by omega) (by omega)];omega
  refine⟨p-1,gd l p-CU l x,CU l x-gd l (p-1),?_,.inr ⟨by omega,by omega,by omega,?_⟩⟩
  ·rw [hsp]
   refine pQ h (show p-1<l.length by omega) (fun k hk hk2=>?_) (fun m=>?_) n _ (by omega) (by omega) (by omega)
   ·by_cases e:k=p
    ·rw [e];omega
    ·have:=h.lt (show p<k by omega) hk2;omega
   ·have d0:decide (((p-1:Nat):Int)>=0)=true:=decide_eq_true (by omega)
    have d1:(min (max x (gd l 0)) (gd l (l.length-1))==gd l (p-1))=false:=by rw [beq_eq_false_iff_ne];show CU l x≠_;omega
    have d2:decide (min (max x (gd l 0)) (gd l (l.length-1))>gd l (p-1))=true:=decide_eq_true (show CU l x>_ by omega)
    simp only [GV.eq_2,d0,cT,gI (show p-1<l.length by omega),Am,d1,d2,cF,wq,gI pl]
    show some (((p-1:Nat):Int),wrap .i64 (gd l p-CU l x),wrap .i64 (CU l x-gd l (p-1)))=_
    rw [e1,e2]
  ·rw [hi,hb,Am,show(gd l p==CU l x)=false from by rw [beq_eq_false_iff_ne];exact c]
   simp only [cF,wp,gI pl,gI (show p-1<l.length by omega),Am,e1,e2,e3]
   rw [show p-1+1=p by omega]
theorem Dv{n:Nat}{s D mode:Int}(h:D≠0):∃r,Mr n s D mode=some r∧TX n s D mode=some r:=by
 have hz:(D==0)=false:=by rw [beq_eq_false_iff_ne];exact h
 rw [Mr,TX,hz]
 simp only [cF]
 rw [Bool.and_comm,Bool.and_comm (decide (Int.tmod s D>0))]
 cases(mode==0)&&decide (Int.tmod s D<0)<;>cases(mode==1)&&decide (Int.tmod s D>0)<;>exact⟨_,rfl,rfl⟩
theorem Xt{V a c:Int}(hV:-1000000<=V∧V<=1000000)(ha:1<=a∧a<=100000)(hc:1<=c∧c<=100000):wrap .i64 (wrap .i64 (a*c)*V)=wrap .i64 (wrap .i64 (V*a)*c)∧decide (wrap .i64 (a*c)>0)=true:=by
 have h1:0<a*c:=Int.mul_pos (by omega) (by omega)
 have h2:a*c<=100000*c:=Int.mul_le_mul_of_nonneg_right ha.2 (by omega)
 have h3:V*a<=1000000*a:=Int.mul_le_mul_of_nonneg_right hV.2 (by omega)
 have h4:-1000000*a<=V*a:=Int.mul_le_mul_of_nonneg_right hV.1 (by omega)
 rw [Ah (x:=a*c) (by omega) (by omega),Ah (x:=V*a) (by omega) (by omega)]
 refine⟨by rw [Int.mul_comm (V*a) c,Int.mul_comm a c,Int.mul_assoc,Int.mul_comm a V],decide_eq_true h1⟩
theorem mw{a c:Int}(ha:0<=a∧a<=200000)(hc:0<=c∧c<=200000):wrap .i64 (a*c)=a*c:=by
 have h1:0<=a*c:=Int.mul_nonneg ha.1 hc.1
 have h2:a*c<=200000*c:=Int.mul_le_mul_of_nonneg_right ha.2 hc.1
 exact Ah (by omega) (by omega)
theorem ZD{i L k:Nat}(hi:i<=4)(hL:L<=4)(hk:k<=4):wrap .i64 (wrap .i64 ((i:Int)*(L:Int))+(k:Int))=((i*L+k:Nat):Int):=by
 have:i*L<=4*4:=Nat.mul_le_mul hi hL
 rw [ZG hi hL,Ah (by omega) (by omega)];omega
theorem jF{i L k u v:Nat}(hi:i+u<=4)(hL:L<=4)(hk:k<=4)(hv:v<=1):wrap .i64 (wrap .i64 (wrap .i64 (wrap .i64 ((i:Int)+(u:Int))*(L:Int))+(k:Int))+(v:Int))=(((i+u)*L+(k+v):Nat):Int):=by
 have:(i+u)*L<=4*4:=Nat.mul_le_mul hi hL
 rw [Ah (x:=(i:Int)+(u:Int)) (by omega) (by omega),show(i:Int)+(u:Int)=((i+u:Nat):Int) by omega,ZG hi hL,Ah (x:=(((i+u)*L:Nat):Int)+(k:Int)) (by omega) (by omega),Ah (by omega) (by omega)];omega
theorem XN{S L i k:Nat}(hi:i<S)(hk:k<L):i*L+k<S*L:=by
 have:(i+1)*L<=S*L:=Nat.mul_le_mul_right L hi
 rw [Nat.add_mul]at this;omega
theorem lN{n:Nat}{s D mode:Int}(h:D≠0):∃r,(Option.bind (Mr n s D mode) fun r=>some r)=some r∧(Option.bind (TX n s D mode) fun r=>some r)=some r:=by
 obtain⟨r,a,b⟩:=Dv (n:=n) (s:=s) (mode:=mode) h
 exact⟨r,by rw [a];rfl,by rw [b];rfl⟩
set_option maxHeartbeats 4000000 in
theorem Lk{n:Nat}{t:BF}(v:VT t)(x y mode:Int)(hn:1048577<=n):∃r,YL n t x y mode=some r∧fZ n t x y mode=some r:=by
 obtain⟨i,a,b,s1,e1⟩:=Wt (n:=n) v.1.1 x hn
 obtain⟨k,c,d,s2,e2⟩:=Wt (n:=n) v.1.2 y hn
 have S4:=v.1.1.1.2
 have L4:=v.1.2.1.2
 have hV:=v.2.2
 have hlen:=v.2.1
 obtain⟨m,rfl⟩:∃m,n=m+3:=⟨n-3,by omega⟩
 rw [YL,fZ,s1,s2]
 have w01:wrap .i64 (0+1)=1:=rfl
 have w12:wrap .i64 (1+1)=2:=rfl
 have l02:decide ((0:Int)<2)=true:=rfl
 have l12:decide ((1:Int)<2)=true:=rfl
 have l22:decide ((2:Int)<2)=false:=rfl
 have l01:decide ((0:Int)<1)=true:=rfl
 have l11:decide ((1:Int)<1)=false:=rfl
 have b01:((0:Int)==1)=false:=rfl
 have b11:((1:Int)==1)=true:=rfl
 have b00:((0:Int)==0)=true:=rfl
 have b10:((1:Int)==0)=false:=rfl
 have z00:wrap .i64 0=0:=rfl
 have z01:decide ((0:Int)>0)=false:=rfl
 have o10:wrap .i64 (1+0)=1:=rfl
 have g10:∀w:CK,AI [w] 0=some w:=fun _=>rfl
 have g20:∀w z:CK,AI [w,z] 0=some w:=fun _ _=>rfl
 have g21:∀w z:CK,AI [w,z] 1=some z:=fun _ _=>rfl
 have n1:∀w:CK,(([w]:List CK).length:Int)=1:=fun _=>rfl
 have n2:∀w z:CK,(([w,z]:List CK).length:Int)=2:=fun _ _=>rfl
 have i00:=jF (i:=i) (u:=0) (k:=k) (v:=0) (L:=t.Loads.length)
 have i01:=jF (i:=i) (u:=0) (k:=k) (v:=1) (L:=t.Loads.length)
 have i10:=jF (i:=i) (u:=1) (k:=k) (v:=0) (L:=t.Loads.length)
 have i11:=jF (i:=i) (u:=1) (k:=k) (v:=1) (L:=t.Loads.length)
 simp only [Int.natCast_zero,Int.natCast_one,Nat.add_zero]at i00 i01 i10 i11
 rcases e1 with ⟨hi,ha,hb,e1⟩|⟨hi,ha,hb,e1⟩<;>rcases e2 with ⟨hk,hc,hd,e2⟩|⟨hk,hc,hd,e2⟩<;>rw [e1,e2]
 ·subst ha hb
  subst hc hd
  have q00:=XN (S:=t.Slews.length) (L:=t.Loads.length) (i:=i) (k:=k) (by omega) (by omega)
  have t00:=Xt (V:=gd t.Values (i*t.Loads.length+k)) (a:=1) (c:=1) (hV _ (by omega)) (by omega) (by omega)
  have j00:=i00 (by omega) (by omega) (by omega) (by omega)
  have p00:=ZD (i:=i) (k:=k) (L:=t.Loads.length) (by omega) (by omega) (by omega)
  have v00:=gI (l:=t.Values) (i:=i*t.Loads.length+k) (by omega)
  simp only [Am,Gt.eq_2,Dt.eq_2,KR.eq_2,Jx.eq_2,n1,n2,g10,g20,g21,w01,w12,l02,l12,l22,l01,l11,cT,cF,b01,b11,b00,b10,Int.zero_mul,Int.mul_zero,z00,z01,o10,j00,p00,v00,t00.1,t00.2]
  refine lN ?_
  exact(by decide:wrap .i64 (1*1)≠0)
 ·subst ha hb
  have q00:=XN (S:=t.Slews.length) (L:=t.Loads.length) (i:=i) (k:=k) (by omega) (by omega)
  have t00:=Xt (V:=gd t.Values (i*t.Loads.length+k)) (a:=1) (c:=c) (hV _ (by omega)) (by omega) (by omega)
  have j00:=i00 (by omega) (by omega) (by omega) (by omega)
  have p00:=ZD (i:=i) (k:=k) (L:=t.Loads.length) (by omega) (by omega) (by omega)
  have v00:=gI (l:=t.Values) (i:=i*t.Loads.length+k) (by omega)
  have q01:=XN (S:=t.Slews.length) (L:=t.Loads.length) (i:=i) (k:=(k+1)) (by omega) (by omega)
  have t01:=Xt (V:=gd t.Values (i*t.Loads.length+(k+1))) (a:=1) (c:=d) (hV _ (by omega)) (by omega) (by omega)
  have j01:=i01 (by omega) (by omega) (by omega) (by omega)
  have p01:=ZD (i:=i) (k:=(k+1)) (L:=t.Loads.length) (by omega) (by omega) (by omega)
  have v01:=gI (l:=t.Values) (i:=i*t.Loads.length+(k+1)) (by omega)
  have sB:wrap .i64 (c+d)=c+d:=Ah (by omega) (by omega)
  simp only [Am,Gt.eq_2,Dt.eq_2,KR.eq_2,Jx.eq_2,n1,n2,g10,g20,g21,w01,w12,l02,l12,l22,l01,l11,cT,cF,b01,b11,b00,b10,Int.zero_mul,Int.mul_zero,z00,z01,o10,j00,p00,v00,t00.1,t00.2,j01,p01,v01,t01.1,t01.2,sB]
  refine lN ?_
  rw [mw (by omega) (by omega)]
  have:=Int.mul_pos (show 0<(1:Int) by omega) (show 0<(c+d) by omega)
  omega
 ·subst hc hd
  have q00:=XN (S:=t.Slews.length) (L:=t.Loads.length) (i:=i) (k:=k) (by omega) (by omega)
  have t00:=Xt (V:=gd t.Values (i*t.Loads.length+k)) (a:=a) (c:=1) (hV _ (by omega)) (by omega) (by omega)
  have j00:=i00 (by omega) (by omega) (by omega) (by omega)
  have p00:=ZD (i:=i) (k:=k) (L:=t.Loads.length) (by omega) (by omega) (by omega)
  have v00:=gI (l:=t.Values) (i:=i*t.Loads.length+k) (by omega)
  have q10:=XN (S:=t.Slews.length) (L:=t.Loads.length) (i:=(i+1)) (k:=k) (by omega) (by omega)
  have t10:=Xt (V:=gd t.Values ((i+1)*t.Loads.length+k)) (a:=b) (c:=1) (hV _ (by omega)) (by omega) (by omega)
  have j10:=i10 (by omega) (by omega) (by omega) (by omega)
  have p10:=ZD (i:=(i+1)) (k:=k) (L:=t.Loads.length) (by omega) (by omega) (by omega)
  have v10:=gI (l:=t.Values) (i:=(i+1)*t.Loads.length+k) (by omega)
  have sA:wrap .i64 (a+b)=a+b:=Ah (by omega) (by omega)
  simp only [Am,Gt.eq_2,Dt.eq_2,KR.eq_2,Jx.eq_2,n1,n2,g10,g20,g21,w01,w12,l02,l12,l22,l01,l11,cT,cF,b01,b11,b00,b10,Int.zero_mul,Int.mul_zero,z00,z01,o10,j00,p00,v00,t00.1,t00.2,j10,p10,v10,t10.1,t10.2,sA]
  refine lN ?_
  rw [mw (by omega) (by omega)]
  have:=Int.mul_pos (show 0<(a+b) by omega) (show 0<(1:Int) by omega)
  omega
 ·have q00:=XN (S:=t.Slews.length) (L:=t.Loads.length) (i:=i) (k:=k) (by omega) (by omega)
  have t00:=Xt (V:=gd t.Values (i*t.Loads.length+k)) (a:=a) (c:=c) (hV _ (by omega)) (by omega) (by omega)
  have j00:=i00 (by omega) (by omega) (by omega) (by omega)
  have p00:=ZD (i:=i) (k:=k) (L:=t.Loads.length) (by omega) (by omega) (by omega)
  have v00:=gI (l:=t.Values) (i:=i*t.Loads.length+k) (by omega)
  have q01:=XN (S:=t.Slews.length) (L:=t.Loads.length) (i:=i) (k:=(k+1)) (by omega) (by omega)
  have t01:=Xt (V:=gd t.Values (i*t.Loads.length+(k+1))) (a:=a) (c:=d) (hV _ (by omega)) (by omega) (by omega)
  have j01:=i01 (by omega) (by omega) (by omega) (by omega)
  have p01:=ZD (i:=i) (k:=(k+1)) (L:=t.Loads.length) (by omega) (by omega) (by omega)
  have v01:=gI (l:=t.Values) (i:=i*t.Loads.length+(k+1)) (by omega)
  have q10:=XN (S:=t.Slews.length) (L:=t.Loads.length) (i:=(i+1)) (k:=k) (by omega) (by omega)
  have t10:=Xt (V:=gd t.Values ((i+1)*t.Loads.length+k)) (a:=b) (c:=c) (hV _ (by omega)) (by omega) (by omega)
  have j10:=i10 (by omega) (by omega) (by omega) (by omega)
  have p10:=ZD (i:=(i+1)) (k:=k) (L:=t.Loads.length) (by omega) (by omega) (by omega)
  have v10:=gI (l:=t.Values) (i:=(i+1)*t.Loads.length+k) (by omega)
  have q11:=XN (S:=t.Slews.length) (L:=t.Loads.length) (i:=(i+1)) (k:=(k+1)) (by omega) (by omega)
  have t11:=Xt (V:=gd t.Values ((i+1)*t.Loads.length+(k+1))) (a:=b) (c:=d) (hV _ (by omega)) (by omega) (by omega)
  have j11:=i11 (by omega) (by omega) (by omega) (by omega)
  have p11:=ZD (i:=(i+1)) (k:=(k+1)) (L:=t.Loads.length) (by omega) (by omega) (by omega)
  have v11:=gI (l:=t.Values) (i:=(i+1)*t.Loads.length+(k+1)) (by omega)
  have sA:wrap .i64 (a+b)=a+b:=Ah (by omega) (by omega)
  have sB:wrap .i64 (c+d)=c+d:=Ah (by omega) (by omega)
  simp only [Am,Gt.eq_2,Dt.eq_2,KR.eq_2,Jx.eq_2,n1,n2,g10,g20,g21,w01,w12,l02,l12,l22,l01,l11,cT,cF,b01,b11,b00,b10,Int.zero_mul,Int.mul_zero,z00,z01,o10,j00,p00,v00,t00.1,t00.2,j01,p01,v01,t01.1,t01.2,j10,p10,v10,t10.1,t10.2,j11,p11,v11,t11.1,t11.2,sA,sB]
  refine lN ?_
  rw [mw (by omega) (by omega)]
  have:=Int.mul_pos (show 0<(a+b) by omega) (show 0<(c+d) by omega)
  omega
theorem Xq{l:List Bz}{i:Int}(h:IC l i=true):0<cnt l:=by
 unfold IC at h
 cases e:l[i.toNat]? with
 |none=>rw [e]at h;cases h
 |some p=>
  rw [e]at h
  have h:p.Clock=true:=h
  exact List.countP_pos_iff.2 ⟨p,List.mem_of_getElem? e,h⟩
theorem oT{n:Nat}{c:Al}(v:Ml c)(hn:1048577<=n):∃q,Wl n c=some q∧WW n c=some q∧(c.Kind≠1->q=0∨q=1):=by
 have hal:=v.few
 obtain⟨b2,e3,h3⟩:=Hs (n:=n) (c:=c) (by omega) 2 hn
 simp only [Wl,WW,e3,Am]
 rcases v.kind with ⟨k,_⟩|⟨k,_,_,_,x⟩|⟨k,_⟩
 ·rw [k];exact⟨_,rfl,rfl,fun h=>absurd rfl h⟩
 ·rw [k]
  simp only [show((2:Int)==3)=false from rfl,show((2:Int)==2)=true from rfl,show((2:Int)==1)=false from rfl,cT,cF]
  have key:∃q,HT c (fun i19=>(some 0)) n 0=some q∧(q=0∧¬Ej c.Arcs 3∨q=1∧Ej c.Arcs 3):=by
   refine loop (L:=fun m i (_:Unit)=>HT c (fun i19=>(some 0)) m i) c.Arcs.length (fun i _=>∀j (hj:j<c.Arcs.length),j<i->c.Arcs[j].Kind≠3) (fun o=>∃q,o=some q∧(q=0∧¬Ej c.Arcs 3∨q=1∧Ej c.Arcs 3)) ?_ ?_ n 0 () (by omega) (by omega) (fun j _ hj=>by omega)
   ·intro m i _ hi hI
    simp only [HT.eq_2,DE hi,cT,AV hi,Am,wT i]
    by_cases q:c.Arcs[i].Kind=3
    ·have:(c.Arcs[i].Kind==3)=true:=by rw [beq_iff_eq];exact q
     simp only [this,cT]
     exact .inr ⟨1,rfl,.inr ⟨rfl,_,List.getElem_mem hi,q⟩⟩
    ·have:(c.Arcs[i].Kind==3)=false:=by rw [beq_eq_false_iff_ne];exact q
     simp only [this,cF]
     refine .inl ⟨(),fun j hj hji=>?_,by trivial⟩
     by_cases ej:j=i
     ·subst ej;exact q
     ·exact hI j hj (by omega)
   ·intro m _ hI
    simp only [HT.eq_2,DX,cF]
    refine⟨0,rfl,.inl ⟨rfl,fun⟨a,ha,e⟩=>?_⟩⟩
    obtain⟨j,hj,rfl⟩:=List.getElem_of_mem ha
    exact hI j hj hj e
  obtain⟨q,e4,hq⟩:=key
  rw [e4]
  refine⟨q,rfl,?_,fun _=>by omega⟩
  cases b2 with
  |true=>
   have:¬Ej c.Arcs 3:=fun g=>x ⟨fun _=>g,fun _=>h3.1 rfl⟩
   rcases hq with hq|hq
   ·rw [hq.1];rfl
   ·exact absurd hq.2 this
  |false=>
   have n2:¬Ej c.Arcs 2:=fun g=>by have:=h3.2 g;cases this
   have:Ej c.Arcs 3:=Classical.byContradiction fun g=>x ⟨fun a=>absurd a n2,fun a=>absurd a g⟩
   rcases hq with hq|hq
   ·exact absurd this hq.2
   ·rw [hq.1];rfl
 ·rw [k];exact⟨_,rfl,rfl,fun _=>.inr rfl⟩
structure NR(b:AF)(inst arc:Int)(a:BS)(i j:Nat)(c:Al):Prop where
 ei:inst=(i:Int)
 ej:arc=(j:Int)
 hi:i<b.Design.Instances.length
 gc:AI b.Library.Cells b.Design.Instances[i].Cell=some c
 vc:Ml c
 nets:b.Design.Instances[i].Nets.length=c.Pins.length
 hj:j<c.Arcs.length
 ea:c.Arcs[j]=a
 kind:a.Kind=4∨a.Kind=5
theorem Ou{n:Nat}{b:AF}{r:Bh}{inst arc tr s:Int}{a:BS}{i j:Nat}{c:Al}(v:Bf b)(hr:r.Block=b)(h:NR b inst arc a i j c)(ht:tr=0∨tr=1)(hn:1048577<=n):
 ∃D C:Nat,Td n b [inst,arc,tr]=some ((D:Int),(C:Int))∧TI n r ⟨inst,arc,tr,s⟩=some ((D:Int),(C:Int))∧(D:Int)<EI b∧(C:Int)<EI b:=by
 obtain⟨rfl,rfl,hi,gc,vc,nets,hj,rfl,kind⟩:=h
 have ar:=(vc.arcs j hj).1
 unfold ME at ar
 have k1:¬c.Arcs[j].Kind=1:=by omega
 have k2:¬(c.Arcs[j].Kind=2∨c.Arcs[j].Kind=3):=by omega
 rw [if_neg k1,if_neg k2,if_pos kind]at ar
 obtain⟨⟨hF,hT⟩,ZE,hT2,_⟩:=ar
 have kg:c.Kind≠1:=fun e=>by
  rcases vc.kind with ⟨_,z,_⟩|⟨z,_⟩|⟨z,_⟩
  ·have:=Xq ZE;omega
  ·omega
  ·omega
 obtain⟨q,e1,e2,hq⟩:=oT (n:=n) vc hn
 have hq:=hq kg
 obtain⟨F,eF⟩:=Int.eq_ofNat_of_zero_le hF.1
 have eF:c.Arcs[j].From=(F:Int):=eF
 obtain⟨T,eT⟩:=Int.eq_ofNat_of_zero_le hT.1
 have eT:c.Arcs[j].To=(T:Int):=eT
 have hp:=Cp v.design.short v.design.few.1 v.design.few.2.2
 have b1:=(Fv (d:=b.Design) (q:=T) hi (by omega)).lt
 have b2:=(Fv (d:=b.Design) (q:=F) hi (by omega)).lt
 have p1:=Xe (n:=n) v.design (q:=T) hi (by omega) hn
 have p2:=Xe (n:=n) v.design (q:=F) hi (by omega) hn
 have p3:TJ n b.Design (i:Int) 0=some ((Gi b.Design i+0:Nat):Int):=pH (n:=n) v.design (q:=0) hi (by omega) hn
 obtain⟨O,hO⟩:∃O:Nat,O=Gi b.Design i:=⟨_,rfl⟩
 rw [←hO]at p1 p2 p3 b1 b2
 have nd:EI b=2*((pls b.Design).length:Int):=rfl
 refine⟨2*(O+T)+tr.toNat,2*(O+F)+q.toNat,?_,?_,by omega,by omega⟩
 ·have g0:AI [(i:Int),(j:Int),tr] 0=some (i:Int):=rfl
  have g1:AI [(i:Int),(j:Int),tr] 1=some (j:Int):=rfl
  have g2:AI [(i:Int),(j:Int),tr] 2=some tr:=rfl
  rw [Td]
  simp only [g0,g1,g2,Am,AV hi,gc,AV hj,eF,eT,p1,p2,e1]
  rw [Ah (x:=2*((O+T:Nat):Int)) (by omega) (by omega),Ah (x:=2*((O+F:Nat):Int)) (by omega) (by omega),Ah (by omega) (by omega),Ah (by omega) (by omega)]
  congr 2<;>omega
 ·rw [TI]
  simp only [hr,Am,AV hi,gc,AV hj,eF,eT,p3,e2]
  rw [Ah (x:=((O+0:Nat):Int)+(T:Int)) (by omega) (by omega),Ah (x:=((O+0:Nat):Int)+(F:Int)) (by omega) (by omega),Ah (x:=2*(((O+0:Nat):Int)+(T:Int))) (by omega) (by omega),Ah (x:=2*(((O+0:Nat):Int)+(F:Int))) (by omega) (by omega),Ah (by omega) (by omega),Ah (by omega) (by omega)]
  congr 2<;>omega
theorem QQ{b:AF}{inst arc tr:Int}{a:BS}{i j:Nat}{c:Al}(h:NR b inst arc a i j c)(ht:tr=0∨tr=1):∃t,AI a.Delay tr=some t∧VT t:=by
 obtain⟨rfl,rfl,hi,gc,vc,nets,hj,rfl,kind⟩:=h
 have ar:=(vc.arcs j hj).1
 unfold ME at ar
 have k1:¬c.Arcs[j].Kind=1:=by omega
 have k2:¬(c.Arcs[j].Kind=2∨c.Arcs[j].Kind=3):=by omega
 rw [if_neg k1,if_neg k2,if_pos kind]at ar
 obtain⟨_,_,_,_,_,hd,_⟩:=ar
 obtain⟨t,e,he⟩:=CY (xs:=c.Arcs[j].Delay) (i:=tr) (by omega) (by have:=hd.1;omega)
 exact⟨t,e,(hd.2 t (List.mem_of_getElem? he)).1⟩
theorem lP{n:Nat}{b:AF}{t:Af}{rel:Ak}(hb:My b)(ht:t.Reached.length<=1048576)(hn:1048577<=n):Pm n b t rel=Option.bind (Ri n b t) fun c=>cond (c !=0) (some 1) (cond (!Iy rel) (some 2) (some 0)):=by
 rw [Pm,Ri,tF]
 obtain⟨c,e1,hc⟩:=XP (n:=n) hb hn
 rw [e1]
 cases c with
 |false=>rfl
 |true=>
  simp only [Am,Bool.not_true,cF,Pw (hc.1 rfl) hn]
  obtain⟨p,f1,_⟩:=jC (n:=n) (b:=b) (x:=t) ht hn
  rw [f1]
  cases p<;>rfl
theorem wk{k:Int}(h0:0<=k)(h1:k<=2305843009213693952):wrap .i64 (k+1)=k+1:=Ah (by omega) (by omega)
def Pb(a:BS):Bool:=a.Kind==4||a.Kind==5
def Ev(b:AF)(x:Aq):List BS:=match AI b.Library.Cells x.Cell with
 |some c=>c.Arcs
 |none=>[]
def Mf(i j:Nat)(a:BS):List (Int×Int×Int):=if Pb a=true then [((i:Int),(j:Int),0),((i:Int),(j:Int),1)]else []
def Mj(b:AF)(i:Nat)(x:Aq):List (Int×Int×Int):=Ex (Mf i) 0 (Ev b x)
def DB(b:AF):List (Int×Int×Int):=Ex (Mj b) 0 b.Design.Instances
def XU(p:Int×Int×Int):List Int:=[p.1,p.2.1,p.2.2]
def QF(p:Int×Int×Int):Ay:=⟨p.1,p.2.1,p.2.2,0⟩
theorem NF(i j:Nat)(a:BS):(Mf i j a).length<=2:=by unfold Mf;split<;>simp
theorem NC{b:AF}(v:Bf b)(i:Nat){x:Aq}(hx:x∈b.Design.Instances):(Mj b i x).length<=16:=by
 obtain⟨j,hj,rfl⟩:=List.getElem_of_mem hx
 obtain⟨k,hk,_,gc,_,vc⟩:=v.design.inst_at hj
 have:=EQ (c:=2) (g:=Mf i) (Ev b b.Design.Instances[j]) 0 fun j a _=>NF i j a
 have few:=vc.few
 unfold Mj
 unfold Ev at this ⊢
 rw [gc]at this ⊢
 simp only at this ⊢
 omega
theorem OP{b:AF}(v:Bf b):(DB b).length<=224:=by
 have:=EQ (c:=16) (g:=Mj b) b.Design.Instances 0 fun j x hx=>NC v j hx
 have:=v.design.few.1
 unfold DB;omega
theorem dE{n:Nat}{b:AF}(v:Bf b)(hn:1048577<=n):kA n b=some ((DB b).map XU):=by
 have few:=v.design.few.1
 rw [kA]
 rw [DJ (xs:=b.Design.Instances) (L:=fun m s i=>Jz n b (fun l32 i36=>(some l32)) m s i) (k:=fun s=>some s) (fun i x=>(Mj b i x).map XU) 16 0 (fun j x hx=>by rw [List.length_map];exact NC v j hx) (by omega) (by
  intro m i hi s hs
  obtain⟨k,hk,_,gc,_,vc⟩:=v.design.inst_at hi
  have fa:=vc.few
  simp only [Jz.eq_2,DE hi,cT,AV hi,gc,Am,wT i]
  have ea:Ev b b.Design.Instances[i]=b.Library.Cells[k].Arcs:=by unfold Ev;rw [gc]
  rw [Mj,ea,Ir]
  refine DJ (xs:=b.Library.Cells[k].Arcs) (L:=fun m s j=>Kr (i:Int) b.Library.Cells[k] _ m s j) (k:=fun s=>Jz n b (fun l32 i36=>(some l32)) m s ((i+1:Nat):Int)) (fun j a=>(Mf i j a).map XU) 2 s.length (fun j a _=>by rw [List.length_map];exact NF i j a) (by omega) ?_ ?_ n (by omega) s (by omega)
  ·intro m j hj s hs
   simp only [Kr.eq_2,DE hj,cT,AV hj,Am,wT j]
   have eb:(Option.bind (cond (b.Library.Cells[k].Arcs[j].Kind==4) (some true) (some (b.Library.Cells[k].Arcs[j].Kind==5))) fun c92=>(some c92))=some (Pb b.Library.Cells[k].Arcs[j]):=by
    unfold Pb;cases(b.Library.Cells[k].Arcs[j].Kind==4)<;>rfl
   have eb2:(cond (b.Library.Cells[k].Arcs[j].Kind==4) (some true) (some (b.Library.Cells[k].Arcs[j].Kind==5)))=some (Pb b.Library.Cells[k].Arcs[j]):=by
    unfold Pb;cases(b.Library.Cells[k].Arcs[j].Kind==4)<;>rfl
   rw [eb2,Am]
   unfold Mf
   cases Pb b.Library.Cells[k].Arcs[j]with
   |true=>rw [cT,BK (by simp;omega) (by omega),Am];rfl
   |false=>simp
  ·intro m s
   simp only [Kr.eq_2,DX,cF]) (by
  intro m s
  simp only [Jz.eq_2,DX,cF]) n (by omega) [] (by simp)]
 rw [List.nil_append,DB,Ir]
theorem UZ{n:Nat}{b:AF}(v:Bf b)(hn:1048577<=n):fN n b=some ((DB b).map QF):=by
 have few:=v.design.few.1
 rw [fN]
 rw [DJ (xs:=b.Design.Instances) (L:=fun m s i=>KW n b (fun l23 i27=>(some l23)) m s i) (k:=fun s=>some s) (fun i x=>(Mj b i x).map QF) 16 0 (fun j x hx=>by rw [List.length_map];exact NC v j hx) (by omega) (by
  intro m i hi s hs
  obtain⟨k,hk,_,gc,_,vc⟩:=v.design.inst_at hi
  have fa:=vc.few
  simp only [KW.eq_2,DE hi,cT,AV hi,gc,Am,wT i]
  have ea:Ev b b.Design.Instances[i]=b.Library.Cells[k].Arcs:=by unfold Ev;rw [gc]
  rw [Mj,ea,Ir]
  refine DJ (xs:=b.Library.Cells[k].Arcs) (L:=fun m s j=>Kp n (i:Int) b.Library.Cells[k] _ m s j) (k:=fun s=>KW n b (fun l23 i27=>(some l23)) m s ((i+1:Nat):Int)) (fun j a=>(Mf i j a).map QF) 2 s.length (fun j a _=>by rw [List.length_map];exact NF i j a) (by omega) ?_ ?_ n (by omega) s (by omega)
  ·intro m j hj s hs
   simp only [Kp.eq_2,DE hj,cT,AV hj,Am,QP,wT j]
   have eb:(b.Library.Cells[k].Arcs[j].Kind==4||b.Library.Cells[k].Arcs[j].Kind==5)=Pb b.Library.Cells[k].Arcs[j]:=rfl
   rw [eb]
   unfold Mf
   cases Pb b.Library.Cells[k].Arcs[j]with
   |true=>rw [cT,BK (by simp;omega) (by omega),Am];rfl
   |false=>simp
  ·intro m s
   simp only [Kp.eq_2,DX,cF]) (by
  intro m s
  simp only [KW.eq_2,DX,cF]) n (by omega) [] (by simp)]
 rw [List.nil_append,DB,Ir]
theorem OU{b:AF}(v:Bf b):∀p∈DB b,(p.2.2=0∨p.2.2=1)∧∃a i j c,NR b p.1 p.2.1 a i j c:=by
 refine DI (Q:=fun p:Int×Int×Int=>(p.2.2=0∨p.2.2=1)∧∃a i j c,NR b p.1 p.2.1 a i j c) b.Design.Instances 0 (fun i hi y hy=>?_)
 rw [Nat.zero_add]at hy
 obtain⟨k,hk,_,gc,hnl,vc⟩:=v.design.inst_at hi
 have ea:Ev b b.Design.Instances[i]=b.Library.Cells[k].Arcs:=by unfold Ev;rw [gc]
 rw [Mj,ea]at hy
 refine DI (Q:=fun p:Int×Int×Int=>(p.2.2=0∨p.2.2=1)∧∃a i j c,NR b p.1 p.2.1 a i j c) _ 0 (fun j hj z hz=>?_) y hy
 rw [Nat.zero_add]at hz
 unfold Mf at hz
 split at hz
 ·rename_i hc
  have kd:b.Library.Cells[k].Arcs[j].Kind=4∨b.Library.Cells[k].Arcs[j].Kind=5:=by
   simpa [Pb] using hc
  simp only [List.mem_cons,List.not_mem_nil,or_false]at hz
  rcases hz with rfl|rfl
  ·exact⟨.inl rfl,_,i,j,_,rfl,rfl,hi,gc,vc,hnl,hj,rfl,kd⟩
  ·exact⟨.inr rfl,_,i,j,_,rfl,rfl,hi,gc,vc,hnl,hj,rfl,kd⟩
 ·simp at hz
theorem SW{n:Nat}{b:AF}(v:Bf b){inst arc:Int}{a:BS}{i j:Nat}{c:Al}(h:NR b inst arc a i j c):QC n b inst arc=some (a,true):=by
 obtain⟨rfl,rfl,hi,gc,vc,nets,hj,rfl,kind⟩:=h
 have fw:=v.design.few
 have fa:=vc.few
 have wI:wrap .i64 ((b.Design.Instances.length:Int)-1)=(b.Design.Instances.length:Int)-1:=Ah (by omega) (by omega)
 have wA:wrap .i64 ((c.Arcs.length:Int)-1)=(c.Arcs.length:Int)-1:=Ah (by omega) (by omega)
 have d1:(decide ((i:Int)>=0)&&decide ((i:Int)<=(b.Design.Instances.length:Int)-1))=true:=by simp only [Bool.and_eq_true,decide_eq_true_eq];omega
 have d2:(decide ((j:Int)>=0)&&decide ((j:Int)<=(c.Arcs.length:Int)-1))=true:=by simp only [Bool.and_eq_true,decide_eq_true_eq];omega
 have d3:(c.Arcs[j].Kind==4||c.Arcs[j].Kind==5)=true:=by simpa using kind
 rw [QC]
 simp only [Yd,Jg,ZA,Am,wI,d1,Bool.not_true,cF,AV hi,gc,wA,d2,AV hj,QP,d3]
theorem pM{n:Nat}{b:AF}{t:Af}{rel:Ak}{w:Bh}(v:Bf b)(vt:Oz b t)(hn:1048577<=n):
 ∃g:List Ay,g.length<=1048576∧Vs n b t rel=some g∧Rm n ⟨b,w.places_,w.links_,w.loads_,w.delays_,w.extras_⟩ t rel=some g:=by
 have hl:=OP v
 rw [Vs,Rm,dE v hn,UZ v hn,Am,Am]
 refine Ze (L:=fun m i (s:List Ay)=>HV n b t rel ((DB b).map XU) (fun l62 i66=>(some l62)) m s i) (M:=fun m i (s:List Ay)=>FI n ⟨b,w.places_,w.links_,w.loads_,w.delays_,w.extras_⟩ t rel ((DB b).map QF) (fun l57 i61=>(some l57)) m s i) (DB b).length
  (fun i s s'=>s=s'∧s.length<=i) (fun o o'=>∃g:List Ay,g.length<=1048576∧o=some g∧o'=some g) ?_ ?_ n 0 [] [] (by omega) (by omega) ⟨rfl,by simp⟩
 ·intro m i s s' hi hr
  obtain⟨rfl,hs⟩:=hr
  have l1:i<((DB b).map XU).length:=by simpa using hi
  have l2:i<((DB b).map QF).length:=by simpa using hi
  have e1:AI ((DB b).map XU) (i:Int)=some (XU (DB b)[i]):=by rw [AV l1];simp
  have e2:AI ((DB b).map QF) (i:Int)=some (QF (DB b)[i]):=by rw [AV l2];simp
  obtain⟨htr,a,i',j',c,ck⟩:=OU v _ (List.getElem_mem hi)
  generalize (DB b)[i]=p at htr ck e1 e2
  obtain⟨inst,arc,tr⟩:=p
  have htr:tr=0∨tr=1:=htr
  have ck:NR b inst arc a i' j' c:=ck
  have g0:AI [inst,arc,tr] 0=some inst:=rfl
  have g1:AI [inst,arc,tr] 1=some arc:=rfl
  have g2:AI [inst,arc,tr] 2=some tr:=rfl
  have e1:AI ((DB b).map XU) (i:Int)=some [inst,arc,tr]:=e1
  have e2:AI ((DB b).map QF) (i:Int)=some ⟨inst,arc,tr,0⟩:=e2
  obtain⟨D,C,n1,n2,hD,hC⟩:=Ou (n:=n) (r:=⟨b,w.places_,w.links_,w.loads_,w.delays_,w.extras_⟩) (s:=0) v rfl ck htr hn
  obtain⟨tb,q1,vtb⟩:=QQ ck htr
  have z1:=vt.reached;have z2:=vt.arr;have z3:=vt.slew
  obtain⟨r1,k1,_⟩:=CY (xs:=t.Reached) (i:=(D:Int)) (by omega) (by omega)
  obtain⟨r2,k2,_⟩:=CY (xs:=t.Reached) (i:=(C:Int)) (by omega) (by omega)
  obtain⟨y1,k3,_⟩:=CY (xs:=t.Arrival) (i:=(D:Int)) (by omega) (by omega)
  obtain⟨y2,k4,_⟩:=CY (xs:=t.Arrival) (i:=(C:Int)) (by omega) (by omega)
  obtain⟨s1,k5,_⟩:=CY (xs:=t.Slew) (i:=(D:Int)) (by omega) (by omega)
  obtain⟨s2,k6,_⟩:=CY (xs:=t.Slew) (i:=(C:Int)) (by omega) (by omega)
  obtain⟨R,k7,k8⟩:=Lk (n:=n) vtb s1.Late s2.Late 1 hn
  have gi:AI b.Design.Instances inst=some (b.Design.Instances[i']'ck.hi):=(congrArg (AI b.Design.Instances) ck.ei).trans (AV ck.hi)
  have ga:AI c.Arcs arc=some a:=by rw [ck.ej,AV ck.hj,ck.ea]
  have ca:=SW (n:=n) v ck
  have dl:decide ((i:Int)<(((DB b).map XU).length:Int))=true:=decide_eq_true (by omega)
  have dm:decide ((i:Int)<(((DB b).map QF).length:Int))=true:=decide_eq_true (by omega)
  simp only [HV.eq_2,FI.eq_2,dl,dm,cT,e1,e2,Am,Yq,Xy,Mz,n1,n2,g0,g1,g2,k1,k2,k3,k4,k5,k6,gi,ck.gc,ga,q1,k7,k8,ca,wT i]
  cases r1 with
  |false=>exact⟨s,s,⟨rfl,by omega⟩,rfl,rfl⟩
  |true=>
   cases r2 with
   |false=>exact⟨s,s,⟨rfl,by omega⟩,rfl,rfl⟩
   |true=>
    cases(a.Kind==4)<;>simp only [Bool.not_true,cT,cF,Am]<;>rw [BK (by simp;omega) (by omega)]<;>exact⟨_,_,⟨rfl,by simp;omega⟩,rfl,rfl⟩
 ·intro m s s' hr
  obtain⟨rfl,hs⟩:=hr
  have dl:decide (((DB b).length:Int)<(((DB b).map XU).length:Int))=false:=decide_eq_false (by simp)
  have dm:decide (((DB b).length:Int)<(((DB b).map QF).length:Int))=false:=decide_eq_false (by simp)
  simp only [HV.eq_2,FI.eq_2,dl,dm,cF]
  exact⟨s,by omega,rfl,rfl⟩
theorem SF{n:Nat}{b:AF}{t:Af}{rel:Ak}(hb:My b)(ht:t.Reached.length<=1048576)(hn:1048577<=n):
 (Pm n b t rel=some 0∧(Bf b∧Oz b t)∧∃w:Bh,RI n b t rel=some (some w,0))∨(∃c:Int,(c !=0)=true∧Pm n b t rel=some c∧RI n b t rel=some (none,c)):=by
 obtain⟨c,e1,hc⟩:=XP hb hn
 obtain⟨c2,e2,hc2⟩:=sY hb hn
 obtain rfl:c=c2:=by rw [Bool.eq_iff_iff,hc,hc2]
 rw [Pm,RI,SJ,e1,e2,tF]
 simp only [Am]
 cases c with
 |false=>exact .inr ⟨1,rfl,rfl,rfl⟩
 |true=>
  have v:=hc.1 rfl
  obtain⟨w,ew,hw⟩:=sS (n:=n) v hn
  obtain⟨p,f1,hp⟩:=jC (b:=b) ht hn
  obtain⟨p2,f2,hp2⟩:=sU (r:=⟨b,w.places_,w.links_,w.loads_,w.delays_,w.extras_⟩) v hw ht hn
  obtain rfl:p=p2:=by rw [Bool.eq_iff_iff,hp,hp2]
  simp only [Bool.not_true,cF,Pw v hn,Am,f1,ew,f2]
  cases p with
  |false=>exact .inr ⟨1,rfl,rfl,rfl⟩
  |true=>
   simp only [Bool.not_true,cF,Am,Mg,bne_self_eq_false,vT]
   cases Iy rel with
   |false=>exact .inr ⟨2,rfl,rfl,rfl⟩
   |true=>exact .inl ⟨rfl,⟨v,hp.1 rfl⟩,_,rfl⟩
def FT(q:Int)(p:BA):Bool:=p.net_==q&&p.drives_
theorem Si(i:Nat)(q L:Int):∀(xs:List Int) (s:Nat),xs≠[]->L=((s+xs.length:Nat):Int)-1->((Ex (fun j n=>[BA.mk i j n ((j:Int)==L)]) s xs).countP (FT q):Int)=if gd xs (xs.length-1)=q then 1 else 0
 |[],_,h,_=>absurd rfl h
 |[x],s,_,hL=>by
  have e:((s:Int)==L)=true:=by rw [beq_iff_eq,hL];simp
  simp only [Ex,List.append_nil,e]
  by_cases c:x=q
  ·subst c;simp [FT,gd]
  ·have:(x==q)=false:=by rw [beq_eq_false_iff_ne];exact c
   simp [FT,gd,this,c]
 |x::y::zs,s,_,hL=>by
  have ih:=Si i q L (y::zs) (s+1) (by simp) (by rw [hL];simp only [List.length_cons];omega)
  have e:((s:Int)==L)=false:=by rw [beq_eq_false_iff_ne,hL];simp only [List.length_cons];omega
  rw [Ex,List.countP_append]
  have h0:List.countP (FT q) [BA.mk i s x ((s:Int)==L)]=0:=by simp [FT,e]
  rw [h0,Nat.zero_add,ih]
  simp [gd]
theorem WN{q:Nat}{N:Nat}(hq:q<N):∀(xs:List Aq) (t:List Int) (s:Nat),t.length=N->(∀x∈xs,x.Nets≠[]∧0<=KN x∧KN x<N)->gd (xs.foldl cI t) q=gd t q+((Ex NQ s xs).countP (FT q):Int)∧(xs.foldl cI t).length=N
 |[],t,s,ht,_=>by simp [Ex,ht]
 |x::xs,t,s,ht,hx=>by
  obtain⟨x1,x2,x3⟩:=hx x (by simp)
  obtain⟨h1,h2⟩:=WN hq xs (cI t x) (s+1) (by unfold cI II;simpa using ht) fun y hy=>hx y (by simp [hy])
  refine⟨?_,h2⟩
  rw [List.foldl_cons,h1,Ex,List.countP_append]
  have hc:=Si s q ((x.Nets.length:Int)-1) x.Nets 0 x1 (by simp)
  have hc:((NQ s x).countP (FT q):Int)=if gd x.Nets (x.Nets.length-1)=q then 1 else 0:=hc
  have hb:gd (cI t x) q=gd t q+if gd x.Nets (x.Nets.length-1)=q then 1 else 0:=by
   have hl:KN x=gd x.Nets (x.Nets.length-1):=rfl
   unfold cI II
   rw [Ny (by omega),←hl]
   by_cases c:KN x=q
   ·rw [if_pos (by omega),if_pos c];have:(KN x).toNat=q:=by omega
    rw [this]
   ·rw [if_neg (by omega),if_neg c];omega
  rw [hb];push_cast;omega
theorem Uv{q:Nat}{N:Nat}(hq:q<N):∀(xs:List CM) (t:List Int) (s:Nat),t.length=N->(∀x∈xs,0<=x.Net∧x.Net<N)->gd (xs.foldl cP t) q=gd t q+((Ex Tl s xs).countP (FT q):Int)
 |[],t,s,ht,_=>by simp [Ex]
 |x::xs,t,s,ht,hx=>by
  obtain⟨x2,x3⟩:=hx x (by simp)
  have h1:=Uv hq xs (cP t x) (s+1) (by unfold cP II;split<;>simpa using ht) fun y hy=>hx y (by simp [hy])
  rw [List.foldl_cons,h1,Ex,List.countP_append]
  have hb:gd (cP t x) q=gd t q+((Tl s x).countP (FT q):Int):=by
   unfold cP Tl
   by_cases d:x.Dir=1
   ·have:(x.Dir==1)=true:=by rw [beq_iff_eq];exact d
    rw [if_pos d];unfold II
    rw [Ny (by omega)]
    by_cases c:x.Net=q
    ·have e:(x.Net==(q:Int))=true:=by rw [beq_iff_eq];exact c
     have e2:x.Net.toNat=q:=by omega
     rw [if_pos e2,e2];simp [FT,this,e]
    ·have e:(x.Net==(q:Int))=false:=by rw [beq_eq_false_iff_ne];exact c
     rw [if_neg (by omega)];simp [FT,this,e]
   ·have:(x.Dir==1)=false:=by rw [beq_eq_false_iff_ne];exact d
    rw [if_neg d];simp [FT,this]
  rw [hb];push_cast;omega
theorem Yg{l:Ax}{d:AX}(v:Ct l d){q:Nat}(hq:q<d.Nets.length):(pls d).countP (FT q)=1:=by
 obtain⟨h1,h2⟩:=WN (N:=d.Nets.length) hq d.Instances (List.replicate d.Nets.length 0) 0 (by simp) fun x hx=>by
  have a:=(v.inst x hx).long v.lib
  have b:=(v.inst x hx).last v.lib
  exact⟨fun e=>by rw [e]at a;simp at a,b⟩
 have h3:=Uv (N:=d.Nets.length) hq d.Ports _ 0 h2 fun x hx=>by have:=(v.port x hx).net;omega
 have h4:=v.one q hq
 unfold drv at h4
 rw [h3,h1,OO]at h4
 unfold pls
 rw [List.countP_append];omega
theorem PK{α:Type}(f:α->Bool):∀(xs:List α),xs.countP f=1->∃k,∃h:k<xs.length,f xs[k]=true∧∀j (h:j<xs.length),f xs[j]=true->j=k
 |[],h=>by simp at h
 |x::xs,h=>by
  rw [List.countP_cons]at h
  by_cases c:f x=true
  ·have h0:xs.countP f=0:=by simpa [c] using h
   refine⟨0,by simp,c,fun j hj hf=>?_⟩
   cases j with
   |zero=>rfl
   |succ j=>
    have hf:f (xs[j]'(by simpa using hj))=true:=hf
    rw [List.countP_eq_zero]at h0
    exact absurd hf (h0 _ (List.getElem_mem _))
  ·have h0:xs.countP f=1:=by simpa [c] using h
   obtain⟨k,hk,a,b⟩:=PK f xs h0
   refine⟨k+1,by simpa using hk,by simpa using a,fun j hj hf=>?_⟩
   cases j with
   |zero=>exact absurd hf c
   |succ j=>rw [b j (by simpa using hj) (by simpa using hf)]
end Go.Proofs.YthojemmmflaicaaGreatDoor
