/- The plain law behind FnWorstSlacks: the plain function answers true; no condition. -/
import Derived.Test.YthojemmmflaicadGreatDoorWalkFnWorstSlacks
set_option linter.all false
set_option maxHeartbeats 4000000
namespace Go.Proofs.YthojemmmflaicadGreatDoor
open Go Go.RowKit Go.Eng
open Go.IntKind (wrap)

theorem Dp{b c:Bool}:(cond b (some true) (some c))=some (b||c):=by cases b<;>rfl
theorem Bt{b c:Bool}:(cond b (some c) (some false))=some (b&&c):=by cases b<;>rfl
theorem Cj{i N:Nat}(h:i<N):decide ((i:Int)<(N:Int))=true:=decide_eq_true (by omega)
theorem DB(N:Nat):decide ((N:Int)<(N:Int))=false:=decide_eq_false (by omega)
theorem wS{i:Nat}(h:i<4611686018427387904):wrap .i64 ((i:Int)+1)=((i+1:Nat):Int):=by rw [Aq (by omega) (by omega)];simp
theorem AU{α:Type}{xs:List α}{i:Nat}(h:i<xs.length):AM xs (i:Int)=some xs[i]:=by rw [IK];exact List.getElem?_eq_getElem h
theorem El{α:Type}{xs:List α}{i:Int}(h0:0<=i)(h1:i<xs.length):∃x,AM xs i=some x∧xs[i.toNat]? =some x:=by
 obtain⟨x,hx,_⟩:=Ej h0 h1
 exact⟨x,hx,(Eh hx).2.2⟩
theorem loop{σ R:Type}{L:Nat->Int->σ->Option R}(N:Nat)(I:Nat->σ->Prop)(Post:Option R->Prop)
 (hs:∀(m i:Nat) (st:σ),i<N->I i st->(∃st',I (i+1) st'∧L (m+1) (i:Int) st=L m ((i+1:Nat):Int) st')∨Post (L (m+1) (i:Int) st))
 (he:∀(m:Nat) (st:σ),I N st->Post (L (m+1) (N:Int) st)):∀(m i:Nat) (st:σ),i<=N->N-i<m->I i st->Post (L m (i:Int) st)
 |0,i,st,_,hm,_=>by omega
 |m+1,i,st,hi,hm,h=>by
  by_cases hlt:i<N
  ·rcases hs m i st hlt h with ⟨st',h1,h2⟩|h1
   ·rw [h2];exact loop N I Post hs he m (i+1) st' (by omega) (by omega) h1
   ·exact h1
  ·obtain rfl:i=N:=by omega
   exact he m st h
theorem PT{α σ R:Type}{xs:List α}{L:Nat->Int->σ->Option R}{k:σ->Option R}(f:σ->α->σ)(I:Nat->σ->Prop)
 (hs:∀(m i:Nat) (h:i<xs.length) (st:σ),I i st->L (m+1) (i:Int) st=L m ((i+1:Nat):Int) (f st xs[i])∧I (i+1) (f st xs[i]))
 (he:∀(m:Nat) (st:σ),I xs.length st->L (m+1) (xs.length:Int) st=k st) (m:Nat) (st:σ) (h:I 0 st) (hm:xs.length<m):L m 0 st=k (xs.foldl f st)∧I xs.length (xs.foldl f st):=by
 refine loop xs.length (fun i s=>I i s∧(xs.drop i).foldl f s=xs.foldl f st) (fun o=>o=k (xs.foldl f st)∧I xs.length (xs.foldl f st)) ?_ ?_ m 0 st (by omega) (by omega) ⟨h,by simp⟩
 ·intro m i s hi ⟨h1,h2⟩
  obtain⟨e,h3⟩:=hs m i hi s h1
  exact .inl ⟨_,⟨h3,by rw [List.drop_eq_getElem_cons hi]at h2;exact h2⟩,e⟩
 ·intro m s ⟨h1,h2⟩
  rw [List.drop_length]at h2
  have h2:s=xs.foldl f st:=h2
  rw [←h2]
  exact⟨he m s h1,h1⟩
theorem BL{α:Type}{xs ys:List α}{b:Nat}(h:xs.length+ys.length<=16777216)(hb:b<=1048576):Bw xs ys b=some (xs++ys):=by
 unfold Bw
 have:(xs.length+ys.length)*b<=16777216*1048576:=Nat.mul_le_mul h hb
 rw [if_pos ⟨by omega,by omega⟩]
theorem OS{α R:Type}{xs:List α}{L:Nat->Int->Option R}{k no:Option R}(p:α->Bool)(hs:∀(m i:Nat) (h:i<xs.length),L (m+1) (i:Int)=cond (p xs[i]) (L m ((i+1:Nat):Int)) no)
 (he:∀m:Nat,L (m+1) (xs.length:Int)=k) (m:Nat) (hm:xs.length<m):L m 0=cond (xs.all p) k no:=by
 refine loop (L:=fun m i (_:Unit)=>L m i) xs.length (fun i _=>xs.all p=(xs.drop i).all p) (fun o=>o=cond (xs.all p) k no) ?_ ?_ m 0 () (by omega) (by omega) (by simp)
 ·intro m i _ hi h
  rw [List.drop_eq_getElem_cons hi,List.all_cons]at h
  cases hp:p xs[i]with
  |false=>refine .inr ?_;rw [h,hp];simp only [hs m i hi,hp,cF,Bool.false_and]
  |true=>refine .inl ⟨(),by rw [h,hp];simp,?_⟩;simp only [hs m i hi,hp,cT]
 ·intro m _ h
  rw [List.drop_length]at h
  rw [h];simp [he m]
theorem QI{σ R:Type}{L:Nat->σ->Option R}(μ:σ->Nat)(I:σ->Prop)(Post:Option R->Prop)
 (hs:∀(m:Nat) (st:σ),I st->(∀st',I st'->μ st'<μ st->Post (L m st'))->Post (L (m+1) st)):∀(m:Nat) (st:σ),μ st<m->I st->Post (L m st)
 |0,st,h,_=>by omega
 |m+1,st,h,hI=>hs m st hI fun st' h1 h2=>QI μ I Post hs m st' (by omega) h1
theorem Dc{σ R:Type}{L:Nat->Int->σ->Option R}(N:Nat)(I:Nat->σ->Prop)(Post:Option R->Prop)
 (hs:∀(m i:Nat) (st:σ),i<N->I i st->(∀st',I (i+1) st'->Post (L m ((i+1:Nat):Int) st'))->Post (L (m+1) (i:Int) st))
 (he:∀(m:Nat) (st:σ),I N st->Post (L (m+1) (N:Int) st)):∀(m i:Nat) (st:σ),i<=N->N-i<m->I i st->Post (L m (i:Int) st)
 |0,i,st,_,hm,_=>by omega
 |m+1,i,st,hi,hm,h=>by
  by_cases hlt:i<N
  ·exact hs m i st hlt h fun st' h'=>Dc N I Post hs he m (i+1) st' (by omega) (by omega) h'
  ·obtain rfl:i=N:=by omega
   exact he m st h
def BH{α:Type}(Q:α->Prop)(o:Option α):Prop:=∃v,o=some v∧Q v
theorem AK{α:Type}{Q:α->Prop}{v:α}(h:Q v):BH Q (some v):=⟨v,rfl,h⟩
theorem BH.bind{α β:Type}{A:α->Prop}{Q:β->Prop}{o:Option α}{f:α->Option β}(h:BH A o)(k:∀v,o=Option.some v->A v->BH Q (f v)):BH Q (Option.bind o f):=by
 obtain⟨v,e,hv⟩:=h
 rw [e];exact k v e hv
theorem Af{α:Type}{Q:α->Prop}{c:Bool}{x y:Option α}(h1:c=true->BH Q x)(h2:c=false->BH Q y):BH Q (cond c x y):=by
 cases c
 ·exact h2 rfl
 ·exact h1 rfl
theorem BH.weaken{α:Type}{Q Q':α->Prop}{o:Option α}(h:BH Q o)(hq:∀v,Q v->Q' v):BH Q' o:=by
 obtain⟨v,e,hv⟩:=h
 exact⟨v,e,hq v hv⟩
theorem BH.get{α:Type}{Q:α->Prop}{xs:List α}{i:Int}(h0:0<=i)(h1:i<xs.length)(h:∀x∈xs,Q x):BH Q (AM xs i):=by
 obtain⟨x,hx,hm⟩:=Ej h0 h1
 exact⟨x,hx,h x hm⟩
theorem CU{α:Type}{xs:List α}{i:Int}(h0:0<=i)(h1:i<xs.length):BH (fun x=>x∈xs) (AM xs i):=BH.get h0 h1 fun _ h=>h
theorem KO{α:Type}{xs:List α}{L:Nat->Int->Option Int}(p:α->Bool)(hs:∀(m i:Nat) (h:i<xs.length),L (m+1) (i:Int)=cond (p xs[i]) (some (i:Int)) (L m ((i+1:Nat):Int)))
 (he:∀m:Nat,L (m+1) (xs.length:Int)=some (-1)) (m:Nat) (hm:xs.length<m):∃r,L m 0=some r∧decide (r>=0)=xs.any p:=by
 refine loop (L:=fun m i (_:Unit)=>L m i) xs.length (fun i _=>xs.any p=(xs.drop i).any p) (fun o=>∃r,o=some r∧decide (r>=0)=xs.any p) ?_ ?_ m 0 () (by omega) (by omega) (by simp)
 ·intro m i _ hi h
  rw [List.drop_eq_getElem_cons hi,List.any_cons]at h
  cases hp:p xs[i]with
  |false=>refine .inl ⟨(),by rw [h,hp];simp,?_⟩;simp only [hs m i hi,hp,cF]
  |true=>refine .inr ⟨(i:Int),?_,?_⟩
         ·simp only [hs m i hi,hp,cT]
         ·rw [h,hp];simp
 ·intro m _ h
  rw [List.drop_length]at h
  exact⟨-1,he m,by rw [h];rfl⟩
structure Dw(c:List Int)(s:AA):Prop where
 code:s.code_=c
 at0:0<=s.at_∧s.at_<=c.length
 sd:0<=s.seed_∧s.seed_<2147483647
def LD(c:List Int):Prop:=c.length<=4096∧∀x∈c,0<=x∧x<=255
theorem GD{a b:Int}(ha:0<=a)(hb:0<b):0<=Int.tmod a b∧Int.tmod a b<b:=⟨Int.tmod_nonneg _ ha,Int.tmod_lt_of_pos _ hb⟩
theorem Nx{n:Nat}{c:List Int}(hc:LD c){s:AA}(h:Dw c s)(k:Int):BH (fun r=>Dw c r.2∧0<=r.1∧(r.1<k∨r.1=0∧k<=1)) (EP n s k):=by
 obtain⟨h1,h2,h3⟩:=h
 have hl:=hc.1
 rw [EP]
 refine Af (fun hk=>AK ⟨⟨h1,h2,h3⟩,Int.le_refl _,.inr ⟨rfl,of_decide_eq_true hk⟩⟩) fun hk=>?_
 have hk:=of_decide_eq_false hk
 have hk0:(k==0)=false:=by rw [beq_eq_false_iff_ne];omega
 refine Af (fun ha=>?_) fun ha=>?_
 ·have ha:=of_decide_eq_true ha
  rw [h1]at ha ⊢
  refine BH.bind (BH.get h2.1 ha hc.2) fun x _ hx=>?_
  have wx:wrap .i64 x=x:=Aq (by omega) (by omega)
  have wa:wrap .i64 (s.at_+1)=s.at_+1:=Aq (by omega) (by omega)
  have wm:wrap .i64 (s.seed_*48271)=s.seed_*48271:=Aq (by omega) (by omega)
  simp only [hk0,cF,wx,wa,wm,Aq (x:=s.seed_*48271+x) (by omega) (by omega),Aq (x:=s.seed_*48271+x+1) (by omega) (by omega)]
  have m1:=GD (a:=s.seed_*48271+x+1) (b:=2147483647) (by omega) (by omega)
  refine Af (fun _=>AK ⟨⟨rfl,⟨?_,?_⟩,h3⟩,?_⟩) fun _=>AK ⟨⟨rfl,⟨?_,?_⟩,m1⟩,?_⟩
  ·show 0<=s.at_+1;omega
  ·show s.at_+1<=_;omega
  ·exact⟨(GD hx.1 (by omega)).1,.inl (GD hx.1 (by omega)).2⟩
  ·show 0<=s.at_+1;omega
  ·show s.at_+1<=_;omega
  ·exact⟨(GD m1.1 (by omega)).1,.inl (GD m1.1 (by omega)).2⟩
 ·have wm:wrap .i64 (s.seed_*48271)=s.seed_*48271:=Aq (by omega) (by omega)
  have m1:=GD (a:=s.seed_*48271+11) (b:=2147483647) (by omega) (by omega)
  simp only [hk0,cF,wm,Aq (x:=s.seed_*48271+11) (by omega) (by omega)]
  generalize Int.tmod (s.seed_*48271+11) 2147483647=q at*
  have d0:0<=Int.tdiv q 7:=Int.tdiv_nonneg m1.1 (by omega)
  have d1:Int.tdiv q 7<=q:=Int.tdiv_le_self _ m1.1
  rw [Aq (x:=Int.tdiv q 7) (by omega) (by omega)]
  exact AK ⟨⟨h1,h2,m1⟩,(GD d0 (by omega)).1,.inl (GD d0 (by omega)).2⟩
theorem Dw.mk2{c d:List Int}{s:AA}(h:Dw c s)(e:d=c):Dw c (AA.mk d s.at_ s.seed_):=⟨e,h.at0,h.sd⟩
theorem Fr{n:Nat}{c:List Int}(hc:LD c)(hn:1048577<=n):BH (fun r=>Dw c r) (TZ n c):=by
 have hl:=hc.1
 rw [TZ]
 refine Dc (L:=fun m i (p:Int×Int)=>Ik c (fun i12 i14 i15=>(some ((AA.mk c i14 i15)))) m i p.1 p.2) (min c.length 64) (fun _ p=>p.1=0∧0<=p.2∧p.2<2147483647) _ ?_ ?_ n 0 (0,12345) (by omega) (by omega) ⟨rfl,by omega,by omega⟩
 ·intro m i ⟨a,sd⟩ hi ⟨h1,h2⟩ ih
  dsimp only at h1 h2 ⊢
  have hi1:i<c.length:=by omega
  have hx:=hc.2 _ (List.getElem_mem hi1)
  simp only [Ik.eq_2,Cj hi1,Cj (show i<64 by omega),Bool.and_self,cT,AU hi1,Ao,show((64:Int))=((64:Nat):Int)from rfl,wT i]
  generalize c[i]=x at*
  rw [Aq (x:=sd*31) (by omega) (by omega),Aq (x:=x) (by omega) (by omega),Aq (x:=sd*31+x) (by omega) (by omega)]
  have m1:=GD (a:=sd*31+x) (b:=2147483647) (by omega) (by omega)
  exact ih (a,_) ⟨h1,m1⟩
 ·intro m ⟨a,sd⟩ ⟨h1,h2⟩
  dsimp only at h1 h2 ⊢
  have:(decide (((min c.length 64:Nat):Int)<(c.length:Int))&&decide (((min c.length 64:Nat):Int)<64))=false:=by
   rw [Bool.and_eq_false_iff,decide_eq_false_iff_not,decide_eq_false_iff_not];omega
  simp only [Ik.eq_2,this,cF]
  exact AK ⟨rfl,⟨by subst h1;exact Int.le_refl _,by subst h1;exact Int.natCast_nonneg _⟩,h2⟩
theorem LD.of{code:List Int}(hR:code.length<=9223372036854775807∧∀x∈code,dD .u8 x)(h:¬(code.length:Int)>4096):LD code:=⟨by omega,fun x hx=>hR.2 x hx⟩
def gd(t:List Int)(j:Nat):Int:=t.getD j 0
theorem MI{t:List Int}{j:Nat}{v:Int}(h:t[j]? =some v):gd t j=v:=by simp [gd,h]
theorem aR{t:List Int}{j:Nat}(h:j<t.length):t[j]? =some (gd t j):=by simp [gd,h]
theorem OG{t:List Int}{i j:Nat}{v:Int}(h:i<t.length):gd (t.set i v) j=if i=j then v else gd t j:=by
 unfold gd
 rw [List.getD_eq_getElem?_getD,List.getD_eq_getElem?_getD,List.getElem?_set]
 by_cases e:i=j
 ·subst e;simp [h]
 ·simp [e]
theorem Sl{t:List Int}{i:Int}(h0:0<=i)(h1:i<t.length):AM t i=some (gd t i.toNat):=by
 obtain⟨x,hx,h⟩:=El h0 h1
 rw [hx,MI h]
def gb(t:List Bool)(j:Nat):Bool:=t.getD j false
theorem Ob{t:List Bool}{i j:Nat}{v:Bool}(h:i<t.length):gb (t.set i v) j=if i=j then v else gb t j:=by
 unfold gb
 rw [List.getD_eq_getElem?_getD,List.getD_eq_getElem?_getD,List.getElem?_set]
 by_cases e:i=j
 ·subst e;simp [h]
 ·simp [e]
theorem OK{n j:Nat}:gd (List.replicate n 0) j=0:=by
 simp only [gd,List.getD_eq_getElem?_getD,List.getElem?_replicate];split<;>rfl
def LF(b:UInt8):Bool:=decide ((b.toNat:Int)>=97)&&decide ((b.toNat:Int)<=122)
def Pr(b:UInt8):Bool:=decide ((b.toNat:Int)>=48)&&decide ((b.toNat:Int)<=57)
def EZ(s:ByteArray):Bool:=(decide ((s.size:Int)>=1)&&decide ((s.size:Int)<=8))&&(s.data.toList.all fun b=>LF b||Pr b)&&(s.data.toList.take 1).all LF
theorem NA(s:ByteArray):s.size=s.data.toList.length:=by rw [Array.length_toList];rfl
theorem Sm{s:ByteArray}{i:Nat}(h:i<s.data.toList.length):Pp s (i:Int)=some ((s.data.toList[i].toNat:Nat):Int):=by
 unfold Pp
 rw [if_pos (by omega),Int.toNat_natCast]
 have:s[i]? =some s.data.toList[i]:=by
  have hs:i<s.size:=by rw [NA];exact h
  rw [show s[i]? =some s[i]from getElem?_pos s i hs]
  rfl
 rw [this];rfl
theorem Ut(p q:UInt8->Bool)(h:(List.range 256).all (fun i=>p (UInt8.ofNat i)==q (UInt8.ofNat i))=true)(b:UInt8):p b=q b:=by
 have:=List.all_eq_true.1 h b.toNat (List.mem_range.2 b.toNat_lt)
 rw [UInt8.ofNat_toNat]at this
 exact eq_of_beq this
def lettersL:List UInt8:=[97,98,99,100,101,102,103,104,105,106,107,108,109,110,111,112,113,114,115,116,117,118,119,120,121,122]
def nameL:List UInt8:=[97,98,99,100,101,102,103,104,105,106,107,108,109,110,111,112,113,114,115,116,117,118,119,120,121,122,48,49,50,51,52,53,54,55,56,57]
theorem Vw(b:UInt8):nameL.contains b=(LF b||Pr b):=Ut (fun b=>nameL.contains b) (fun b=>LF b||Pr b) (by decide+kernel) b
theorem QM(b:UInt8):lettersL.contains b=LF b:=Ut (fun b=>lettersL.contains b) (fun b=>LF b) (by decide+kernel) b
theorem Mx{p:UInt8->Bool}:∀{l:List UInt8} (h:0<l.length),(l.take 1).all p=p l[0]
 |[],h=>by simp at h
 |a::r,_=>by simp
theorem GE{p:UInt8->Bool}:∀(l:List UInt8),(l.dropWhile p=[])↔l.all p=true
 |[]=>by simp
 |a::l=>by
  rw [List.dropWhile_cons,List.all_cons]
  cases h:p a with
  |true=>simpa using GE l
  |false=>simp
theorem Jv{p:UInt8->Bool}:∀{l:List UInt8} {a:UInt8} {r:List UInt8},l.dropWhile p=a::r->p a=false
 |b::l,a,r,h=>by
  rw [List.dropWhile_cons]at h
  split at h
  ·exact Jv h
  ·next q=>simp only [List.cons.injEq]at h;rw [←h.1];simpa using q
theorem Vm(l cs:List UInt8):(Lib.trimS l cs==[])=l.all (cs.contains ·):=by
 rw [Bool.eq_iff_iff,beq_iff_eq]
 unfold Lib.trimS Lib.trimLeftS Lib.trimRightS
 rw [GE,List.all_reverse]
 rw [show l.all (cs.contains ·)=l.reverse.all (cs.contains ·) by rw [List.all_reverse]]
 constructor
 ·intro h
  cases hd:l.reverse.dropWhile (cs.contains ·)with
  |nil=>exact(GE _).1 hd
  |cons a r=>
   have h1:=Jv hd
   rw [hd,List.all_cons,h1]at h
   cases h
 ·intro h
  rw [(GE _).2 h];rfl
theorem Mj:∀(l:List UInt8) (c:UInt8),decide (Lib.indexByte l c>=0)=l.contains c∧Lib.indexByte l c>= -1
 |[],c=>by simp [Lib.indexByte]
 |b::l,c=>by
  obtain⟨h1,h2⟩:=Mj l c
  rw [Lib.indexByte,List.contains_cons]
  by_cases e:b=c
  ·subst e;simp
  ·have e1:(b==c)=false:=beq_eq_false_iff_ne.2 e
   have e2:(c==b)=false:=beq_eq_false_iff_ne.2 fun q=>e q.symm
   rw [e1,e2,Bool.false_or,←h1]
   by_cases h:Lib.indexByte l c= -1
   ·rw [h];simp
   ·have:(Lib.indexByte l c== -1)=false:=beq_eq_false_iff_ne.2 h
    rw [this]
    have hge:Lib.indexByte l c>=0:=by omega
    rw [decide_eq_true hge]
    simp only [Bool.false_eq_true,if_false]
    exact⟨decide_eq_true (by omega),by omega⟩
theorem rA{n:Nat}{s:ByteArray}(hs:s.size<=1048576)(hn:1048577<=n):TA n s=some (EZ s):=by
 rw [TA,Jw,Ao]
 unfold EZ
 cases hw:(decide ((s.size:Int)>=1)&&decide ((s.size:Int)<=8))with
 |false=>simp
 |true=>
  have hsz:1<=s.size:=by simp only [Bool.and_eq_true,decide_eq_true_eq]at hw;omega
  have ht:Uy n s ((ByteArray.mk #[97,98,99,100,101,102,103,104,105,106,107,108,109,110,111,112,113,114,115,116,117,118,119,120,121,122,48,49,50,51,52,53,54,55,56,57]))=some ⟨(Lib.trimS s.data.toList nameL).toArray⟩:=by
   unfold Uy
   rw [if_pos ⟨by omega,by decide,by decide⟩];rfl
  simp only [cT,ht,Ao,Bool.true_and]
  have hb:((⟨(Lib.trimS s.data.toList nameL).toArray⟩:ByteArray).toList==((ByteArray.mk #[])).toList)=(s.data.toList.all fun b=>LF b||Pr b):=by
   rw [Lib.toList_data,Lib.toList_data]
   show((Lib.trimS s.data.toList nameL)==[])=_
   rw [Vm]
   congr 1
   funext b;exact Vw b
  rw [hb]
  cases(s.data.toList.all fun b=>LF b||Pr b)with
  |false=>simp
  |true=>
   rw [NA]at hsz
   have hg:=Sm (s:=s) (i:=0) (by omega)
   simp only [cT,show((0:Int))=((0:Nat):Int)from rfl,hg,Ao,Zj,Bool.true_and]
   have h1:=(Mj lettersL (s.data.toList[0])).1
   rw [QM]at h1
   have e1:(((s.data.toList[0].toNat:Nat):Int).toNat.toUInt8)=s.data.toList[0]:=by rw [Int.toNat_natCast];exact UInt8.ofNat_toNat
   rw [e1]
   have e2:(s.data.toList.take 1).all LF=LF s.data.toList[0]:=Mx (by omega)
   rw [e2,←h1];rfl
theorem jS{n:Nat}{s:ByteArray}(hs:s.size<=1048576)(hn:1048577<=n):Yo n s=some (EZ s):=by
 rw [Yo]
 have hl:=NA s
 refine loop (L:=fun m i (_:Unit)=>GS s _ m i) s.data.toList.length (fun i _=>EZ s=((decide ((s.size:Int)>=1)&&decide ((s.size:Int)<=8))&&((s.data.toList.drop i).all fun b=>LF b||Pr b)&&((s.data.toList.take 1).drop i).all LF)) (fun r=>r=some (EZ s)) ?_ ?_ n 0 () (by omega) (by omega) (by simp [EZ])
 ·intro m i _ hi hI
  have g:=Sm hi
  have hd:decide ((i:Int)<(s.size:Int))=true:=decide_eq_true (by omega)
  have key:GS s (fun i3=>(some (((decide ((s.size:Int)>=1))&&(decide ((s.size:Int)<=8)))))) (m+1) (i:Int)=cond (!LF s.data.toList[i]&& !(Pr s.data.toList[i]&&decide (0<i))) (some false) (GS s (fun i3=>(some (((decide ((s.size:Int)>=1))&&(decide ((s.size:Int)<=8)))))) m ((i+1:Nat):Int)):=by
   have e0:decide ((i:Int)>0)=decide (0<i):=by by_cases h:0<i<;>simp [h]<;>omega
   simp only [GS.eq_2,hd,cT,g,Ao,Bt,wT i,e0]
   rfl
  by_cases hc:(!LF s.data.toList[i]&& !(Pr s.data.toList[i]&&decide (0<i)))=true
  ·refine .inr ?_
   show GS s _ (m+1) (i:Int)=_
   rw [key,hc,cT]
   have:EZ s=false:=by
    rw [hI,List.drop_eq_getElem_cons hi,List.all_cons]
    simp only [Bool.and_eq_true,Bool.not_eq_true',Bool.and_eq_false_iff,decide_eq_false_iff_not]at hc
    obtain⟨h1,h2⟩:=hc
    rw [h1]
    rcases h2 with h2|h2
    ·rw [h2];simp
    ·obtain rfl:i=0:=by omega
     rw [List.drop_zero,Mx hi,h1];simp
   rw [this]
  ·refine .inl ⟨(),?_,?_⟩
   ·rw [hI,List.drop_eq_getElem_cons hi,List.all_cons]
    have hc:=Bool.eq_false_iff.2 hc
    simp only [Bool.and_eq_false_iff,Bool.not_eq_false',Bool.and_eq_true,decide_eq_true_eq]at hc
    by_cases h0:i=0
    ·subst h0
     have h1:LF s.data.toList[0]=true:=by
      rcases hc with h|h
      ·exact h
      ·omega
     have e2:(s.data.toList.take 1).drop (0+1)=[]:=List.drop_eq_nil_of_le (by simp;omega)
     rw [List.drop_zero,Mx hi,e2,h1];simp
    ·have e1:(s.data.toList.take 1).drop i=[]:=List.drop_eq_nil_of_le (by simp;omega)
     have e2:(s.data.toList.take 1).drop (i+1)=[]:=List.drop_eq_nil_of_le (by simp;omega)
     rw [e1,e2]
     have:(LF s.data.toList[i]||Pr s.data.toList[i])=true:=by
      rcases hc with h|h
      ·rw [h];rfl
      ·rw [h.1];simp
     rw [this];simp
   ·show GS s _ (m+1) (i:Int)=GS s _ m ((i+1:Nat):Int)
    rw [key,Bool.eq_false_iff.2 hc,cF]
 ·intro m _ hI
  have hd:decide (((s.data.toList.length:Nat):Int)<(s.size:Int))=false:=decide_eq_false (by omega)
  simp only [GS.eq_2,hd,cF]
  rw [hI,List.drop_length,List.drop_eq_nil_of_le (by simp;omega)]
  simp
def BQ(P:Prop)(r:Option Bool):Prop:=∃b:Bool,r=some b∧(b=true↔P)
theorem BN{P:Prop}(h:¬P):BQ P (some false):=⟨false,rfl,by simp [h]⟩
theorem Ca{P:Prop}(h:P):BQ P (some true):=⟨true,rfl,by simp [h]⟩
theorem sB{n:Nat}{xs:List ByteArray}{x:ByteArray}(h:xs.length<=1048576)(hn:1048577<=n):Up n xs x=some (xs.any fun y=>x.toList==y.toList):=by
 rw [Up,XL]
 obtain⟨r,e1,e2⟩:=KO (xs:=xs) (L:=fun m i=>Hp xs x (fun i5=>(some (-1))) m i) (fun y=>x.toList==y.toList) (fun m i hi=>by
  simp only [Hp.eq_2,Cj hi,cT,AU hi,Ao,wT i]) (fun m=>by
  simp only [Hp.eq_2,DB,cF]) n (by omega)
 have e1:Hp xs x (fun i5=>(some (-1))) n 0=some r:=e1
 rw [e1,Ao,e2]
theorem AN{n:Nat}{xs:List ByteArray}(h:xs.length<=1048576)(hs:∀x∈xs,x.size<=1048576)(hn:1048577<=n):BQ (∀k (h:k<xs.length),EZ xs[k]=true∧∀i (hi:i<k),(xs[i].toList==xs[k].toList)=false) (Po n xs):=by
 rw [Po]
 refine loop (L:=fun m i (_:Unit)=>JG n xs _ m i) xs.length (fun i _=>∀k (h:k<xs.length),k<i->EZ xs[k]=true∧∀i (hi:i<k),(xs[i].toList==xs[k].toList)=false) _ ?_ ?_ n 0 () (by omega) (by omega) (fun k h hk=>by omega)
 ·intro m i _ hi hI
  have hsub:Na xs 0 (i:Int)=some (xs.take i):=by
   unfold Na
   rw [if_pos ⟨by omega,by omega,by omega⟩];simp
  have hct:=sB (n:=n) (xs:=xs.take i) (x:=xs[i]) (by simp;omega) hn
  simp only [JG.eq_2,Cj hi,cT,AU hi,Ao,rA (hs _ (List.getElem_mem hi)) hn,hsub,hct,Dp,wT i]
  cases hb:(!EZ xs[i]||(xs.take i).any fun y=>xs[i].toList==y.toList)with
  |true=>
   refine .inr (BN fun hv=>?_)
   obtain⟨h1,h2⟩:=hv i hi
   rw [h1,Bool.not_true,Bool.false_or,List.any_eq_true]at hb
   obtain⟨y,hy,he⟩:=hb
   obtain⟨j,hj,rfl⟩:=List.mem_iff_getElem.1 hy
   rw [List.length_take]at hj
   rw [List.getElem_take]at he
   have:=h2 j (by omega)
   rw [beq_eq_false_iff_ne]at this
   exact this (eq_of_beq he).symm
  |false=>
   simp only [Bool.or_eq_false_iff,Bool.not_eq_false']at hb
   refine .inl ⟨(),fun k h hk=>?_,rfl⟩
   by_cases e:k=i
   ·subst e
    refine⟨hb.1,fun j hj=>?_⟩
    rw [beq_eq_false_iff_ne]
    intro he
    have:=List.any_eq_false.1 hb.2 xs[j] (List.mem_iff_getElem.2 ⟨j,by rw [List.length_take];omega,by rw [List.getElem_take]⟩)
    exact this (by rw [he];simp)
   ·exact hI k h (by omega)
 ·intro m _ hI
  simp only [JG.eq_2,DB,cF]
  exact Ca fun k h=>hI k h h
theorem AW{n:Nat}{ks:List Int}{lo hi:Int}(h:ks.length<=1048576)(hn:1048577<=n):NG n ks lo hi=some (ks.all fun k=>decide (k>=lo)&&decide (k<=hi)):=by
 rw [NG,WT,Tw]
 obtain⟨r,e1,e2⟩:=KO (xs:=ks) (L:=fun m i=>FZ n ks lo hi (fun i7=>(some (-1))) m i) (fun k=>!(decide (k>=lo)&&decide (k<=hi))) (fun m i hi=>by
  simp only [FZ.eq_2,Cj hi,cT,AU hi,Ao,UU,Jw,wT i]) (fun m=>by
  simp only [FZ.eq_2,DB,cF]) n (by omega)
 have e1:FZ n ks lo hi (fun i7=>(some (-1))) n 0=some r:=e1
 rw [e1,Ao,Ao,e2]
 congr 1
 rw [List.not_any_eq_all_not]
 congr 1
 funext k;rw [Bool.not_not]
theorem Nb{n0:Nat}:∀(j n:Nat) (k:Int),0<=k->k<(10:Int)^(j+1)->k<=1000000000000000000->j<n->j<=100->BH (fun t=>t.size<=j+1) (Nz n k)
 |j,0,k,_,_,_,h,_=>by omega
 |j,n+1,k,k0,k1,k2,h,hj=>by
  rw [eU,decide_eq_false (show¬k<0 by omega),cF]
  by_cases hk:k<10
  ·rw [decide_eq_true hk,cT]
   exact AK (by rw [Mo];simp)
  ·rw [decide_eq_false hk,cF]
   match j,k1 with
   |0,k1=>simp at k1;omega
   |j+1,k1=>
    have e:wrap .i64 (Int.tdiv k 10)=k/10:=by rw [Int.tdiv_eq_ediv_of_nonneg k0];exact Aq (by omega) (by omega)
    rw [e]
    rw [Int.pow_succ]at k1
    refine BH.bind (Nb (n0:=n0) j n (k/10) (by omega) (by omega) (by omega) (by omega) (by omega)) fun r _ hr=>?_
    rw [Nj (by rw [Mo];simp;omega)]
    exact AK (by rw [ByteArray.size_append,Mo];simp;omega)
theorem rG{n:Nat}{k:Nat}(hk:k<=1000)(hn:1048577<=n):BH (fun t=>t.size<=4) (Nz n (k:Int)):=
 (Nb (n0:=0) 3 n k (by omega) (by show _<(10000:Int);omega) (by omega) (by omega) (by omega))
theorem BQ.iff{P Q:Prop}{o:Option Bool}(h:BQ P o)(e:P↔Q):BQ Q o:=by
 obtain⟨b,rfl,h⟩:=h;exact⟨b,rfl,h.trans e⟩
theorem BY{P:Prop}{b:Bool}(h:b=true↔P):BQ P (some b):=⟨b,rfl,h⟩
theorem BQ.bind{P R:Prop}{o:Option Bool}{f:Bool->Option Bool}(h:BQ P o)(h1:P->BQ R (f true))(h0:¬P->BQ R (f false)):BQ R (Option.bind o f):=by
 obtain⟨b,rfl,h⟩:=h
 cases b with
 |true=>exact h1 (h.1 rfl)
 |false=>exact h0 fun p=>by have:=h.2 p;cases this
theorem Ep{R:Prop}{c:Bool}{x y:Option Bool}(h1:c=true->BQ R x)(h0:c=false->BQ R y):BQ R (cond c x y):=by
 cases c
 ·exact h0 rfl
 ·exact h1 rfl
theorem EM{L:Nat->Int->Option Bool}{Q:Prop}(N s:Nat)(p:Nat->Prop)
 (hs:∀(m i:Nat),s<=i->i<N->(p i∧L (m+1) (i:Int)=L m ((i+1:Nat):Int))∨(¬p i∧L (m+1) (i:Int)=some false))
 (he:∀(m i:Nat),N<=i->i<=N+s->(∀j,s<=j->j<N->p j)->BQ Q (L (m+1) (i:Int))):∀(m i:Nat),s<=i->i<=N+s->N-i<m->(∀j,s<=j->j<i->j<N->p j)->BQ ((∀i,s<=i->i<N->p i)∧Q) (L m (i:Int))
 |0,i,_,_,hm,_=>by omega
 |m+1,i,hi,hi2,hm,hI=>by
  by_cases hlt:i<N
  ·rcases hs m i hi hlt with ⟨h1,h2⟩|⟨h1,h2⟩
   ·rw [h2]
    refine EM N s p hs he m (i+1) (by omega) (by omega) (by omega) fun j h3 h4 h5=>?_
    by_cases e:j=i
    ·subst e;exact h1
    ·exact hI j h3 (by omega) h5
   ·rw [h2];exact BN fun h=>h1 (h.1 i hi hlt)
  ·have ha:∀j,s<=j->j<N->p j:=fun j h3 h4=>hI j h3 (by omega) h4
   exact(he m i (by omega) hi2 ha).iff ⟨fun q=>⟨ha,q⟩,fun q=>q.2⟩
theorem MX{α:Type}{xs:List α}{L:Nat->Int->Option Int}{f:α->Option Bool}{P:α->Prop}(hf:∀x∈xs,BQ (P x) (f x))(hs:∀(m i:Nat) (h:i<xs.length),L (m+1) (i:Int)=Option.bind (f xs[i]) fun r=>cond r (some (i:Int)) (L m ((i+1:Nat):Int)))
 (he:∀m:Nat,L (m+1) (xs.length:Int)=some (-1)) (m:Nat) (hm:xs.length<m):∃r,L m 0=some r∧(r>=0↔∃x∈xs,P x)∧(r= -1∨∃j:Nat,r=(j:Int)∧∃h:j<xs.length,P xs[j]∧∀i (hi:i<xs.length),i<j->¬P xs[i]):=by
 refine loop (L:=fun m i (_:Unit)=>L m i) xs.length (fun i _=>∀j (h:j<xs.length),j<i->¬P xs[j]) (fun o=>∃r,o=some r∧(r>=0↔∃x∈xs,P x)∧(r= -1∨∃j:Nat,r=(j:Int)∧∃h:j<xs.length,P xs[j]∧∀i (hi:i<xs.length),i<j->¬P xs[i])) ?_ ?_ m 0 () (by omega) (by omega) (fun j _ h=>by omega)
 ·intro m i _ hi hI
  obtain⟨b,e,hb⟩:=hf _ (List.getElem_mem hi)
  rw [hs m i hi,e,Ao]
  cases b with
  |true=>exact .inr ⟨(i:Int),rfl,⟨fun _=>⟨_,List.getElem_mem hi,hb.1 rfl⟩,fun _=>by omega⟩,.inr ⟨i,rfl,hi,hb.1 rfl,hI⟩⟩
  |false=>
   refine .inl ⟨(),fun j h hj=>?_,by trivial⟩
   by_cases ej:j=i
   ·subst ej;intro hp;have:=hb.2 hp;cases this
   ·exact hI j h (by omega)
 ·intro m _ hI
  refine⟨-1,he m,⟨fun h=>by omega,fun⟨x,hx,hp⟩=>?_⟩,.inl rfl⟩
  obtain⟨j,hj,rfl⟩:=List.getElem_of_mem hx
  exact absurd hp (hI j hj hj)
theorem gI{l:List Int}{i:Nat}(h:i<l.length):AM l (i:Int)=some (gd l i):=by rw [IK];exact aR h
def Wg(l:List Int):Prop:=(1<=l.length∧l.length<=4)∧(∀i,i<l.length->0<=gd l i∧gd l i<=100000)∧∀i,i<l.length->0<i->gd l (i-1)<gd l i
def VT(t:BR):Prop:=(Wg t.Slews∧Wg t.Loads)∧t.Values.length=t.Slews.length*t.Loads.length∧∀i,i<t.Values.length-> -1000000<=gd t.Values i∧gd t.Values i<=1000000
theorem OO{l:List Int}{lo hi:Int}:(l.all fun k=>decide (k>=lo)&&decide (k<=hi))=true↔∀i,i<l.length->lo<=gd l i∧gd l i<=hi:=by
 rw [List.all_eq_true]
 constructor
 ·intro h i hi
  have:=h _ (List.getElem_mem hi)
  simp only [Bool.and_eq_true,decide_eq_true_eq]at this
  rw [MI (List.getElem?_eq_getElem hi)];omega
 ·intro h x hx
  obtain⟨j,hj,rfl⟩:=List.getElem_of_mem hx
  have:=h j hj
  rw [MI (List.getElem?_eq_getElem hj)]at this
  simp only [Bool.and_eq_true,decide_eq_true_eq];omega
theorem qY{n:Nat}{l:List Int}(h:l.length<=1048576)(hn:1048577<=n):BQ (Wg l) (TR n l):=by
 rw [TR]
 refine(EM (L:=fun m i=>JQ n l _ m i) (Q:=1<=l.length∧l.length<=4) l.length 0 (fun i=>(0<=gd l i∧gd l i<=100000)∧(0<i->gd l (i-1)<gd l i)) ?_ ?_ n 0 (by omega) (by omega) (by omega) (fun j _ h=>by omega)).iff ?_
 ·intro m i _ hi
  have w1:0<i->wrap .i64 ((i:Int)-1)=((i-1:Nat):Int):=fun h0=>by rw [Aq (by omega) (by omega)];omega
  simp only [JQ.eq_2,Cj hi,cT,gI hi,Ao,HI,wT i]
  by_cases c1:0<=gd l i∧gd l i<=100000
  ·have d1:(decide (gd l i>=0)&&decide (gd l i<=100000))=true:=by simp only [Bool.and_eq_true,decide_eq_true_eq];omega
   simp only [d1,Bool.not_true,cF]
   by_cases h0:0<i
   ·have d2:decide ((i:Int)>0)=true:=decide_eq_true (by omega)
    simp only [d2,cT,w1 h0,gI (show i-1<l.length by omega),Ao]
    by_cases c2:gd l (i-1)<gd l i
    ·have d3:decide (gd l (i-1)>=gd l i)=false:=decide_eq_false (by omega)
     simp only [d3,cF]
     exact .inl ⟨⟨c1,fun _=>c2⟩,by trivial⟩
    ·have d3:decide (gd l (i-1)>=gd l i)=true:=decide_eq_true (by omega)
     simp only [d3,cT]
     exact .inr ⟨fun h=>c2 (h.2 h0),by trivial⟩
   ·have d2:decide ((i:Int)>0)=false:=decide_eq_false (by omega)
    simp only [d2,cF,Ao]
    exact .inl ⟨⟨c1,fun h=>absurd h h0⟩,by trivial⟩
  ·have d1:(decide (gd l i>=0)&&decide (gd l i<=100000))=false:=by
    rw [Bool.and_eq_false_iff,decide_eq_false_iff_not,decide_eq_false_iff_not];omega
   simp only [d1,Bool.not_false,cT,Ao]
   exact .inr ⟨fun h=>c1 h.1,by trivial⟩
 ·intro m i h1 h2 _
  obtain rfl:i=l.length:=by omega
  simp only [JQ.eq_2,DB,cF]
  exact BY (by simp only [Bool.and_eq_true,decide_eq_true_eq];omega)
 ·exact⟨fun⟨a,b⟩=>⟨b,fun i hi=>(a i (by omega) hi).1,fun i hi h0=>(a i (by omega) hi).2 h0⟩,fun⟨a,b,c⟩=>⟨fun i _ hi=>⟨b i hi,c i hi⟩,a⟩⟩
theorem rT{n:Nat}{l:List Int}(h:l.length<=1048576)(hn:1048577<=n):BQ (∀i,i<l.length->0<i->gd l (i-1)<gd l i) (WE n l):=by
 rw [WE]
 refine(EM (L:=fun m i=>IY l _ m i) (Q:=True) l.length 1 (fun i=>gd l (i-1)<gd l i) ?_ ?_ n 1 (by omega) (by omega) (by omega) (fun j _ h=>by omega)).iff ?_
 ·intro m i h0 hi
  have w1:wrap .i64 ((i:Int)-1)=((i-1:Nat):Int):=by rw [Aq (by omega) (by omega)];omega
  simp only [IY.eq_2,Cj hi,cT,w1,gI hi,gI (show i-1<l.length by omega),Ao,wT i]
  by_cases c2:gd l (i-1)<gd l i
  ·have d3:decide (gd l (i-1)>=gd l i)=false:=decide_eq_false (by omega)
   simp only [d3,cF]
   exact .inl ⟨c2,by trivial⟩
  ·have d3:decide (gd l (i-1)>=gd l i)=true:=decide_eq_true (by omega)
   simp only [d3,cT]
   exact .inr ⟨c2,by trivial⟩
 ·intro m i h1 h2 _
  have:decide ((i:Int)<(l.length:Int))=false:=decide_eq_false (by omega)
  simp only [IY.eq_2,this,cF]
  exact Ca trivial
 ·exact⟨fun a i hi h0=>a.1 i h0 hi,fun a=>⟨fun i h0 hi=>a i hi h0,trivial⟩⟩
theorem qN{n:Nat}{l:List Int}(h:l.length<=1048576)(hn:1048577<=n):BQ (Wg l) (Te n l):=by
 obtain⟨b,e,hb⟩:=rT (n:=n) h hn
 rw [Te]
 simp only [OU,Jw,AW (n:=n) h hn,e,Ao,Bt]
 refine BY ?_
 rw [Bool.and_eq_true,Bool.and_eq_true,OO,hb]
 simp only [Bool.and_eq_true,decide_eq_true_eq]
 exact⟨fun⟨⟨a,b⟩,c⟩=>⟨by omega,b,c⟩,fun⟨a,b,c⟩=>⟨⟨by omega,b⟩,c⟩⟩
theorem bR{a b:Nat}(ha:a<=4)(hb:b<=4):wrap .i64 ((a:Int)*(b:Int))=((a*b:Nat):Int):=by
 have:a*b<=4*4:=Nat.mul_le_mul ha hb
 have e:((a*b:Nat):Int)=(a:Int)*b:=by simp
 rw [←e,Aq (by omega) (by omega)]
def Wo(t:BR):Prop:=t.Slews.length<=1048576∧t.Loads.length<=1048576∧t.Values.length<=1048576
theorem tV{n:Nat}{t:BR}(h:Wo t)(hn:1048577<=n):BQ (VT t) (VS n t):=by
 rw [VS]
 refine BQ.bind (qY h.1 hn) (fun v1=>?_) fun v1=>?_
 ·simp only [Bool.not_true,cF]
  obtain⟨b,e,hb⟩:=qY (n:=n) h.2.1 hn
  rw [e,Ao,Ao]
  cases b with
  |false=>
   simp only [Bool.not_false,Bool.true_or,cT]
   exact BN fun v=>by have:=hb.2 v.1.2;cases this
  |true=>
   have v2:=hb.1 rfl
   rw [bR v1.1.2 v2.1.2]
   simp only [Bool.not_true,Bool.false_or]
   refine Ep (fun c=>?_) fun c=>?_
   ·refine BN fun v=>?_
    rw [v.2.1]at c;simp at c
   ·have c:t.Values.length=t.Slews.length*t.Loads.length:=by
     rw [bne_eq_false_iff_eq]at c;omega
    have hv:=h.2.2
    refine(EM (L:=fun m i=>Ie n t _ m i) (Q:=True) t.Values.length 0 (fun i=>-1000000<=gd t.Values i∧gd t.Values i<=1000000) ?_ ?_ n 0 (by omega) (by omega) (by omega) (fun j _ h=>by omega)).iff ?_
    ·intro m i _ hi
     simp only [Ie.eq_2,Cj hi,cT,gI hi,Ao,HI,wT i]
     by_cases c1:-1000000<=gd t.Values i∧gd t.Values i<=1000000
     ·have d1:(decide (gd t.Values i>= -1000000)&&decide (gd t.Values i<=1000000))=true:=by simp only [Bool.and_eq_true,decide_eq_true_eq];omega
      simp only [d1,Bool.not_true,cF]
      exact .inl ⟨c1,by trivial⟩
     ·have d1:(decide (gd t.Values i>= -1000000)&&decide (gd t.Values i<=1000000))=false:=by
       rw [Bool.and_eq_false_iff,decide_eq_false_iff_not,decide_eq_false_iff_not];omega
      simp only [d1,Bool.not_false,cT]
      exact .inr ⟨c1,by trivial⟩
    ·intro m i h1 h2 _
     obtain rfl:i=t.Values.length:=by omega
     simp only [Ie.eq_2,DB,cF]
     exact Ca trivial
    ·exact⟨fun a=>⟨⟨v1,v2⟩,c,fun i hi=>a.1 i (by omega) hi⟩,fun a=>⟨fun i _ hi=>a.2.2 i hi,trivial⟩⟩
 ·simp only [Bool.not_false,cT,Ao,Bool.true_or]
  exact BN fun v=>v1 v.1.1
theorem rY{n:Nat}{t:BR}(h:Wo t)(hn:1048577<=n):BQ (VT t) (VX n t):=by
 rw [VX]
 refine BQ.bind (qN h.1 hn) (fun v1=>?_) fun v1=>?_
 ·simp only [cT]
  obtain⟨b,e,hb⟩:=qN (n:=n) h.2.1 hn
  rw [e,Ao,Ao]
  cases b with
  |false=>
   simp only [Bool.false_and,cF,Ao]
   exact BN fun v=>by have:=hb.2 v.1.2;cases this
  |true=>
   have v2:=hb.1 rfl
   rw [bR v1.1.2 v2.1.2,AW (n:=n) h.2.2 hn]
   simp only [Bool.true_and,Ao,Bt]
   refine BY ?_
   rw [Bool.and_eq_true,OO,beq_iff_eq]
   exact⟨fun⟨a,b⟩=>⟨⟨v1,v2⟩,by omega,b⟩,fun a=>⟨by have:=a.2.1;omega,a.2.2⟩⟩
 ·simp only [cF,Ao,Bool.false_and]
  exact BN fun v=>v1 v.1.1
theorem VT.pos{t:BR}(h:VT t):0<t.Values.length∧t.Values.length<=16:=by
 have a:=h.1.1.1
 have b:=h.1.2.1
 rw [h.2.1]
 exact⟨Nat.mul_pos (by omega) (by omega),(Nat.mul_le_mul a.2 b.2:_<=4*4)⟩
def VP(t:BR):Prop:=∀j,j<t.Values.length->0<=gd t.Values j
theorem tC{n:Nat}{t:BR}(h:Wo t)(hn:1048577<=n):(¬VT t∧∃s:Ad,TM n t=some (s,1))∨(VT t∧∃s:Ad,TM n t=some (s,0)∧(s.Early<0↔¬VP t)):=by
 obtain⟨b,e,hb⟩:=tV (n:=n) h hn
 rw [TM,e,Ao]
 cases b with
 |false=>exact .inl ⟨fun v=>(by have:=hb.2 v;cases this),_,rfl⟩
 |true=>
  have v:=hb.1 rfl
  have hp:=v.pos
  have g0:AM t.Values 0=some (gd t.Values 0):=gI (i:=0) (by omega)
  refine .inr ⟨v,?_⟩
  simp only [Bool.not_true,cF,g0,Ao]
  refine loop (L:=fun m i (p:Int×Int)=>JW t (fun i93 i97 i98=>(some ((Ad.mk i97 i98),0))) m i p.1 p.2) t.Values.length (fun i p=>(p.1<0↔¬∀j,j<i->0<=gd t.Values j)) (fun o=>∃s:Ad,o=some (s,0)∧(s.Early<0↔¬VP t)) ?_ ?_ n 1 (gd t.Values 0,gd t.Values 0) (by omega) (by omega) ?_
  ·intro m i ⟨a,c⟩ hi hI
   dsimp only at hI ⊢
   refine .inl ⟨(min a (gd t.Values i),max c (gd t.Values i)),?_,?_⟩
   ·dsimp only
    constructor
    ·intro hm hall
     by_cases ha:a<0
     ·exact hI.1 ha fun j hj=>hall j (by omega)
     ·have:=hall i (by omega);omega
    ·intro hna
     by_cases ha:a<0
     ·omega
     ·have hall:∀j,j<i->0<=gd t.Values j:=fun j hj=>by
       by_cases q:0<=gd t.Values j
       ·exact q
       ·exact absurd (hI.2 fun hh=>q (hh j hj)) ha
      by_cases q:0<=gd t.Values i
      ·exfalso;apply hna;intro j hj
       by_cases ej:j=i
       ·subst ej;exact q
       ·exact hall j (by omega)
      ·omega
   ·simp only [JW.eq_2,Cj hi,cT,gI hi,Ao,wT i]
  ·intro m ⟨a,c⟩ hI
   dsimp only at hI ⊢
   simp only [JW.eq_2,DB,cF]
   exact⟨_,rfl,hI⟩
  ·dsimp only
   constructor
   ·intro h0 hall;have:=hall 0 (by omega);omega
   ·intro h0
    by_cases q:gd t.Values 0<0
    ·exact q
    ·exfalso;apply h0;intro j hj;obtain rfl:j=0:=by omega
     omega
theorem Mn{n:Nat}{l:List Int}(h0:0<l.length)(h:l.length<=1048576)(hn:1048577<=n):∃r,VB n l=some r∧(r<0↔¬∀j,j<l.length->0<=gd l j):=by
 have g0:AM l 0=some (gd l 0):=gI (i:=0) (by omega)
 have d0:decide ((l.length:Int)<1)=false:=decide_eq_false (by omega)
 rw [VB,d0,cF,g0,Ao]
 refine loop (L:=fun m i (a:Int)=>Ij l (fun i15 i16=>(some i15)) m a i) l.length (fun i a=>(a<0↔¬∀j,j<i->0<=gd l j)) (fun o=>∃r,o=some r∧(r<0↔¬∀j,j<l.length->0<=gd l j)) ?_ ?_ n 1 (gd l 0) (by omega) (by omega) ?_
 ·intro m i a hi hI
  refine .inl ⟨min a (gd l i),?_,?_⟩
  ·constructor
   ·intro hm hall
    by_cases ha:a<0
    ·exact hI.1 ha fun j hj=>hall j (by omega)
    ·have:=hall i (by omega);omega
   ·intro hna
    by_cases ha:a<0
    ·omega
    ·have hall:∀j,j<i->0<=gd l j:=fun j hj=>by
      by_cases q:0<=gd l j
      ·exact q
      ·exact absurd (hI.2 fun hh=>q (hh j hj)) ha
     by_cases q:0<=gd l i
     ·exfalso;apply hna;intro j hj
      by_cases ej:j=i
      ·subst ej;exact q
      ·exact hall j (by omega)
     ·omega
  ·simp only [Ij.eq_2,Cj hi,cT,gI hi,Ao,wT i]
 ·intro m a hI
  simp only [Ij.eq_2,DB,cF]
  exact⟨_,rfl,hI⟩
 ·constructor
  ·intro h0 hall;have:=hall 0 (by omega);omega
  ·intro h0
   by_cases q:gd l 0<0
   ·exact q
   ·exfalso;apply h0;intro j hj;obtain rfl:j=0:=by omega
    omega
def RO(l:List BR)(pos:Bool):Prop:=l.length=2∧∀t∈l,VT t∧(pos=true->VP t)
theorem nH{n:Nat}{l:List BR}{pos:Bool}(h:∀t∈l,Wo t)(hn:1048577<=n):BQ (RO l pos) (SV n l pos):=by
 rw [SV]
 refine Ep (fun c=>?_) fun c=>?_
 ·refine BN fun v=>?_
  rw [v.1]at c;simp at c
 ·have c:l.length=2:=by rw [bne_eq_false_iff_eq]at c;omega
  refine(EM (L:=fun m i=>Lr n l pos _ m i) (Q:=True) 2 0 (fun i=>∀t,l[i]? =some t->VT t∧(pos=true->VP t)) ?_ ?_ n 0 (by omega) (by omega) (by omega) (fun j _ h=>by omega)).iff ?_
  ·intro m i _ hi
   have hil:i<l.length:=by omega
   have g:=List.getElem?_eq_getElem hil
   have d1:decide ((i:Int)<2)=true:=decide_eq_true (by omega)
   simp only [Lr.eq_2,d1,cT,AU hil,Ao,wT i,g]
   rcases tC (n:=n) (h _ (List.getElem_mem hil)) hn with ⟨v,s,e⟩|⟨v,s,e,hs⟩
   ·rw [e]
    exact .inr ⟨fun q=>v (q _ rfl).1,by trivial⟩
   ·rw [e]
    simp only [Ao,bne_self_eq_false,Bool.false_or]
    by_cases hp:pos=true
    ·subst hp
     by_cases q:s.Early<0
     ·rw [decide_eq_true q]
      exact .inr ⟨fun r=>(hs.1 q) ((r _ rfl).2 rfl),by trivial⟩
     ·rw [decide_eq_false q]
      refine .inl ⟨fun t ht=>?_,by trivial⟩
      obtain rfl:=Option.some.inj ht
      exact⟨v,fun _=>Classical.byContradiction fun r=>q (hs.2 r)⟩
    ·have hp:pos=false:=by simpa using hp
     subst hp
     refine .inl ⟨fun t ht=>?_,by trivial⟩
     obtain rfl:=Option.some.inj ht
     exact⟨v,fun h=>by cases h⟩
  ·intro m i h1 h2 _
   obtain rfl:i=2:=by omega
   simp only [Lr.eq_2,show decide (((2:Nat):Int)<2)=false from rfl,cF]
   exact Ca trivial
  ·constructor
   ·rintro ⟨a,_⟩
    refine⟨c,fun t ht=>?_⟩
    obtain⟨j,hj⟩:=List.getElem?_of_mem ht
    have hjl:j<l.length:=(List.getElem?_eq_some_iff.1 hj).1
    exact a j (by omega) (by omega) t hj
   ·rintro ⟨_,a⟩
    exact⟨fun i _ _ t ht=>a t (List.mem_of_getElem? ht),trivial⟩
theorem nW{n:Nat}{l:List BR}{pos:Bool}(h:∀t∈l,Wo t)(hl:l.length<=1048576)(hn:1048577<=n):BQ (RO l pos) (SH n l pos):=by
 rw [SH]
 have hf:∀t∈l,BQ (¬(VT t∧(pos=true->VP t))) (TH n t pos):=by
  intro t ht
  have hm:=h t ht
  rw [TH]
  refine BQ.bind (rY hm hn) (fun v=>?_) fun v=>?_
  ·simp only [Bool.not_true,cF]
   by_cases hp:pos=true
   ·subst hp
    obtain⟨r,e,hr⟩:=Mn (n:=n) v.pos.1 hm.2.2 hn
    simp only [cT,e,Ao]
    refine BY ?_
    rw [decide_eq_true_eq,hr]
    exact⟨fun a b=>a (b.2 trivial),fun a b=>a ⟨v,fun _=>b⟩⟩
   ·have hp:pos=false:=by simpa using hp
    subst hp
    exact BN fun a=>a ⟨v,fun h=>by cases h⟩
  ·simp only [Bool.not_false,cT,Ao]
   exact Ca fun a=>v a.1
 obtain⟨r,e,hr,_⟩:=MX (xs:=l) (L:=fun m i=>Hc n l pos (fun i6=>(some (-1))) m i) (f:=fun t=>TH n t pos) hf (fun m i hi=>by
  simp only [Hc.eq_2,Cj hi,cT,AU hi,Ao,wT i]) (fun m=>by
  simp only [Hc.eq_2,DB,cF]) n (by omega)
 have e:Hc n l pos (fun i6=>(some (-1))) n 0=some r:=e
 rw [Xm,YO,e]
 simp only [Ao]
 by_cases c:l.length=2
 ·have:((l.length:Int)==2)=true:=by simp;omega
  rw [this]
  simp only [cT,Ao]
  refine BY ?_
  rw [Bool.not_eq_true',decide_eq_false_iff_not,hr]
  exact⟨fun a=>⟨c,fun t ht=>Classical.byContradiction fun q=>a ⟨t,ht,q⟩⟩,fun a ⟨t,ht,q⟩=>q (a.2 t ht)⟩
 ·have:((l.length:Int)==2)=false:=by rw [beq_eq_false_iff_ne];omega
  rw [this]
  exact BN fun v=>c v.1
def Qn(N i:Nat)(p:Bz):Prop:=(0<=p.Cap∧p.Cap<=500)∧(i+1=N->p.Dir=2∧p.Cap=0∧p.Clock=false)∧(i+1<N->p.Dir=1)
structure LJ(l:List Bz):Prop where
 few:2<=l.length∧l.length<=5
 pin:∀i (h:i<l.length),Qn l.length i l[i]
 nm:∀k (h:k<l.length),EZ l[k].Name=true∧∀i (hi:i<k),(l[i].Name.toList==l[k].Name.toList)=false
def cnt(l:List Bz):Nat:=l.countP (·.Clock)
def cL(l:List Bz):Prop:=l.length<=1048576∧∀p∈l,p.Name.size<=1048576
theorem RG{l:List Bz}{i:Nat}(h:i<l.length):cnt (l.take (i+1))=cnt (l.take i)+if l[i].Clock=true then 1 else 0:=by
 unfold cnt
 rw [List.take_succ_eq_append_getElem h,List.countP_append]
 congr 1
 by_cases e:l[i].Clock=true
 ·rw [if_pos e];simp [e]
 ·rw [if_neg e];simp [e]
theorem sS{n:Nat}{c:At}(h:cL c.Pins)(hn:1048577<=n):∃r:Int×Bool,gM n c=some r∧(r.2=true↔LJ c.Pins)∧(r.2=true->r.1=cnt c.Pins):=by
 rw [gM]
 by_cases hl:2<=c.Pins.length∧c.Pins.length<=5
 ·have d:(decide ((c.Pins.length:Int)<2)||decide ((c.Pins.length:Int)>5))=false:=by
   simp only [Bool.or_eq_false_iff,decide_eq_false_iff_not];omega
  rw [d,cF]
  have wl:wrap .i64 ((c.Pins.length:Int)-1)=(c.Pins.length:Int)-1:=Aq (by omega) (by omega)
  refine loop (L:=fun m i (q:Int)=>KI n c (fun i23 i24=>(some (i23,true))) m q i) c.Pins.length (fun i q=>q=cnt (c.Pins.take i)∧∀k (h:k<c.Pins.length),k<i->Qn c.Pins.length k c.Pins[k]∧EZ c.Pins[k].Name=true∧∀j (hj:j<k),(c.Pins[j].Name.toList==c.Pins[k].Name.toList)=false)
   (fun o=>∃r:Int×Bool,o=some r∧(r.2=true↔LJ c.Pins)∧(r.2=true->r.1=cnt c.Pins)) ?_ ?_ n 0 0 (by omega) (by omega) ⟨by simp [cnt],fun k _ hk=>by omega⟩
  ·intro m i q hi ⟨hq,hI⟩
   have no:∀o:Option (Int×Bool),o=some (0,false)->¬LJ c.Pins->∃r:Int×Bool,o=some r∧(r.2=true↔LJ c.Pins)∧(r.2=true->r.1=cnt c.Pins):=fun o e hv=>⟨_,e,by simp [hv],fun h=>by cases h⟩
   have wi:decide ((i:Int)<(c.Pins.length:Int))=true:=Cj hi
   rw [KI.eq_2]
   simp only [wi,cT,AU hi,Ao]
   have inner:∀k2:Int->Option (Int×Bool),(∀j (hj:j<i),(c.Pins[j].Name.toList==c.Pins[i].Name.toList)=false)∧Ja c i c.Pins[i] k2 n 0=k2 i∨(¬∀j (hj:j<i),(c.Pins[j].Name.toList==c.Pins[i].Name.toList)=false)∧Ja c i c.Pins[i] k2 n 0=some (0,false):=by
    intro k2
    refine loop (L:=fun m j (_:Unit)=>Ja c i c.Pins[i] k2 m j) i (fun b _=>∀j (hj:j<i),j<b->(c.Pins[j].Name.toList==c.Pins[i].Name.toList)=false) (fun o=>(∀j (hj:j<i),(c.Pins[j].Name.toList==c.Pins[i].Name.toList)=false)∧o=k2 i∨(¬∀j (hj:j<i),(c.Pins[j].Name.toList==c.Pins[i].Name.toList)=false)∧o=some (0,false)) ?_ ?_ n 0 () (by omega) (by omega) (fun j _ hj=>by omega)
    ·intro m j _ hj hJ
     simp only [Ja.eq_2,Cj hj,cT,AU (show j<c.Pins.length by omega),Ao,wT j]
     cases e:(c.Pins[j].Name.toList==c.Pins[i].Name.toList)with
     |true=>exact .inr (.inr ⟨fun h=>(by rw [h j hj]at e;cases e),by trivial⟩)
     |false=>
      refine .inl ⟨(),fun a ha hb=>?_,by trivial⟩
      by_cases ea:a=j
      ·subst ea;exact e
      ·exact hJ a ha (by omega)
    ·intro m _ hJ
     simp only [Ja.eq_2,DB,cF]
     exact .inl ⟨fun j hj=>hJ j hj hj,by trivial⟩
   rcases inner _ with ⟨g1,g2⟩|⟨g1,g2⟩
   ·rw [g2]
    have hsz:=h.2 _ (List.getElem_mem hi)
    simp only [jS hsz hn,Ao,HI,Dp,wl]
    cases hnm:EZ c.Pins[i].Name with
    |false=>
     simp only [Bool.not_false,Bool.true_or,cT]
     exact .inr (no _ rfl fun v=>by have:=(v.nm i hi).1;rw [hnm]at this;cases this)
    |true=>
     simp only [Bool.not_true,Bool.false_or]
     by_cases c1:0<=c.Pins[i].Cap∧c.Pins[i].Cap<=500
     ·have d1:(decide (c.Pins[i].Cap>=0)&&decide (c.Pins[i].Cap<=500))=true:=by simp only [Bool.and_eq_true,decide_eq_true_eq];omega
      simp only [d1,Bool.not_true,cF]
      have pI:Qn c.Pins.length i c.Pins[i]↔((((i:Int)==(c.Pins.length:Int)-1)&&((((c.Pins[i].Dir !=2))||((c.Pins[i].Cap !=0)))||c.Pins[i].Clock))||((decide ((i:Int)<(c.Pins.length:Int)-1))&&((c.Pins[i].Dir !=1))))=false:=by
       unfold Qn
       by_cases e1:i+1=c.Pins.length
       ·have t1:((i:Int)==(c.Pins.length:Int)-1)=true:=by rw [beq_iff_eq];omega
        have t2:decide ((i:Int)<(c.Pins.length:Int)-1)=false:=decide_eq_false (by omega)
        simp only [t1,t2,Bool.true_and,Bool.false_and,Bool.or_false,Bool.or_eq_false_iff,bne_eq_false_iff_eq]
        exact⟨fun⟨_,a,_⟩=>⟨⟨(a e1).1,(a e1).2.1⟩,(a e1).2.2⟩,fun⟨⟨a,b⟩,d⟩=>⟨c1,fun _=>⟨a,b,d⟩,fun h=>by omega⟩⟩
       ·have t1:((i:Int)==(c.Pins.length:Int)-1)=false:=by rw [beq_eq_false_iff_ne];omega
        have t2:decide ((i:Int)<(c.Pins.length:Int)-1)=true:=decide_eq_true (by omega)
        simp only [t1,t2,Bool.true_and,Bool.false_and,Bool.false_or,bne_eq_false_iff_eq]
        exact⟨fun⟨_,_,a⟩=>a (by omega),fun a=>⟨c1,fun h=>absurd h e1,fun _=>a⟩⟩
      cases hc:((((i:Int)==(c.Pins.length:Int)-1)&&((((c.Pins[i].Dir !=2))||((c.Pins[i].Cap !=0)))||c.Pins[i].Clock))||((decide ((i:Int)<(c.Pins.length:Int)-1))&&((c.Pins[i].Dir !=1))))with
      |true=>
       rw [hc]at pI
       simp only [cT]
       exact .inr (no _ rfl fun v=>by have:=pI.1 (v.pin i hi);cases this)
      |false=>
       have hp:=pI.2 hc
       simp only [cF]
       have hI':∀k (h:k<c.Pins.length),k<i+1->Qn c.Pins.length k c.Pins[k]∧EZ c.Pins[k].Name=true∧∀j (hj:j<k),(c.Pins[j].Name.toList==c.Pins[k].Name.toList)=false:=fun k hk hki=>by
        by_cases ek:k=i
        ·subst ek;exact⟨hp,hnm,g1⟩
        ·exact hI k hk (by omega)
       have ct:=RG hi
       have cl:cnt (c.Pins.take i)<=5:=Nat.le_trans List.countP_le_length (by simp;omega)
       cases hk:c.Pins[i].Clock with
       |true=>
        rw [hk,if_pos rfl]at ct
        refine .inl ⟨q+1,⟨by rw [ct,hq];simp,hI'⟩,?_⟩
        simp only [cT,wT i,Aq (x:=q+1) (by omega) (by omega)]
       |false=>
        rw [hk]at ct
        refine .inl ⟨q,⟨by rw [ct,hq];simp,hI'⟩,?_⟩
        simp only [cF,wT i]
     ·have d1:(decide (c.Pins[i].Cap>=0)&&decide (c.Pins[i].Cap<=500))=false:=by
       rw [Bool.and_eq_false_iff,decide_eq_false_iff_not,decide_eq_false_iff_not];omega
      simp only [d1,Bool.not_false,cT]
      exact .inr (no _ rfl fun v=>c1 (v.pin i hi).1)
   ·rw [g2]
    exact .inr (no _ rfl fun v=>g1 (v.nm i hi).2)
  ·intro m q ⟨hq,hI⟩
   simp only [KI.eq_2,DB,cF]
   rw [List.take_length]at hq
   exact⟨_,rfl,⟨fun _=>⟨hl,fun i h=>(hI i h h).1,fun k h=>(hI k h h).2⟩,fun _=>rfl⟩,fun _=>hq⟩
 ·have d:(decide ((c.Pins.length:Int)<2)||decide ((c.Pins.length:Int)>5))=true:=by
   rw [Bool.or_eq_true,decide_eq_true_eq,decide_eq_true_eq];omega
  rw [d,cT]
  exact⟨_,rfl,⟨fun h=>(by cases h),fun v=>absurd v.few hl⟩,fun h=>(by cases h)⟩
theorem tU{n:Nat}{l:List Bz}(h:cL l)(hn:1048577<=n):BQ (LJ l) (WF n l):=by
 have hl:=h.1
 rw [WF]
 have wl:0<l.length->wrap .i64 ((l.length:Int)-1)=(l.length:Int)-1:=fun h0=>Aq (by omega) (by omega)
 refine loop (L:=fun m i (q:List ByteArray)=>Hi n l _ m q i) l.length (fun i q=>q=(l.take i).map (·.Name)∧∀k (h:k<l.length),k<i->Qn l.length k l[k]) _ ?_ ?_ n 0 [] (by omega) (by omega) ⟨by simp,fun k _ hk=>by omega⟩
 ·intro m i q hi ⟨hq,hI⟩
  have hql:q.length<=1048576:=by rw [hq];simp;omega
  have ha:=BL (xs:=q) (ys:=[l[i].Name]) (b:=16) (by simp;omega) (by omega)
  have hq':q++[l[i].Name]=(l.take (i+1)).map (·.Name):=by rw [hq,List.take_succ_eq_append_getElem hi,List.map_append];rfl
  simp only [Hi.eq_2,Cj hi,cT,AU hi,Ao,ha,wl (by omega),Jw,wT i]
  have stepI:Qn l.length i l[i]->∀k (h:k<l.length),k<i+1->Qn l.length k l[k]:=fun hp k hk hki=>by
   by_cases ek:k=i
   ·subst ek;exact hp
   ·exact hI k hk (by omega)
  by_cases e1:i+1=l.length
  ·have t1:((i:Int)==(l.length:Int)-1)=true:=by rw [beq_iff_eq];omega
   simp only [t1,cT]
   cases hc:((((l[i].Dir !=2))||((l[i].Cap !=0)))||l[i].Clock)with
   |true=>
    refine .inr (BN fun v=>?_)
    have:=(v.pin i hi).2.1 e1
    rw [this.1,this.2.1,this.2.2]at hc;cases hc
   |false=>
    simp only [Bool.or_eq_false_iff,bne_eq_false_iff_eq]at hc
    exact .inl ⟨_,⟨hq',stepI ⟨by omega,fun _=>⟨hc.1.1,hc.1.2,hc.2⟩,fun h=>by omega⟩⟩,by trivial⟩
  ·have t1:((i:Int)==(l.length:Int)-1)=false:=by rw [beq_eq_false_iff_ne];omega
   simp only [t1,cF,Dp,Ao]
   by_cases c1:l[i].Dir=1∧0<=l[i].Cap∧l[i].Cap<=500
   ·have d1:((l[i].Dir !=1)|| !(decide (l[i].Cap>=0)&&decide (l[i].Cap<=500)))=false:=by
     simp only [Bool.or_eq_false_iff,bne_eq_false_iff_eq,Bool.not_eq_false',Bool.and_eq_true,decide_eq_true_eq];omega
    simp only [d1,cF]
    exact .inl ⟨_,⟨hq',stepI ⟨by omega,fun h=>absurd h e1,fun _=>c1.1⟩⟩,by trivial⟩
   ·have d1:((l[i].Dir !=1)|| !(decide (l[i].Cap>=0)&&decide (l[i].Cap<=500)))=true:=by
     simp only [Bool.or_eq_true,bne_iff_ne,Bool.not_eq_true',Bool.and_eq_false_iff,decide_eq_false_iff_not];omega
    simp only [d1,cT]
    exact .inr (BN fun v=>c1 ⟨(v.pin i hi).2.2 (by omega),(v.pin i hi).1⟩)
 ·intro m q ⟨hq,hI⟩
  rw [List.take_length]at hq
  obtain⟨b,e,hb⟩:=AN (n:=n) (xs:=q) (by rw [hq];simpa using hl) (by rw [hq];intro x hx;obtain⟨p,hp,rfl⟩:=List.mem_map.1 hx;exact h.2 p hp) hn
  simp only [Hi.eq_2,DB,cF,SE,Jw,e,Ao,Bt]
  refine BY ?_
  rw [Bool.and_eq_true,hb,Bool.and_eq_true,decide_eq_true_eq,decide_eq_true_eq]
  subst hq
  simp only [List.length_map,List.getElem_map]
  exact⟨fun⟨a,b⟩=>⟨by omega,fun i hi=>hI i hi hi,b⟩,fun v=>⟨by have:=v.few;omega,v.nm⟩⟩
def KB(l:List Bz)(i:Int):Bool:=((l[i.toNat]?).map (·.Clock)).getD false
theorem cE{l:List Bz}{i:Int}(h0:0<=i)(h1:i<l.length):∃x,AM l i=some x∧x.Clock=KB l i:=by
 obtain⟨x,e,h⟩:=El h0 h1
 exact⟨x,e,by simp [KB,h]⟩
theorem SM{l:List Bz}{j:Nat}(h:j<l.length):KB l (j:Int)=l[j].Clock:=by simp [KB,h]
theorem Sb{l:List Bz}(hc:cnt l<=1){i j:Nat}(hi:i<l.length)(hj:j<l.length)(h1:l[i].Clock=true)(h2:l[j].Clock=true):i=j:=by
 have key:∀i j:Nat,∀(hi:i<l.length) (hj:j<l.length),l[i].Clock=true->l[j].Clock=true->¬i<j:=by
  intro i j hi hj h1 h2 hlt
  have e:cnt l=cnt (l.take (i+1))+cnt (l.drop (i+1)):=by unfold cnt;rw [←List.countP_append,List.take_append_drop]
  have p1:0<cnt (l.take (i+1)):=List.countP_pos_iff.2 ⟨l[i],by rw [List.mem_take_iff_getElem];exact⟨i,by omega,rfl⟩,h1⟩
  have p2:0<cnt (l.drop (i+1)):=List.countP_pos_iff.2 ⟨l[j],by rw [List.mem_drop_iff_getElem];exact⟨j-(i+1),by omega,by congr 1;omega⟩,h2⟩
  omega
 have a:=key i j hi hj h1 h2
 have b:=key j i hj hi h2 h1
 omega
theorem Ck{n:Nat}{c:At}(h:c.Pins.length<=1048576)(hn:1048577<=n):∃r,SG n c=some r∧(r>=0↔∃x∈c.Pins,x.Clock=true)∧(r= -1∨∃j:Nat,r=(j:Int)∧∃h:j<c.Pins.length,c.Pins[j].Clock=true∧∀i (hi:i<c.Pins.length),i<j->¬c.Pins[i].Clock=true):=by
 obtain⟨r,e,hr⟩:=MX (xs:=c.Pins) (L:=fun m i=>Hb n c.Pins (fun i5=>(some (-1))) m i) (f:=fun p=>UR n p) (P:=fun p=>p.Clock=true) (fun p _=>by rw [UR];exact BY Iff.rfl) (fun m i hi=>by
  simp only [Hb.eq_2,Cj hi,cT,AU hi,Ao,wT i]) (fun m=>by
  simp only [Hb.eq_2,DB,cF]) n (by omega)
 have e:Hb n c.Pins (fun i5=>(some (-1))) n 0=some r:=e
 exact⟨r,by rw [SG,YY,e];rfl,hr⟩
def iB(a:Bf):Prop:=(a.Delay.length<=1048576∧∀t∈a.Delay,Wo t)∧(a.Slew.length<=1048576∧∀t∈a.Slew,Wo t)
structure Tj(c:At):Prop where
 name:c.Name.size<=1048576
 pins:cL c.Pins
 arcs:c.Arcs.length<=1048576∧∀a∈c.Arcs,iB a
 truth:c.Truth.length<=1048576
def ND(c:At)(a:Bf):Prop:=((0<=a.From∧a.From+2<=c.Pins.length)∧(0<=a.To∧a.To+1<=c.Pins.length))∧
 if a.Kind=1 then KB c.Pins a.From=false∧a.To+1=c.Pins.length∧(1<=a.Sense∧a.Sense<=3)∧RO a.Delay true∧RO a.Slew true
 else if a.Kind=2∨a.Kind=3 then KB c.Pins a.From=true∧a.To+1=c.Pins.length∧a.Sense=0∧RO a.Delay true∧RO a.Slew true
 else if a.Kind=4∨a.Kind=5 then KB c.Pins a.From=true∧a.To+1<c.Pins.length∧KB c.Pins a.To=false∧a.Sense=0∧RO a.Delay false∧a.Slew.length=0
 else False
def TC(c:At)(a:Bf)(r:Int):Prop:=
 if a.Kind=4∨a.Kind=5 then a.Sense=0∧a.Slew.length=0∧RO a.Delay false∧a.From=r∧0<=a.From∧(0<=a.To∧a.To+2<=c.Pins.length)∧a.To≠a.From
 else RO a.Delay true∧RO a.Slew true∧a.To+1=c.Pins.length∧(0<=a.From∧a.From+2<=c.Pins.length)∧
  if a.Kind=1 then KB c.Pins a.From=false∧1<=a.Sense∧a.Sense<=3 else if a.Kind=2∨a.Kind=3 then KB c.Pins a.From=true∧a.Sense=0 else False
theorem ZF(k:Int):k=1∨k=2∨k=3∨k=4∨k=5∨(k≠1∧k≠2∧k≠3∧k≠4∧k≠5):=by omega
theorem Nc{x lo hi:Int}:(decide (x>=lo)&&decide (x<=hi))=true↔lo<=x∧x<=hi:=by simp only [Bool.and_eq_true,decide_eq_true_eq,ge_iff_le]
theorem qD{n:Nat}{c:At}{a:Bf}(hp:c.Pins.length<=5)(h2:2<=c.Pins.length)(h:iB a)(hn:1048577<=n):BQ (ND c a) (Vu n c a):=by
 have w1:wrap .i64 ((c.Pins.length:Int)-1)=(c.Pins.length:Int)-1:=Aq (by omega) (by omega)
 have w2:wrap .i64 ((c.Pins.length:Int)-1-1)=(c.Pins.length:Int)-1-1:=Aq (by omega) (by omega)
 obtain⟨t1,e1,h1⟩:=nH (n:=n) (pos:=true) h.1.2 hn
 obtain⟨t2,e2,h2'⟩:=nH (n:=n) (pos:=true) h.2.2 hn
 obtain⟨t3,e3,h3⟩:=nH (n:=n) (pos:=false) h.1.2 hn
 rw [Vu]
 simp only [HI,Ao,w1,w2,Dp]
 by_cases c1:(0<=a.From∧a.From+2<=c.Pins.length)∧(0<=a.To∧a.To+1<=c.Pins.length)
 ·have d1:(decide (a.From>=0)&&decide (a.From<=(c.Pins.length:Int)-1-1))=true:=Nc.2 (by omega)
  have d2:(decide (a.To>=0)&&decide (a.To<=(c.Pins.length:Int)-1))=true:=Nc.2 (by omega)
  obtain⟨x,ex,hx⟩:=cE (l:=c.Pins) c1.1.1 (by omega)
  obtain⟨y,ey,hy⟩:=cE (l:=c.Pins) c1.2.1 (by omega)
  simp only [d1,d2,Bool.not_true,Bool.or_self,cF,ex,ey,Ao,hx,hy,e1,e2,e3,Bt]
  have to1:(a.To==(c.Pins.length:Int)-1)=true↔a.To+1=c.Pins.length:=by rw [beq_iff_eq];omega
  have to2:decide (a.To<(c.Pins.length:Int)-1)=true↔a.To+1<c.Pins.length:=by rw [decide_eq_true_eq];omega
  have sl:((a.Slew.length:Int)==0)=true↔a.Slew.length=0:=by rw [beq_iff_eq];omega
  have nb:∀b:Bool,(!b)=true↔b=false:=by simp
  rcases ZF a.Kind with k|k|k|k|k|k
  ·have:ND c a↔_:=Iff.rfl
   simp only [k,show((1:Int)==1)=true from rfl,cT]
   refine BY ?_
   unfold ND
   simp only [k,if_true,Bool.and_eq_true,nb,to1,Nc,h1,h2']
   exact⟨fun⟨⟨⟨⟨p,q⟩,s⟩,u⟩,v⟩=>⟨c1,p,q,by simpa using s,u,v⟩,fun⟨_,p,q,s,u,v⟩=>⟨⟨⟨⟨p,q⟩,by simpa using s⟩,u⟩,v⟩⟩
  ·simp only [k,show((2:Int)==1)=false from rfl,show((2:Int)==2)=true from rfl,cT,cF]
   refine BY ?_
   unfold ND
   simp only [k,show¬((2:Int)=1) by omega,if_false,true_or,if_true,Bool.and_eq_true,beq_iff_eq,to1,h1,h2']
   exact⟨fun⟨⟨⟨⟨p,q⟩,s⟩,u⟩,v⟩=>⟨c1,p,by omega,s,u,v⟩,fun⟨_,p,q,s,u,v⟩=>⟨⟨⟨⟨p,by omega⟩,s⟩,u⟩,v⟩⟩
  ·simp only [k,show((3:Int)==1)=false from rfl,show((3:Int)==2)=false from rfl,show((3:Int)==3)=true from rfl,cT,cF]
   refine BY ?_
   unfold ND
   simp only [k,show¬((3:Int)=1) by omega,if_false,or_true,if_true,Bool.and_eq_true,beq_iff_eq,to1,h1,h2']
   exact⟨fun⟨⟨⟨⟨p,q⟩,s⟩,u⟩,v⟩=>⟨c1,p,by omega,s,u,v⟩,fun⟨_,p,q,s,u,v⟩=>⟨⟨⟨⟨p,by omega⟩,s⟩,u⟩,v⟩⟩
  ·simp only [k,show((4:Int)==1)=false from rfl,show((4:Int)==2)=false from rfl,show((4:Int)==3)=false from rfl,show((4:Int)==4)=true from rfl,cT,cF]
   refine BY ?_
   unfold ND
   simp only [k,show¬((4:Int)=1) by omega,show¬((4:Int)=2∨(4:Int)=3) by omega,if_false,true_or,if_true,Bool.and_eq_true,beq_iff_eq,nb,to2,sl,h3,true_and]
   exact⟨fun⟨⟨⟨⟨⟨p,q⟩,z⟩,s⟩,u⟩,v⟩=>⟨c1,p,q,z,s,u,by omega⟩,fun⟨_,p,q,z,s,u,v⟩=>⟨⟨⟨⟨⟨p,q⟩,z⟩,s⟩,u⟩,by omega⟩⟩
  ·simp only [k,show((5:Int)==1)=false from rfl,show((5:Int)==2)=false from rfl,show((5:Int)==3)=false from rfl,show((5:Int)==4)=false from rfl,show((5:Int)==5)=true from rfl,cT,cF]
   refine BY ?_
   unfold ND
   simp only [k,show¬((5:Int)=1) by omega,show¬((5:Int)=2∨(5:Int)=3) by omega,if_false,or_true,if_true,Bool.and_eq_true,beq_iff_eq,nb,to2,sl,h3,true_and]
   exact⟨fun⟨⟨⟨⟨⟨p,q⟩,z⟩,s⟩,u⟩,v⟩=>⟨c1,p,q,z,s,u,by omega⟩,fun⟨_,p,q,z,s,u,v⟩=>⟨⟨⟨⟨⟨p,q⟩,z⟩,s⟩,u⟩,by omega⟩⟩
  ·obtain⟨k1,k2,k3,k4,k5⟩:=k
   simp only [beq_eq_false_iff_ne.2 k1,beq_eq_false_iff_ne.2 k2,beq_eq_false_iff_ne.2 k3,beq_eq_false_iff_ne.2 k4,beq_eq_false_iff_ne.2 k5,cF]
   refine BN fun v=>?_
   have:=v.2
   rw [if_neg k1,if_neg (by omega),if_neg (by omega)]at this
   exact this
 ·have d1:(!(decide (a.From>=0)&&decide (a.From<=(c.Pins.length:Int)-1-1))|| !(decide (a.To>=0)&&decide (a.To<=(c.Pins.length:Int)-1)))=true:=by
   rw [Bool.or_eq_true,Bool.not_eq_true',Bool.not_eq_true',Bool.and_eq_false_iff,Bool.and_eq_false_iff,decide_eq_false_iff_not,decide_eq_false_iff_not,decide_eq_false_iff_not,decide_eq_false_iff_not]
   omega
  simp only [d1,cT]
  exact BN fun v=>c1 v.1
theorem qK{n:Nat}{c:At}{a:Bf}{r:Int}(hp:c.Pins.length<=5)(h2:2<=c.Pins.length)(h:iB a)(hr:SG n c=some r)(hn:1048577<=n):BQ (TC c a r) (Wp n c a):=by
 have w1:wrap .i64 ((c.Pins.length:Int)-1)=(c.Pins.length:Int)-1:=Aq (by omega) (by omega)
 have w2:wrap .i64 ((c.Pins.length:Int)-1-1)=(c.Pins.length:Int)-1-1:=Aq (by omega) (by omega)
 obtain⟨t1,e1,h1⟩:=nW (n:=n) (pos:=true) h.1.2 h.1.1 hn
 obtain⟨t2,e2,h2'⟩:=nW (n:=n) (pos:=true) h.2.2 h.2.1 hn
 obtain⟨t3,e3,h3⟩:=nW (n:=n) (pos:=false) h.1.2 h.1.1 hn
 rw [Wp]
 simp only [XG,UZ,QP,SE,Jw,Ao,w1,w2,e1,e2,e3,hr,Bt,Dp]
 unfold TC
 by_cases k:a.Kind=4∨a.Kind=5
 ·have kb:((a.Kind==4)||(a.Kind==5))=true:=by rw [Bool.or_eq_true,beq_iff_eq,beq_iff_eq];exact k
  simp only [kb,cT,if_pos k]
  refine BY ?_
  simp only [Bool.and_eq_true,beq_iff_eq,bne_iff_ne,decide_eq_true_eq,h3]
  exact⟨fun⟨⟨⟨⟨⟨⟨p,q⟩,s⟩,t⟩,u⟩,v⟩,x⟩=>⟨p,by omega,s,t,by omega,by omega,x⟩,fun⟨p,q,s,t,u,v,x⟩=>⟨⟨⟨⟨⟨⟨p,by omega⟩,s⟩,t⟩,by omega⟩,by omega⟩,x⟩⟩
 ·have kb:((a.Kind==4)||(a.Kind==5))=false:=by rw [Bool.or_eq_false_iff,beq_eq_false_iff_ne,beq_eq_false_iff_ne];omega
  simp only [kb,cF,if_neg k]
  by_cases g:(RO a.Delay true∧RO a.Slew true)∧a.To+1=c.Pins.length∧(0<=a.From∧a.From+2<=c.Pins.length)
  ·have gb:(((!t1|| !t2)||(a.To !=(c.Pins.length:Int)-1))|| !(decide (a.From>=0)&&decide (a.From<=(c.Pins.length:Int)-1-1)))=false:=by
    rw [h1.2 g.1.1,h2'.2 g.1.2]
    simp only [Bool.not_true,Bool.or_self,Bool.false_or,Bool.or_eq_false_iff,bne_eq_false_iff_eq,Bool.not_eq_false',Nc];omega
   obtain⟨x,ex,hx⟩:=cE (l:=c.Pins) g.2.2.1 (by omega)
   simp only [gb,cF,ex,Ao,hx]
   have nb:∀b:Bool,(!b)=true↔b=false:=by simp
   have red:∀R:Prop,(RO a.Delay true∧RO a.Slew true∧a.To+1=c.Pins.length∧(0<=a.From∧a.From+2<=c.Pins.length)∧R)↔R:=fun R=>⟨fun q=>q.2.2.2.2,fun q=>⟨g.1.1,g.1.2,g.2.1,g.2.2,q⟩⟩
   rw [red]
   by_cases k1:a.Kind=1
   ·simp only [k1,show((1:Int)==1)=true from rfl,cT,if_true]
    refine BY ?_
    simp only [Bool.and_eq_true,nb,decide_eq_true_eq]
   ·simp only [beq_eq_false_iff_ne.2 k1,cF,if_neg k1]
    by_cases k2:a.Kind=2
    ·simp only [k2,show((2:Int)==2)=true from rfl,cT,true_or,if_true]
     refine BY ?_
     simp only [Bool.and_eq_true,beq_iff_eq]
    ·simp only [beq_eq_false_iff_ne.2 k2,cF]
     by_cases k3:a.Kind=3
     ·simp only [k3,show((3:Int)==3)=true from rfl,cT,or_true,if_true]
      refine BY ?_
      simp only [Bool.and_eq_true,beq_iff_eq]
     ·simp only [beq_eq_false_iff_ne.2 k3,cF]
      rw [if_neg (by omega)]
      exact BN fun v=>v
  ·have gb:(((!t1|| !t2)||(a.To !=(c.Pins.length:Int)-1))|| !(decide (a.From>=0)&&decide (a.From<=(c.Pins.length:Int)-1-1)))=true:=by
    cases hq:(((!t1|| !t2)||(a.To !=(c.Pins.length:Int)-1))|| !(decide (a.From>=0)&&decide (a.From<=(c.Pins.length:Int)-1-1)))with
    |true=>rfl
    |false=>
     exfalso;apply g
     simp only [Bool.or_eq_false_iff,Bool.not_eq_false',bne_eq_false_iff_eq,Nc]at hq
     exact⟨⟨h1.1 hq.1.1.1,h2'.1 hq.1.1.2⟩,by omega,by omega⟩
   simp only [gb,cT]
   exact BN fun v=>g ⟨⟨v.1,v.2.1⟩,v.2.2.1,v.2.2.2.1⟩
theorem SZ{c:At}{a:Bf}{r:Int}(hv:LJ c.Pins)(hc:cnt c.Pins<=1)(hr:r= -1∨∃j:Nat,r=(j:Int)∧∃h:j<c.Pins.length,c.Pins[j].Clock=true∧∀i (hi:i<c.Pins.length),i<j->¬c.Pins[i].Clock=true)(hr0:r>=0↔∃x∈c.Pins,x.Clock=true):ND c a↔TC c a r:=by
 have few:=hv.few
 unfold ND TC
 by_cases k:a.Kind=4∨a.Kind=5
 ·rw [if_neg (by omega),if_neg (by omega),if_pos k,if_pos k]
  constructor
  ·rintro ⟨⟨⟨a1,a2⟩,a3,a4⟩,b1,b2,b3,b4,b5,b6⟩
   obtain⟨f,hf⟩:=Int.eq_ofNat_of_zero_le a1
   have hf:a.From=(f:Int):=hf
   have hfl:f<c.Pins.length:=by omega
   have cf:c.Pins[f].Clock=true:=by rw [hf,SM hfl]at b1;exact b1
   have hge:r>=0:=hr0.2 ⟨_,List.getElem_mem hfl,cf⟩
   rcases hr with hr|⟨j,rfl,hj,hj1,_⟩
   ·omega
   ·have:=Sb hc hfl hj cf hj1
    subst this
    refine⟨b4,b6,b5,hf,a1,by omega,fun e=>?_⟩
    rw [e,b1]at b3;cases b3
  ·rintro ⟨b1,b2,b3,b4,b5,⟨b6,b7⟩,b8⟩
   rcases hr with hr|⟨j,hj0,hj,hj1,_⟩
   ·omega
   ·have cf:KB c.Pins a.From=true:=by rw [b4,hj0,SM hj];exact hj1
    have hjl:j+1<c.Pins.length:=by
     by_cases q:j+1<c.Pins.length
     ·exact q
     ·have:=(hv.pin j hj).2.1 (by omega)
      rw [this.2.2]at hj1;cases hj1
    obtain⟨t,ht⟩:=Int.eq_ofNat_of_zero_le b6
    have ht:a.To=(t:Int):=ht
    have htl:t<c.Pins.length:=by omega
    refine⟨⟨⟨by omega,by omega⟩,by omega,by omega⟩,cf,by omega,?_,b1,b3,b2⟩
    rw [ht,SM htl]
    cases hq:c.Pins[t].Clock with
    |false=>rfl
    |true=>have:=Sb hc htl hj hq hj1;omega
 ·rw [if_neg k,if_neg k]
  by_cases k1:a.Kind=1
  ·rw [if_pos k1,if_pos k1]
   exact⟨fun⟨p,q,s,t,u,v⟩=>⟨u,v,s,p.1,q,t⟩,fun⟨u,v,s,p,q,t⟩=>⟨⟨p,by omega,by omega⟩,q,s,t,u,v⟩⟩
  ·rw [if_neg k1,if_neg k1]
   by_cases k2:a.Kind=2∨a.Kind=3
   ·rw [if_pos k2,if_pos k2]
    exact⟨fun⟨p,q,s,t,u,v⟩=>⟨u,v,s,p.1,q,t⟩,fun⟨u,v,s,p,q,t⟩=>⟨⟨p,by omega,by omega⟩,q,s,t,u,v⟩⟩
   ·rw [if_neg k2,if_neg k2]
    exact⟨fun h=>h.2.elim,fun h=>h.2.2.2.2.elim⟩
def IJ(a b:Bf):Prop:=(a.Kind=b.Kind∧a.From=b.From)∧a.To=b.To
def Fs(l:List Bf)(k:Int):Prop:=∃a∈l,a.Kind=k
def HP(c:At):Prop:=
 (c.Kind=1∧cnt c.Pins=0∧c.Truth.length=2^(c.Pins.length-1)∧∀i,i<c.Truth.length->0<=gd c.Truth i∧gd c.Truth i<=1)∨
 (c.Kind=2∧cnt c.Pins=1∧c.Truth.length=0∧¬Fs c.Arcs 1∧¬(Fs c.Arcs 2↔Fs c.Arcs 3))∨
 (c.Kind=3∧cnt c.Pins=1∧c.Truth.length=0∧Fs c.Arcs 1∧Fs c.Arcs 2∧¬Fs c.Arcs 3)
def VQ(A:Bf->Prop)(l:List Bf):Prop:=∀i (h:i<l.length),A l[i]∧∀j (hj:j<i),¬IJ l[j] l[i]
structure OF(c:At):Prop where
 name:EZ c.Name=true
 pins:LJ c.Pins
 few:c.Arcs.length<=8
 leak:0<=c.Leak∧c.Leak<=100000
 energy:0<=c.Energy∧c.Energy<=100000
 arcs:VQ (ND c) c.Arcs
 kind:HP c
theorem HP.cnt{c:At}(h:HP c):cnt c.Pins<=1:=by
 rcases h with h|h|h<;>omega
theorem Kd{n:Nat}{c:At}(hl:c.Arcs.length<=1048576)(hk:∀a∈c.Arcs,0<=a.Kind∧a.Kind<6)(hn:1048577<=n):∃l,VD n c=some l∧l.length=6∧∀k:Nat,k<6->0<=gd l k∧(gd l k>0↔Fs c.Arcs k):=by
 have m6:Nl 6 8=some 6:=EA (n:=6) (by omega) (by omega)
 rw [VD,m6,Ao]
 refine loop (L:=fun m i (l:List Int)=>JC c (fun i31 l33=>(some l33)) m i l) c.Arcs.length (fun i l=>l.length=6∧∀k:Nat,k<6->(0<=gd l k∧gd l k<=i)∧(gd l k>0↔Fs (c.Arcs.take i) k)) (fun o=>∃l,o=some l∧l.length=6∧∀k:Nat,k<6->0<=gd l k∧(gd l k>0↔Fs c.Arcs k)) ?_ ?_ n 0 (List.replicate 6 0) (by omega) (by omega) ⟨by simp,fun k hk=>?_⟩
 ·intro m i l hi ⟨hll,hI⟩
  have hx:=hk _ (List.getElem_mem hi)
  obtain⟨q,hq⟩:=Int.eq_ofNat_of_zero_le hx.1
  have hq:c.Arcs[i].Kind=(q:Int):=hq
  have hq6:q<6:=by omega
  have hg:AM l c.Arcs[i].Kind=some (gd l q):=by rw [hq];exact gI (by omega)
  have hb:=(hI q hq6).1
  refine .inl ⟨l.set q (gd l q+1),⟨by simpa using hll,fun k hk6=>?_⟩,?_⟩
  ·have h1:=hI k hk6
   rw [OG (by omega)]
   have hs:Fs (c.Arcs.take (i+1)) k↔Fs (c.Arcs.take i) k∨c.Arcs[i].Kind=(k:Int):=by
    rw [List.take_succ_eq_append_getElem hi]
    unfold Fs
    constructor
    ·rintro ⟨a,ha,e⟩
     rcases List.mem_append.1 ha with ha|ha
     ·exact .inl ⟨a,ha,e⟩
     ·obtain rfl:=List.mem_singleton.1 ha;exact .inr e
    ·rintro (⟨a,ha,e⟩|e)
     ·exact⟨a,List.mem_append.2 (.inl ha),e⟩
     ·exact⟨_,List.mem_append.2 (.inr (List.mem_singleton.2 rfl)),e⟩
   rw [hs]
   by_cases e:q=k
   ·subst e
    rw [if_pos rfl]
    exact⟨⟨by omega,by omega⟩,⟨fun _=>.inr hq,fun _=>by omega⟩⟩
   ·rw [if_neg e]
    refine⟨⟨by omega,by omega⟩,h1.2.trans ⟨.inl,fun h=>h.resolve_right fun h=>e (by omega)⟩⟩
  ·simp only [JC.eq_2,Cj hi,cT,AU hi,Ao,hg,wT i,Aq (x:=gd l q+1) (by omega) (by omega)]
   rw [hq,Int.toNat_natCast]
 ·intro m l ⟨hll,hI⟩
  simp only [JC.eq_2,DB,cF]
  refine⟨l,rfl,hll,fun k hk6=>?_⟩
  have:=hI k hk6
  rw [List.take_length]at this
  exact⟨this.1.1,this.2⟩
 ·have:gd (List.replicate 6 0) k=0:=by simp only [gd,List.getD_eq_getElem?_getD,List.getElem?_replicate];split<;>rfl
  rw [this]
  refine⟨by omega,⟨fun h=>by omega,fun⟨a,ha,_⟩=>by simp at ha⟩⟩
theorem Hs{n:Nat}{c:At}(hl:c.Arcs.length<=1048576)(k:Int)(hn:1048577<=n):BQ (Fs c.Arcs k) (LG n c k):=by
 obtain⟨r,e,hr,_⟩:=MX (xs:=c.Arcs) (L:=fun m i=>Hq n c.Arcs k (fun i6=>(some (-1))) m i) (f:=fun a=>Tp n a k) (P:=fun a=>a.Kind=k) (fun p _=>by rw [Tp];exact BY beq_iff_eq) (fun m i hi=>by
  simp only [Hq.eq_2,Cj hi,cT,AU hi,Ao,wT i]) (fun m=>by
  simp only [Hq.eq_2,DB,cF]) n (by omega)
 have e:Hq n c.Arcs k (fun i6=>(some (-1))) n 0=some r:=e
 rw [LG,YQ,Xh,e]
 exact BY (by rw [decide_eq_true_eq];exact hr)
theorem Wu{L:Nat}(h1:2<=L)(h2:L<=5):Lf .i64 1 ((L:Int)-1)=((2^(L-1):Nat):Int)∧Lf .i64 1 (IntKind.wrap IntKind.u64 ((L:Int)-1))=((2^(L-1):Nat):Int)∧decide (IntKind.wrap IntKind.u64 ((L:Int)-1)<0)=false:=by
 have:L=2∨L=3∨L=4∨L=5:=by omega
 rcases this with rfl|rfl|rfl|rfl<;>decide
theorem tN{n:Nat}{c:At}{o:Option Bool}{Q:Prop}(h:c.Truth.length<=1048576)(hn:1048577<=n)(hQ:BQ Q o):BQ ((∀i,i<c.Truth.length->0<=gd c.Truth i∧gd c.Truth i<=1)∧Q) (KS n c (fun _=>o) n 0):=by
 refine(EM (L:=fun m i=>KS n c (fun _=>o) m i) (Q:=Q) c.Truth.length 0 (fun i=>0<=gd c.Truth i∧gd c.Truth i<=1) ?_ ?_ n 0 (by omega) (by omega) (by omega) (fun j _ h=>by omega)).iff ⟨fun a=>⟨fun i hi=>a.1 i (by omega) hi,a.2⟩,fun a=>⟨fun i _ hi=>a.1 i hi,a.2⟩⟩
 ·intro m i _ hi
  simp only [KS.eq_2,Cj hi,cT,gI hi,Ao,HI,wT i]
  by_cases c1:0<=gd c.Truth i∧gd c.Truth i<=1
  ·have d1:(decide (gd c.Truth i>=0)&&decide (gd c.Truth i<=1))=true:=Nc.2 c1
   simp only [d1,Bool.not_true,cF]
   exact .inl ⟨c1,by trivial⟩
  ·have d1:(decide (gd c.Truth i>=0)&&decide (gd c.Truth i<=1))=false:=by
    rw [Bool.and_eq_false_iff,decide_eq_false_iff_not,decide_eq_false_iff_not];omega
   simp only [d1,Bool.not_false,cT]
   exact .inr ⟨c1,by trivial⟩
 ·intro m i h1 h2 _
  obtain rfl:i=c.Truth.length:=by omega
  simp only [KS.eq_2,DB,cF]
  exact hQ
theorem tW{n:Nat}{c:At}{i:Nat}(hi:i<c.Arcs.length)(hl:c.Arcs.length<=1048576)(hn:1048577<=n)(k2:Int->Option Bool):(∀j (hj:j<i),¬IJ c.Arcs[j] c.Arcs[i])∧JS c i c.Arcs[i] k2 n 0=k2 i∨(¬∀j (hj:j<i),¬IJ c.Arcs[j] c.Arcs[i])∧JS c i c.Arcs[i] k2 n 0=some false:=by
 refine loop (L:=fun m j (_:Unit)=>JS c i c.Arcs[i] k2 m j) i (fun b _=>∀j (hj:j<i),j<b->¬IJ c.Arcs[j] c.Arcs[i]) (fun o=>(∀j (hj:j<i),¬IJ c.Arcs[j] c.Arcs[i])∧o=k2 i∨(¬∀j (hj:j<i),¬IJ c.Arcs[j] c.Arcs[i])∧o=some false) ?_ ?_ n 0 () (by omega) (by omega) (fun j _ hj=>by omega)
 ·intro m j _ hj hJ
  have e1:IJ c.Arcs[j] c.Arcs[i]↔(((c.Arcs[j].Kind==c.Arcs[i].Kind)&&(c.Arcs[j].From==c.Arcs[i].From))&&(c.Arcs[j].To==c.Arcs[i].To))=true:=by
   unfold IJ;simp only [Bool.and_eq_true,beq_iff_eq]
  simp only [JS.eq_2,Cj hj,cT,AU (show j<c.Arcs.length by omega),Ao,Bt,wT j]
  cases e:(((c.Arcs[j].Kind==c.Arcs[i].Kind)&&(c.Arcs[j].From==c.Arcs[i].From))&&(c.Arcs[j].To==c.Arcs[i].To))with
  |true=>exact .inr (.inr ⟨fun h=>h j hj (e1.2 e),by trivial⟩)
  |false=>
   refine .inl ⟨(),fun a ha hb=>?_,by trivial⟩
   by_cases ea:a=j
   ·subst ea;intro hs;rw [e1.1 hs]at e;cases e
   ·exact hJ a ha (by omega)
 ·intro m _ hJ
  simp only [JS.eq_2,DB,cF]
  exact .inl ⟨fun j hj=>hJ j hj hj,by trivial⟩
theorem pV{n:Nat}{c:At}(h:Tj c)(hn:1048577<=n):BQ (OF c) (fA n c):=by
 obtain⟨r,e,hr,hc⟩:=sS (n:=n) h.pins hn
 rw [fA,e]
 simp only [Ao,jS h.name hn,HI,Dp]
 by_cases g:(LJ c.Pins∧EZ c.Name=true)∧c.Arcs.length<=8∧(0<=c.Leak∧c.Leak<=100000)∧(0<=c.Energy∧c.Energy<=100000)
 ·have rt:r.2=true:=hr.2 g.1.1
  have gb:((((!r.2|| !EZ c.Name)||decide ((c.Arcs.length:Int)>8))|| !(decide (c.Leak>=0)&&decide (c.Leak<=100000)))|| !(decide (c.Energy>=0)&&decide (c.Energy<=100000)))=false:=by
   rw [rt,g.1.2]
   simp only [Bool.not_true,Bool.or_self,Bool.false_or,Bool.or_eq_false_iff,decide_eq_false_iff_not,Bool.not_eq_false',Nc];omega
  simp only [gb,cF]
  have few:=g.1.1.few
  have hal:=h.arcs.1
  have hcnt:=hc rt
  refine(EM (L:=fun m i=>KY n c _ m i) (Q:=HP c) c.Arcs.length 0 (fun i=>∀(hi:i<c.Arcs.length),ND c c.Arcs[i]∧∀j (hj:j<i),¬IJ c.Arcs[j] c.Arcs[i]) ?_ ?_ n 0 (by omega) (by omega) (by omega) (fun j _ h=>by omega)).iff ?_
  ·intro m i _ hi
   obtain⟨b,e,hb⟩:=qD (n:=n) (c:=c) few.2 few.1 (h.arcs.2 _ (List.getElem_mem hi)) hn
   simp only [KY.eq_2,Cj hi,cT,AU hi,Ao,e]
   cases b with
   |false=>exact .inr ⟨fun q=>(by have:=hb.2 (q hi).1;cases this),by trivial⟩
   |true=>
    simp only [Bool.not_true,cF,wT i]
    rcases tW (n:=n) hi hal hn (fun _=>KY n c _ m ((i+1:Nat):Int))with ⟨q1,q2⟩|⟨q1,q2⟩
    ·exact .inl ⟨fun _=>⟨hb.1 rfl,q1⟩,q2⟩
    ·exact .inr ⟨fun q=>q1 (q hi).2,q2⟩
  ·intro m i h1 h2 hA
   obtain rfl:i=c.Arcs.length:=by omega
   simp only [KY.eq_2,DB,cF]
   obtain⟨l,e,hl6,hl⟩:=Kd (n:=n) hal (fun a ha=>by
    obtain⟨j,hj,rfl⟩:=List.getElem_of_mem ha
    have:=(hA j (by omega) hj hj).1.2
    rcases ZF c.Arcs[j].Kind with k|k|k|k|k|k<;>first|omega|skip
    obtain⟨k1,k2,k3,k4,k5⟩:=k
    rw [if_neg k1,if_neg (by omega),if_neg (by omega)]at this
    exact this.elim) hn
   have g1:AM l 1=some (gd l 1):=gI (i:=1) (by omega)
   have g2:AM l 2=some (gd l 2):=gI (i:=2) (by omega)
   have g3:AM l 3=some (gd l 3):=gI (i:=3) (by omega)
   have k1:0<=gd l 1∧(gd l 1>0↔Fs c.Arcs 1):=hl 1 (by omega)
   have k2:0<=gd l 2∧(gd l 2>0↔Fs c.Arcs 2):=hl 2 (by omega)
   have k3:0<=gd l 3∧(gd l 3>0↔Fs c.Arcs 3):=hl 3 (by omega)
   have wl:wrap .i64 ((c.Pins.length:Int)-1)=(c.Pins.length:Int)-1:=Aq (by omega) (by omega)
   obtain⟨s1,s2,s3⟩:=Wu few.1 few.2
   rw [e,Ao]
   simp only [g1,g2,g3,Ao,wl,s2,s3,cF,Bt]
   have tl:((c.Truth.length:Int)==0)=true↔c.Truth.length=0:=by rw [beq_iff_eq];omega
   have tw:((c.Truth.length:Int)==((2^(c.Pins.length-1):Nat):Int))=true↔c.Truth.length=2^(c.Pins.length-1):=by rw [beq_iff_eq];omega
   have c0:(r.1==0)=true↔cnt c.Pins=0:=by rw [beq_iff_eq,hcnt];omega
   have c1:(r.1==1)=true↔cnt c.Pins=1:=by rw [beq_iff_eq,hcnt];omega
   have kk1:(gd l 1==0)=true↔¬Fs c.Arcs 1:=by rw [beq_iff_eq,←k1.2];omega
   have kk3:(gd l 3==0)=true↔¬Fs c.Arcs 3:=by rw [beq_iff_eq,←k3.2];omega
   have p1:decide (gd l 1>0)=true↔Fs c.Arcs 1:=by rw [decide_eq_true_eq];exact k1.2
   have p2:decide (gd l 2>0)=true↔Fs c.Arcs 2:=by rw [decide_eq_true_eq];exact k2.2
   have p3:decide (gd l 3>0)=true↔Fs c.Arcs 3:=by rw [decide_eq_true_eq];exact k3.2
   have x23:(decide (gd l 2>0) !=decide (gd l 3>0))=true↔¬(Fs c.Arcs 2↔Fs c.Arcs 3):=by
    rw [←p2,←p3];cases decide (gd l 2>0)<;>cases decide (gd l 3>0)<;>simp
   by_cases q1:c.Kind=1
   ·simp only [q1,show((1:Int)==1)=true from rfl,cT]
    refine(tN (c:=c) (o:=some ((r.1==0)&&((c.Truth.length:Int)==((2^(c.Pins.length-1):Nat):Int)))) (Q:=cnt c.Pins=0∧c.Truth.length=2^(c.Pins.length-1)) h.truth hn (BY (by rw [Bool.and_eq_true,c0,tw]))).iff ?_
    unfold HP
    constructor
    ·rintro ⟨a,b,d⟩;exact .inl ⟨q1,b,d,a⟩
    ·rintro (⟨_,b,d,a⟩|⟨a,_⟩|⟨a,_⟩)
     ·exact⟨a,b,d⟩
     ·omega
     ·omega
   ·simp only [beq_eq_false_iff_ne.2 q1,cF]
    by_cases q2:c.Kind=2
    ·simp only [q2,show((2:Int)==2)=true from rfl,cT]
     refine BY ?_
     rw [Bool.and_eq_true,Bool.and_eq_true,Bool.and_eq_true,c1,kk1,x23,tl]
     unfold HP
     constructor
     ·rintro ⟨⟨⟨a,b⟩,d⟩,f⟩;exact .inr (.inl ⟨q2,a,f,b,d⟩)
     ·rintro (⟨a,_⟩|⟨_,a,f,b,d⟩|⟨a,_⟩)
      ·omega
      ·exact⟨⟨⟨a,b⟩,d⟩,f⟩
      ·omega
    ·simp only [beq_eq_false_iff_ne.2 q2,cF]
     by_cases q3:c.Kind=3
     ·simp only [q3,show((3:Int)==3)=true from rfl,cT]
      refine BY ?_
      simp only [Bool.and_eq_true,true_and,c1,p1,p2,kk3,tl]
      unfold HP
      constructor
      ·rintro ⟨⟨⟨⟨a,b⟩,d⟩,x⟩,f⟩;exact .inr (.inr ⟨q3,a,f,b,d,x⟩)
      ·rintro (⟨a,_⟩|⟨a,_⟩|⟨_,a,f,b,d,x⟩)
       ·omega
       ·omega
       ·exact⟨⟨⟨⟨a,b⟩,d⟩,x⟩,f⟩
     ·simp only [beq_eq_false_iff_ne.2 q3,cF]
      refine BN ?_
      rintro (⟨a,_⟩|⟨a,_⟩|⟨a,_⟩)
      ·exact q1 a
      ·exact q2 a
      ·exact q3 a
  ·constructor
   ·rintro ⟨a,b⟩
    exact⟨g.1.2,g.1.1,g.2.1,g.2.2.1,g.2.2.2,fun i hi=>a i (by omega) hi hi,b⟩
   ·rintro v
    exact⟨fun i _ _ hi=>v.arcs i hi,v.kind⟩
 ·have gb:((((!r.2|| !EZ c.Name)||decide ((c.Arcs.length:Int)>8))|| !(decide (c.Leak>=0)&&decide (c.Leak<=100000)))|| !(decide (c.Energy>=0)&&decide (c.Energy<=100000)))=true:=by
   cases hq:((((!r.2|| !EZ c.Name)||decide ((c.Arcs.length:Int)>8))|| !(decide (c.Leak>=0)&&decide (c.Leak<=100000)))|| !(decide (c.Energy>=0)&&decide (c.Energy<=100000)))with
   |true=>rfl
   |false=>
    exfalso;apply g
    simp only [Bool.or_eq_false_iff,Bool.not_eq_false',decide_eq_false_iff_not,Nc]at hq
    exact⟨⟨hr.1 hq.1.1.1.1,hq.1.1.1.2⟩,by omega,by simpa using hq.1.2,by simpa using hq.2⟩
  simp only [gb,cT]
  exact BN fun v=>g ⟨⟨v.pins,v.name⟩,v.few,v.leak,v.energy⟩
theorem Cn{n:Nat}{l:List Bz}{K:Int->Option Bool}{c:At}(hc:c.Pins=l)(hl:l.length<=1048576)(hn:1048577<=n):GF c (fun i _=>K i) n 0 0=K (cnt l):=by
 subst hc
 refine loop (L:=fun m i (q:Int)=>GF c (fun i _=>K i) m q i) c.Pins.length (fun i q=>q=cnt (c.Pins.take i)) (fun o=>o=K (cnt c.Pins)) ?_ ?_ n 0 0 (by omega) (by omega) (by simp [cnt])
 ·intro m i q hi hq
  have ct:=RG hi
  have cl:cnt (c.Pins.take i)<=1048576:=Nat.le_trans List.countP_le_length (by simp;omega)
  cases hk:c.Pins[i].Clock with
  |true=>
   rw [hk,if_pos rfl]at ct
   refine .inl ⟨q+1,by rw [ct,hq];simp,?_⟩
   simp only [GF.eq_2,Cj hi,cT,AU hi,Ao,hk,wT i,Aq (x:=q+1) (by omega) (by omega)]
  |false=>
   rw [hk]at ct
   refine .inl ⟨q,by rw [ct,hq];simp,?_⟩
   simp only [GF.eq_2,Cj hi,cT,AU hi,Ao,hk,cF,wT i]
 ·intro m q hq
  rw [List.take_length]at hq
  simp only [GF.eq_2,DB,cF,hq]
theorem tB{n:Nat}{c:At}(h:Tj c)(hv:LJ c.Pins)(hn:1048577<=n):BQ (HP c) (UB n c):=by
 have few:=hv.few
 obtain⟨b1,e1,h1⟩:=Hs (n:=n) h.arcs.1 1 hn
 obtain⟨b2,e2,h2⟩:=Hs (n:=n) h.arcs.1 2 hn
 obtain⟨b3,e3,h3⟩:=Hs (n:=n) h.arcs.1 3 hn
 have wl:wrap .i64 ((c.Pins.length:Int)-1)=(c.Pins.length:Int)-1:=Aq (by omega) (by omega)
 have o:=(Cn (n:=n) (c:=c) (l:=c.Pins) (K:=fun i16=>(cond (c.Kind==1) (Option.bind (cond (i16==0) (Option.bind (QP n c) fun r20=>(cond (decide (r20<0)) none (some ((((c.Truth.length:Int))==(Lf .i64 1 r20)))))) (some false)) fun c20=>(Option.bind (cond c20 (Option.bind (NG n c.Truth 0 1) fun r26=>(some r26)) (some false)) fun c26=>(some c26))) (cond (c.Kind==2) (Option.bind (cond (((i16==1))&&((((c.Truth.length:Int))==0))) (Option.bind (LG n c 1) fun r38=>(some (!r38))) (some false)) fun c38=>(Option.bind (cond c38 (Option.bind (LG n c 2) fun r43=>(Option.bind (LG n c 3) fun r45=>(some ((r43 !=r45))))) (some false)) fun c43=>(some c43))) (cond (c.Kind==3) (Option.bind (cond (((i16==1))&&((((c.Truth.length:Int))==0))) (Option.bind (LG n c 1) fun r61=>(some r61)) (some false)) fun c61=>(Option.bind (cond c61 (Option.bind (LG n c 2) fun r74=>(some r74)) (some false)) fun c74=>(Option.bind (cond c74 (Option.bind (LG n c 3) fun r87=>(some (!r87))) (some false)) fun c87=>(some c87)))) (some false))))) rfl h.pins.1 hn)
 have o2:UB n c=_:=o
 rw [o2]
 obtain⟨s1,s2,s3⟩:=Wu few.1 few.2
 have d0:decide ((c.Pins.length:Int)-1<0)=false:=decide_eq_false (by omega)
 simp only [QP,SE,Ao,wl,d0,cF,s1,AW (n:=n) h.truth hn,e1,e2,e3,Bt]
 have tl:((c.Truth.length:Int)==0)=true↔c.Truth.length=0:=by rw [beq_iff_eq];omega
 have tw:((c.Truth.length:Int)==((2^(c.Pins.length-1):Nat):Int))=true↔c.Truth.length=2^(c.Pins.length-1):=by rw [beq_iff_eq];omega
 have c0:((cnt c.Pins:Int)==0)=true↔cnt c.Pins=0:=by rw [beq_iff_eq];omega
 have c1:((cnt c.Pins:Int)==1)=true↔cnt c.Pins=1:=by rw [beq_iff_eq];omega
 have n1:(!b1)=true↔¬Fs c.Arcs 1:=by rw [←h1];cases b1<;>simp
 have n3:(!b3)=true↔¬Fs c.Arcs 3:=by rw [←h3];cases b3<;>simp
 have x23:(b2 !=b3)=true↔¬(Fs c.Arcs 2↔Fs c.Arcs 3):=by rw [←h2,←h3];cases b2<;>cases b3<;>simp
 by_cases q1:c.Kind=1
 ·simp only [q1,show((1:Int)==1)=true from rfl,cT]
  refine BY ?_
  rw [Bool.and_eq_true,Bool.and_eq_true,c0,tw,OO]
  unfold HP
  constructor
  ·rintro ⟨⟨a,b⟩,d⟩;exact .inl ⟨q1,a,b,d⟩
  ·rintro (⟨_,a,b,d⟩|⟨a,_⟩|⟨a,_⟩)
   ·exact⟨⟨a,b⟩,d⟩
   ·omega
   ·omega
 ·simp only [beq_eq_false_iff_ne.2 q1,cF]
  by_cases q2:c.Kind=2
  ·simp only [q2,show((2:Int)==2)=true from rfl,cT]
   refine BY ?_
   simp only [Bool.and_eq_true,c1,tl,n1,x23]
   unfold HP
   constructor
   ·rintro ⟨⟨⟨a,b⟩,d⟩,f⟩;exact .inr (.inl ⟨q2,a,b,d,f⟩)
   ·rintro (⟨a,_⟩|⟨_,a,b,d,f⟩|⟨a,_⟩)
    ·omega
    ·exact⟨⟨⟨a,b⟩,d⟩,f⟩
    ·omega
  ·simp only [beq_eq_false_iff_ne.2 q2,cF]
   by_cases q3:c.Kind=3
   ·simp only [q3,show((3:Int)==3)=true from rfl,cT]
    refine BY ?_
    simp only [Bool.and_eq_true,true_and,c1,tl,h1,h2,n3]
    unfold HP
    constructor
    ·rintro ⟨⟨⟨⟨a,b⟩,d⟩,x⟩,f⟩;exact .inr (.inr ⟨q3,a,b,d,x,f⟩)
    ·rintro (⟨a,_⟩|⟨a,_⟩|⟨_,a,b,d,x,f⟩)
     ·omega
     ·omega
     ·exact⟨⟨⟨⟨a,b⟩,d⟩,x⟩,f⟩
   ·simp only [beq_eq_false_iff_ne.2 q3,cF]
    refine BN ?_
    rintro (⟨a,_⟩|⟨a,_⟩|⟨a,_⟩)
    ·exact q1 a
    ·exact q2 a
    ·exact q3 a
theorem tP{n:Nat}{c:At}{r:Int}(h:Tj c)(hv:LJ c.Pins)(hr:SG n c=some r)(hn:1048577<=n):BQ (VQ (fun a=>TC c a r) c.Arcs∧c.Arcs.length<=8) (WB n c):=by
 have few:=hv.few
 have hal:=h.arcs.1
 rw [WB]
 refine(EM (L:=fun m i=>Is n c _ m i) (Q:=c.Arcs.length<=8) c.Arcs.length 0 (fun i=>∀(hi:i<c.Arcs.length),TC c c.Arcs[i] r∧∀j (hj:j<i),¬IJ c.Arcs[j] c.Arcs[i]) ?_ ?_ n 0 (by omega) (by omega) (by omega) (fun j _ h=>by omega)).iff ⟨fun a=>⟨fun i hi=>a.1 i (by omega) hi hi,a.2⟩,fun a=>⟨fun i _ _ hi=>a.1 i hi,a.2⟩⟩
 ·intro m i _ hi
  obtain⟨b,e,hb⟩:=qK (n:=n) (c:=c) few.2 few.1 (h.arcs.2 _ (List.getElem_mem hi)) hr hn
  have hsub:Na c.Arcs 0 (i:Int)=some (c.Arcs.take i):=by
   unfold Na
   rw [if_pos ⟨by omega,by omega,by omega⟩];simp
  obtain⟨q,e2,hq,_⟩:=MX (xs:=c.Arcs.take i) (L:=fun m j=>Ho n (c.Arcs.take i) c.Arcs[i] (fun i6=>(some (-1))) m j) (f:=fun a=>UY n a c.Arcs[i]) (P:=fun a=>IJ a c.Arcs[i]) (fun p _=>by rw [UY];exact BY (by unfold IJ;simp only [Bool.and_eq_true,beq_iff_eq])) (fun m j hj=>by
   simp only [Ho.eq_2,Cj hj,cT,AU hj,Ao,wS (show j<4611686018427387904 by have:=hj;simp at this;omega)]) (fun m=>by
   simp only [Ho.eq_2,DB,cF]) n (by simp;omega)
  have e2:Ho n (c.Arcs.take i) c.Arcs[i] (fun i6=>(some (-1))) n 0=some q:=e2
  simp only [Is.eq_2,Cj hi,cT,AU hi,Ao,e,hsub,YZ,Xa,e2,Dp,wT i]
  have hd:(decide (q>=0))=true↔¬∀j (hj:j<i),¬IJ c.Arcs[j] c.Arcs[i]:=by
   rw [decide_eq_true_eq,hq]
   constructor
   ·rintro ⟨x,hx,hs⟩ hall
    obtain⟨j,hj,rfl⟩:=List.mem_take_iff_getElem.1 hx
    exact hall j (by omega) hs
   ·intro hna
    refine Classical.byContradiction fun hne=>hna fun j hj hs=>hne ⟨c.Arcs[j],List.mem_take_iff_getElem.2 ⟨j,by omega,rfl⟩,hs⟩
  cases hc:(!b||decide (q>=0))with
  |true=>
   refine .inr ⟨fun g=>?_,by trivial⟩
   have:=g hi
   rw [Bool.or_eq_true]at hc
   rcases hc with hc|hc
   ·rw [hb.2 this.1]at hc;cases hc
   ·exact hd.1 hc this.2
  |false=>
   rw [Bool.or_eq_false_iff]at hc
   refine .inl ⟨fun _=>⟨hb.1 (by simpa using hc.1),Classical.byContradiction fun g=>?_⟩,by trivial⟩
   have:=hd.2 g
   rw [hc.2]at this;cases this
 ·intro m i h1 h2 _
  obtain rfl:i=c.Arcs.length:=by omega
  simp only [Is.eq_2,DB,cF]
  exact BY (by rw [decide_eq_true_eq];omega)
theorem oN{n:Nat}{c:At}(h:Tj c)(hn:1048577<=n):BQ (OF c) (Vo n c):=by
 obtain⟨r,hr,hr0,hr1⟩:=Ck (n:=n) h.pins.1 hn
 rw [Vo,rA h.name hn,Ao]
 cases hnm:EZ c.Name with
 |false=>
  simp only [cF,Ao]
  exact BN fun v=>(by have:=v.name;rw [hnm]at this;cases this)
 |true=>
  obtain⟨b,e,hb⟩:=tU (n:=n) h.pins hn
  simp only [cT,e,Ao]
  cases b with
  |false=>
   simp only [cF,Ao]
   exact BN fun v=>(by have:=hb.2 v.pins;cases this)
  |true=>
   have hv:=hb.1 rfl
   obtain⟨b1,e1,h1⟩:=tP (n:=n) h hv hr hn
   obtain⟨b2,e2,h2⟩:=tB (n:=n) h hv hn
   simp only [cT,e1,e2,Jw,Ao,Bt]
   refine BY ?_
   rw [Bool.and_eq_true,Bool.and_eq_true,Bool.and_eq_true,h1,h2,Nc,Nc]
   constructor
   ·rintro ⟨⟨⟨⟨a,a8⟩,b⟩,d⟩,f⟩
    exact⟨hnm,hv,a8,b,d,fun i hi=>⟨(SZ hv f.cnt hr1 hr0).2 (a i hi).1,(a i hi).2⟩,f⟩
   ·rintro v
    exact⟨⟨⟨⟨fun i hi=>⟨(SZ hv v.kind.cnt hr1 hr0).1 (v.arcs i hi).1,(v.arcs i hi).2⟩,v.few⟩,v.leak⟩,v.energy⟩,v.kind⟩
def Fz(xs:List ByteArray):Prop:=∀k (h:k<xs.length),EZ xs[k]=true∧∀i (hi:i<k),(xs[i].toList==xs[k].toList)=false
theorem aY{n:Nat}{xs:List ByteArray}(h:xs.length<=1048576)(hs:∀x∈xs,x.size<=1048576)(hn:1048577<=n):BQ (Fz xs) (bG n xs):=by
 rw [bG]
 refine(EM (L:=fun m i=>Hy n xs _ m i) (Q:=True) xs.length 0 (fun i=>∀(hi:i<xs.length),EZ xs[i]=true∧∀j (hj:j<i),(xs[j].toList==xs[i].toList)=false) ?_ ?_ n 0 (by omega) (by omega) (by omega) (fun j _ h=>by omega)).iff ⟨fun a k hk=>a.1 k (by omega) hk hk,fun a=>⟨fun i _ _ hi=>a i hi,trivial⟩⟩
 ·intro m i _ hi
  simp only [Hy.eq_2,Cj hi,cT,AU hi,Ao,jS (hs _ (List.getElem_mem hi)) hn]
  cases hb:EZ xs[i]with
  |false=>simp only [Bool.not_false,cT];exact .inr ⟨fun g=>(by have:=(g hi).1;rw [hb]at this;cases this),trivial⟩
  |true=>
   simp only [Bool.not_true,cF]
   have key:Ko xs (i:Int) (fun i22=>Hy n xs (fun i5=>some true) m (wrap .i64 ((i:Int)+1))) n 0=cond ((xs.take i).all (fun x=>!(x.toList==xs[i].toList))) (Hy n xs (fun i5=>some true) m (wrap .i64 ((i:Int)+1))) (some false):=by
    refine OS (xs:=xs.take i) (L:=fun q j=>Ko xs (i:Int) (fun i22=>Hy n xs (fun i5=>some true) m (wrap .i64 ((i:Int)+1))) q j) (fun x=>!(x.toList==xs[i].toList)) ?_ ?_ n (by simp;omega)
    ·intro q j hj
     have hj':j<i:=by simp at hj;omega
     have hd:decide ((j:Int)<(i:Int))=true:=decide_eq_true (by omega)
     simp only [Ko.eq_2,hd,cT,AU (show j<xs.length by omega),AU hi,Ao,List.getElem_take,wT j]
     cases(xs[j].toList==xs[i].toList)<;>rfl
    ·intro q
     have hl:(xs.take i).length=i:=by simp;omega
     have hd:decide (((xs.take i).length:Int)<(i:Int))=false:=decide_eq_false (by rw [hl];omega)
     simp only [Ko.eq_2,hd,cF]
   rw [key]
   cases ha:(xs.take i).all (fun x=>!(x.toList==xs[i].toList))with
   |true=>
    rw [cT,wT i]
    refine .inl ⟨fun _=>⟨hb,fun j hj=>?_⟩,rfl⟩
    have:=List.all_eq_true.1 ha xs[j] (List.mem_take_iff_getElem.2 ⟨j,by omega,rfl⟩)
    simpa using this
   |false=>
    rw [cF]
    refine .inr ⟨fun g=>?_,rfl⟩
    have:(xs.take i).all (fun x=>!(x.toList==xs[i].toList))=true:=by
     rw [List.all_eq_true]
     intro x hx
     obtain⟨j,hj,rfl⟩:=List.mem_take_iff_getElem.1 hx
     have:=(g hi).2 j (by omega)
     simp [this]
    rw [ha]at this;cases this
 ·intro m i h1 h2 _
  obtain rfl:i=xs.length:=by omega
  simp only [Hy.eq_2,DB,cF]
  exact Ca trivial
structure RF(l:Az):Prop where
 few:l.Cells.length<=8
 cells:∀i (h:i<l.Cells.length),OF l.Cells[i]
 names:∀k (h:k<l.Cells.length),∀i (hi:i<k),(l.Cells[i].Name.toList==l.Cells[k].Name.toList)=false
def SC(l:Az):Prop:=l.Cells.length<=1048576∧∀c∈l.Cells,Tj c
theorem sO{n:Nat}{l:Az}(h:SC l)(hn:1048577<=n):BQ (RF l) (fF n l):=by
 have h1:=h.1
 rw [fF]
 refine(EM (L:=fun m i=>Hz n l _ m i) (Q:=l.Cells.length<=8) l.Cells.length 0 (fun i=>∀(hi:i<l.Cells.length),OF l.Cells[i]∧∀j (hj:j<i),(l.Cells[j].Name.toList==l.Cells[i].Name.toList)=false) ?_ ?_ n 0 (by omega) (by omega) (by omega) (fun j _ h=>by omega)).iff ⟨fun a=>⟨a.2,fun i hi=>(a.1 i (by omega) hi hi).1,fun k hk=>(a.1 k (by omega) hk hk).2⟩,fun a=>⟨fun i _ _ hi=>⟨a.cells i hi,a.names i hi⟩,a.few⟩⟩
 ·intro m i _ hi
  obtain⟨b,e,hb⟩:=pV (n:=n) (h.2 _ (List.getElem_mem hi)) hn
  simp only [Hz.eq_2,Cj hi,cT,AU hi,Ao,e]
  cases b with
  |false=>simp only [Bool.not_false,cT];exact .inr ⟨fun g=>(by have:=hb.2 (g hi).1;cases this),trivial⟩
  |true=>
   simp only [Bool.not_true,cF]
   have key:Kl l (i:Int) (fun i36=>Hz n l (fun i12=>some (decide ((l.Cells.length:Int)<=8))) m (wrap .i64 ((i:Int)+1))) n 0=cond ((l.Cells.take i).all (fun x=>!(x.Name.toList==l.Cells[i].Name.toList))) (Hz n l (fun i12=>some (decide ((l.Cells.length:Int)<=8))) m (wrap .i64 ((i:Int)+1))) (some false):=by
    refine OS (xs:=l.Cells.take i) (L:=fun q j=>Kl l (i:Int) (fun i36=>Hz n l (fun i12=>some (decide ((l.Cells.length:Int)<=8))) m (wrap .i64 ((i:Int)+1))) q j) (fun x=>!(x.Name.toList==l.Cells[i].Name.toList)) ?_ ?_ n (by simp;omega)
    ·intro q j hj
     have hj':j<i:=by simp at hj;omega
     have hd:decide ((j:Int)<(i:Int))=true:=decide_eq_true (by omega)
     simp only [Kl.eq_2,hd,cT,AU (show j<l.Cells.length by omega),AU hi,Ao,List.getElem_take,wT j]
     cases(l.Cells[j].Name.toList==l.Cells[i].Name.toList)<;>rfl
    ·intro q
     have hl:(l.Cells.take i).length=i:=by simp;omega
     have hd:decide (((l.Cells.take i).length:Int)<(i:Int))=false:=decide_eq_false (by rw [hl];omega)
     simp only [Kl.eq_2,hd,cF]
   rw [key]
   cases ha:(l.Cells.take i).all (fun x=>!(x.Name.toList==l.Cells[i].Name.toList))with
   |true=>
    rw [cT,wT i]
    refine .inl ⟨fun _=>⟨hb.1 rfl,fun j hj=>?_⟩,rfl⟩
    have:=List.all_eq_true.1 ha l.Cells[j] (List.mem_take_iff_getElem.2 ⟨j,by omega,rfl⟩)
    simpa using this
   |false=>
    rw [cF]
    refine .inr ⟨fun g=>?_,rfl⟩
    have:(l.Cells.take i).all (fun x=>!(x.Name.toList==l.Cells[i].Name.toList))=true:=by
     rw [List.all_eq_true]
     intro x hx
     obtain⟨j,hj,rfl⟩:=List.mem_take_iff_getElem.1 hx
     have:=(g hi).2 j (by omega)
     simp [this]
    rw [ha]at this;cases this
 ·intro m i h1 h2 _
  obtain rfl:i=l.Cells.length:=by omega
  simp only [Hz.eq_2,DB,cF]
  exact BY (by rw [decide_eq_true_eq];omega)
theorem tM{n:Nat}{l:Az}(h:SC l)(hn:1048577<=n):BQ (RF l) (Uw n l):=by
 have h1:=h.1
 rw [Uw]
 refine loop (L:=fun m i (s:List ByteArray)=>JH n l _ m s i) l.Cells.length (fun i s=>s=(l.Cells.take i).map (·.Name)∧∀j (hj:j<l.Cells.length),j<i->OF l.Cells[j]) (fun o=>BQ (RF l) o) ?_ ?_ n 0 [] (by omega) (by omega) ⟨by simp,fun j _ h=>by omega⟩
 ·intro m i s hi ⟨hs,hI⟩
  obtain⟨b,e,hb⟩:=oN (n:=n) (h.2 _ (List.getElem_mem hi)) hn
  have hsl:s.length=i:=by rw [hs];simp;omega
  simp only [JH.eq_2,Cj hi,cT,AU hi,Ao,e]
  cases b with
  |false=>simp only [Bool.not_false,cT];exact .inr (BN fun v=>by have:=hb.2 (v.cells i hi);cases this)
  |true=>
   simp only [Bool.not_true,cF,BL (show s.length+[l.Cells[i].Name].length<=16777216 by simp;omega) (show 16<=1048576 by omega),Ao,wT i]
   refine .inl ⟨_,⟨?_,fun j hj hji=>?_⟩,rfl⟩
   ·rw [hs,List.take_succ_eq_append_getElem hi,List.map_append];rfl
   ·by_cases ej:j=i
    ·subst ej;exact hb.1 rfl
    ·exact hI j hj (by omega)
 ·intro m s ⟨hs,hI⟩
  rw [List.take_length]at hs
  have hsl:s.length=l.Cells.length:=by rw [hs];simp
  simp only [JH.eq_2,DB,cF]
  by_cases c:l.Cells.length<=8
  ·have d:decide ((l.Cells.length:Int)<=8)=true:=decide_eq_true (by omega)
   obtain⟨b,e,hb⟩:=AN (n:=n) (xs:=s) (by omega) (fun x hx=>by
    rw [hs]at hx
    obtain⟨c,hc,rfl⟩:=List.mem_map.1 hx
    exact(h.2 c hc).name) hn
   simp only [d,cT,e,Ao]
   refine BY (hb.trans ⟨fun g=>⟨c,fun i hi=>hI i hi hi,fun k hk i hi=>?_⟩,fun v k hk=>⟨?_,fun i hi=>?_⟩⟩)
   ·have:=(g k (by omega)).2 i hi
    simpa [hs] using this
   ·have:=(v.cells k (by omega)).name
    simpa [hs] using this
   ·have:=v.names k (by omega) i hi
    simpa [hs] using this
  ·have d:decide ((l.Cells.length:Int)<=8)=false:=decide_eq_false (by omega)
   simp only [d,cF,Ao]
   exact BN fun v=>c v.few
def Xx(l:List Int)(lo hi:Int):Prop:=∀i,i<l.length->lo<=gd l i∧gd l i<=hi
theorem WP{n:Nat}{l:List Int}{lo hi:Int}(h:l.length<=1048576)(hn:1048577<=n):BQ (Xx l lo hi) (NG n l lo hi):=by
 rw [NG,WT,Tw]
 obtain⟨r,e,h⟩:=KO (xs:=l) (L:=fun m i=>FZ n l lo hi (fun i7=>(some (-1))) m i) (fun x=>!((decide (x>=lo))&&(decide (x<=hi)))) (by
  intro m i hi
  simp only [FZ.eq_2,Cj hi,cT,AU hi,Ao,UU,Jw,wT i]) (by
  intro m
  simp only [FZ.eq_2,DB,cF]) n (by omega)
 simp only [e,Ao]
 refine BY ?_
 rw [h,List.any_eq_not_all_not,Bool.not_not]
 simp only [Bool.not_not]
 exact OO
structure QQ(w:BW)(s:Int):Prop where
 many:1<=w.Parent.length∧w.Parent.length<=8
 res:w.Res.length=w.Parent.length
 cap:w.Cap.length=w.Parent.length
 sink:(w.Sink.length:Int)=s
 root:gd w.Parent 0= -1∧gd w.Res 0=0
 tree:∀i,0<i->i<w.Parent.length->0<=gd w.Parent i∧gd w.Parent i<=(i:Int)-1
 ress:Xx w.Res 0 1000
 caps:Xx w.Cap 0 500
 sinks:Xx w.Sink 0 ((w.Parent.length:Int)-1)
def Node(w:BW)(i:Nat):Prop:=(i=0->gd w.Parent 0= -1∧gd w.Res 0=0)∧(0<i->0<=gd w.Parent i∧gd w.Parent i<=(i:Int)-1)
theorem tT{n:Nat}{w:BW}{s:Int}(h:w.Sink.length<=1048576)(hn:1048577<=n):BQ (QQ w s) (WW n w s):=by
 rw [WW]
 refine Ep (fun c=>BN fun v=>?_) (fun c=>?_)
 ·have:=v.many;have:=v.res;have:=v.cap;have:=v.sink
  simp only [Bool.or_eq_true,decide_eq_true_eq,bne_iff_ne,ne_eq]at c;omega
 ·simp only [Bool.or_eq_false_iff,decide_eq_false_iff_not,bne_eq_false_iff_eq]at c
  obtain⟨⟨⟨⟨c1,c2⟩,c3⟩,c4⟩,c5⟩:=c
  refine(EM (L:=fun m i=>Ic n w _ m i) (Q:=Xx w.Sink 0 ((w.Parent.length:Int)-1)) w.Parent.length 0 (fun i=>(0<=gd w.Cap i∧gd w.Cap i<=500)∧(0<=gd w.Res i∧gd w.Res i<=1000)∧Node w i) ?_ ?_ n 0 (by omega) (by omega) (by omega) (fun j _ h=>by omega)).iff ⟨fun a=>⟨by omega,by omega,by omega,c5,(a.1 0 (by omega) (by omega)).2.2.1 rfl,fun i h1 h2=>(a.1 i (by omega) h2).2.2.2 h1,fun i hi=>(a.1 i (by omega) (by omega)).2.1,fun i hi=>(a.1 i (by omega) (by omega)).1,a.2⟩,fun v=>⟨fun i _ hi=>⟨v.caps i (by omega),v.ress i (by omega),fun _=>v.root,fun h=>v.tree i h hi⟩,v.sinks⟩⟩
  ·intro m i _ hi
   have w1:wrap .i64 ((i:Int)-1)=(i:Int)-1:=Aq (by omega) (by omega)
   simp only [Ic.eq_2,Cj hi,cT,gI (show i<w.Parent.length by omega),gI (show i<w.Res.length by omega),gI (show i<w.Cap.length by omega),Ao,HI,Dp,Bt,w1,wT i]
   cases e1:(!(decide (gd w.Cap i>=0)&&decide (gd w.Cap i<=500))|| !(decide (gd w.Res i>=0)&&decide (gd w.Res i<=1000)))with
   |true=>
    rw [cT]
    refine .inr ⟨fun g=>?_,rfl⟩
    simp only [Bool.or_eq_true,Bool.not_eq_true',Bool.and_eq_false_iff,decide_eq_false_iff_not]at e1;omega
   |false=>
    rw [cF]
    simp only [Bool.or_eq_false_iff,Bool.not_eq_false',Bool.and_eq_true,decide_eq_true_eq]at e1
    cases e2:((((i:Int)==0)&&((gd w.Parent i != -1)||(gd w.Res i !=0)))||(decide ((i:Int)>0)&& !(decide (gd w.Parent i>=0)&&decide (gd w.Parent i<=(i:Int)-1))))with
    |true=>
     rw [cT]
     refine .inr ⟨fun g=>?_,rfl⟩
     obtain⟨_,_,g1,g2⟩:=g
     simp only [Bool.or_eq_true,Bool.not_eq_true',Bool.and_eq_false_iff,Bool.and_eq_true,decide_eq_false_iff_not,decide_eq_true_eq,beq_iff_eq,bne_iff_ne,ne_eq]at e2
     by_cases z:i=0
     ·subst z;have:=g1 rfl;omega
     ·have:=g2 (by omega);omega
    |false=>
     rw [cF]
     refine .inl ⟨⟨by omega,by omega,?_⟩,rfl⟩
     simp only [Bool.or_eq_false_iff,Bool.not_eq_false',Bool.and_eq_false_iff,Bool.and_eq_true,decide_eq_false_iff_not,decide_eq_true_eq,beq_eq_false_iff_ne,bne_eq_false_iff_eq,ne_eq]at e2
     refine⟨fun z=>?_,fun z=>by omega⟩
     subst z;omega
  ·intro m i h1 h2 _
   obtain rfl:i=w.Parent.length:=by omega
   have w1:wrap .i64 ((w.Parent.length:Int)-1)=(w.Parent.length:Int)-1:=Aq (by omega) (by omega)
   simp only [Ic.eq_2,DB,cF]
   refine(EM (L:=fun m i=>JJ n w _ m i) (Q:=True) w.Sink.length 0 (fun i=>0<=gd w.Sink i∧gd w.Sink i<=(w.Parent.length:Int)-1) ?_ ?_ n 0 (by omega) (by omega) (by omega) (fun j _ h=>by omega)).iff ⟨fun a i hi=>a.1 i (by omega) hi,fun v=>⟨fun i _ hi=>v i hi,trivial⟩⟩
   ·intro m i _ hi
    simp only [JJ.eq_2,Cj hi,cT,gI hi,Ao,HI,w1,wT i]
    cases e:(!(decide (gd w.Sink i>=0)&&decide (gd w.Sink i<=(w.Parent.length:Int)-1)))with
    |true=>refine .inr ⟨fun g=>?_,by trivial⟩;simp only [Bool.not_eq_true',Bool.and_eq_false_iff,decide_eq_false_iff_not]at e;omega
    |false=>refine .inl ⟨?_,by trivial⟩;simp only [Bool.not_eq_false',Bool.and_eq_true,decide_eq_true_eq]at e;omega
   ·intro m i h1 h2 _
    obtain rfl:i=w.Sink.length:=by omega
    simp only [JJ.eq_2,DB,cF]
    exact Ca trivial
theorem qE{n:Nat}{w:BW}(h1:1<=w.Parent.length)(h:w.Parent.length<=8)(h2:w.Res.length=w.Parent.length)(hn:1048577<=n):BQ (∀i,0<=i->i<w.Parent.length->Node w i) (VC n w):=by
 rw [VC]
 refine(EM (L:=fun m i=>Ii n w _ m i) (Q:=True) w.Parent.length 0 (fun i=>Node w i) ?_ ?_ n 0 (by omega) (by omega) (by omega) (fun j _ h=>by omega)).iff ⟨fun a=>a.1,fun a=>⟨a,trivial⟩⟩
 ·intro m i _ hi
  have w1:wrap .i64 ((i:Int)-1)=(i:Int)-1:=Aq (by omega) (by omega)
  have w0:AM w.Res 0=some (gd w.Res 0):=gI (i:=0) (by omega)
  simp only [Ii.eq_2,Cj hi,cT,gI hi,w0,Ao,Jw,Dp,Bt,w1,wT i]
  cases e2:((((i:Int)==0)&&((gd w.Parent i != -1)||(gd w.Res 0 !=0)))||(decide ((i:Int)>0)&& !(decide (gd w.Parent i>=0)&&decide (gd w.Parent i<=(i:Int)-1))))with
  |true=>
   rw [cT]
   refine .inr ⟨fun g=>?_,rfl⟩
   obtain⟨g1,g2⟩:=g
   simp only [Bool.or_eq_true,Bool.not_eq_true',Bool.and_eq_false_iff,Bool.and_eq_true,decide_eq_false_iff_not,decide_eq_true_eq,beq_iff_eq,bne_iff_ne,ne_eq]at e2
   by_cases z:i=0
   ·subst z;have:=g1 rfl;omega
   ·have:=g2 (by omega);omega
  |false=>
   rw [cF]
   refine .inl ⟨?_,rfl⟩
   simp only [Bool.or_eq_false_iff,Bool.not_eq_false',Bool.and_eq_false_iff,Bool.and_eq_true,decide_eq_false_iff_not,decide_eq_true_eq,beq_eq_false_iff_ne,bne_eq_false_iff_eq,ne_eq]at e2
   refine⟨fun z=>?_,fun z=>by omega⟩
   subst z;omega
 ·intro m i h1 h2 _
  obtain rfl:i=w.Parent.length:=by omega
  simp only [Ii.eq_2,DB,cF]
  exact Ca trivial
theorem BQ.and{P Q:Prop}{o:Option Bool}{c:Bool}(hc:c=true↔P)(h:P->BQ Q o):BQ (P∧Q) (cond c o (some false)):=by
 cases c with
 |true=>exact(h (hc.1 rfl)).iff ⟨fun q=>⟨hc.1 rfl,q⟩,fun q=>q.2⟩
 |false=>exact BN fun q=>by have:=hc.2 q.1;cases this
theorem BQ.ab{P R:Prop}{o:Option Bool}{f:Bool->Option Bool}(h:BQ P o)(k:∀c:Bool,(c=true↔P)->BQ R (f c)):BQ R (Option.bind o f):=by
 obtain⟨b,rfl,h⟩:=h
 exact k b h
theorem IU{o:Option Bool}:(Option.bind o fun r=>some r)=o:=by cases o<;>rfl
theorem sX{n:Nat}{w:BW}{s:Int}(h:w.Sink.length<=1048576)(hr:w.Res.length<=1048576)(hc:w.Cap.length<=1048576)(hp:w.Parent.length<=1048576)(hn:1048577<=n):BQ (QQ w s) (Vn n w s):=by
 have w1:wrap .i64 ((w.Parent.length:Int)-1)=(w.Parent.length:Int)-1:=Aq (by omega) (by omega)
 rw [Vn]
 simp only [OU,Jw,Ao,w1,Bt,IU]
 refine BQ.ab (BQ.and (P:=(1<=w.Parent.length∧w.Parent.length<=8)∧w.Res.length=w.Parent.length∧w.Cap.length=w.Parent.length) (Q:=∀i,0<=i->i<w.Parent.length->Node w i) ?_ fun p=>qE p.1.1 p.1.2 p.2.1 hn) fun c1 e1=>?_
 ·simp only [Bool.and_eq_true,decide_eq_true_eq,beq_iff_eq];omega
 refine BQ.ab (BQ.and e1 fun _=>WP hr hn) fun c2 e2=>?_
 refine BQ.ab (BQ.and e2 fun _=>WP hc hn) fun c3 e3=>?_
 refine(BQ.and (P:=(((((1<=w.Parent.length∧w.Parent.length<=8)∧w.Res.length=w.Parent.length∧w.Cap.length=w.Parent.length)∧∀i,0<=i->i<w.Parent.length->Node w i)∧Xx w.Res 0 1000)∧Xx w.Cap 0 500)∧(w.Sink.length:Int)=s) ?_ fun _=>WP h hn).iff ⟨fun⟨⟨⟨⟨⟨⟨a,b,c⟩,t⟩,r⟩,k⟩,s1⟩,s2⟩=>⟨a,b,c,s1,(t 0 (by omega) (by omega)).1 rfl,fun i h1 h2=>(t i (by omega) h2).2 h1,r,k,s2⟩,fun v=>⟨⟨⟨⟨⟨⟨v.many,v.res,v.cap⟩,fun i _ hi=>⟨fun _=>v.root,fun h=>v.tree i h hi⟩⟩,v.ress⟩,v.caps⟩,v.sink⟩,v.sinks⟩⟩
 rw [Bool.and_eq_true,e3,beq_iff_eq]
def IR(t:List Int)(q:Int):List Int:=t.set q.toNat (gd t q.toNat+1)
def Kj(x:Av):Int:=gd x.Nets (x.Nets.length-1)
def cI(t:List Int)(x:Av):List Int:=IR t (Kj x)
def cP(t:List Int)(p:CI):List Int:=if p.Dir=1 then IR t p.Net else t
def drv(d:AX):List Int:=d.Ports.foldl cP (d.Instances.foldl cI (List.replicate d.Nets.length 0))
structure La(l:Az)(d:AX)(x:Av):Prop where
 cell:0<=x.Cell∧x.Cell<=(l.Cells.length:Int)-1
 pins:∀c,AM l.Cells x.Cell=some c->x.Nets.length=c.Pins.length
 nets:Xx x.Nets 0 ((d.Nets.length:Int)-1)
structure NJ(d:AX)(p:CI):Prop where
 dir:p.Dir=1∨p.Dir=2
 net:0<=p.Net∧p.Net<=(d.Nets.length:Int)-1
structure Cw(l:Az)(d:AX):Prop where
 lib:RF l
 few:d.Instances.length<=14∧d.Nets.length<=30∧d.Ports.length<=8
 inst:∀x∈d.Instances,La l d x
 port:∀p∈d.Ports,NJ d p
 ni:Fz (d.Instances.map (·.Name))
 np:Fz (d.Ports.map (·.Name))
 nn:Fz d.Nets
 one:∀i,i<d.Nets.length->gd (drv d) i=1
structure Ty(d:AX):Prop where
 inst:d.Instances.length<=1048576∧∀x∈d.Instances,x.Name.size<=1048576∧x.Nets.length<=1048576
 nets:d.Nets.length<=1048576∧∀x∈d.Nets,x.size<=1048576
 ports:d.Ports.length<=1048576∧∀p∈d.Ports,p.Name.size<=1048576
theorem La.long{l:Az}{d:AX}{x:Av}(v:La l d x)(hl:RF l):2<=x.Nets.length∧x.Nets.length<=5:=by
 obtain⟨c,e,hc⟩:=El (xs:=l.Cells) v.cell.1 (by have:=v.cell.2;omega)
 have h:=v.pins c e
 obtain⟨h1,h2⟩:=List.getElem?_eq_some_iff.1 hc
 have:=(hl.cells _ h1).pins.few
 rw [h2]at this;omega
theorem La.last{l:Az}{d:AX}{x:Av}(v:La l d x)(hl:RF l):0<=Kj x∧Kj x<d.Nets.length:=by
 have:=v.long hl
 have:=v.nets (x.Nets.length-1) (by omega)
 unfold Kj;omega
theorem Jb{α:Type}{xs:List α}(nm:α->ByteArray){L:Nat->List ByteArray->Int->Option Bool}{k:List ByteArray->Option Bool}(hl:xs.length<=1048576)
 (hs:∀(m i:Nat) (h:i<xs.length) (s:List ByteArray),L (m+1) s (i:Int)=Option.bind (Bw s [nm xs[i]] 16) fun z=>L m z ((i+1:Nat):Int))
 (he:∀(m:Nat) (s:List ByteArray),L (m+1) s (xs.length:Int)=k s) (m:Nat) (hm:xs.length<m):L m [] 0=k (xs.map nm):=by
 refine loop (L:=fun m i s=>L m s i) xs.length (fun i s=>s=(xs.take i).map nm) (fun o=>o=k (xs.map nm)) ?_ ?_ m 0 [] (by omega) (by omega) (by simp)
 ·intro m i s hi e
  refine .inl ⟨s++[nm xs[i]],?_,?_⟩
  ·rw [e,List.take_succ_eq_append_getElem hi,List.map_append];rfl
  ·have:s.length=i:=by rw [e];simp;omega
   show L (m+1) s (i:Int)=_
   rw [hs m i hi,BL (by simp;omega) (by omega),Ao]
 ·intro m s e
  rw [List.take_length]at e
  show L (m+1) s (xs.length:Int)=_
  rw [he,e]
def TD(N B:Nat)(t:List Int):Prop:=t.length=N∧∀j,0<=gd t j∧gd t j<=B
theorem TD.bump{N B:Nat}{t:List Int}{q:Int}(h:TD N B t)(h0:0<=q)(h1:q<N):TD N (B+1) (IR t q):=by
 refine⟨by unfold IR;simpa using h.1,fun j=>?_⟩
 unfold IR
 rw [OG (by have:=h.1;omega)]
 have:=h.2 j;have:=h.2 q.toNat
 split<;>omega
theorem TD.up{N B:Nat}{t:List Int}(h:TD N B t):TD N (B+1) t:=⟨h.1,fun j=>by have:=h.2 j;omega⟩
theorem TD.step{N B:Nat}{t:List Int}{q:Int}(h:TD N B t)(h0:0<=q)(h1:q<N)(hB:B<=1048576):AM t q=some (gd t q.toNat)∧t.set q.toNat (wrap .i64 (gd t q.toNat+1))=IR t q:=by
 refine⟨Sl h0 (by rw [h.1];exact h1),?_⟩
 have:=h.2 q.toNat
 rw [Aq (by omega) (by omega)];rfl
theorem Ll{α σ:Type}{f:σ->α->σ}{xs:List α}{i:Nat}{s:σ}(h:i<xs.length):(xs.take (i+1)).foldl f s=f ((xs.take i).foldl f s) xs[i]:=by
 rw [List.take_succ_eq_append_getElem h,List.foldl_append];rfl
theorem tZ{n:Nat}{l:Az}{d:AX}(hl:RF l)(h:Ty d)(hn:1048577<=n):BQ ((∀x∈d.Instances,La l d x)∧∀p∈d.Ports,NJ d p) (gK n l d):=by
 have hi0:=h.inst.1;have hp0:=h.ports.1;have hn0:=h.nets.1;have hl0:=hl.few
 have wN:wrap .i64 ((d.Nets.length:Int)-1)=(d.Nets.length:Int)-1:=Aq (by omega) (by omega)
 have wL:wrap .i64 ((l.Cells.length:Int)-1)=(l.Cells.length:Int)-1:=Aq (by omega) (by omega)
 rw [gK]
 refine(EM (L:=fun m i=>IC n l d _ m i) (Q:=∀p∈d.Ports,NJ d p) d.Instances.length 0 (fun i=>∀(hi:i<d.Instances.length),La l d d.Instances[i]) ?_ ?_ n 0 (by omega) (by omega) (by omega) (fun j _ h=>by omega)).iff ⟨fun a=>⟨fun x hx=>?_,a.2⟩,fun a=>⟨fun i _ _ hi=>a.1 _ (List.getElem_mem hi),a.2⟩⟩
 ·intro m i _ hi
  simp only [IC.eq_2,Cj hi,cT,AU hi,Ao,HI,wL,wT i]
  by_cases c1:0<=d.Instances[i].Cell∧d.Instances[i].Cell<=(l.Cells.length:Int)-1
  ·obtain⟨c,ec,hc⟩:=El (xs:=l.Cells) c1.1 (by omega)
   have d1:(decide (d.Instances[i].Cell>=0)&&decide (d.Instances[i].Cell<=(l.Cells.length:Int)-1))=true:=by simp only [Bool.and_eq_true,decide_eq_true_eq];omega
   simp only [d1,Bool.not_true,cF,ec,Ao]
   by_cases c2:d.Instances[i].Nets.length=c.Pins.length
   ·have d2:((d.Instances[i].Nets.length:Int) !=(c.Pins.length:Int))=false:=by rw [bne_eq_false_iff_eq];omega
    simp only [d2,cF]
    have hnl:=(h.inst.2 _ (List.getElem_mem hi)).2
    have key:Jr n d d.Instances[i] (fun i75=>IC n l d (fun i25=>ID n d (fun i30=>some true) n 0) m ((i+1:Nat):Int)) n 0=cond (d.Instances[i].Nets.all (fun k=>decide (k>=0)&&decide (k<=(d.Nets.length:Int)-1))) (IC n l d (fun i25=>ID n d (fun i30=>some true) n 0) m ((i+1:Nat):Int)) (some false):=by
     refine OS (xs:=d.Instances[i].Nets) (L:=fun q j=>Jr n d d.Instances[i] (fun i75=>IC n l d (fun i25=>ID n d (fun i30=>some true) n 0) m ((i+1:Nat):Int)) q j) _ ?_ ?_ n (by omega)
     ·intro q j hj
      simp only [Jr.eq_2,Cj hj,cT,AU hj,Ao,HI,wN,wT j]
      cases(decide (d.Instances[i].Nets[j]>=0)&&decide (d.Instances[i].Nets[j]<=(d.Nets.length:Int)-1))<;>rfl
     ·intro q
      simp only [Jr.eq_2,DB,cF]
    rw [key]
    cases ha:d.Instances[i].Nets.all (fun k=>decide (k>=0)&&decide (k<=(d.Nets.length:Int)-1))with
    |true=>
     rw [cT]
     exact .inl ⟨fun _=>⟨c1,fun c' e'=>(by rw [ec]at e';cases e';exact c2),OO.1 ha⟩,rfl⟩
    |false=>
     rw [cF]
     exact .inr ⟨fun g=>(by have:=OO.2 (g hi).nets;rw [ha]at this;cases this),rfl⟩
   ·have d2:((d.Instances[i].Nets.length:Int) !=(c.Pins.length:Int))=true:=by rw [bne_iff_ne];omega
    simp only [d2,cT]
    exact .inr ⟨fun g=>c2 ((g hi).pins c ec),by trivial⟩
  ·have d1:(decide (d.Instances[i].Cell>=0)&&decide (d.Instances[i].Cell<=(l.Cells.length:Int)-1))=false:=by rw [Bool.and_eq_false_iff,decide_eq_false_iff_not,decide_eq_false_iff_not];omega
   simp only [d1,Bool.not_false,cT,Ao]
   exact .inr ⟨fun g=>c1 (g hi).cell,by trivial⟩
 ·intro m i h1 h2 _
  obtain rfl:i=d.Instances.length:=by omega
  simp only [IC.eq_2,DB,cF]
  refine(EM (L:=fun m i=>ID n d _ m i) (Q:=True) d.Ports.length 0 (fun i=>∀(hi:i<d.Ports.length),NJ d d.Ports[i]) ?_ ?_ n 0 (by omega) (by omega) (by omega) (fun j _ h=>by omega)).iff ⟨fun a p hp=>?_,fun a=>⟨fun i _ _ hi=>a _ (List.getElem_mem hi),trivial⟩⟩
  ·intro m i _ hi
   simp only [ID.eq_2,Cj hi,cT,AU hi,Ao,HI,wN,Dp,wT i]
   cases e1:(!(decide (d.Ports[i].Dir>=1)&&decide (d.Ports[i].Dir<=2))|| !(decide (d.Ports[i].Net>=0)&&decide (d.Ports[i].Net<=(d.Nets.length:Int)-1)))with
   |true=>
    rw [cT]
    refine .inr ⟨fun g=>?_,rfl⟩
    have:=(g hi).dir;have:=(g hi).net
    simp only [Bool.or_eq_true,Bool.not_eq_true',Bool.and_eq_false_iff,decide_eq_false_iff_not]at e1;omega
   |false=>
    rw [cF]
    simp only [Bool.or_eq_false_iff,Bool.not_eq_false',Bool.and_eq_true,decide_eq_true_eq]at e1
    exact .inl ⟨fun _=>⟨by omega,by omega⟩,rfl⟩
  ·intro m i h1 h2 _
   obtain rfl:i=d.Ports.length:=by omega
   simp only [ID.eq_2,DB,cF]
   exact Ca trivial
  ·obtain⟨j,hj,rfl⟩:=List.getElem_of_mem hp
   exact a.1 j (by omega) hj hj
 ·obtain⟨j,hj,rfl⟩:=List.getElem_of_mem hx
  exact a.1 j (by omega) hj hj
theorem rZ{n:Nat}{l:Az}{d:AX}(h:SC l)(hd:Ty d)(hn:1048577<=n):BQ (Cw l d) (hD n l d):=by
 have hi0:=hd.inst.1;have hp0:=hd.ports.1;have hn0:=hd.nets.1
 rw [hD]
 refine(sO h hn).bind (fun vl=>?_) (fun vl=>?_)
 ·simp only [Bool.not_true,Bool.false_or]
  by_cases c:(d.Instances.length<=14∧d.Nets.length<=30)∧d.Ports.length<=8
  ·have e:(decide ((d.Instances.length:Int)>14)||decide ((d.Nets.length:Int)>30)||decide ((d.Ports.length:Int)>8))=false:=by simp only [Bool.or_eq_false_iff,decide_eq_false_iff_not];omega
   simp only [e,cF]
   obtain⟨b,eb,hb⟩:=tZ (n:=n) vl hd hn
   rw [eb,Ao,Ao]
   cases b with
   |false=>
    simp only [Bool.not_false,cT]
    exact BN fun v=>by have:=hb.2 ⟨v.inst,v.port⟩;cases this
   |true=>
    obtain⟨v1,v2⟩:=hb.1 rfl
    simp only [Bool.not_true,cF]
    rw [Jb (xs:=d.Instances) (·.Name) (L:=fun m s i=>Lg d _ m s i) (k:=fun s=>Jy d _ n [] 0) hi0 (by
     intro m i hi s
     simp only [Lg.eq_2,Cj hi,cT,AU hi,Ao,wT i]) (by
     intro m s
     simp only [Lg.eq_2,DB,cF];rfl) n (by omega)]
    rw [Jb (xs:=d.Ports) (·.Name) (L:=fun m s i=>Jy d _ m s i) hp0 (by
     intro m i hi s
     simp only [Jy.eq_2,Cj hi,cT,AU hi,Ao,wT i]) (by
     intro m s
     simp only [Jy.eq_2,DB,cF];rfl) n (by omega)]
    obtain⟨b1,e1,h1⟩:=aY (n:=n) (xs:=d.Instances.map (·.Name)) (by simpa using hi0) (fun x hx=>by obtain⟨y,hy,rfl⟩:=List.mem_map.1 hx;exact(hd.inst.2 y hy).1) hn
    obtain⟨b2,e2,h2⟩:=aY (n:=n) (xs:=d.Ports.map (·.Name)) (by simpa using hp0) (fun x hx=>by obtain⟨y,hy,rfl⟩:=List.mem_map.1 hx;exact hd.ports.2 y hy) hn
    obtain⟨b3,e3,h3⟩:=aY (n:=n) (xs:=d.Nets) hn0 hd.nets.2 hn
    simp only [e1,e2,e3,Ao,Dp]
    cases eb:((!b1|| !b2)|| !b3)with
    |true=>
     rw [cT]
     refine BN fun v=>?_
     have:=h1.2 v.ni;have:=h2.2 v.np;have:=h3.2 v.nn
     subst b1 b2 b3;cases eb
    |false=>
     rw [cF]
     simp only [Bool.or_eq_false_iff,Bool.not_eq_false']at eb
     obtain⟨⟨rfl,rfl⟩,rfl⟩:=eb
     rw [EA (by omega) (by omega),Ao]
     have k1:=PT (xs:=d.Instances) (L:=fun m i s=>Ln d (fun i149 l151=>IB d (fun i155 l157=>GV l157 (fun i161=>some true) n 0) n 0 l151) m i s) (k:=fun s=>IB d (fun i155 l157=>GV l157 (fun i161=>some true) n 0) n 0 s) cI (fun i s=>TD d.Nets.length i s) (by
      intro m i hi s hs
      have hv:=v1 _ (List.getElem_mem hi)
      have hv2:=hv.long vl
      obtain⟨q0,q1⟩:=hv.last vl
      obtain⟨g1,g2⟩:=hs.step q0 q1 (by omega)
      have wx:wrap .i64 ((d.Instances[i].Nets.length:Int)-1)=((d.Instances[i].Nets.length-1:Nat):Int):=by rw [Aq (by omega) (by omega)];omega
      refine⟨?_,hs.bump q0 q1⟩
      simp only [Ln.eq_2,Cj hi,cT,AU hi,Ao,wx,gI (show d.Instances[i].Nets.length-1<d.Instances[i].Nets.length by omega),wT i]
      rw [show gd d.Instances[i].Nets (d.Instances[i].Nets.length-1)=Kj d.Instances[i]from rfl,g1,Ao,Ao,g2];rfl) (by
      intro m s _
      simp only [Ln.eq_2,DB,cF]) n (List.replicate d.Nets.length 0) ⟨by simp,fun j=>by rw [OK];omega⟩ (by omega)
     rw [k1.1]
     have k2:=PT (xs:=d.Ports) (L:=fun m i s=>IB d (fun i155 l157=>GV l157 (fun i161=>some true) n 0) m i s) (k:=fun s=>GV s (fun i161=>some true) n 0) cP (fun i s=>TD d.Nets.length (d.Instances.length+i) s) (by
      intro m i hi s hs
      have hv:=v2 _ (List.getElem_mem hi)
      obtain⟨g1,g2⟩:=hs.step hv.net.1 (by have:=hv.net.2;omega) (by omega)
      simp only [IB.eq_2,Cj hi,cT,AU hi,Ao,wT i,g1,g2]
      by_cases c:d.Ports[i].Dir=1
      ·have e:(d.Ports[i].Dir==1)=true:=beq_iff_eq.2 c
       have e':cP s d.Ports[i]=IR s d.Ports[i].Net:=if_pos c
       rw [e,cT,e']
       exact⟨rfl,hs.bump hv.net.1 (by have:=hv.net.2;omega)⟩
      ·have e:(d.Ports[i].Dir==1)=false:=beq_eq_false_iff_ne.2 c
       have e':cP s d.Ports[i]=s:=if_neg c
       rw [e,cF,e']
       exact⟨rfl,hs.up⟩) (by
      intro m s _
      simp only [IB.eq_2,DB,cF]) n _ k1.2 (by omega)
     rw [k2.1]
     show BQ _ (GV (drv d) (fun i161=>some true) n 0)
     have hlen:(drv d).length=d.Nets.length:=k2.2.1
     refine(EM (L:=fun m i=>GV (drv d) (fun i161=>some true) m i) (Q:=True) d.Nets.length 0 (fun i=>gd (drv d) i=1) ?_ ?_ n 0 (by omega) (by omega) (by omega) (fun j _ h=>by omega)).iff ⟨fun a=>⟨vl,⟨c.1.1,c.1.2,c.2⟩,v1,v2,h1.1 rfl,h2.1 rfl,h3.1 rfl,fun i hi=>a.1 i (by omega) hi⟩,fun v=>⟨fun i _ hi=>v.one i hi,trivial⟩⟩
     ·intro m i _ hi
      have hi':i<(drv d).length:=by omega
      simp only [GV.eq_2,Cj hi',cT,gI hi',Ao,wT i]
      by_cases c:gd (drv d) i=1
      ·have e:(gd (drv d) i !=1)=false:=bne_eq_false_iff_eq.2 c
       rw [e,cF];exact .inl ⟨c,rfl⟩
      ·have e:(gd (drv d) i !=1)=true:=bne_iff_ne.2 c
       rw [e,cT];exact .inr ⟨c,rfl⟩
     ·intro m i q1 q2 _
      obtain rfl:i=d.Nets.length:=by omega
      rw [←hlen]
      simp only [GV.eq_2,DB,cF]
      exact Ca trivial
  ·have e:(decide ((d.Instances.length:Int)>14)||decide ((d.Nets.length:Int)>30)||decide ((d.Ports.length:Int)>8))=true:=by simp only [Bool.or_eq_true,decide_eq_true_eq];omega
   simp only [e,cT,Ao]
   exact BN fun v=>c ⟨⟨v.few.1,v.few.2.1⟩,v.few.2.2⟩
 ·simp only [Bool.not_false,Bool.true_or,cT,Ao]
  exact BN fun v=>vl v.lib
theorem rW{n:Nat}{d:AX}(hd:Ty d)(hn:1048577<=n):BQ (((((d.Instances.length<=14∧d.Nets.length<=30)∧d.Ports.length<=8)∧Fz (d.Instances.map (·.Name)))∧Fz d.Nets)∧Fz (d.Ports.map (·.Name))) (VF n d):=by
 have hi0:=hd.inst.1;have hp0:=hd.ports.1;have hn0:=hd.nets.1
 rw [VF]
 rw [Jb (xs:=d.Instances) (·.Name) (L:=fun m s i=>Ia d _ m s i) (k:=fun s=>Hk d _ n [] 0) hi0 (by
  intro m i hi s
  simp only [Ia.eq_2,Cj hi,cT,AU hi,Ao,wT i]) (by
  intro m s
  simp only [Ia.eq_2,DB,cF];rfl) n (by omega)]
 rw [Jb (xs:=d.Ports) (·.Name) (L:=fun m s i=>Hk d _ m s i) hp0 (by
  intro m i hi s
  simp only [Hk.eq_2,Cj hi,cT,AU hi,Ao,wT i]) (by
  intro m s
  simp only [Hk.eq_2,DB,cF];rfl) n (by omega)]
 simp only [IU,List.length_map]
 refine BQ.ab (BQ.and (P:=(d.Instances.length<=14∧d.Nets.length<=30)∧d.Ports.length<=8) (Q:=Fz (d.Instances.map fun x:Av=>x.Name)) ?_ fun _=>AN (xs:=d.Instances.map fun x:Av=>x.Name) (by simpa using hi0) (fun x hx=>by obtain⟨y,hy,rfl⟩:=List.mem_map.1 hx;exact(hd.inst.2 y hy).1) hn) fun c1 e1=>?_
 ·simp only [Bool.and_eq_true,decide_eq_true_eq];omega
 refine BQ.ab (BQ.and (Q:=Fz d.Nets) e1 fun _=>AN hn0 hd.nets.2 hn) fun c2 e2=>?_
 exact BQ.and (Q:=Fz (d.Ports.map fun x:CI=>x.Name)) e2 fun _=>AN (xs:=d.Ports.map fun x:CI=>x.Name) (by simpa using hp0) (fun x hx=>by obtain⟨y,hy,rfl⟩:=List.mem_map.1 hx;exact hd.ports.2 y hy) hn
theorem nN{n:Nat}{d:AX}{q:Int}(hn0:d.Nets.length<=1048576):TW n d q=some (decide (q>=0)&&decide (q<=(d.Nets.length:Int)-1)):=by
 have wN:wrap .i64 ((d.Nets.length:Int)-1)=(d.Nets.length:Int)-1:=Aq (by omega) (by omega)
 simp only [TW,XT,Jw,Ao,wN]
theorem kI{n:Nat}{l:Az}{d:AX}{x:Av}(hl:RF l)(hn0:d.Nets.length<=1048576)(hx:x.Nets.length<=1048576)(hn:1048577<=n):BQ (La l d x) (VJ n d l x):=by
 have hl0:=hl.few
 have wL:wrap .i64 ((l.Cells.length:Int)-1)=(l.Cells.length:Int)-1:=Aq (by omega) (by omega)
 rw [VJ]
 simp only [Xn,Jw,Ao,wL,IU]
 by_cases c1:0<=x.Cell∧x.Cell<=(l.Cells.length:Int)-1
 ·obtain⟨c,ec,hc⟩:=El (xs:=l.Cells) c1.1 (by omega)
  have d1:(decide (x.Cell>=0)&&decide (x.Cell<=(l.Cells.length:Int)-1))=true:=by simp only [Bool.and_eq_true,decide_eq_true_eq];omega
  simp only [d1,cT,ec,Ao]
  by_cases c2:x.Nets.length=c.Pins.length
  ·have d2:((x.Nets.length:Int)==(c.Pins.length:Int))=true:=by rw [beq_iff_eq];omega
   simp only [d2,cT,XJ,YI]
   obtain⟨r,e,h⟩:=KO (xs:=x.Nets) (L:=fun m i=>JE n x.Nets d (fun i7=>(some (-1))) m i) (fun q=>!((decide (q>=0))&&(decide (q<=(d.Nets.length:Int)-1)))) (by
    intro m i hi
    simp only [JE.eq_2,Cj hi,cT,AU hi,Ao,YU,nN hn0,wT i]) (by
    intro m
    simp only [JE.eq_2,DB,cF]) n (by omega)
   simp only [e,Ao]
   refine(BY (P:=Xx x.Nets 0 ((d.Nets.length:Int)-1)) ?_).iff ⟨fun w=>⟨c1,fun c' e'=>(by rw [ec]at e';cases e';exact c2),w⟩,fun v=>v.nets⟩
   rw [h,List.any_eq_not_all_not,Bool.not_not]
   simp only [Bool.not_not]
   exact OO
  ·have d2:((x.Nets.length:Int)==(c.Pins.length:Int))=false:=by rw [beq_eq_false_iff_ne];omega
   simp only [d2,cF]
   exact BN fun v=>c2 (v.pins c ec)
 ·have d1:(decide (x.Cell>=0)&&decide (x.Cell<=(l.Cells.length:Int)-1))=false:=by rw [Bool.and_eq_false_iff,decide_eq_false_iff_not,decide_eq_false_iff_not];omega
  simp only [d1,cF,Ao]
  exact BN fun v=>c1 v.cell
theorem rR{n:Nat}{l:Az}{d:AX}(h:SC l)(hd:Ty d)(hn:1048577<=n):BQ (Cw l d) (Wl n l d):=by
 have hi0:=hd.inst.1;have hp0:=hd.ports.1;have hn0:=hd.nets.1
 rw [Wl]
 refine(tM h hn).bind (fun vl=>?_) (fun vl=>?_)
 ·simp only [Bool.not_true,cF]
  obtain⟨b,eb,hb⟩:=rW (n:=n) hd hn
  rw [eb,Ao,Ao]
  cases b with
  |false=>
   simp only [Bool.not_false,cT]
   exact BN fun v=>by have:=hb.2 ⟨⟨⟨⟨⟨v.few.1,v.few.2.1⟩,v.few.2.2⟩,v.ni⟩,v.nn⟩,v.np⟩;cases this
  |true=>
   obtain⟨⟨⟨c,hni⟩,hnn⟩,hnp⟩:=hb.1 rfl
   simp only [Bool.not_true,cF]
   rw [EA (by omega) (by omega),Ao]
   refine loop (L:=fun m i s=>JN n l d _ m i s) d.Instances.length (fun i s=>(s=(d.Instances.take i).foldl cI (List.replicate d.Nets.length 0)∧TD d.Nets.length i s)∧∀j (hj:j<d.Instances.length),j<i->La l d d.Instances[j]) (fun o=>BQ (Cw l d) o) ?_ ?_ n 0 _ (by omega) (by omega) ⟨⟨by simp,⟨by simp,fun j=>by rw [OK];omega⟩⟩,fun j _ h=>by omega⟩
   ·intro m i s hi ⟨⟨hs,hc⟩,hI⟩
    obtain⟨b,eb,hb⟩:=kI (n:=n) vl hn0 (hd.inst.2 _ (List.getElem_mem hi)).2 hn
    simp only [JN.eq_2,Cj hi,cT,AU hi,Ao,eb,wT i]
    cases b with
    |false=>
     simp only [Bool.not_false,cT]
     exact .inr (BN fun v=>by have:=hb.2 (v.inst _ (List.getElem_mem hi));cases this)
    |true=>
     simp only [Bool.not_true,cF]
     have hv:=hb.1 rfl
     have hv2:=hv.long vl
     obtain⟨q0,q1⟩:=hv.last vl
     obtain⟨g1,g2⟩:=hc.step q0 q1 (by omega)
     have wx:wrap .i64 ((d.Instances[i].Nets.length:Int)-1)=((d.Instances[i].Nets.length-1:Nat):Int):=by rw [Aq (by omega) (by omega)];omega
     refine .inl ⟨cI s d.Instances[i],⟨⟨by rw [Ll hi,hs],hc.bump q0 q1⟩,fun j hj hji=>?_⟩,?_⟩
     ·by_cases ej:j=i
      ·subst ej;exact hv
      ·exact hI j hj (by omega)
     ·rw [wx,gI (show d.Instances[i].Nets.length-1<d.Instances[i].Nets.length by omega),show gd d.Instances[i].Nets (d.Instances[i].Nets.length-1)=Kj d.Instances[i]from rfl,Ao,g1,Ao,Ao,g2];rfl
   ·intro m s ⟨⟨hs,hc⟩,hI⟩
    rw [List.take_length]at hs
    have v1:∀x∈d.Instances,La l d x:=fun x hx=>by obtain⟨j,hj,rfl⟩:=List.getElem_of_mem hx;exact hI j hj hj
    simp only [JN.eq_2,DB,cF]
    refine loop (L:=fun m i s=>Hf n d _ m i s) d.Ports.length (fun i s'=>(s'=(d.Ports.take i).foldl cP s∧TD d.Nets.length (d.Instances.length+i) s')∧∀j (hj:j<d.Ports.length),j<i->NJ d d.Ports[j]) (fun o=>BQ (Cw l d) o) ?_ ?_ n 0 _ (by omega) (by omega) ⟨⟨by simp,hc⟩,fun j _ h=>by omega⟩
    ·intro m i s' hi ⟨⟨hs',hc'⟩,hI'⟩
     simp only [Hf.eq_2,Cj hi,cT,AU hi,Ao,nN hn0,Dp,wT i]
     cases e1:(((d.Ports[i].Dir !=1)&&(d.Ports[i].Dir !=2))|| !(decide (d.Ports[i].Net>=0)&&decide (d.Ports[i].Net<=(d.Nets.length:Int)-1)))with
     |true=>
      rw [cT]
      refine .inr (BN fun v=>?_)
      have g:=v.port _ (List.getElem_mem hi)
      have:=g.dir;have:=g.net
      simp only [Bool.or_eq_true,Bool.not_eq_true',Bool.and_eq_false_iff,Bool.and_eq_true,decide_eq_false_iff_not,bne_iff_ne,ne_eq]at e1;omega
     |false=>
      rw [cF]
      simp only [Bool.or_eq_false_iff,Bool.not_eq_false',Bool.and_eq_true,Bool.and_eq_false_iff,decide_eq_true_eq,bne_eq_false_iff_eq]at e1
      have hv:NJ d d.Ports[i]:=⟨e1.1,e1.2⟩
      obtain⟨g1,g2⟩:=hc'.step hv.net.1 (by have:=hv.net.2;omega) (by omega)
      have hV:∀j (hj:j<d.Ports.length),j<i+1->NJ d d.Ports[j]:=fun j hj hji=>by
       by_cases ej:j=i
       ·subst ej;exact hv
       ·exact hI' j hj (by omega)
      simp only [g1,g2,Ao]
      by_cases c:d.Ports[i].Dir=1
      ·have e:(d.Ports[i].Dir==1)=true:=beq_iff_eq.2 c
       have e':cP s' d.Ports[i]=IR s' d.Ports[i].Net:=if_pos c
       rw [e,cT]
       exact .inl ⟨_,⟨⟨by rw [Ll hi,←hs',e'],hc'.bump hv.net.1 (by have:=hv.net.2;omega)⟩,hV⟩,rfl⟩
      ·have e:(d.Ports[i].Dir==1)=false:=beq_eq_false_iff_ne.2 c
       have e':cP s' d.Ports[i]=s':=if_neg c
       rw [e,cF]
       exact .inl ⟨_,⟨⟨by rw [Ll hi,←hs',e'],hc'.up⟩,hV⟩,rfl⟩
    ·intro m s' ⟨⟨hs',hc'⟩,hI'⟩
     rw [List.take_length,hs]at hs'
     have hs':s'=drv d:=hs'
     have v2:∀p∈d.Ports,NJ d p:=fun x hx=>by obtain⟨j,hj,rfl⟩:=List.getElem_of_mem hx;exact hI' j hj hj
     simp only [Hf.eq_2,DB,cF,YM,YW]
     have hl':=hc'.1
     obtain⟨r,e,h⟩:=KO (xs:=s') (L:=fun m i=>IZ n s' (fun i7=>(some (-1))) m i) (fun q=>q !=1) (by
      intro m i hi
      simp only [IZ.eq_2,Cj hi,cT,AU hi,Ao,Xg,wT i]) (by
      intro m
      simp only [IZ.eq_2,DB,cF]) n (by omega)
     simp only [e,Ao]
     refine BY ?_
     rw [h,Bool.not_eq_true',List.any_eq_false]
     refine⟨fun a=>⟨vl,⟨c.1.1,c.1.2,c.2⟩,v1,v2,hni,hnp,hnn,fun i hi=>?_⟩,fun v x hx=>?_⟩
     ·have:=a s'[i] (List.getElem_mem (by omega))
      rw [←hs',MI (List.getElem?_eq_getElem (show i<s'.length by omega))]
      simpa using this
     ·obtain⟨j,hj,rfl⟩:=List.getElem_of_mem hx
      have:=v.one j (by omega)
      rw [←hs',MI (List.getElem?_eq_getElem hj)]at this
      simp [this]
 ·simp only [Bool.not_false,cT,Ao]
  exact BN fun v=>vl v.lib
def Ex{α β:Type}(g:Nat->α->List β):Nat->List α->List β
 |_,[]=>[]
 |i,x::xs=>g i x++Ex g (i+1) xs
theorem ME{α β:Type}{g:Nat->α->List β}:∀(xs ys:List α) (i:Nat),Ex g i (xs++ys)=Ex g i xs++Ex g (i+xs.length) ys
 |[],ys,i=>by simp [Ex]
 |x::xs,ys,i=>by simp only [List.cons_append,Ex,ME xs ys (i+1),List.append_assoc,List.length_cons];rw [show i+1+xs.length=i+(xs.length+1) by omega]
theorem Wi{α β:Type}{g:Nat->α->List β}{xs:List α}{i:Nat}(h:i<xs.length):Ex g 0 (xs.take (i+1))=Ex g 0 (xs.take i)++g i xs[i]:=by
 rw [List.take_succ_eq_append_getElem h,ME]
 simp [Ex,Nat.min_eq_left (Nat.le_of_lt h)]
theorem FG{α β:Type}{g:Nat->α->List β}{c:Nat}:∀(xs:List α) (i:Nat),(∀j,∀x∈xs,(g j x).length<=c)->(Ex g i xs).length<=xs.length*c
 |[],i,_=>by simp [Ex]
 |x::xs,i,h=>by
  have h1:=h i x (by simp)
  have h2:=FG xs (i+1) fun j y hy=>h j y (by simp [hy])
  simp only [Ex,List.length_append,List.length_cons,Nat.add_mul];omega
theorem Pj{α β γ:Type}{g:Nat->α->List β}(f:β->γ):∀(xs:List α) (i:Nat),(Ex g i xs).map f=Ex (fun i x=>(g i x).map f) i xs
 |[],i=>rfl
 |x::xs,i=>by simp only [Ex,List.map_append,Pj f xs (i+1)]
theorem Du{α β R:Type}{xs:List α}{L:Nat->List β->Int->Option R}{k:List β->Option R}(g:Nat->α->List β)(c B:Nat)(hg:∀j,∀x∈xs,(g j x).length<=c)(hB:B+xs.length*c<=1048576)
 (hs:∀(m i:Nat) (h:i<xs.length) (s:List β),s.length+c<=1048576->L (m+1) s (i:Int)=L m (s++g i xs[i]) ((i+1:Nat):Int))
 (he:∀(m:Nat) (s:List β),L (m+1) s (xs.length:Int)=k s) (m:Nat) (hm:xs.length<m) (s0:List β) (h0:s0.length<=B):L m s0 0=k (s0++Ex g 0 xs):=by
 refine loop (L:=fun m i s=>L m s i) xs.length (fun i s=>s=s0++Ex g 0 (xs.take i)) (fun o=>o=k (s0++Ex g 0 xs)) ?_ ?_ m 0 s0 (by omega) (by omega) (by simp [Ex])
 ·intro m i s hi e
  refine .inl ⟨s++g i xs[i],?_,hs m i hi s ?_⟩
  ·rw [e,Wi hi,List.append_assoc]
  ·have h1:=FG (g:=g) (c:=c) (xs.take i) 0 fun j y hy=>hg j y (List.mem_of_mem_take hy)
   have h2:(xs.take i).length=i:=by simp;omega
   rw [h2]at h1
   have h3:(i+1)*c<=xs.length*c:=Nat.mul_le_mul_right c hi
   rw [Nat.add_mul]at h3
   rw [e,List.length_append];omega
 ·intro m s e
  rw [List.take_length]at e
  show L (m+1) s (xs.length:Int)=_
  rw [he,e]
def NO(i:Nat)(x:Av):List BD:=Ex (fun j q=>[BD.mk i j q ((j:Int)==(x.Nets.length:Int)-1)]) 0 x.Nets
def TY(i:Nat)(p:CI):List BD:=[BD.mk (-1) i p.Net (p.Dir==1)]
def pls(d:AX):List BD:=Ex NO 0 d.Instances++Ex TY 0 d.Ports
def Gj(p:BD):BI:=⟨p.instance_,p.pin_,p.net_,p.drives_⟩
theorem Nh{i:Nat}{x:Av}(h:x.Nets.length<=5):(NO i x).length<=5:=by
 have:=FG (c:=1) (g:=fun j q=>[BD.mk i j q ((j:Int)==(x.Nets.length:Int)-1)]) x.Nets 0 fun j q _=>by simp
 unfold NO;omega
theorem CB{d:AX}(h:∀x∈d.Instances,x.Nets.length<=5)(h1:d.Instances.length<=14)(h2:d.Ports.length<=8):(pls d).length<=78:=by
 have a:=FG (c:=5) (g:=NO) d.Instances 0 fun j q hq=>Nh (h q hq)
 have b:=FG (c:=1) (g:=TY) d.Ports 0 fun j q _=>by simp [TY]
 unfold pls;rw [List.length_append];omega
theorem Xo{n:Nat}{d:AX}(h:∀x∈d.Instances,x.Nets.length<=5)(h1:d.Instances.length<=14)(h2:d.Ports.length<=8)(hn:1048577<=n):Yt n d=some (pls d):=by
 rw [Yt]
 have a:=FG (c:=5) (g:=NO) d.Instances 0 fun j q hq=>Nh (h q hq)
 rw [Du (xs:=d.Instances) (L:=fun m s i=>Ka n d _ m s i) (k:=fun s=>KE d _ n s 0) NO 5 0 (fun j q hq=>Nh (h q hq)) (by omega) (by
  intro m i hi s hs
  have hx:=h _ (List.getElem_mem hi)
  have wx:wrap .i64 ((d.Instances[i].Nets.length:Int)-1)=(d.Instances[i].Nets.length:Int)-1:=Aq (by omega) (by omega)
  simp only [Ka.eq_2,Cj hi,cT,AU hi,Ao,wT i]
  refine Du (xs:=d.Instances[i].Nets) (L:=fun m s j=>Ly (i:Int) d.Instances[i] _ m s j) (k:=fun s=>Ka n d _ m s ((i+1:Nat):Int)) (fun j q=>[BD.mk i j q ((j:Int)==(d.Instances[i].Nets.length:Int)-1)]) 1 s.length (fun j q _=>by simp) (by omega) ?_ ?_ n (by omega) s (by omega)
  ·intro m j hj s hs
   simp only [Ly.eq_2,Cj hj,cT,AU hj,Ao,wx,wT j]
   rw [BL (by simp;omega) (by omega),Ao]
  ·intro m s
   simp only [Ly.eq_2,DB,cF]) (by
  intro m s
  simp only [Ka.eq_2,DB,cF];rfl) n (by omega) [] (by simp)]
 rw [Du (xs:=d.Ports) (L:=fun m s i=>KE d _ m s i) (k:=fun s=>some s) TY 1 70 (fun j q _=>by simp [TY]) (by omega) (by
  intro m i hi s hs
  simp only [KE.eq_2,Cj hi,cT,AU hi,Ao,wT i]
  rw [BL (by simp;omega) (by omega),Ao];rfl) (by
  intro m s
  simp only [KE.eq_2,DB,cF]) n (by omega) _ (by simp;omega)]
 simp [pls]
theorem Oq{n:Nat}{d:AX}(h:∀x∈d.Instances,x.Nets.length<=5)(h1:d.Instances.length<=14)(h2:d.Ports.length<=8)(hn:1048577<=n):Sf n d=some ((pls d).map Gj):=by
 rw [Sf]
 have hlI:∀j,∀x∈d.Instances,((NO j x).map Gj).length<=5:=fun j x hx=>by rw [List.length_map];exact Nh (h x hx)
 have a:=FG (c:=5) (g:=fun i x=>(NO i x).map Gj) d.Instances 0 hlI
 rw [Du (xs:=d.Instances) (L:=fun m s i=>KT n d _ m s i) (k:=fun s=>Kb d _ n s 0) (fun i x=>(NO i x).map Gj) 5 0 hlI (by omega) (by
  intro m i hi s hs
  have hx:=h _ (List.getElem_mem hi)
  have wx:wrap .i64 ((d.Instances[i].Nets.length:Int)-1)=(d.Instances[i].Nets.length:Int)-1:=Aq (by omega) (by omega)
  simp only [KT.eq_2,Cj hi,cT,AU hi,Ao,wT i]
  rw [NO,Pj]
  refine Du (xs:=d.Instances[i].Nets) (L:=fun m s j=>Lq (i:Int) d.Instances[i] _ m s j) (k:=fun s=>KT n d _ m s ((i+1:Nat):Int)) (fun j q=>[BD.mk i j q ((j:Int)==(d.Instances[i].Nets.length:Int)-1)].map Gj) 1 s.length (fun j q _=>by simp) (by omega) ?_ ?_ n (by omega) s (by omega)
  ·intro m j hj s hs
   simp only [Lq.eq_2,Cj hj,cT,AU hj,Ao,wx,wT j]
   rw [BL (by simp;omega) (by omega),Ao];rfl
  ·intro m s
   simp only [Lq.eq_2,DB,cF]) (by
  intro m s
  simp only [KT.eq_2,DB,cF];rfl) n (by omega) [] (by simp)]
 rw [Du (xs:=d.Ports) (L:=fun m s i=>Kb d _ m s i) (k:=fun s=>some s) (fun i x=>(TY i x).map Gj) 1 70 (fun j q _=>by simp [TY]) (by omega) (by
  intro m i hi s hs
  simp only [Kb.eq_2,Cj hi,cT,AU hi,Ao,wT i]
  rw [BL (by simp;omega) (by omega),Ao];rfl) (by
  intro m s
  simp only [Kb.eq_2,DB,cF]) n (by omega) _ (by simp;omega)]
 simp [pls,Pj]
def GY(q:Int)(p:BD):Bool:=p.net_==q&& !p.drives_
def snk(d:AX)(q:Int):Nat:=(pls d).countP (GY q)
structure Bh(b:AF):Prop where
 design:Cw b.Library b.Design
 many:b.Wires.length=b.Design.Nets.length
 wire:∀i (h:i<b.Wires.length),QQ b.Wires[i] (snk b.Design i)
def tJ(w:BW):Prop:=((w.Parent.length<=1048576∧w.Res.length<=1048576)∧w.Cap.length<=1048576)∧w.Sink.length<=1048576
structure Jq(b:AF):Prop where
 lib:SC b.Library
 design:Ty b.Design
 wires:b.Wires.length<=1048576∧∀w∈b.Wires,tJ w
theorem Cw.short{l:Az}{d:AX}(v:Cw l d):∀x∈d.Instances,x.Nets.length<=5:=fun x hx=>((v.inst x hx).long v.lib).2
theorem DR{α β:Type}{g:Nat->α->List β}{Q:β->Prop}:∀(xs:List α) (i:Nat),(∀j (h:j<xs.length),∀y∈g (i+j) xs[j],Q y)->∀y∈Ex g i xs,Q y
 |[],i,_,y,hy=>by simp [Ex]at hy
 |x::xs,i,h,y,hy=>by
  simp only [Ex,List.mem_append]at hy
  rcases hy with hy|hy
  ·exact h 0 (by simp) y (by simpa using hy)
  ·refine DR xs (i+1) (fun j hj y hy=>h (j+1) (by simpa using hj) y ?_) y hy
   simpa [show i+1+j=i+(j+1) by omega] using hy
theorem Cw.net{l:Az}{d:AX}(v:Cw l d):∀p∈pls d,0<=p.net_∧p.net_<d.Nets.length:=by
 intro p hp
 simp only [pls,List.mem_append]at hp
 rcases hp with hp|hp
 ·refine DR (Q:=fun p:BD=>0<=p.net_∧p.net_<d.Nets.length) d.Instances 0 (fun j hj y hy=>?_) p hp
  refine DR (Q:=fun p:BD=>0<=p.net_∧p.net_<d.Nets.length) _ 0 (fun k hk z hz=>?_) y hy
  have:=(v.inst _ (List.getElem_mem hj)).nets k hk
  rw [MI (List.getElem?_eq_getElem hk)]at this
  simp only [List.mem_singleton]at hz
  subst hz;show 0<=d.Instances[j].Nets[k]∧d.Instances[j].Nets[k]<_;omega
 ·refine DR (Q:=fun p:BD=>0<=p.net_∧p.net_<d.Nets.length) d.Ports 0 (fun j hj y hy=>?_) p hp
  have:=(v.port _ (List.getElem_mem hj)).net
  simp only [TY,List.mem_singleton]at hy
  subst hy;show 0<=d.Ports[j].Net∧d.Ports[j].Net<_;omega
def JU(d:AX)(q:Int):List Int:=Ex (fun i p=>if GY q p=true then [(i:Int)]else []) 0 (pls d)
theorem GQ{d:AX}{q:Int}:(JU d q).length=snk d q:=by
 have:∀(xs:List BD) (i:Nat),(Ex (fun i p=>if GY q p=true then [(i:Int)]else []) i xs).length=xs.countP (GY q):=by
  intro xs
  induction xs with
  |nil=>intro i;rfl
  |cons x xs ih=>
   intro i
   simp only [Ex,List.length_append,ih,List.countP_cons]
   split<;>simp<;>omega
 exact this _ 0
theorem bE{n:Nat}{l:Az}{d:AX}(v:Cw l d)(q:Int)(hn:1048577<=n):XE n d q=some (JU d q):=by
 rw [XE,Oq v.short v.few.1 v.few.2.2 hn,Ao]
 have hl:=CB v.short v.few.1 v.few.2.2
 have e:((pls d).map Gj).length=(pls d).length:=by simp
 have:=Du (xs:=(pls d).map Gj) (L:=fun m s i=>HH q ((pls d).map Gj) (fun l38 i42=>some l38) m s i) (k:=fun s=>some s) (fun i p=>if (p.net_==q&& !p.drives_)=true then [(i:Int)]else []) 1 0 (fun j p _=>by split<;>simp) (by omega) (by
  intro m i hi s hs
  simp only [HH.eq_2,Cj hi,cT,AU hi,Ao,Bt,wT i]
  cases c:(((pls d).map Gj)[i].net_==q&& !((pls d).map Gj)[i].drives_)with
  |true=>rw [cT,if_pos rfl,BL (by simp;omega) (by omega),Ao]
  |false=>rw [cF,if_neg (by simp),List.append_nil]) (by
  intro m s
  simp only [HH.eq_2,DB,cF]) n (by omega) [] (by simp)
 rw [this,List.nil_append]
 congr 1
 have:∀(xs:List BD) (i:Nat),Ex (fun i (p:BI)=>if (p.net_==q&& !p.drives_)=true then [(i:Int)]else []) i (xs.map Gj)=Ex (fun i p=>if GY q p=true then [(i:Int)]else []) i xs:=by
  intro xs
  induction xs with
  |nil=>intro i;rfl
  |cons x xs ih=>intro i;simp only [List.map_cons,Ex,ih];rfl
 exact this _ 0
theorem Uj{n:Nat}{b:AF}(h:Jq b)(hn:1048577<=n):BQ (Bh b) (RS n b):=by
 have hw0:=h.wires.1
 rw [RS]
 refine(rZ h.lib h.design hn).bind (fun v=>?_) (fun v=>?_)
 ·simp only [Bool.not_true,Bool.false_or]
  refine Ep (fun c=>BN fun g=>?_) (fun c=>?_)
  ·have:=g.many;rw [bne_iff_ne]at c;omega
  ·rw [bne_eq_false_iff_eq]at c
   refine(EM (L:=fun m i=>MA n b _ m i) (Q:=True) b.Wires.length 0 (fun i=>∀(hi:i<b.Wires.length),QQ b.Wires[i] (snk b.Design i)) ?_ ?_ n 0 (by omega) (by omega) (by omega) (fun j _ h=>by omega)).iff ⟨fun a=>⟨v,by omega,fun i hi=>a.1 i (by omega) hi hi⟩,fun a=>⟨fun i _ _ hi=>a.wire i hi,trivial⟩⟩
   ·intro m i _ hi
    obtain⟨r,e,hr⟩:=tT (n:=n) (w:=b.Wires[i]) (s:=(snk b.Design i:Int)) (h.wires.2 _ (List.getElem_mem hi)).2 hn
    simp only [MA.eq_2,Cj hi,cT,AU hi,Ao,bE v _ hn,GQ,e,wT i]
    cases r with
    |true=>exact .inl ⟨fun _=>hr.1 rfl,by trivial⟩
    |false=>exact .inr ⟨fun g=>(by have:=hr.2 (g hi);cases this),by trivial⟩
   ·intro m i h1 h2 _
    obtain rfl:i=b.Wires.length:=by omega
    simp only [MA.eq_2,DB,cF]
    exact Ca trivial
 ·simp only [Bool.not_false,Bool.true_or,cT]
  exact BN fun g=>v g.design
theorem rH{n:Nat}{b:AF}(h:Jq b)(hn:1048577<=n):BQ (Bh b) (dE n b):=by
 have hw0:=h.wires.1
 rw [dE]
 refine(rR h.lib h.design hn).bind (fun v=>?_) (fun v=>?_)
 ·simp only [Bool.not_true,Bool.false_or]
  refine Ep (fun c=>BN fun g=>?_) (fun c=>?_)
  ·have:=g.many;rw [bne_iff_ne]at c;omega
  ·rw [bne_eq_false_iff_eq]at c
   have hl:=CB v.short v.few.1 v.few.2.2
   rw [EA (by omega) (by omega),Ao,Xo v.short v.few.1 v.few.2.2 hn,Ao]
   refine loop (L:=fun m i s=>KP (pls b.Design) _ m i s) (pls b.Design).length (fun i s=>TD b.Wires.length i s∧∀q:Nat,q<b.Wires.length->gd s q=((pls b.Design).take i).countP (GY q)) (fun o=>BQ (Bh b) o) ?_ ?_ n 0 _ (by omega) (by omega) ⟨⟨by simp,fun j=>by rw [OK];omega⟩,fun q _=>by rw [OK];simp⟩
   ·intro m i s hi ⟨hc,hs⟩
    have hp:=v.net _ (List.getElem_mem hi)
    obtain⟨g1,g2⟩:=hc.step hp.1 (by omega) (by omega)
    simp only [KP.eq_2,Cj hi,cT,AU hi,Ao,g1,g2,wT i]
    cases hd:(pls b.Design)[i].drives_ with
    |true=>
     simp only [Bool.not_true,cF]
     refine .inl ⟨s,⟨hc.up,fun q hq=>?_⟩,rfl⟩
     rw [hs q hq,List.take_succ_eq_append_getElem hi,List.countP_append]
     simp [GY,hd]
    |false=>
     simp only [Bool.not_false,cT]
     refine .inl ⟨_,⟨hc.bump hp.1 (by omega),fun q hq=>?_⟩,rfl⟩
     rw [List.take_succ_eq_append_getElem hi,List.countP_append]
     unfold IR
     rw [OG (by have:=hc.1;omega)]
     by_cases e:(pls b.Design)[i].net_.toNat=q
     ·have e2:(pls b.Design)[i].net_=(q:Int):=by omega
      rw [if_pos e,e,hs q hq]
      simp [GY,hd,e2]
     ·have e2:¬(pls b.Design)[i].net_=(q:Int):=by omega
      rw [if_neg e,hs q hq]
      simp [GY,hd,e2]
   ·intro m s ⟨hc,hs⟩
    simp only [KP.eq_2,DB,cF]
    refine(EM (L:=fun m i=>Lv n b s _ m i) (Q:=True) b.Wires.length 0 (fun i=>∀(hi:i<b.Wires.length),QQ b.Wires[i] (snk b.Design i)) ?_ ?_ n 0 (by omega) (by omega) (by omega) (fun j _ h=>by omega)).iff ⟨fun a=>⟨v,by omega,fun i hi=>a.1 i (by omega) hi hi⟩,fun a=>⟨fun i _ _ hi=>a.wire i hi,trivial⟩⟩
    ·intro m i _ hi
     have hw:=h.wires.2 _ (List.getElem_mem hi)
     obtain⟨r,e,hr⟩:=sX (n:=n) (w:=b.Wires[i]) (s:=(snk b.Design i:Int)) hw.2 hw.1.1.2 hw.1.2 hw.1.1.1 hn
     have hg:gd s i=(snk b.Design i:Int):=by rw [hs i hi,List.take_length];rfl
     simp only [Lv.eq_2,Cj hi,cT,AU hi,gI (show i<s.length by rw [hc.1];exact hi),hg,Ao,e,wT i]
     cases r with
     |true=>exact .inl ⟨fun _=>hr.1 rfl,by trivial⟩
     |false=>exact .inr ⟨fun g=>(by have:=hr.2 (g hi);cases this),by trivial⟩
    ·intro m i h1 h2 _
     obtain rfl:i=b.Wires.length:=by omega
     simp only [Lv.eq_2,DB,cF]
     exact Ca trivial
 ·simp only [Bool.not_false,Bool.true_or,cT]
  exact BN fun g=>v g.design
theorem GI{σ R:Type}{Q:R->Prop}{L:Nat->Int->σ->Option R}(N:Nat)(I:Nat->σ->Prop)
 (hs:∀(m i:Nat) (st:σ),i<N->I i st->∃st',I (i+1) st'∧L (m+1) (i:Int) st=L m ((i+1:Nat):Int) st')
 (he:∀(m:Nat) (st:σ),I N st->BH Q (L (m+1) (N:Int) st)) (m:Nat) (st:σ) (hm:N<m) (h:I 0 st):BH Q (L m 0 st):=
 loop N I (BH Q) (fun m i st a b=>.inl (hs m i st a b)) he m 0 st (by omega) (by omega) h
theorem PR{σ R:Type}{Q:R->Prop}{L:Nat->Int->σ->Option R}(s N:Nat)(I:Nat->σ->Prop)
 (hs:∀(m i:Nat) (st:σ),s<=i->i<N->I i st->∃st',I (i+1) st'∧L (m+1) (i:Int) st=L m ((i+1:Nat):Int) st')
 (he:∀(m:Nat) (st:σ),I N st->BH Q (L (m+1) (N:Int) st)) (m:Nat) (st:σ) (hsN:s<=N) (hm:N<m) (h:I s st):BH Q (L m (s:Int) st):=
 loop N (fun i st=>s<=i∧I i st) (BH Q) (fun m i st a b=>by
  obtain⟨st',h1,h2⟩:=hs m i st b.1 a b.2
  exact .inl ⟨st',⟨by have:=b.1;omega,h1⟩,h2⟩) (fun m st h=>he m st h.2) m s st hsN (by omega) ⟨Nat.le_refl _,h⟩
theorem mL{n:Nat}{l:Az}{d:AX}(v:Cw l d)(q:Int)(hn:1048577<=n):UD n d q=some (JU d q):=by
 rw [UD,Xo v.short v.few.1 v.few.2.2 hn,Ao]
 have hl:=CB v.short v.few.1 v.few.2.2
 have:=Du (xs:=pls d) (L:=fun m s i=>Hj q (pls d) (fun l29 i33=>some l29) m s i) (k:=fun s=>some s) (fun i p=>if GY q p=true then [(i:Int)]else []) 1 0 (fun j p _=>by split<;>simp) (by omega) (by
  intro m i hi s hs
  simp only [Hj.eq_2,Cj hi,cT,AU hi,Ao,wT i]
  rw [show((pls d)[i].net_==q&& !(pls d)[i].drives_)=GY q (pls d)[i]from rfl]
  cases c:GY q (pls d)[i]with
  |true=>rw [cT,if_pos rfl,BL (by simp;omega) (by omega),Ao]
  |false=>rw [cF,if_neg (by simp),List.append_nil]) (by
  intro m s
  simp only [Hj.eq_2,DB,cF]) n (by omega) [] (by simp)
 rw [this,List.nil_append];rfl
theorem MN{d:AX}{q:Int}:∀x∈JU d q,0<=x∧x<(pls d).length:=by
 refine DR (Q:=fun x:Int=>0<=x∧x<(pls d).length) _ 0 fun j hj y hy=>?_
 split at hy
 ·simp only [Nat.zero_add,List.mem_singleton]at hy;omega
 ·cases hy
theorem Cw.place{l:Az}{d:AX}(v:Cw l d):∀p∈pls d,0<=p.instance_->∃x c pin,AM d.Instances p.instance_=some x∧AM l.Cells x.Cell=some c∧AM c.Pins p.pin_=some pin:=by
 intro p hp
 simp only [pls,List.mem_append]at hp
 rcases hp with hp|hp
 ·refine DR (Q:=fun p:BD=>0<=p.instance_->∃x c pin,AM d.Instances p.instance_=some x∧AM l.Cells x.Cell=some c∧AM c.Pins p.pin_=some pin) d.Instances 0 (fun j hj y hy=>?_) p hp
  refine DR (Q:=fun p:BD=>0<=p.instance_->∃x c pin,AM d.Instances p.instance_=some x∧AM l.Cells x.Cell=some c∧AM c.Pins p.pin_=some pin) _ 0 (fun k hk z hz=>?_) y hy
  have vi:=v.inst _ (List.getElem_mem hj)
  simp only [Nat.zero_add,List.mem_singleton]at hz
  subst hz
  intro _
  obtain⟨c,ec,_⟩:=El (xs:=l.Cells) vi.cell.1 (by have:=vi.cell.2;omega)
  have hc:=vi.pins c ec
  exact⟨_,c,_,AU hj,ec,AU (show k<c.Pins.length by omega)⟩
 ·refine DR (Q:=fun p:BD=>0<=p.instance_->∃x c pin,AM d.Instances p.instance_=some x∧AM l.Cells x.Cell=some c∧AM c.Pins p.pin_=some pin) d.Ports 0 (fun j hj y hy=>?_) p hp
  simp only [TY,List.mem_singleton]at hy
  subst hy;intro h;exact absurd h (by show¬(0:Int)<= -1;decide)
theorem nR{n:Nat}{l:Az}{d:AX}(v:Cw l d){p:BD}(hp:p∈pls d):∃r,UL n d l p=some r:=by
 rw [UL]
 by_cases c:p.instance_<0
 ·rw [decide_eq_true c,cT];exact⟨_,rfl⟩
 ·obtain⟨x,c',pin,e1,e2,e3⟩:=v.place p hp (by omega)
  rw [decide_eq_false c,cF,e1,Ao,e2,Ao,e3,Ao];exact⟨_,rfl⟩
theorem Ej{t:List Int}{i:Int}(h0:0<=i)(h1:i<t.length):∃x,AM t i=some x:=⟨_,Sl h0 h1⟩
theorem rO{n:Nat}{b:AF}(v:Bh b){i:Nat}(hi:i<b.Wires.length)(hn:1048577<=n):BH (fun r=>r.length=b.Wires[i].Parent.length) (dB n b (i:Int)):=by
 have vd:=v.design
 have vw:=v.wire i hi
 have hm:=vw.many
 have hP:=vw.cap
 have hl:=CB vd.short vd.few.1 vd.few.2.2
 rw [dB,AU hi,Ao,XY,BL (by simp;omega) (by omega),Ao,Ao,Xo vd.short vd.few.1 vd.few.2.2 hn,Ao,mL vd _ hn,Ao,List.nil_append]
 have hsl:(JU b.Design (i:Int)).length=b.Wires[i].Sink.length:=by rw [GQ];have:=vw.sink;omega
 have hsn:snk b.Design (i:Int)<=78:=Nat.le_trans List.countP_le_length hl
 have hsn2:=GQ (d:=b.Design) (q:=(i:Int))
 refine GI (L:=fun m j s=>MD n b b.Wires[i] (pls b.Design) (JU b.Design (i:Int)) _ m j s) (JU b.Design (i:Int)).length (fun _ s=>s.length=b.Wires[i].Parent.length) ?_ ?_ n _ (by omega) hP
 ·intro m j s hj hs
  have hj2:j<b.Wires[i].Sink.length:=by omega
  have hk:=vw.sinks j hj2
  have hq:=MN _ (List.getElem_mem hj)
  obtain⟨a,ea⟩:=Ej (t:=s) hk.1 (by omega)
  obtain⟨p,ep,hp⟩:=El (xs:=pls b.Design) hq.1 hq.2
  obtain⟨r,er⟩:=nR (n:=n) vd (List.mem_of_getElem? hp)
  simp only [MD.eq_2,Cj hj,cT,AU hj,gI hj2,Ao,ea,ep,er,wT j]
  exact⟨_,by simpa using hs,rfl⟩
 ·intro m s hs
  simp only [MD.eq_2,DB,cF]
  have wx:wrap .i64 ((s.length:Int)-1)=((s.length-1:Nat):Int):=by rw [Aq (by omega) (by omega)];omega
  rw [wx]
  have key:∀(m k:Nat) (s:List Int),k<b.Wires[i].Parent.length->s.length=b.Wires[i].Parent.length->k<m->BH (fun r:List Int=>r.length=b.Wires[i].Parent.length) (Lw b.Wires[i] (fun i91 l93=>some l93) m (k:Int) s):=by
   intro m
   induction m with
   |zero=>intro k s _ _ h;omega
   |succ m ih=>
    intro k s hk hs hm
    by_cases c:0<k
    ·have hd:decide ((k:Int)>0)=true:=decide_eq_true (by omega)
     have ht:=vw.tree k c hk
     obtain⟨a,ea⟩:=Ej (t:=s) ht.1 (by omega)
     have wk:wrap .i64 ((k:Int)-1)=((k-1:Nat):Int):=by rw [Aq (by omega) (by omega)];omega
     simp only [Lw.eq_2,hd,cT,gI hk,Ao,ea,gI (show k<s.length by omega),wk]
     exact ih (k-1) _ (by omega) (by simpa using hs) (by omega)
    ·have hd:decide ((k:Int)>0)=false:=decide_eq_false (by omega)
     simp only [Lw.eq_2,hd,cF]
     exact⟨s,rfl,hs⟩
  exact key n (s.length-1) s (by omega) hs (by omega)
theorem sJ{n:Nat}{b:AF}(v:Bh b){i:Nat}(hi:i<b.Wires.length)(hn:1048577<=n):BH (fun r=>r.length=b.Wires[i].Parent.length) (Uo n b (i:Int)):=by
 have vw:=v.wire i hi
 have hm:=vw.many
 have hR:=vw.res
 rw [Uo,AU hi,Ao]
 refine(rO v hi hn).bind fun r e hr=>?_
 rw [EA (by omega) (by omega),Ao]
 refine PR (L:=fun m j s=>Ig b.Wires[i] r _ m j s) 1 b.Wires[i].Parent.length (fun _ s=>s.length=b.Wires[i].Parent.length) ?_ ?_ n _ (by omega) (by omega) (by simpa using hr)
 ·intro m j s h1 hj hs
  have ht:=vw.tree j (by omega) hj
  obtain⟨a,ea⟩:=Ej (t:=s) ht.1 (by omega)
  simp only [Ig.eq_2,Cj (show j<s.length by omega),cT,gI hj,gI (show j<b.Wires[i].Res.length by omega),gI (show j<r.length by omega),gI (show j<s.length by omega),Ao,ea,wT j]
  exact⟨_,by simpa using hs,rfl⟩
 ·intro m s hs
  rw [←hs]
  simp only [Ig.eq_2,DB,cF]
  exact⟨s,rfl,rfl⟩
theorem tA{n:Nat}{b:AF}(v:Bh b){i:Nat}(hi:i<b.Wires.length)(hn:1048577<=n):BH (fun _=>True) (Vh n b (i:Int)):=by
 have vw:=v.wire i hi
 have vd:=v.design
 have hl:=CB vd.short vd.few.1 vd.few.2.2
 have hsn:snk b.Design (i:Int)<=78:=Nat.le_trans List.countP_le_length hl
 have hsk:=vw.sink
 rw [Vh]
 refine(sJ v hi hn).bind fun r e hr=>?_
 rw [AU hi,Ao]
 refine GI (L:=fun m j s=>It r b.Wires[i] _ m s j) b.Wires[i].Sink.length (fun j s=>s.length=j) ?_ ?_ n _ (by omega) rfl
 ·intro m j s hj hs
  have hk:=vw.sinks j hj
  obtain⟨a,ea⟩:=Ej (t:=r) hk.1 (by omega)
  refine⟨s++[a],by simp;omega,?_⟩
  simp only [It.eq_2,Cj hj,cT,gI hj,Ao,ea,wT j]
  rw [BL (by simp;omega) (by omega),Ao]
 ·intro m s hs
  simp only [It.eq_2,DB,cF]
  exact⟨s,rfl,trivial⟩
theorem sN{n:Nat}(a:Bf):BH (fun r:List Cc=>r.length<=4) (UI n a):=by
 rw [UI]
 repeat' refine Af (fun _=>?_) (fun _=>?_)
 all_goals exact AK (by simp)
theorem sI{n:Nat}{b:AF}(v:Bh b){x:Av}(hx:x∈b.Design.Instances)(q:Int)(hn:1048577<=n):BH (fun r:List AR=>r.length<=32) (fH n b x q):=by
 have vi:=v.design.inst x hx
 obtain⟨c,ec,hc⟩:=El (xs:=b.Library.Cells) vi.cell.1 (by have:=vi.cell.2;omega)
 obtain⟨h1,h2⟩:=List.getElem?_eq_some_iff.1 hc
 have few:=(v.design.lib.cells _ h1).few
 rw [h2]at few
 rw [fH,ec,Ao]
 refine GI (L:=fun m j s=>IA n q c _ m s j) c.Arcs.length (fun j s=>s.length<=4*j) ?_ ?_ n _ (by omega) (by simp)
 ·intro m j s hj hs
  obtain⟨r,er,hr⟩:=sN (n:=n) c.Arcs[j]
  have key:∃s',s'.length<=4*(j+1)∧KN q (j:Int) c.Arcs[j] r (fun l88 i92=>IA n q c (fun l46 i50=>some l46) m l88 (wrap .i64 ((j:Int)+1))) n s 0=IA n q c (fun l46 i50=>some l46) m s' (wrap .i64 ((j:Int)+1)):=by
   refine loop (L:=fun m k s=>KN q (j:Int) c.Arcs[j] r _ m s k) r.length (fun k s=>s.length<=4*j+k) (fun o=>∃s':List AR,s'.length<=4*(j+1)∧o=IA n q c (fun l46 i50=>some l46) m s' (wrap .i64 ((j:Int)+1))) ?_ ?_ n 0 s (by omega) (by omega) (by omega)
   ·intro m k s hk hs
    simp only [KN.eq_2,Cj hk,cT,AU hk,Ao,wT k]
    rw [BL (by simp;omega) (by omega),Ao]
    exact .inl ⟨_,by simp;omega,rfl⟩
   ·intro m s hs
    simp only [KN.eq_2,DB,cF]
    exact⟨s,by omega,rfl⟩
  obtain⟨s',hs',e'⟩:=key
  refine⟨s',hs',?_⟩
  simp only [IA.eq_2,Cj hj,cT,AU hj,Ao,er]
  rw [e',wT j]
 ·intro m s hs
  simp only [IA.eq_2,DB,cF]
  exact⟨s,rfl,by omega⟩
theorem qQ{n:Nat}{b:AF}(v:Bh b)(hn:1048577<=n):BH (fun r:Bs=>r.places_=pls b.Design) (dG n b):=by
 have vd:=v.design
 have f1:=vd.few.1;have f2:=vd.few.2.1
 have hl:=CB vd.short vd.few.1 vd.few.2.2
 have hW:=v.many
 rw [dG,Xo vd.short vd.few.1 vd.few.2.2 hn,Ao]
 refine GI (L:=fun m j (s:Int×List AR)=>Lc n b _ m s.1 j s.2) b.Design.Instances.length (fun j s=>s.2.length<=32*j) ?_ ?_ n ((0:Int),[]) (by omega) (by simp)
 ·intro m j s hj hs
  obtain⟨r,er,hr⟩:=sI (n:=n) v (List.getElem_mem hj) s.1 hn
  simp only [Lc.eq_2,Cj hj,cT,AU hj,Ao,er,OU,wT j]
  rw [BL (by omega) (by omega),Ao]
  exact⟨(_,_),by simp;omega,rfl⟩
 ·intro m s hs
  simp only [Lc.eq_2,DB,cF]
  rw [EA (by omega) (by omega),Ao,EA (by omega) (by omega),Ao]
  refine GI (L:=fun m j (s:List Int×List (List Int))=>KG (pls b.Design) _ m j s.1 s.2) (pls b.Design).length (fun j s=>(s.1.length=b.Wires.length∧s.2.length=b.Wires.length)∧∀x∈s.2,x.length<=j) ?_ ?_ n (List.replicate b.Wires.length 0,List.replicate b.Wires.length []) (by omega) (by simp)
  ·intro m j s hj ⟨⟨h1,h2⟩,h3⟩
   have hp:=vd.net _ (List.getElem_mem hj)
   obtain⟨a,ea⟩:=Ej (t:=s.1) hp.1 (by omega)
   obtain⟨y,ey,hy⟩:=El (xs:=s.2) hp.1 (by omega)
   have hyl:=h3 y (List.mem_of_getElem? hy)
   simp only [KG.eq_2,Cj hj,cT,AU hj,Ao,ea,ey,wT j]
   cases(pls b.Design)[j].drives_ with
   |true=>
    rw [cT]
    exact⟨(s.1.set (pls b.Design)[j].net_.toNat (j:Int),s.2),⟨⟨by simpa using h1,h2⟩,fun x hx=>by have:=h3 x hx;omega⟩,rfl⟩
   |false=>
    rw [cF,BL (by simp;omega) (by omega),Ao]
    refine⟨(s.1,s.2.set (pls b.Design)[j].net_.toNat (y++[(j:Int)])),⟨⟨h1,by simpa using h2⟩,fun x hx=>?_⟩,rfl⟩
    rcases List.mem_or_eq_of_mem_set hx with h|h
    ·have:=h3 x h;omega
    ·subst h;simp;omega
  ·intro m t ⟨⟨h1,h2⟩,h3⟩
   simp only [KG.eq_2,DB,cF]
   refine GI (L:=fun m j (s:(List AR×List Int)×List Unit)=>HQ n b t.1 t.2 _ m j s.1.1 s.1.2 s.2) b.Wires.length (fun j u=>(u.1.1.length<=448+156*j∧u.1.2.length=j)∧u.2.length=j) ?_ ?_ n ((s.2,[]),[]) (by omega) (by simp;omega)
   ·intro m j u hj ⟨⟨g1,g2⟩,g3⟩
    obtain⟨r,er,hr⟩:=rO (n:=n) v hj hn
    obtain⟨z,ez,_⟩:=tA (n:=n) v hj hn
    have hm:=(v.wire j hj).many
    have e0:AM r 0=some (gd r 0):=gI (i:=0) (by omega)
    have hj2:j<t.2.length:=by omega
    have hx:=h3 _ (List.getElem_mem hj2)
    simp only [HQ.eq_2,Cj hj,cT,Ao,er,e0,ez,AU hj2]
    rw [BL (by simp;omega) (by omega),Ao,BL (by simp;omega) (by omega),Ao]
    have key:∃s',s'.length<=448+156*(j+1)∧KW n t.1 (j:Int) t.2[j] (fun i418 l421=>HQ n b t.1 t.2 (fun i115 l118 l125 l132=>some (Bs.mk b (pls b.Design) l118 l125 l132 [])) m (wrap .i64 ((j:Int)+1)) l421 (u.1.2++[gd r 0]) (u.2++List.map (fun _=>()) [z])) n 0 u.1.1=HQ n b t.1 t.2 (fun i115 l118 l125 l132=>some (Bs.mk b (pls b.Design) l118 l125 l132 [])) m (wrap .i64 ((j:Int)+1)) s' (u.1.2++[gd r 0]) (u.2++List.map (fun _=>()) [z]):=by
     refine loop (L:=fun m' k s=>KW n t.1 (j:Int) t.2[j] (fun i418 l421=>HQ n b t.1 t.2 (fun i115 l118 l125 l132=>some (Bs.mk b (pls b.Design) l118 l125 l132 [])) m (wrap .i64 ((j:Int)+1)) l421 (u.1.2++[gd r 0]) (u.2++List.map (fun _=>()) [z])) m' k s) t.2[j].length (fun k s=>s.length<=448+156*j+2*k) (fun o=>∃s':List AR,s'.length<=448+156*(j+1)∧o=HQ n b t.1 t.2 (fun i115 l118 l125 l132=>some (Bs.mk b (pls b.Design) l118 l125 l132 [])) m (wrap .i64 ((j:Int)+1)) s' (u.1.2++[gd r 0]) (u.2++List.map (fun _=>()) [z])) ?_ ?_ n 0 u.1.1 (by omega) (by omega) (by omega)
     ·intro m k s hk hs
      refine .inl ?_
      have a1:=gI (l:=t.1) (i:=j) (by omega)
      simp only [KW.eq_2,Cj hk,cT,gI hk,Ao,wT k]
      obtain⟨n',rfl⟩:∃n',n=n'+3:=⟨n-3,by omega⟩
      have w1:wrap .i64 ((0:Int)+1)=1:=by decide
      have w2:wrap .i64 ((1:Int)+1)=2:=by decide
      rw [Ls.eq_2,show decide ((0:Int)<2)=true from rfl,cT,a1,Ao,BL (by simp;omega) (by omega),Ao,w1,Ls.eq_2,show decide ((1:Int)<2)=true from rfl,cT,a1,Ao,BL (by simp;omega) (by omega),Ao,w2,Ls.eq_2,show decide ((2:Int)<2)=false from rfl,cF]
      exact⟨_,by simp;omega,rfl⟩
     ·intro m s hs
      simp only [KW.eq_2,DB,cF]
      exact⟨s,by omega,rfl⟩
    obtain⟨s',q1,q2⟩:=key
    rw [q2,wT j]
    exact⟨((_,_),_),⟨⟨q1,by simp;omega⟩,by simp;omega⟩,rfl⟩
   ·intro m u _
    simp only [HQ.eq_2,DB,cF]
    exact⟨_,rfl,rfl⟩
def Bc(b:AF):Int:=2*((pls b.Design).length:Int)
theorem MM{n:Nat}{b:AF}(v:Bh b)(hn:1048577<=n):Rh n b=some (Bc b):=by
 have hl:=CB v.design.short v.design.few.1 v.design.few.2.2
 rw [Rh,Oq v.design.short v.design.few.1 v.design.few.2.2 hn,Ao,List.length_map,Aq (by omega) (by omega)];rfl
theorem Vx{n:Nat}{b:AF}{r:Bs}(v:Bh b)(e:r.places_=pls b.Design):QC n r=some (Bc b):=by
 have hl:=CB v.design.short v.design.few.1 v.design.few.2.2
 rw [QC,YF,e,Ao,Aq (by omega) (by omega)];rfl
def TI(xs:List Al)(i:Nat):Int:=gd (xs.map fun t:Al=>t.Node) i
theorem XK{xs:List Al}{i:Nat}(h:i<xs.length):TI xs i=xs[i].Node:=by
 unfold TI;rw [MI (v:=xs[i].Node) (by simp [h])]
theorem Yx{xs:List Al}{i:Nat}(hi:i<xs.length)(c:Int)(hl:xs.length<=1048576):(cond (decide ((i:Int)>0)) (Option.bind (AM xs (wrap .i64 ((i:Int)-1))) fun x=>some (decide (x.Node>=c))) (some false))=some (decide (0<i∧c<=TI xs (i-1))):=by
 by_cases h:0<i
 ·have hd:decide ((i:Int)>0)=true:=decide_eq_true (by omega)
  have wk:wrap .i64 ((i:Int)-1)=((i-1:Nat):Int):=by rw [Aq (by omega) (by omega)];omega
  rw [hd,cT,wk,AU (show i-1<xs.length by omega),Ao,XK (show i-1<xs.length by omega)]
  simp [h]
 ·have hd:decide ((i:Int)>0)=false:=decide_eq_false (by omega)
  rw [hd,cF];simp [h]
structure Qi(b:AF)(xs:List Al)(i:Nat)(t:Al):Prop where
 node:0<=t.Node∧t.Node<=Bc b-1
 up:¬(0<i∧t.Node<=TI xs (i-1))
 early:-1000000000<=t.Required.Early∧t.Required.Early<=1000000000
 late:-1000000000<=t.Required.Late∧t.Required.Late<=1000000000
theorem rI{n:Nat}{b:AF}{xs:List Al}(v:Bh b)(hl:xs.length<=1048576)(hn:1048577<=n):BQ (∀i (h:i<xs.length),Qi b xs i xs[i]) (TF n b xs):=by
 have hp:=CB v.design.short v.design.few.1 v.design.few.2.2
 have wN:wrap .i64 (Bc b-1)=Bc b-1:=Aq (by unfold Bc;omega) (by unfold Bc;omega)
 rw [TF,MM v hn,Ao]
 refine(EM (L:=fun m i=>JK n xs (Bc b) _ m i) (Q:=True) xs.length 0 (fun i=>∀(hi:i<xs.length),Qi b xs i xs[i]) ?_ ?_ n 0 (by omega) (by omega) (by omega) (fun j _ h=>by omega)).iff ⟨fun a i hi=>a.1 i (by omega) hi hi,fun a=>⟨fun i _ _ hi=>a i hi,trivial⟩⟩
 ·intro m i _ hi
  simp only [JK.eq_2,Cj hi,cT,AU hi,Ao,HI,Pd,wN,Yx hi _ hl,Dp,Bt,wT i]
  cases e:((!(decide (xs[i].Node>=0)&&decide (xs[i].Node<=Bc b-1))||decide (0<i∧xs[i].Node<=TI xs (i-1)))|| !((decide (xs[i].Required.Early>= -1000000000)&&decide (xs[i].Required.Early<=1000000000))&&(decide (xs[i].Required.Late>= -1000000000)&&decide (xs[i].Required.Late<=1000000000))))with
  |true=>
   rw [cT]
   refine .inr ⟨fun g=>?_,rfl⟩
   obtain⟨g1,g2,g3,g4⟩:=g hi
   simp only [Bool.or_eq_true,Bool.not_eq_true',Bool.and_eq_false_iff,decide_eq_false_iff_not,decide_eq_true_eq]at e
   rcases e with (e|e)|e
   ·omega
   ·exact g2 e
   ·omega
  |false=>
   rw [cF]
   simp only [Bool.or_eq_false_iff,Bool.not_eq_false',Bool.and_eq_true,decide_eq_false_iff_not,decide_eq_true_eq]at e
   exact .inl ⟨fun _=>⟨by omega,e.1.2,by omega,by omega⟩,rfl⟩
 ·intro m i h1 h2 _
  obtain rfl:i=xs.length:=by omega
  simp only [JK.eq_2,DB,cF]
  exact Ca trivial
theorem tG{n:Nat}{b:AF}{r:Bs}{xs:List Al}(v:Bh b)(hr:r.places_=pls b.Design)(hl:xs.length<=1048576)(hn:1048577<=n):BQ (∀i (h:i<xs.length),Qi b xs i xs[i]) (UV n r xs):=by
 have hp:=CB v.design.short v.design.few.1 v.design.few.2.2
 have wN:wrap .i64 (Bc b-1)=Bc b-1:=Aq (by unfold Bc;omega) (by unfold Bc;omega)
 rw [UV]
 refine(EM (L:=fun m i=>JZ n r xs _ m i) (Q:=True) xs.length 0 (fun i=>∀(hi:i<xs.length),Qi b xs i xs[i]) ?_ ?_ n 0 (by omega) (by omega) (by omega) (fun j _ h=>by omega)).iff ⟨fun a i hi=>a.1 i (by omega) hi hi,fun a=>⟨fun i _ _ hi=>a i hi,trivial⟩⟩
 ·intro m i _ hi
  simp only [JZ.eq_2,Cj hi,cT,AU hi,Ao,Ta,Vx v hr,Jw,TE,Pf,wN,Yx hi _ hl,Dp,Bt,wT i]
  cases e:((!(decide (xs[i].Node>=0)&&decide (xs[i].Node<=Bc b-1))|| !((decide (xs[i].Required.Early>= -1000000000)&&decide (xs[i].Required.Early<=1000000000))&&(decide (xs[i].Required.Late>= -1000000000)&&decide (xs[i].Required.Late<=1000000000))))||decide (0<i∧xs[i].Node<=TI xs (i-1)))with
  |true=>
   rw [cT]
   refine .inr ⟨fun g=>?_,rfl⟩
   obtain⟨g1,g2,g3,g4⟩:=g hi
   simp only [Bool.or_eq_true,Bool.not_eq_true',Bool.and_eq_false_iff,decide_eq_false_iff_not,decide_eq_true_eq]at e
   rcases e with (e|e)|e
   ·omega
   ·omega
   ·exact g2 e
  |false=>
   rw [cF]
   simp only [Bool.or_eq_false_iff,Bool.not_eq_false',Bool.and_eq_true,decide_eq_false_iff_not,decide_eq_true_eq]at e
   exact .inl ⟨fun _=>⟨by omega,e.2,by omega,by omega⟩,rfl⟩
 ·intro m i h1 h2 _
  obtain rfl:i=xs.length:=by omega
  simp only [JZ.eq_2,DB,cF]
  exact Ca trivial
def GA(s:Ad):Bool:=(decide (s.Early>= -1000000000)&&decide (s.Early<=1000000000))&&(decide (s.Late>= -1000000000)&&decide (s.Late<=1000000000))
def NU(b:Bool)(s:Ad):Bool:=!(!GA s||(!b&& !(s.Early==0&&s.Late==0)))
structure IV(b:AF)(x:BC):Prop where
 bound:(x.Bound.length:Int)=Bc b
 req:(x.Required.length:Int)=Bc b
 each:∀i (h:i<x.Bound.length) (h2:i<x.Required.length),NU x.Bound[i] x.Required[i]=true
theorem oY{n:Nat}{b:AF}{x:BC}(hl:x.Bound.length<=1048576)(hn:1048577<=n):BQ (IV b x) (Ud n (Bc b) x):=by
 rw [Ud]
 refine Ep (fun c=>BN fun v=>?_) (fun c=>?_)
 ·have:=v.bound;have:=v.req
  simp only [Bool.or_eq_true,bne_iff_ne,ne_eq]at c;omega
 ·simp only [Bool.or_eq_false_iff,bne_eq_false_iff_eq]at c
  refine(EM (L:=fun m i=>Ib n x _ m i) (Q:=True) x.Bound.length 0 (fun i=>∀(h:i<x.Bound.length) (h2:i<x.Required.length),NU x.Bound[i] x.Required[i]=true) ?_ ?_ n 0 (by omega) (by omega) (by omega) (fun j _ h=>by omega)).iff ⟨fun a=>⟨c.1,c.2,fun i h h2=>a.1 i (by omega) h h h2⟩,fun a=>⟨fun i _ _ h h2=>a.each i h h2,trivial⟩⟩
  ·intro m i _ hi
   have hi2:i<x.Required.length:=by omega
   simp only [Ib.eq_2,Cj hi,cT,AU hi,AU hi2,Ao,Pd,HI,Dp,Bt,wT i]
   rw [show((decide (x.Required[i].Early>= -1000000000)&&decide (x.Required[i].Early<=1000000000))&&(decide (x.Required[i].Late>= -1000000000)&&decide (x.Required[i].Late<=1000000000)))=GA x.Required[i]from rfl]
   cases e:(!GA x.Required[i]||(!x.Bound[i]&& !(x.Required[i].Early==0&&x.Required[i].Late==0)))with
   |true=>rw [cT];exact .inr ⟨fun g=>(by have:=g hi hi2;unfold NU at this;rw [e]at this;cases this),rfl⟩
   |false=>rw [cF];exact .inl ⟨fun _ _=>(by unfold NU;rw [e];rfl),rfl⟩
  ·intro m i h1 h2 _
   obtain rfl:i=x.Bound.length:=by omega
   simp only [Ib.eq_2,DB,cF]
   exact Ca trivial
theorem sT{n:Nat}{b:AF}{r:Bs}{x:BC}(v:Bh b)(hr:r.places_=pls b.Design)(hl:x.Bound.length<=1048576)(hn:1048577<=n):BQ (IV b x) (VZ n r x):=by
 rw [VZ]
 simp only [Pm,Rs,Vx v hr,Ao,Dp]
 refine Ep (fun c=>BN fun v=>?_) (fun c=>?_)
 ·have:=v.bound;have:=v.req
  simp only [Bool.or_eq_true,bne_iff_ne,ne_eq]at c;omega
 ·simp only [Bool.or_eq_false_iff,bne_eq_false_iff_eq]at c
  refine(EM (L:=fun m i=>Iw n x _ m i) (Q:=True) x.Bound.length 0 (fun i=>∀(h:i<x.Bound.length) (h2:i<x.Required.length),NU x.Bound[i] x.Required[i]=true) ?_ ?_ n 0 (by omega) (by omega) (by omega) (fun j _ h=>by omega)).iff ⟨fun a=>⟨c.1,c.2,fun i h h2=>a.1 i (by omega) h h h2⟩,fun a=>⟨fun i _ _ h h2=>a.each i h h2,trivial⟩⟩
  ·intro m i _ hi
   have hi2:i<x.Required.length:=by omega
   simp only [Iw.eq_2,Cj hi,cT,AU hi,AU hi2,Ao,TE,Pf,Jw,Dp,Bt,wT i]
   rw [show((decide (x.Required[i].Early>= -1000000000)&&decide (x.Required[i].Early<=1000000000))&&(decide (x.Required[i].Late>= -1000000000)&&decide (x.Required[i].Late<=1000000000)))=GA x.Required[i]from rfl]
   cases e:(!GA x.Required[i]||(!x.Bound[i]&& !(x.Required[i].Early==0&&x.Required[i].Late==0)))with
   |true=>rw [cT];exact .inr ⟨fun g=>(by have:=g hi hi2;unfold NU at this;rw [e]at this;cases this),rfl⟩
   |false=>rw [cF];exact .inl ⟨fun _ _=>(by unfold NU;rw [e];rfl),rfl⟩
  ·intro m i h1 h2 _
   obtain rfl:i=x.Bound.length:=by omega
   simp only [Iw.eq_2,DB,cF]
   exact Ca trivial
def Oi(s:Ad):Bool:=GA s&&decide (s.Early<=s.Late)
def PG(s:Ad):Bool:=(decide (s.Early>=0)&&decide (s.Early<=s.Late))&&decide (s.Late<=1000000)
theorem kS{n:Nat}{s:Ad}:QG n s=some (Oi s):=by
 simp only [QG,HI,Ao,Bt];rfl
theorem qZ{n:Nat}{s:Ad}:TT n s=some (Oi s):=by
 simp only [TT,Pf,Jw,Ao,Bt];rfl
theorem sA{n:Nat}{s:Ad}:TX n s=some (PG s):=rfl
theorem tI{n:Nat}{s:Ad}:Ts n s=some (PG s):=by
 simp only [Ts,qZ,VA,Jw,Ao,Bt]
 congr 1
 rw [Bool.eq_iff_iff]
 simp only [Oi,GA,PG,Bool.and_eq_true,decide_eq_true_eq]
 omega
def QO(r:Bool)(a s:Ad):Bool:=!((!Oi a|| !PG s)||(!r&&(!(a.Early==0&&a.Late==0)|| !(s.Early==0&&s.Late==0))))
structure KD(b:AF)(x:Ah):Prop where
 reached:(x.Reached.length:Int)=Bc b
 arr:(x.Arrival.length:Int)=Bc b
 slew:(x.Slew.length:Int)=Bc b
 each:∀i (h:i<x.Reached.length) (h2:i<x.Arrival.length) (h3:i<x.Slew.length),QO x.Reached[i] x.Arrival[i] x.Slew[i]=true
theorem kF{n:Nat}{b:AF}{x:Ah}(hl:x.Reached.length<=1048576)(hn:1048577<=n):BQ (KD b x) (TJ n (Bc b) x):=by
 rw [TJ]
 refine Ep (fun c=>BN fun v=>?_) (fun c=>?_)
 ·have:=v.reached;have:=v.arr;have:=v.slew
  simp only [Bool.or_eq_true,bne_iff_ne,ne_eq]at c;omega
 ·simp only [Bool.or_eq_false_iff,bne_eq_false_iff_eq]at c
  refine(EM (L:=fun m i=>Ih n x _ m i) (Q:=True) x.Reached.length 0 (fun i=>∀(h:i<x.Reached.length) (h2:i<x.Arrival.length) (h3:i<x.Slew.length),QO x.Reached[i] x.Arrival[i] x.Slew[i]=true) ?_ ?_ n 0 (by omega) (by omega) (by omega) (fun j _ h=>by omega)).iff ⟨fun a=>⟨c.1.1,c.1.2,c.2,fun i h h2 h3=>a.1 i (by omega) h h h2 h3⟩,fun a=>⟨fun i _ _ h h2 h3=>a.each i h h2 h3,trivial⟩⟩
  ·intro m i _ hi
   have hi2:i<x.Arrival.length:=by omega
   have hi3:i<x.Slew.length:=by omega
   simp only [Ih.eq_2,Cj hi,cT,AU hi,AU hi2,AU hi3,Ao,kS,sA,Dp,Bt,wT i]
   cases e:((!Oi x.Arrival[i]|| !PG x.Slew[i])||(!x.Reached[i]&&(!(x.Arrival[i].Early==0&&x.Arrival[i].Late==0)|| !(x.Slew[i].Early==0&&x.Slew[i].Late==0))))with
   |true=>rw [cT];exact .inr ⟨fun g=>(by have:=g hi hi2 hi3;unfold QO at this;rw [e]at this;cases this),rfl⟩
   |false=>rw [cF];exact .inl ⟨fun _ _ _=>(by unfold QO;rw [e];rfl),rfl⟩
  ·intro m i h1 h2 _
   obtain rfl:i=x.Reached.length:=by omega
   simp only [Ih.eq_2,DB,cF]
   exact Ca trivial
theorem uA{n:Nat}{b:AF}{r:Bs}{x:Ah}(v:Bh b)(hr:r.places_=pls b.Design)(hl:x.Reached.length<=1048576)(hn:1048577<=n):BQ (KD b x) (WH n r x):=by
 rw [WH]
 simp only [Pm,Rs,Vx v hr,Ao,Dp]
 refine Ep (fun c=>BN fun v=>?_) (fun c=>?_)
 ·have:=v.reached;have:=v.arr;have:=v.slew
  simp only [Bool.or_eq_true,bne_iff_ne,ne_eq]at c;omega
 ·simp only [Bool.or_eq_false_iff,bne_eq_false_iff_eq]at c
  refine(EM (L:=fun m i=>Jf n x _ m i) (Q:=True) x.Reached.length 0 (fun i=>∀(h:i<x.Reached.length) (h2:i<x.Arrival.length) (h3:i<x.Slew.length),QO x.Reached[i] x.Arrival[i] x.Slew[i]=true) ?_ ?_ n 0 (by omega) (by omega) (by omega) (fun j _ h=>by omega)).iff ⟨fun a=>⟨c.1.1,c.1.2,c.2,fun i h h2 h3=>a.1 i (by omega) h h h2 h3⟩,fun a=>⟨fun i _ _ h h2 h3=>a.each i h h2 h3,trivial⟩⟩
  ·intro m i _ hi
   have hi2:i<x.Arrival.length:=by omega
   have hi3:i<x.Slew.length:=by omega
   simp only [Jf.eq_2,Cj hi,cT,AU hi,AU hi2,AU hi3,Ao,qZ,tI,Dp,Bt,wT i]
   cases e:((!Oi x.Arrival[i]|| !PG x.Slew[i])||(!x.Reached[i]&&(!(x.Arrival[i].Early==0&&x.Arrival[i].Late==0)|| !(x.Slew[i].Early==0&&x.Slew[i].Late==0))))with
   |true=>rw [cT];exact .inr ⟨fun g=>(by have:=g hi hi2 hi3;unfold QO at this;rw [e]at this;cases this),rfl⟩
   |false=>rw [cF];exact .inl ⟨fun _ _ _=>(by unfold QO;rw [e];rfl),rfl⟩
  ·intro m i h1 h2 _
   obtain rfl:i=x.Reached.length:=by omega
   simp only [Jf.eq_2,DB,cF]
   exact Ca trivial
theorem Zx{n:Nat}{b:AF}{t:Ah}{x:BC}(hb:Jq b)(ht:t.Reached.length<=1048576)(hx:x.Bound.length<=1048576)(hn:1048577<=n):
 (QN n b t x=some true∧(Bh b∧KD b t∧IV b x)∧∃v:Bs,Qd n b t x=some (some v,0)∧v.places_=pls b.Design)∨(QN n b t x=some false∧Qd n b t x=some (none,1)):=by
 obtain⟨c,e1,hc⟩:=Uj hb hn
 obtain⟨c2,e2,hc2⟩:=rH hb hn
 obtain rfl:c=c2:=by rw [Bool.eq_iff_iff,hc,hc2]
 rw [QN,Qd,e1,e2]
 simp only [Ao,IU]
 cases c with
 |false=>exact .inr ⟨rfl,rfl⟩
 |true=>
  have v:=hc.1 rfl
  obtain⟨w,ew,hw⟩:=qQ (n:=n) v hn
  obtain⟨p,f1,hp⟩:=kF (b:=b) ht hn
  obtain⟨p2,f2,hp2⟩:=uA (r:=⟨b,w.places_,w.links_,w.loads_,w.delays_,w.extras_⟩) v hw ht hn
  obtain rfl:p=p2:=by rw [Bool.eq_iff_iff,hp,hp2]
  obtain⟨q,g1,hq⟩:=oY (b:=b) hx hn
  obtain⟨q2,g2,hq2⟩:=sT (r:=⟨b,w.places_,w.links_,w.loads_,w.delays_,w.extras_⟩) v hw hx hn
  obtain rfl:q=q2:=by rw [Bool.eq_iff_iff,hq,hq2]
  simp only [cT,MM v hn,Ao,f1,Bool.not_true,cF,ew,f2]
  cases p with
  |false=>exact .inr ⟨rfl,rfl⟩
  |true=>
   simp only [cT,Bool.not_true,cF,MM v hn,Ao,g1,g2]
   cases q with
   |false=>exact .inr ⟨rfl,rfl⟩
   |true=>exact .inl ⟨rfl,⟨v,hp.1 rfl,hq.1 rfl⟩,_,rfl,hw⟩
theorem dQ{n:Nat}{b:AF}{t:Ah}{x:BC}(ht:KD b t)(hx:IV b x)(mode:Int){q:Nat}(hq:q<t.Reached.length)(hl:t.Reached.length<=1048576):
 ∃h s,UF n t x (q:Int)=some h∧Pn n t x (q:Int) mode=some s∧Pc n t x (q:Int) mode=some (cond h (s,true) (0,false)):=by
 have h1:=ht.reached;have h2:=ht.arr;have h3:=hx.bound;have h4:=hx.req
 have wN:wrap .i64 ((t.Reached.length:Int)-1)=(t.Reached.length:Int)-1:=Aq (by omega) (by omega)
 have d1:(decide ((q:Int)>=0)&&decide ((q:Int)<=(t.Reached.length:Int)-1))=true:=by simp only [Bool.and_eq_true,decide_eq_true_eq];omega
 have a1:q<t.Arrival.length:=by omega
 have a2:q<x.Bound.length:=by omega
 have a3:q<x.Required.length:=by omega
 simp only [UF,Pn,Pc,HI,wN,d1,cT,AU hq,AU a1,AU a2,AU a3,Ao,Bt,Dp]
 cases t.Reached[q]<;>cases x.Bound[q]<;>cases(mode==0)<;>exact⟨_,_,rfl,rfl,rfl⟩
theorem ZS{σ τ R R':Type}{L:Nat->Int->σ->Option R}{M:Nat->Int->τ->Option R'}(N:Nat)(I:Nat->σ->τ->Prop)(Post:Option R->Option R'->Prop)
 (hs:∀(m i:Nat) (s:σ) (t:τ),i<N->I i s t->∃s' t',I (i+1) s' t'∧L (m+1) (i:Int) s=L m ((i+1:Nat):Int) s'∧M (m+1) (i:Int) t=M m ((i+1:Nat):Int) t')
 (he:∀(m:Nat) (s:σ) (t:τ),I N s t->Post (L (m+1) (N:Int) s) (M (m+1) (N:Int) t)):∀(m i:Nat) (s:σ) (t:τ),i<=N->N-i<m->I i s t->Post (L m (i:Int) s) (M m (i:Int) t)
 |0,i,_,_,_,hm,_=>by omega
 |m+1,i,s,t,hi,hm,h=>by
  by_cases hlt:i<N
  ·obtain⟨s',t',h1,h2,h3⟩:=hs m i s t hlt h
   rw [h2,h3];exact ZS N I Post hs he m (i+1) s' t' (by omega) (by omega) h1
  ·obtain rfl:i=N:=by omega
   exact he m s t h
def PK(r:Int×Int×Bool):Option (Int×Int×Int):=cond (!r.2.2) (some (0,0,4)) (some (r.1,r.2.1,0))
theorem kK{n:Nat}{b:AF}{t:Ah}{x:BC}(ht:KD b t)(hx:IV b x)(mode:Int)(hl:t.Reached.length<=1048576)(hn:1048577<=n):
 ∃g,Gm n t x mode (fun i56 i57=>(cond (decide (i56<0)) (some (0,0,4)) (Option.bind (Pn n t x i56 mode) fun r60=>(some (r60,i56,0))))) n (-1) 0=some g∧(Option.bind (Qo n t x mode) fun r=>PK r)=some g:=by
 rw [Qo,Pm,Ao]
 refine ZS (L:=fun m i (w:Int)=>Gm n t x mode _ m w i) (M:=fun m i (s:Int×Int×Bool)=>FW n t x mode (t.Reached.length:Int) (fun i33 i34 q35 i36=>(some (i33,i34,q35))) m s.1 s.2.1 s.2.2 i) t.Reached.length
  (fun i w s=>(w= -1∧s.2.2=false)∨∃k:Nat,k<i∧w=(k:Int)∧s.2.2=true∧s.2.1=(k:Int)∧Pn n t x (k:Int) mode=some s.1) (fun o o'=>∃g,o=some g∧(Option.bind o' fun r=>PK r)=some g) ?_ ?_ n 0 (-1) (0,0,false) (by omega) (by omega) (.inl ⟨rfl,rfl⟩)
 ·intro m i w s hi hr
  obtain⟨h,v,k1,k2,k3⟩:=dQ (n:=n) ht hx mode hi hl
  simp only [Gm.eq_2,FW.eq_2,Cj hi,cT,k1,k2,k3,Ao,wT i]
  cases h with
  |false=>
   simp only [cF,Ao,Bool.false_and]
   refine⟨w,s,?_,rfl,rfl⟩
   rcases hr with hr|⟨k,hk,hr⟩
   ·exact .inl hr
   ·exact .inr ⟨k,by omega,hr⟩
  |true=>
   simp only [cT,Bool.true_and]
   rcases hr with ⟨rfl,hq⟩|⟨k,hk,rfl,hq,hi2,hv⟩
   ·have dn:decide ((-1:Int)<0)=true:=rfl
    simp only [dn,cT,Ao,hq,Bool.not_false,Bool.true_or]
    exact⟨(i:Int),(v,(i:Int),true),.inr ⟨i,by omega,rfl,rfl,rfl,k2⟩,rfl,rfl⟩
   ·have dn:decide ((k:Int)<0)=false:=decide_eq_false (by omega)
    simp only [dn,cF,hv,Ao,hq,Bool.not_true,Bool.false_or]
    cases decide (v<s.1)with
    |true=>exact⟨(i:Int),(v,(i:Int),true),.inr ⟨i,by omega,rfl,rfl,rfl,k2⟩,rfl,rfl⟩
    |false=>exact⟨(k:Int),s,.inr ⟨k,by omega,rfl,hq,hi2,hv⟩,rfl,by simp only [cF,hq]⟩
 ·intro m w s hr
  simp only [Gm.eq_2,FW.eq_2,DB,cF,Ao]
  rcases hr with ⟨rfl,hq⟩|⟨k,hk,rfl,hq,hi2,hv⟩
  ·have dn:decide ((-1:Int)<0)=true:=rfl
   simp only [dn,cT,PK,hq,Bool.not_false]
   exact⟨_,rfl,rfl⟩
  ·have dn:decide ((k:Int)<0)=false:=decide_eq_false (by omega)
   simp only [dn,cF,hv,Ao,PK,hq,hi2,Bool.not_true]
   exact⟨_,rfl,rfl⟩
def Ea(t:Ah)(x:Int):Ad:=t.Arrival.getD x.toNat ⟨0,0⟩
def Ew(t:Ah)(x:Int):Bool:=t.Reached.getD x.toNat false
theorem eS{t:Ah}{x:Int}(h0:0<=x)(h1:x<t.Arrival.length):AM t.Arrival x=some (Ea t x):=by
 obtain⟨q,rfl⟩:=Int.eq_ofNat_of_zero_le h0
 rw [AU (show q<t.Arrival.length by omega)];unfold Ea;simp [show q<t.Arrival.length by omega]
theorem ZZ{t:Ah}{x:Int}(h0:0<=x)(h1:x<t.Reached.length):AM t.Reached x=some (Ew t x):=by
 obtain⟨q,rfl⟩:=Int.eq_ofNat_of_zero_le h0
 rw [AU (show q<t.Reached.length by omega)];unfold Ew;simp [show q<t.Reached.length by omega]
theorem QS{α β:Type}(h:Nat->α->β):∀(xs:List α) (s j:Nat),(Ex (fun j q=>[h j q]) s xs)[j]? =(xs[j]?).map (h (s+j))
 |[],s,j=>by simp [Ex]
 |x::xs,s,0=>by simp [Ex]
 |x::xs,s,j+1=>by
  have:=QS h xs (s+1) j
  simp only [Ex,List.singleton_append,List.getElem?_cons_succ,this]
  rw [show s+1+j=s+(j+1) by omega]
structure Py{α:Type}(f:α->Bool)(ys:List α)(k:Nat):Prop where
 hit:∃y,ys[k]? =some y∧f y=true
 miss:∀j y,j<k->ys[j]? =some y->f y=false
theorem Py.lt{α:Type}{f:α->Bool}{ys:List α}{k:Nat}(h:Py f ys k):k<ys.length:=by
 obtain⟨y,e,_⟩:=h.hit
 exact(List.getElem?_eq_some_iff.1 e).1
def Jm(d:AX)(i:Nat):Nat:=(Ex NO 0 (d.Instances.take i)).length
def UK(i q:Int)(p:BD):Bool:=(p.instance_==i)&&(p.pin_==q)
theorem Xv{d:AX}{i:Nat}(hi:i<d.Instances.length):∃C,pls d=Ex NO 0 (d.Instances.take i)++(NO i d.Instances[i]++C):=by
 refine⟨Ex NO (i+1) (d.Instances.drop (i+1))++Ex TY 0 d.Ports,?_⟩
 have e:d.Instances=d.Instances.take i++(d.Instances[i]::d.Instances.drop (i+1)):=by
  rw [←List.drop_eq_getElem_cons hi,List.take_append_drop]
 have e2:Ex NO 0 d.Instances=Ex NO 0 (d.Instances.take i)++(NO i d.Instances[i]++Ex NO (i+1) (d.Instances.drop (i+1))):=by
  conv=>lhs;rw [e]
  rw [ME]
  simp [Ex,Nat.min_eq_left (Nat.le_of_lt hi)]
 unfold pls
 rw [e2];simp
theorem Ks{d:AX}{i q:Nat}(hi:i<d.Instances.length)(hq:q<d.Instances[i].Nets.length):Py (UK i q) (pls d) (Jm d i+q):=by
 obtain⟨C,e⟩:=Xv hi
 have hp:∀j:Nat,(NO i d.Instances[i])[j]? =(d.Instances[i].Nets[j]?).map fun x=>BD.mk i j x ((j:Int)==(d.Instances[i].Nets.length:Int)-1):=by
  intro j
  have:=QS (fun j q=>BD.mk i j q ((j:Int)==(d.Instances[i].Nets.length:Int)-1)) d.Instances[i].Nets 0 j
  rw [Nat.zero_add]at this
  exact this
 have hl:(NO i d.Instances[i]).length=d.Instances[i].Nets.length:=by
  apply Nat.le_antisymm
  ·apply Nat.le_of_not_lt
   intro h
   have:=hp d.Instances[i].Nets.length
   rw [List.getElem?_eq_getElem h]at this
   simp at this
  ·apply Nat.le_of_not_lt
   intro h
   have:=hp (NO i d.Instances[i]).length
   rw [List.getElem?_eq_getElem h]at this
   simp at this
 have hA:∀y∈Ex NO 0 (d.Instances.take i),y.instance_<(i:Int):=by
  refine DR (Q:=fun p:BD=>p.instance_<(i:Int)) _ 0 (fun j hj y hy=>?_)
  have hji:j<i:=by simp at hj;omega
  refine DR (Q:=fun p:BD=>p.instance_<(i:Int)) _ 0 (fun k hk z hz=>?_) y hy
  simp only [List.mem_singleton]at hz
  subst hz
  show((0+j:Nat):Int)<i
  omega
 refine⟨⟨BD.mk i q d.Instances[i].Nets[q] ((q:Int)==(d.Instances[i].Nets.length:Int)-1),?_,by simp [UK]⟩,?_⟩
 ·rw [e,Jm,List.getElem?_append_right (by omega),Nat.add_sub_cancel_left,List.getElem?_append_left (by omega),hp,List.getElem?_eq_getElem hq];rfl
 ·intro j y hj hy
  rw [e]at hy
  by_cases c:j<(Ex NO 0 (d.Instances.take i)).length
  ·rw [List.getElem?_append_left c]at hy
   have:=hA y (List.mem_of_getElem? hy)
   simp only [UK,Bool.and_eq_false_iff,beq_eq_false_iff_ne];left;omega
  ·unfold Jm at hj
   rw [List.getElem?_append_right (by omega),List.getElem?_append_left (by omega),hp]at hy
   obtain⟨x,_,rfl⟩:=Option.map_eq_some_iff.1 hy
   simp only [UK,Bool.and_eq_false_iff,beq_eq_false_iff_ne];right
   show((j-(Ex NO 0 (d.Instances.take i)).length:Nat):Int)≠q
   omega
theorem eB{n:Nat}{l:Az}{d:AX}(v:Cw l d){i q:Nat}(hi:i<d.Instances.length)(hq:q<d.Instances[i].Nets.length)(hn:1048577<=n):Sz n d (i:Int) (q:Int)=some ((Jm d i+q:Nat):Int):=by
 have f:=Ks hi hq
 have hl:=CB v.short v.few.1 v.few.2.2
 have fl:=f.lt
 rw [Sz,Oq v.short v.few.1 v.few.2.2 hn,Ao]
 refine loop (L:=fun m j (_:Unit)=>HY (i:Int) (q:Int) ((pls d).map Gj) (fun i26=>(some (-1))) m j) (Jm d i+q+1) (fun j _=>j<=Jm d i+q) (fun o=>o=some ((Jm d i+q:Nat):Int)) ?_ ?_ n 0 () (by omega) (by omega) (by omega)
 ·intro m j _ hj hI
  have hjl:j<(pls d).length:=by omega
  have hjm:j<((pls d).map Gj).length:=by simpa using hjl
  have hg:AM ((pls d).map Gj) (j:Int)=some (Gj (pls d)[j]):=by rw [AU hjm];simp
  have hb:(Option.bind (cond ((Gj (pls d)[j]).instance_==(i:Int)) (some ((Gj (pls d)[j]).pin_==(q:Int))) (some false)) fun c35=>(cond c35 (some (j:Int)) (HY (i:Int) (q:Int) ((pls d).map Gj) (fun i26=>(some (-1))) m (wrap .i64 ((j:Int)+1)))))=(cond (UK i q (pls d)[j]) (some (j:Int)) (HY (i:Int) (q:Int) ((pls d).map Gj) (fun i26=>(some (-1))) m ((j+1:Nat):Int))):=by
   rw [wT j,Bt,Ao];rfl
  simp only [HY.eq_2,Cj hjm,cT,hg,Ao]
  rw [hb]
  by_cases c:j=Jm d i+q
  ·obtain⟨y,e,hy⟩:=f.hit
   rw [←c,List.getElem?_eq_getElem hjl]at e
   obtain rfl:=Option.some.inj e
   rw [hy,cT,←c];exact .inr rfl
  ·have:=f.miss j _ (by omega) (List.getElem?_eq_getElem hjl)
   rw [this,cF];exact .inl ⟨(),by omega,rfl⟩
 ·intro m _ hI
  omega
theorem Cw.inst_at{l:Az}{d:AX}(v:Cw l d){i:Nat}(hi:i<d.Instances.length):∃k,∃h:k<l.Cells.length,d.Instances[i].Cell=(k:Int)∧AM l.Cells d.Instances[i].Cell=some l.Cells[k]∧d.Instances[i].Nets.length=l.Cells[k].Pins.length∧OF l.Cells[k]:=by
 have x:=v.inst _ (List.getElem_mem hi)
 obtain⟨k,hk⟩:=Int.eq_ofNat_of_zero_le x.cell.1
 have hk:d.Instances[i].Cell=(k:Int):=hk
 have h:k<l.Cells.length:=by have:=x.cell.2;omega
 have g:AM l.Cells d.Instances[i].Cell=some l.Cells[k]:=by rw [hk];exact AU h
 exact⟨k,h,hk,g,x.pins _ g,v.lib.cells k h⟩
theorem Wg.mono{l:List Int}(h:Wg l):∀(d i:Nat),i+d+1<l.length->gd l i<gd l (i+d+1)
 |0,i,hi=>by have:=h.2.2 (i+0+1) hi (by omega);simpa using this
 |d+1,i,hi=>by
  have a:=Wg.mono h d i (by omega)
  have b:=h.2.2 (i+(d+1)+1) hi (by omega)
  rw [show i+(d+1)+1-1=i+d+1 by omega]at b
  omega
theorem Wg.lt{l:List Int}(h:Wg l){i j:Nat}(hij:i<j)(hj:j<l.length):gd l i<gd l j:=by
 have:=h.mono (j-i-1) i (by omega)
 rwa [show i+(j-i-1)+1=j by omega]at this
def Je(l:List Int)(x:Int):Int:=min (max x (gd l 0)) (gd l (l.length-1))
theorem UW{l:List Int}(h:Wg l)(x:Int):gd l 0<=Je l x∧Je l x<=gd l (l.length-1):=by
 have h1:=h.1.1
 have:gd l 0<=gd l (l.length-1):=by
  by_cases c:l.length=1
  ·rw [c];exact Int.le_refl _
  ·have:=h.lt (show 0<l.length-1 by omega) (by omega);omega
 unfold Je;omega
theorem mw{a c:Int}(ha:0<=a∧a<=200000)(hc:0<=c∧c<=200000):wrap .i64 (a*c)=a*c:=by
 have h1:0<=a*c:=Int.mul_nonneg ha.1 hc.1
 have h2:a*c<=200000*c:=Int.mul_le_mul_of_nonneg_right ha.2 hc.1
 exact Aq (by omega) (by omega)
theorem tO{i L k u v:Nat}(hi:i+u<=4)(hL:L<=4)(hk:k<=4)(hv:v<=1):wrap .i64 (wrap .i64 (wrap .i64 (wrap .i64 ((i:Int)+(u:Int))*(L:Int))+(k:Int))+(v:Int))=(((i+u)*L+(k+v):Nat):Int):=by
 have:(i+u)*L<=4*4:=Nat.mul_le_mul hi hL
 rw [Aq (x:=(i:Int)+(u:Int)) (by omega) (by omega),show(i:Int)+(u:Int)=((i+u:Nat):Int) by omega,bR hi hL,Aq (x:=(((i+u)*L:Nat):Int)+(k:Int)) (by omega) (by omega),Aq (by omega) (by omega)];omega
theorem sW{S L i k:Nat}(hi:i<S)(hk:k<L):i*L+k<S*L:=by
 have:(i+1)*L<=S*L:=Nat.mul_le_mul_right L hi
 rw [Nat.add_mul]at this;omega
theorem wk{k:Int}(h0:0<=k)(h1:k<=2305843009213693952):wrap .i64 (k+1)=k+1:=Aq (by omega) (by omega)
def Lh(b:AF)(x:Av):List Bf:=match AM b.Library.Cells x.Cell with
 |some c=>c.Arcs
 |none=>[]
def FK(q:Int)(p:BD):Bool:=p.net_==q&&p.drives_
theorem Sp(i:Nat)(q L:Int):∀(xs:List Int) (s:Nat),xs≠[]->L=((s+xs.length:Nat):Int)-1->((Ex (fun j n=>[BD.mk i j n ((j:Int)==L)]) s xs).countP (FK q):Int)=if gd xs (xs.length-1)=q then 1 else 0
 |[],_,h,_=>absurd rfl h
 |[x],s,_,hL=>by
  have e:((s:Int)==L)=true:=by rw [beq_iff_eq,hL];simp
  simp only [Ex,List.append_nil,e]
  by_cases c:x=q
  ·subst c;simp [FK,gd]
  ·have:(x==q)=false:=by rw [beq_eq_false_iff_ne];exact c
   simp [FK,gd,this,c]
 |x::y::zs,s,_,hL=>by
  have ih:=Sp i q L (y::zs) (s+1) (by simp) (by rw [hL];simp only [List.length_cons];omega)
  have e:((s:Int)==L)=false:=by rw [beq_eq_false_iff_ne,hL];simp only [List.length_cons];omega
  rw [Ex,List.countP_append]
  have h0:List.countP (FK q) [BD.mk i s x ((s:Int)==L)]=0:=by simp [FK,e]
  rw [h0,Nat.zero_add,ih]
  simp [gd]
theorem WK{q:Nat}{N:Nat}(hq:q<N):∀(xs:List Av) (t:List Int) (s:Nat),t.length=N->(∀x∈xs,x.Nets≠[]∧0<=Kj x∧Kj x<N)->gd (xs.foldl cI t) q=gd t q+((Ex NO s xs).countP (FK q):Int)∧(xs.foldl cI t).length=N
 |[],t,s,ht,_=>by simp [Ex,ht]
 |x::xs,t,s,ht,hx=>by
  obtain⟨x1,x2,x3⟩:=hx x (by simp)
  obtain⟨h1,h2⟩:=WK hq xs (cI t x) (s+1) (by unfold cI IR;simpa using ht) fun y hy=>hx y (by simp [hy])
  refine⟨?_,h2⟩
  rw [List.foldl_cons,h1,Ex,List.countP_append]
  have hc:=Sp s q ((x.Nets.length:Int)-1) x.Nets 0 x1 (by simp)
  have hc:((NO s x).countP (FK q):Int)=if gd x.Nets (x.Nets.length-1)=q then 1 else 0:=hc
  have hb:gd (cI t x) q=gd t q+if gd x.Nets (x.Nets.length-1)=q then 1 else 0:=by
   have hl:Kj x=gd x.Nets (x.Nets.length-1):=rfl
   unfold cI IR
   rw [OG (by omega),←hl]
   by_cases c:Kj x=q
   ·rw [if_pos (by omega),if_pos c];have:(Kj x).toNat=q:=by omega
    rw [this]
   ·rw [if_neg (by omega),if_neg c];omega
  rw [hb];push_cast;omega
theorem Wd{q:Nat}{N:Nat}(hq:q<N):∀(xs:List CI) (t:List Int) (s:Nat),t.length=N->(∀x∈xs,0<=x.Net∧x.Net<N)->gd (xs.foldl cP t) q=gd t q+((Ex TY s xs).countP (FK q):Int)
 |[],t,s,ht,_=>by simp [Ex]
 |x::xs,t,s,ht,hx=>by
  obtain⟨x2,x3⟩:=hx x (by simp)
  have h1:=Wd hq xs (cP t x) (s+1) (by unfold cP IR;split<;>simpa using ht) fun y hy=>hx y (by simp [hy])
  rw [List.foldl_cons,h1,Ex,List.countP_append]
  have hb:gd (cP t x) q=gd t q+((TY s x).countP (FK q):Int):=by
   unfold cP TY
   by_cases d:x.Dir=1
   ·have:(x.Dir==1)=true:=by rw [beq_iff_eq];exact d
    rw [if_pos d];unfold IR
    rw [OG (by omega)]
    by_cases c:x.Net=q
    ·have e:(x.Net==(q:Int))=true:=by rw [beq_iff_eq];exact c
     have e2:x.Net.toNat=q:=by omega
     rw [if_pos e2,e2];simp [FK,this,e]
    ·have e:(x.Net==(q:Int))=false:=by rw [beq_eq_false_iff_ne];exact c
     rw [if_neg (by omega)];simp [FK,this,e]
   ·have:(x.Dir==1)=false:=by rw [beq_eq_false_iff_ne];exact d
    rw [if_neg d];simp [FK,this]
  rw [hb];push_cast;omega
theorem Xl{l:Az}{d:AX}(v:Cw l d){q:Nat}(hq:q<d.Nets.length):(pls d).countP (FK q)=1:=by
 obtain⟨h1,h2⟩:=WK (N:=d.Nets.length) hq d.Instances (List.replicate d.Nets.length 0) 0 (by simp) fun x hx=>by
  have a:=(v.inst x hx).long v.lib
  have b:=(v.inst x hx).last v.lib
  exact⟨fun e=>by rw [e]at a;simp at a,b⟩
 have h3:=Wd (N:=d.Nets.length) hq d.Ports _ 0 h2 fun x hx=>by have:=(v.port x hx).net;omega
 have h4:=v.one q hq
 unfold drv at h4
 rw [h3,h1,OK]at h4
 unfold pls
 rw [List.countP_append];omega
theorem PL{α:Type}(f:α->Bool):∀(xs:List α),xs.countP f=1->∃k,∃h:k<xs.length,f xs[k]=true∧∀j (h:j<xs.length),f xs[j]=true->j=k
 |[],h=>by simp at h
 |x::xs,h=>by
  rw [List.countP_cons]at h
  by_cases c:f x=true
  ·have h0:xs.countP f=0:=by simpa [c] using h
   refine⟨0,by simp,c,fun j hj hf=>?_⟩
   cases j with
   |zero=>rfl
   |succ j=>
    have hf:f (xs[j]'(by simpa using hj))=true:=hf
    rw [List.countP_eq_zero]at h0
    exact absurd hf (h0 _ (List.getElem_mem _))
  ·have h0:xs.countP f=1:=by simpa [c] using h
   obtain⟨k,hk,a,b⟩:=PL f xs h0
   refine⟨k+1,by simpa using hk,by simpa using a,fun j hj hf=>?_⟩
   cases j with
   |zero=>exact absurd hf c
   |succ j=>rw [b j (by simpa using hj) (by simpa using hf)]
def MB(d:AX)(q:Nat):Nat:=(pls d).findIdx (FK q)
structure fW(d:AX)(q k:Nat):Prop where
 lt:k<(pls d).length
 hit:FK q (pls d)[k]=true
 only:∀j (h:j<(pls d).length),FK q (pls d)[j]=true->j=k
theorem Px{l:Az}{d:AX}(v:Cw l d){q:Nat}(hq:q<d.Nets.length):fW d q (MB d q):=by
 obtain⟨k,hk,a,b⟩:=PL _ _ (Xl v hq)
 have:MB d q=k:=by
  unfold MB
  rw [List.findIdx_eq hk]
  refine⟨a,fun j hj=>?_⟩
  cases c:FK q ((pls d)[j]'(by omega))with
  |false=>rfl
  |true=>have:=b j (by omega) c;omega
 rw [this];exact⟨hk,a,b⟩
theorem mJ{n:Nat}{l:Az}{d:AX}(v:Cw l d){q:Nat}(hq:q<d.Nets.length)(hn:1048577<=n):UT n d (q:Int)=some (MB d q:Int):=by
 have hd:=Px v hq
 have hl:=CB v.short v.few.1 v.few.2.2
 rw [UT,Oq v.short v.few.1 v.few.2.2 hn,Ao]
 have hk:=hd.lt
 refine loop (L:=fun m i (_:Unit)=>Ky (q:Int) ((pls d).map Gj) (fun i26=>some (-1)) m i) ((pls d).map Gj).length (fun i _=>i<=MB d q) (fun o=>o=some (MB d q:Int)) ?_ ?_ n 0 () (by omega) (by simp;omega) (by omega)
 ·intro m i _ hi hI
  have hi2:i<(pls d).length:=by simpa using hi
  have e:((pls d).map Gj)[i]=Gj (pls d)[i]:=by simp
  simp only [Ky.eq_2,Cj hi,cT,AU hi,Ao,Bt,e,wT i]
  have e2:((Gj (pls d)[i]).net_==(q:Int)&&(Gj (pls d)[i]).drives_)=FK q (pls d)[i]:=rfl
  rw [e2]
  cases c:FK q (pls d)[i]with
  |true=>rw [hd.only i hi2 c];exact .inr rfl
  |false=>
   refine .inl ⟨(),?_,rfl⟩
   rcases Nat.lt_or_ge i (MB d q)with h|h
   ·omega
   ·obtain rfl:i=MB d q:=by omega
    rw [hd.hit]at c;cases c
 ·intro m _ hI
  have:((pls d).map Gj).length=(pls d).length:=by simp
  omega
def Rf(a:Bf)(p:Int×Int):Bool:=cond (a.Kind==1) ((a.Sense==3)||((a.Sense==1)==(p.1==p.2))) (cond (a.Kind==2) (p.1==0) (cond (a.Kind==3) (p.1==1) false))
def dK(a:Bf):List (Int×Int):=[(0,0),(0,1),(1,0),(1,1)].filter (Rf a)
def bL(o k:Nat)(a:Bf):List AR:=(dK a).map fun t=>⟨2*((o:Int)+a.From)+t.1,2*((o:Int)+a.To)+t.2,1,(k:Int)⟩
def XA(b:AF)(i:Nat)(x:Av):List AR:=Ex (bL (Jm b.Design i)) 0 (Lh b x)
def ZI(r:Int)(j:Nat)(s:Int):List AR:=[⟨2*r,2*s,2,(j:Int)⟩,⟨2*r+1,2*s+1,2,(j:Int)⟩]
def dZ(d:AX)(q:Nat):List AR:=Ex (ZI (MB d q:Int)) 0 (JU d (q:Int))
def Dk(b:AF):List AR:=Ex (XA b) 0 b.Design.Instances++Ex (fun q (_:ByteArray)=>dZ b.Design q) 0 b.Design.Nets
theorem Xe(a:Bf):(dK a).length<=4:=Nat.le_trans (List.length_filter_le _ _) (by simp)
theorem Sj(o k:Nat)(a:Bf):(bL o k a).length<=4:=by unfold bL;rw [List.length_map];exact Xe a
theorem Ps{b:AF}(v:Bh b)(i:Nat){x:Av}(hx:x∈b.Design.Instances):(XA b i x).length<=32:=by
 obtain⟨j,hj,rfl⟩:=List.getElem_of_mem hx
 obtain⟨k,hk,_,gc,_,vc⟩:=v.design.inst_at hj
 have:=FG (c:=4) (g:=bL (Jm b.Design i)) (Lh b b.Design.Instances[j]) 0 fun j a _=>Sj _ _ a
 have few:=vc.few
 unfold XA
 unfold Lh at this ⊢
 rw [gc]at this ⊢
 simp only at this ⊢
 omega
theorem SU{l:Az}{d:AX}(v:Cw l d)(q:Nat):(dZ d q).length<=156:=by
 have h1:=FG (c:=2) (g:=ZI (MB d q:Int)) (JU d (q:Int)) 0 fun j s _=>by simp [ZI]
 have h2:=GQ (d:=d) (q:=(q:Int))
 have hl:=CB v.short v.few.1 v.few.2.2
 have h3:snk d (q:Int)<=78:=Nat.le_trans List.countP_le_length hl
 unfold dZ;omega
theorem FT{b:AF}(v:Bh b):(Dk b).length<=5128:=by
 have h1:=FG (c:=32) (g:=XA b) b.Design.Instances 0 fun j x hx=>Ps v j hx
 have h2:=FG (c:=156) (g:=fun q (_:ByteArray)=>dZ b.Design q) b.Design.Nets 0 fun j x _=>SU v.design j
 have:=v.design.few
 unfold Dk;rw [List.length_append];omega
theorem aB{n:Nat}{l:List AR}{f t a b kd k:Int}(hl:l.length<=10000000)(hf:0<=f∧f<=100000)(ht:0<=t∧t<=100000)(ha:0<=a∧a<=1)(hb:0<=b∧b<=1):Pv n l f t a b kd k=some (l++[⟨2*f+a,2*t+b,kd,k⟩]):=by
 rw [Pv,Aq (x:=2*f) (by omega) (by omega),Aq (x:=2*t) (by omega) (by omega),Aq (by omega) (by omega),Aq (by omega) (by omega),BL (by simp;omega) (by omega),Ao]
theorem ZR{n:Nat}{a:Bf}{f t k i:Int}{k2:List AR->Int->Option (List AR)}(hf:0<=f∧f<=100000)(ht:0<=t∧t<=100000)(hi:0<=i∧i<=1){l:List AR}(hl:l.length<=9000000)(m:Nat):
 FH n a f t k i k2 (m+3) l 0=k2 (l++([(i,0),(i,1)].filter (Rf a)).map fun p=>⟨2*f+p.1,2*t+p.2,1,k⟩) 2:=by
 have w1:wrap .i64 ((0:Int)+1)=1:=by decide
 have w2:wrap .i64 ((1:Int)+1)=2:=by decide
 have step:∀(m:Nat) (l:List AR) (j:Int),l.length<=9500000->0<=j->j<=1->FH n a f t k i k2 (m+1) l j=FH n a f t k i k2 m (l++([(i,j)].filter (Rf a)).map fun p=>⟨2*f+p.1,2*t+p.2,1,k⟩) (wrap .i64 (j+1)):=by
  intro m l j hl2 h0 h1
  have hp:=aB (n:=n) (l:=l) (f:=f) (t:=t) (a:=i) (b:=j) (kd:=1) (k:=k) (by omega) hf ht hi ⟨h0,h1⟩
  have dj:decide (j<=1)=true:=decide_eq_true h1
  simp only [FH.eq_2,dj,cT,hp,Ao,List.filter_cons,List.filter_nil,Rf]
  by_cases k1:a.Kind=1
  ·have e1:(a.Kind==1)=true:=by rw [beq_iff_eq];exact k1
   simp only [e1,cT]
   by_cases c:((a.Sense==3)||((a.Sense==1)==(i==j)))=true
   ·rw [c];simp
   ·have c:((a.Sense==3)||((a.Sense==1)==(i==j)))=false:=by simpa using c
    rw [c];simp
  ·have e1:(a.Kind==1)=false:=by rw [beq_eq_false_iff_ne];exact k1
   simp only [e1,cF]
   by_cases k2:a.Kind=2
   ·have e2:(a.Kind==2)=true:=by rw [beq_iff_eq];exact k2
    simp only [e2,cT]
    by_cases c:i=0
    ·subst c;simp
    ·have c:(i==0)=false:=by rw [beq_eq_false_iff_ne];exact c
     rw [c];simp
   ·have e2:(a.Kind==2)=false:=by rw [beq_eq_false_iff_ne];exact k2
    simp only [e2,cF]
    by_cases k3:a.Kind=3
    ·have e3:(a.Kind==3)=true:=by rw [beq_iff_eq];exact k3
     simp only [e3,cT]
     by_cases c:i=1
     ·subst c;simp
     ·have c:(i==1)=false:=by rw [beq_eq_false_iff_ne];exact c
      rw [c];simp
    ·have e3:(a.Kind==3)=false:=by rw [beq_eq_false_iff_ne];exact k3
     simp only [e3,cF];simp
 have hl3:∀j:Int,(([(i,j)].filter (Rf a)).map fun p:Int×Int=>(⟨2*f+p.1,2*t+p.2,1,k⟩:AR)).length<=1:=fun j=>by rw [List.length_map];exact Nat.le_trans (List.length_filter_le _ _) (by simp)
 rw [step (m+2) l 0 (by omega) (by omega) (by omega),w1,step (m+1) _ 1 (by have:=hl3 0;rw [List.length_append];omega) (by omega) (by omega),w2,FH.eq_2]
 have d2:decide ((2:Int)<=1)=false:=by decide
 rw [d2,cF,List.append_assoc,←List.map_append,←List.filter_append]
 rfl
theorem lB{n:Nat}{a:Bf}{f t k:Int}(hf:0<=f∧f<=100000)(ht:0<=t∧t<=100000){l:List AR}(hl:l.length<=8000000)(hn:1048577<=n):
 eI n l a f t k=some (l++(dK a).map fun p=>⟨2*f+p.1,2*t+p.2,1,k⟩):=by
 obtain⟨m,rfl⟩:∃m,n=m+3:=⟨n-3,by omega⟩
 have w1:wrap .i64 ((0:Int)+1)=1:=by decide
 have w2:wrap .i64 ((1:Int)+1)=2:=by decide
 have d0:decide ((0:Int)<=1)=true:=by decide
 have d1:decide ((1:Int)<=1)=true:=by decide
 have d2:decide ((2:Int)<=1)=false:=by decide
 have hl3:(([((0:Int),(0:Int)),(0,1)].filter (Rf a)).map fun p:Int×Int=>(⟨2*f+p.1,2*t+p.2,1,k⟩:AR)).length<=2:=by rw [List.length_map];exact Nat.le_trans (List.length_filter_le _ _) (by simp)
 rw [eI,MG.eq_2,d0,cT,ZR hf ht (by omega) (by omega),w1,MG.eq_2,d1,cT,ZR hf ht (by omega) (by rw [List.length_append];omega),w2,MG.eq_2,d2,cF,List.append_assoc,←List.map_append,←List.filter_append]
 rfl
theorem SW{c:At}(vc:OF c){j:Nat}(hj:j<c.Arcs.length):(0<=c.Arcs[j].From∧c.Arcs[j].From<c.Pins.length)∧(0<=c.Arcs[j].To∧c.Arcs[j].To<c.Pins.length)∧(c.Arcs[j].Kind=1∧(1<=c.Arcs[j].Sense∧c.Arcs[j].Sense<=3)∨c.Arcs[j].Kind=2∨c.Arcs[j].Kind=3∨c.Arcs[j].Kind=4∨c.Arcs[j].Kind=5):=by
 have ar:=(vc.arcs j hj).1
 unfold ND at ar
 refine⟨by omega,by omega,?_⟩
 obtain⟨_,ar⟩:=ar
 by_cases k1:c.Arcs[j].Kind=1
 ·rw [if_pos k1]at ar;exact .inl ⟨k1,ar.2.2.1⟩
 ·rw [if_neg k1]at ar
  by_cases k2:c.Arcs[j].Kind=2∨c.Arcs[j].Kind=3
  ·rcases k2 with k|k
   ·exact .inr (.inl k)
   ·exact .inr (.inr (.inl k))
  ·rw [if_neg k2]at ar
   by_cases k4:c.Arcs[j].Kind=4∨c.Arcs[j].Kind=5
   ·rcases k4 with k|k
    ·exact .inr (.inr (.inr (.inl k)))
    ·exact .inr (.inr (.inr (.inr k)))
   ·rw [if_neg k4]at ar;exact ar.elim
theorem Qj{a:Bf}(h:3<a.Kind):dK a=[]:=by
 have e1:(a.Kind==1)=false:=by rw [beq_eq_false_iff_ne];omega
 have e2:(a.Kind==2)=false:=by rw [beq_eq_false_iff_ne];omega
 have e3:(a.Kind==3)=false:=by rw [beq_eq_false_iff_ne];omega
 simp [dK,Rf,e1,e2,e3]
theorem Rq{n:Nat}{b:AF}(v:Bh b)(hn:1048577<=n):Wx n b=some (Dk b):=by
 have vd:=v.design
 have few:=vd.few
 have hl:=CB vd.short vd.few.1 vd.few.2.2
 have hI:=FG (c:=32) (g:=XA b) b.Design.Instances 0 fun j x hx=>Ps v j hx
 rw [Wx]
 rw [Du (xs:=b.Design.Instances) (L:=fun m s i=>Jt n b (fun l44 i48=>(HK n b (fun l55 i59=>(some l55)) n l44 0)) m s i) (k:=fun s=>HK n b (fun l55 i59=>some l55) n s 0) (XA b) 32 0 (fun j x hx=>Ps v j hx) (by omega) (by
  intro m i hi s hs
  obtain⟨k,hk,_,gc,hnl,vc⟩:=v.design.inst_at hi
  have fa:=vc.few
  have fp:=vc.pins.few
  have hoff:=(Ks (d:=b.Design) (q:=0) hi (by have:=(vd.inst _ (List.getElem_mem hi)).long vd.lib;omega)).lt
  simp only [Jt.eq_2,Cj hi,cT,AU hi,gc,Ao,wT i]
  have ea:Lh b b.Design.Instances[i]=b.Library.Cells[k].Arcs:=by unfold Lh;rw [gc]
  rw [XA,ea]
  refine Du (xs:=b.Library.Cells[k].Arcs) (L:=fun m s j=>KV n b (i:Int) b.Library.Cells[k] _ m s j) (k:=fun s=>Jt n b (fun l44 i48=>(HK n b (fun l55 i59=>(some l55)) n l44 0)) m s ((i+1:Nat):Int)) (bL (Jm b.Design i)) 4 s.length (fun j a _=>Sj _ _ a) (by omega) ?_ ?_ n (by omega) s (by omega)
  ·intro m j hj s2 hs2
   obtain⟨⟨f0,f1⟩,⟨t0,t1⟩,kd⟩:=SW vc hj
   simp only [KV.eq_2,Cj hj,cT,AU hj,Ao,wT j]
   by_cases c:b.Library.Cells[k].Arcs[j].Kind<=3
   ·rw [decide_eq_true c,cT]
    obtain⟨F,eF⟩:=Int.eq_ofNat_of_zero_le f0
    have eF:b.Library.Cells[k].Arcs[j].From=(F:Int):=eF
    obtain⟨T,eT⟩:=Int.eq_ofNat_of_zero_le t0
    have eT:b.Library.Cells[k].Arcs[j].To=(T:Int):=eT
    have p1:=eB (n:=n) vd (q:=F) hi (by omega) hn
    have p2:=eB (n:=n) vd (q:=T) hi (by omega) hn
    rw [eF,eT,p1,Ao,p2,Ao,lB (by omega) (by omega) (by omega) hn,Ao]
    congr 2
    unfold bL
    rw [eF,eT]
    simp
   ·rw [decide_eq_false c,cF]
    unfold bL
    rw [Qj (by omega),List.map_nil,List.append_nil]
  ·intro m s
   simp only [KV.eq_2,DB,cF]) (by
  intro m s
  simp only [Jt.eq_2,DB,cF]) n (by omega) [] (by simp)]
 rw [List.nil_append]
 rw [Du (xs:=b.Design.Nets) (L:=fun m s i=>HK n b (fun l55 i59=>(some l55)) m s i) (k:=fun s=>some s) (fun q _=>dZ b.Design q) 156 (Ex (XA b) 0 b.Design.Instances).length (fun j x _=>SU vd j) (by omega) (by
  intro m i hi s hs
  have hd:=(Px vd hi).lt
  have hsl:(JU b.Design (i:Int)).length<=78:=by
   rw [GQ];exact Nat.le_trans List.countP_le_length hl
  simp only [HK.eq_2,Cj hi,cT,mJ vd hi hn,bE vd (i:Int) hn,Ao,wT i]
  refine Du (xs:=JU b.Design (i:Int)) (L:=fun m s j=>Le n (MB b.Design i:Int) (JU b.Design (i:Int)) _ m s j) (k:=fun s=>HK n b (fun l55 i59=>(some l55)) m s ((i+1:Nat):Int)) (ZI (MB b.Design i:Int)) 2 s.length (fun j a _=>by simp [ZI]) (by omega) ?_ ?_ n (by omega) s (by omega)
  ·intro m j hj s2 hs2
   have hq:=MN _ (List.getElem_mem hj)
   simp only [Le.eq_2,Cj hj,cT,AU hj,Ao,wT j]
   rw [aB (by omega) (by omega) (by omega) (by omega) (by omega),Ao,aB (by simp;omega) (by omega) (by omega) (by omega) (by omega),Ao]
   rw [List.append_assoc]
   congr 2
   simp [ZI]
  ·intro m s
   simp only [Le.eq_2,DB,cF]) (by
  intro m s
  simp only [HK.eq_2,DB,cF]) n (by omega) _ (Nat.le_refl _)]
 rfl
theorem GJ{α β:Type}(h:Nat->α->β):∀(xs:List α) (s:Nat),(Ex (fun j q=>[h j q]) s xs).length=xs.length
 |[],_=>rfl
 |x::xs,s=>by simp [Ex,GJ h xs (s+1)]
theorem Xf{a:Bf}:∀p∈dK a,(0<=p.1∧p.1<=1)∧0<=p.2∧p.2<=1:=fun p hp=>by
 have:=(List.mem_filter.1 hp).1
 simp only [List.mem_cons,List.not_mem_nil,or_false]at this
 rcases this with rfl|rfl|rfl|rfl<;>simp
def kR(N:Int)(br:List Int):Prop:=∀i,i<br.length->(0<=gd br i∧gd br i<=N-1)∧(0<i->gd br (i-1)<gd br i)
theorem rV{n:Nat}{br:List Int}{N:Int}(h:br.length<=1048576)(hN:0<=N∧N<=1048576)(hn:1048577<=n):BQ (kR N br) (VV n br N):=by
 rw [VV]
 refine(EM (L:=fun m i=>If n br N _ m i) (Q:=True) br.length 0 (fun i=>(0<=gd br i∧gd br i<=N-1)∧(0<i->gd br (i-1)<gd br i)) ?_ ?_ n 0 (by omega) (by omega) (by omega) (fun j _ h=>by omega)).iff ?_
 ·intro m i _ hi
  simp only [If.eq_2,Cj hi,cT,gI hi,Ao,HI,wT i,Aq (x:=N-1) (by omega) (by omega)]
  by_cases c:0<=gd br i∧gd br i<=N-1
  ·have e:(decide (gd br i>=0)&&decide (gd br i<=N-1))=true:=Nc.2 c
   rw [e]
   simp only [Bool.not_true,cF]
   by_cases c0:0<i
   ·have w1:wrap .i64 ((i:Int)-1)=((i-1:Nat):Int):=by rw [Aq (by omega) (by omega)];omega
    simp only [decide_eq_true (show(i:Int)>0 by omega),cT,w1,gI (show i-1<br.length by omega),Ao]
    by_cases c1:gd br (i-1)<gd br i
    ·rw [decide_eq_false (show¬gd br (i-1)>=gd br i by omega),cF];exact .inl ⟨⟨c,fun _=>c1⟩,rfl⟩
    ·rw [decide_eq_true (show gd br (i-1)>=gd br i by omega),cT];exact .inr ⟨fun h=>c1 (h.2 c0),rfl⟩
   ·simp only [decide_eq_false (show¬(i:Int)>0 by omega),cF,Ao]
    exact .inl ⟨⟨c,fun h=>absurd h c0⟩,by trivial⟩
  ·have e:(decide (gd br i>=0)&&decide (gd br i<=N-1))=false:=by
    cases q:(decide (gd br i>=0)&&decide (gd br i<=N-1))with
    |false=>rfl
    |true=>exact absurd (Nc.1 q) c
   rw [e]
   simp only [Bool.not_false,cT,Ao]
   exact .inr ⟨fun h=>c h.1,by trivial⟩
 ·intro m i h1 h2 _
  obtain rfl:i=br.length:=by omega
  simp only [If.eq_2,DB,cF]
  exact⟨true,rfl,by simp⟩
 ·exact⟨fun h i hi=>h.1 i (Nat.zero_le _) hi,fun h=>⟨fun i _ hi=>h i hi,trivial⟩⟩
theorem jD{n:Nat}{br:List Int}{x:Int}(h:br.length<=1048576)(hn:1048577<=n):RZ n br x=some (br.any fun y=>y==x):=by
 rw [RZ]
 refine loop (L:=fun m i (_:Unit)=>JY br x (fun i5=>some false) m i) br.length (fun i _=>(br.any fun y=>y==x)=((br.drop i).any fun y=>y==x)) (fun o=>o=some (br.any fun y=>y==x)) ?_ ?_ n 0 () (by omega) (by omega) (by simp)
 ·intro m i _ hi hI
  simp only [JY.eq_2,Cj hi,cT,AU hi,Ao,wT i]
  rw [List.drop_eq_getElem_cons hi,List.any_cons]at hI
  cases c:(br[i]==x)with
  |true=>rw [c,Bool.true_or]at hI;rw [hI];exact .inr rfl
  |false=>rw [c,Bool.false_or]at hI;exact .inl ⟨(),hI,rfl⟩
 ·intro m _ hI
  rw [List.drop_length]at hI
  simp only [JY.eq_2,DB,cF,hI,List.any_nil]
structure TB(b:AF)(x:AR):Prop where
 from_:0<=x.From∧x.From<Bc b
 to_:0<=x.To∧x.To<Bc b
 arc:x.Kind=1->∃p y c a,AM (pls b.Design) (wrap .i64 (Int.tdiv x.To 2))=some p∧p∈pls b.Design∧AM b.Design.Instances p.instance_=some y∧AM b.Library.Cells y.Cell=some c∧AM c.Arcs x.Index=some a∧(a.Kind=1∨a.Kind=2∨a.Kind=3)
theorem Pu{b:AF}(v:Bh b):∀x∈Dk b,TB b x:=by
 have vd:=v.design
 have hl:=CB vd.short vd.few.1 vd.few.2.2
 have nd:Bc b=2*((pls b.Design).length:Int):=rfl
 intro x hx
 simp only [Dk,List.mem_append]at hx
 rcases hx with hx|hx
 ·refine DR (Q:=TB b) b.Design.Instances 0 (fun i hi y hy=>?_) x hx
  rw [Nat.zero_add]at hy
  obtain⟨k,hk,_,gc,hnl,vc⟩:=vd.inst_at hi
  have ea:Lh b b.Design.Instances[i]=b.Library.Cells[k].Arcs:=by unfold Lh;rw [gc]
  rw [XA,ea]at hy
  refine DR (Q:=TB b) _ 0 (fun j hj z hz=>?_) y hy
  rw [Nat.zero_add]at hz
  obtain⟨⟨f0,f1⟩,⟨t0,t1⟩,kd⟩:=SW vc hj
  obtain⟨t,ht,rfl⟩:=List.mem_map.1 hz
  have tr:=Xf t ht
  obtain⟨F,eF⟩:=Int.eq_ofNat_of_zero_le f0
  have eF:b.Library.Cells[k].Arcs[j].From=(F:Int):=eF
  obtain⟨T,eT⟩:=Int.eq_ofNat_of_zero_le t0
  have eT:b.Library.Cells[k].Arcs[j].To=(T:Int):=eT
  have b1:=(Ks (d:=b.Design) (q:=F) hi (by omega)).lt
  have pf:=Ks (d:=b.Design) (q:=T) hi (by omega)
  have b2:=pf.lt
  obtain⟨p,ep,hp⟩:=pf.hit
  have hp:(p.instance_==(i:Int)&&p.pin_==(T:Int))=true:=hp
  simp only [Bool.and_eq_true,beq_iff_eq]at hp
  have k3:¬3<b.Library.Cells[k].Arcs[j].Kind:=fun h=>by rw [Qj h]at ht;cases ht
  refine⟨?_,?_,fun _=>⟨p,b.Design.Instances[i],b.Library.Cells[k],b.Library.Cells[k].Arcs[j],?_,List.mem_of_getElem? ep,?_,gc,?_,by omega⟩⟩
  ·have h1:0<=2*((Jm b.Design i:Int)+b.Library.Cells[k].Arcs[j].From)+t.1∧2*((Jm b.Design i:Int)+b.Library.Cells[k].Arcs[j].From)+t.1<Bc b:=by rw [eF];omega
   exact h1
  ·have h1:0<=2*((Jm b.Design i:Int)+b.Library.Cells[k].Arcs[j].To)+t.2∧2*((Jm b.Design i:Int)+b.Library.Cells[k].Arcs[j].To)+t.2<Bc b:=by rw [eT];omega
   exact h1
  ·show AM (pls b.Design) (wrap .i64 (Int.tdiv (2*((Jm b.Design i:Int)+b.Library.Cells[k].Arcs[j].To)+t.2) 2))=some p
   rw [eT]
   have e1:Int.tdiv (2*((Jm b.Design i:Int)+(T:Int))+t.2) 2=((Jm b.Design i+T:Nat):Int):=by
    rw [Int.tdiv_eq_ediv_of_nonneg (by omega)];omega
   rw [e1,Aq (by omega) (by omega),IK];exact ep
  ·rw [hp.1];exact AU hi
  ·exact AU hj
 ·refine DR (Q:=TB b) b.Design.Nets 0 (fun q hq y hy=>?_) x hx
  rw [Nat.zero_add]at hy
  have hd:=(Px vd hq).lt
  refine DR (Q:=TB b) _ 0 (fun j hj z hz=>?_) y hy
  have hs:=MN _ (List.getElem_mem hj)
  simp only [ZI,List.mem_cons,List.not_mem_nil,or_false]at hz
  rcases hz with rfl|rfl
  ·exact⟨⟨by show(0:Int)<=2*_;omega,by show(2:Int)*_<_;omega⟩,⟨by show(0:Int)<=2*_;omega,by show(2:Int)*_<_;omega⟩,fun h=>by have h:(2:Int)=1:=h;omega⟩
  ·exact⟨⟨by show(0:Int)<=2*_+1;omega,by show(2:Int)*_+1<_;omega⟩,⟨by show(0:Int)<=2*_+1;omega,by show(2:Int)*_+1<_;omega⟩,fun h=>by have h:(2:Int)=1:=h;omega⟩
theorem qH{n:Nat}{l:Az}{d:AX}(v:Cw l d){p:BD}(hp:p∈pls d):∃r,Vj n l d (Gj p)=some r:=by
 rw [Vj]
 by_cases c:p.instance_<0
 ·rw [decide_eq_true (show(Gj p).instance_<0 from c),cT];exact⟨_,rfl⟩
 ·obtain⟨x,c',pin,e1,e2,e3⟩:=v.place p hp (by omega)
  have e1:AM d.Instances (Gj p).instance_=some x:=e1
  have e3:AM c'.Pins (Gj p).pin_=some pin:=e3
  rw [decide_eq_false (show¬(Gj p).instance_<0 from c),cF,e1,Ao,e2,Ao,e3,Ao];exact⟨_,rfl⟩
theorem rE{n:Nat}{b:AF}(v:Bh b){i:Nat}(hi:i<b.Wires.length)(hn:1048577<=n):BH (fun r=>r.length=b.Wires[i].Parent.length) (dF n b (i:Int)):=by
 have vd:=v.design
 have vw:=v.wire i hi
 have hm:=vw.many
 have hP:=vw.cap
 have hl:=CB vd.short vd.few.1 vd.few.2.2
 have hsl:(JU b.Design (i:Int)).length=b.Wires[i].Sink.length:=by rw [GQ];have:=vw.sink;omega
 have hsn:snk b.Design (i:Int)<=78:=Nat.le_trans List.countP_le_length hl
 have hsn2:=GQ (d:=b.Design) (q:=(i:Int))
 rw [dF,AU hi,Ao,Ox,BL (by simp;omega) (by omega),Ao,Ao,Oq vd.short vd.few.1 vd.few.2.2 hn,Ao,bE vd (i:Int) hn,Ao]
 refine GI (L:=fun m j s=>Ld n b b.Wires[i] ((pls b.Design).map Gj) (JU b.Design (i:Int)) _ m j s) (JU b.Design (i:Int)).length (fun _ s=>s.length=b.Wires[i].Parent.length) ?_ ?_ n _ (by omega) (by simp;omega)
 ·intro m j s hj hs
  have hj2:j<b.Wires[i].Sink.length:=by omega
  have hk:=vw.sinks j hj2
  have hq:=MN _ (List.getElem_mem hj)
  obtain⟨a,ea⟩:=Ej (t:=s) hk.1 (by omega)
  obtain⟨p,ep,hp⟩:=El (xs:=pls b.Design) hq.1 hq.2
  obtain⟨r,er⟩:=qH (n:=n) vd (List.mem_of_getElem? hp)
  have ep2:AM ((pls b.Design).map Gj) (JU b.Design (i:Int))[j]=some (Gj p):=by
   obtain⟨N,hN⟩:=Int.eq_ofNat_of_zero_le hq.1
   have hN:(JU b.Design (i:Int))[j]=(N:Int):=hN
   rw [hN]at hp ⊢
   rw [IK,List.getElem?_map]
   rw [Int.toNat_natCast]at hp
   rw [hp];rfl
  simp only [Ld.eq_2,Cj hj,cT,AU hj,gI hj2,Ao,ea,ep2,er,wT j]
  exact⟨_,by simpa using hs,rfl⟩
 ·intro m s hs
  simp only [Ld.eq_2,DB,cF]
  have wx:wrap .i64 ((s.length:Int)-1)=((s.length-1:Nat):Int):=by rw [Aq (by omega) (by omega)];omega
  rw [wx]
  have key:∀(m k:Nat) (s:List Int),k<b.Wires[i].Parent.length->s.length=b.Wires[i].Parent.length->k<m->BH (fun r:List Int=>r.length=b.Wires[i].Parent.length) (Lx b.Wires[i] (fun i92 l94=>(some l94)) m (k:Int) s):=by
   intro m
   induction m with
   |zero=>intro k s _ _ h;omega
   |succ m ih=>
    intro k s hk hs hm
    by_cases c:0<k
    ·have hd:decide ((k:Int)>0)=true:=decide_eq_true (by omega)
     have ht:=vw.tree k c hk
     obtain⟨a,ea⟩:=Ej (t:=s) ht.1 (by omega)
     have wk:wrap .i64 ((k:Int)-1)=((k-1:Nat):Int):=by rw [Aq (by omega) (by omega)];omega
     simp only [Lx.eq_2,hd,cT,gI hk,Ao,ea,gI (show k<s.length by omega),wk]
     exact ih (k-1) _ (by omega) (by simpa using hs) (by omega)
    ·have hd:decide ((k:Int)>0)=false:=decide_eq_false (by omega)
     simp only [Lx.eq_2,hd,cF]
     exact⟨s,rfl,hs⟩
  exact key n (s.length-1) s (by omega) hs (by omega)
theorem NP{l:List Bool}{i:Nat}(h:i<l.length):AM l (i:Int)=some (gb l i):=by rw [AU h];simp [gb,h]
def Ed(L:List AR)(lv:List Bool)(u w:Int):Prop:=∃k,∃h:k<L.length,gb lv k=true∧L[k].From=u∧L[k].To=w
inductive Hd(L:List AR)(lv:List Bool)(src:Int->Prop):Int->Prop
 |src {u:Int}:src u->Hd L lv src u
 |step {u w:Int}:Hd L lv src u->Ed L lv u w->Hd L lv src w
theorem Hd.closed{L:List AR}{lv:List Bool}{s:Int->Prop}{Q:Int->Prop}(h0:∀u,s u->Q u)(h1:∀u w,Q u->Ed L lv u w->Q w){v:Int}(r:Hd L lv s v):Q v:=by
 induction r with
 |src h=>exact h0 _ h
 |step _ e ih=>exact h1 _ _ ih e
structure Qf(L:List AR)(lv:List Bool)(s:Int->Prop)(N:Nat)(out:List Bool):Prop where
 len:out.length=N
 iff:∀v:Nat,v<N->(gb out v=true↔Hd L lv s (v:Int))
def cf(l:List Bool):Nat:=l.countP (fun b=>!b)
theorem eV(l:List Bool):cf l<=l.length:=List.countP_le_length
theorem Tu:∀{l:List Bool} {i:Nat},i<l.length->gb l i=false->cf (l.set i true)+1=cf l
 |[],i,h,_=>by simp at h
 |b::l,0,_,h=>by
  have h:b=false:=h
  subst h;simp [cf]
 |b::l,i+1,hi,h=>by
  have ih:=Tu (l:=l) (i:=i) (by simpa using hi) h
  unfold cf at ih ⊢
  simp only [List.set_cons_succ,List.countP_cons];omega
structure PU(L:List AR)(N:Nat):Prop where
 from_:∀k (h:k<L.length),0<=L[k].From∧L[k].From<(N:Int)
 to_:∀k (h:k<L.length),0<=L[k].To∧L[k].To<(N:Int)
theorem qM{n:Nat}{L:List AR}{lv:List Bool}{N s:Nat}(hL:PU L N)(hlv:lv.length=L.length)(hl:L.length<=10000)(hN:N<=1000)(hs:s<N)(hn:1048577<=n):
 ∃out,Yv n (N:Int) L lv (s:Int) true=some out∧Qf L lv (fun u=>u=(s:Int)) N out:=by
 rw [Yv,EA (by omega) (by omega),Ao,AU (show s<(List.replicate N false).length by simpa using hs),Ao,Int.toNat_natCast]
 have key:=QI (L:=fun m (st:Bool×List Bool)=>GT n L lv true (fun q33 l34=>(some l34)) m st.1 st.2) (fun st=>2*cf st.2+st.1.toNat)
  (fun st=>st.2.length=N∧gb st.2 s=true∧(∀v,v<N->gb st.2 v=true->Hd L lv (fun u=>u=(s:Int)) (v:Int))∧(st.1=false->∀k (h:k<L.length),gb lv k=true->gb st.2 L[k].From.toNat=true->gb st.2 L[k].To.toNat=true))
  (fun o=>∃out,o=some out∧Qf L lv (fun u=>u=(s:Int)) N out) ?_ n (true,(List.replicate N false).set s true) ?_ ?_
 ·exact key
 ·rintro m ⟨q,out⟩ ⟨h1,h2,h3,h4⟩ ih
  have h1:out.length=N:=h1
  have h2:gb out s=true:=h2
  have h3:∀v,v<N->gb out v=true->Hd L lv (fun u=>u=(s:Int)) (v:Int):=h3
  simp only [GT.eq_2]
  cases q with
  |false=>
   have h4:=h4 rfl
   refine⟨out,rfl,h1,fun v hv=>⟨h3 v hv,fun r=>?_⟩⟩
   have:=Hd.closed (Q:=fun u=>0<=u∧u<(N:Int)∧gb out u.toNat=true) (fun u e=>by subst e;exact⟨by omega,by omega,by simpa using h2⟩) (fun u w hu e=>by
    obtain⟨k,hk,e1,e2,e3⟩:=e
    subst e2 e3
    have:=hL.to_ k hk
    exact⟨this.1,this.2,h4 k hk e1 hu.2.2⟩) r
   simpa using this.2.2
  |true=>
   rw [cT]
   have inner:=Dc (L:=fun m' i (st:Bool×List Bool)=>Es L lv true (fun q38 i39 l40=>(GT n L lv true (fun q33 l34=>(some l34)) m q38 l40)) m' st.1 i st.2) L.length
    (fun i st=>st.2.length=N∧gb st.2 s=true∧(∀v,v<N->gb st.2 v=true->Hd L lv (fun u=>u=(s:Int)) (v:Int))∧(∀v,gb out v=true->gb st.2 v=true)∧cf st.2<=cf out∧(st.1=true->cf st.2<cf out)∧(st.1=false->st.2=out∧∀k (h:k<L.length),k<i->gb lv k=true->gb out L[k].From.toNat=true->gb out L[k].To.toNat=true))
    (fun o=>∃out,o=some out∧Qf L lv (fun u=>u=(s:Int)) N out) ?_ ?_ n 0 (false,out) (by omega) (by omega) ⟨h1,h2,h3,fun v h=>h,Nat.le_refl _,fun h=>Bool.noConfusion h,fun _=>⟨rfl,fun k _ h=>absurd h (Nat.not_lt_zero k)⟩⟩
   ·exact inner
   ·rintro m' i ⟨q,l⟩ hi ⟨g1,g2,g3,g4,g5,g6,g7⟩ kk
    have g1:l.length=N:=g1
    have g2:gb l s=true:=g2
    have g3:∀v,v<N->gb l v=true->Hd L lv (fun u=>u=(s:Int)) (v:Int):=g3
    have g4:∀v,gb out v=true->gb l v=true:=g4
    have g5:cf l<=cf out:=g5
    have g6:q=true->cf l<cf out:=g6
    have g7:q=false->l=out∧∀k (h:k<L.length),k<i->gb lv k=true->gb out L[k].From.toNat=true->gb out L[k].To.toNat=true:=g7
    have hF:=hL.from_ i hi
    have hT:=hL.to_ i hi
    obtain⟨F,eF⟩:=Int.eq_ofNat_of_zero_le hF.1
    have eF:L[i].From=(F:Int):=eF
    obtain⟨T,eT⟩:=Int.eq_ofNat_of_zero_le hT.1
    have eT:L[i].To=(T:Int):=eT
    have lF:F<l.length:=by omega
    have lT:T<l.length:=by omega
    show∃o',Es L lv true _ (m'+1) q (i:Int) l=some o'∧_
    simp only [Es.eq_2,Cj hi,cT,AU hi,Ao,Bool.not_true,cF,NP (show i<lv.length by omega),eF,eT,NP lF,NP lT,Bt,Int.toNat_natCast,wT i]
    have skip:(gb lv i=true->gb l F=true->gb l T=true)->∃o',Es L lv true (fun q38 i39 l40=>(GT n L lv true (fun q33 l34=>(some l34)) m q38 l40)) m' q ((i+1:Nat):Int) l=some o'∧Qf L lv (fun u=>u=(s:Int)) N o':=fun hc=>kk (q,l) ⟨g1,g2,g3,g4,g5,g6,fun hq=>by
     obtain⟨e,h⟩:=g7 hq
     refine⟨e,fun k hk hki a b=>?_⟩
     by_cases c:k=i
     ·subst c;subst e
      rw [eT,Int.toNat_natCast]
      rw [eF,Int.toNat_natCast]at b
      exact hc a b
     ·exact h k hk (by omega) a b⟩
    cases c1:(gb lv i&&gb l F)with
    |false=>
     simp only [Bool.false_and,cF]
     exact skip fun a b=>by rw [a,b]at c1;cases c1
    |true=>
     simp only [Bool.true_and]
     simp only [Bool.and_eq_true]at c1
     cases c2:gb l T with
     |true=>
      simp only [Bool.not_true,cF]
      exact skip fun _ _=>c2
     |false=>
      simp only [Bool.not_false,cT]
      have hcf:=Tu lT c2
      refine kk (true,l.set T true) ⟨by simpa using g1,?_,?_,?_,by show cf (l.set T true)<=_;omega,fun _=>by show cf (l.set T true)<_;omega,fun h=>by cases h⟩
      ·show gb (l.set T true) s=true
       rw [Ob lT];split
       ·rfl
       ·exact g2
      ·intro v hv hg
       have hg:gb (l.set T true) v=true:=hg
       rw [Ob lT]at hg
       by_cases c:T=v
       ·subst c
        refine .step (g3 F (by omega) c1.2) ⟨i,hi,c1.1,eF,eT⟩
       ·rw [if_neg c]at hg;exact g3 v hv hg
      ·intro v hg
       show gb (l.set T true) v=true
       rw [Ob lT];split
       ·rfl
       ·exact g4 v hg
   ·rintro m' ⟨q,l⟩ ⟨g1,g2,g3,g4,g5,g6,g7⟩
    show∃o',Es L lv true _ (m'+1) q (L.length:Int) l=some o'∧_
    simp only [Es.eq_2,DB,cF]
    refine ih (q,l) ⟨g1,g2,g3,fun hq=>?_⟩ ?_
    ·obtain⟨e,h⟩:=g7 hq
     have e:l=out:=e
     subst e
     exact fun k hk a b=>h k hk hk a b
    ·show 2*cf l+q.toNat<2*cf out+1
     cases q with
     |true=>have:=g6 rfl;have:cf l<cf out:=this;simp;omega
     |false=>have:cf l<=cf out:=g5;simp;omega
 ·have h1:=eV ((List.replicate N false).set s true)
  simp only [List.length_set,List.length_replicate]at h1
  show 2*cf ((List.replicate N false).set s true)+1<n
  omega
 ·have hl2:s<(List.replicate N false).length:=by simpa using hs
  refine⟨by simp,by show gb ((List.replicate N false).set s true) s=true;rw [Ob hl2,if_pos rfl],fun v hv hg=>?_,fun h=>by cases h⟩
  have hg:gb ((List.replicate N false).set s true) v=true:=hg
  rw [Ob hl2]at hg
  by_cases c:s=v
  ·subst c;exact .src rfl
  ·rw [if_neg c]at hg;simp [gb,hv]at hg
theorem JM{b:AF}(v:Bh b):PU (Dk b) (2*(pls b.Design).length):=
 ⟨fun k h=>by have:=(Pu v _ (List.getElem_mem h)).from_;unfold Bc at this;push_cast;omega,fun k h=>by have:=(Pu v _ (List.getElem_mem h)).to_;unfold Bc at this;push_cast;omega⟩
theorem dP{n:Nat}{L:List AR}{br:List Int}(hl:L.length<=1048576)(hb:br.length<=1048576)(hn:1048577<=n):QW n L br=some (Ex (fun k (_:AR)=>[!(br.any fun y=>y==(k:Int))]) 0 L):=by
 rw [QW]
 rw [Du (xs:=L) (L:=fun m s i=>JB n L br (fun l19 i23=>(some l19)) m s i) (k:=fun s=>some s) (fun k (_:AR)=>[!(br.any fun y=>y==(k:Int))]) 1 0 (fun _ _ _=>by simp) (by omega) (by
  intro m i hi s hs
  simp only [JB.eq_2,Cj hi,cT,jD hb hn,Ao,wT i]
  rw [BL (by simp;omega) (by omega),Ao]) (by
  intro m s
  simp only [JB.eq_2,DB,cF]) n (by omega) [] (by simp)]
 rw [List.nil_append]
theorem jH{n:Nat}{c:List Int}(hc:LD c){s0:AA}(e0:s0.code_=c)(st:Int):∀(m k:Nat) (l:List Int) (x a d:Int),k<m->l.length+k<=3->Dw c (AA.mk s0.code_ a d)->
 BH (fun r=>r.1.length=l.length+k∧Dw c r.2) (Iu n s0 st (fun l38 i42 i43 i45 i46=>(some (l38,(AA.mk s0.code_ i45 i46)))) m l x (k:Int) a d)
 |0,k,l,x,a,d,hm,_,_=>by omega
 |m+1,0,l,x,a,d,hm,hl,hs=>by
  rw [Iu.eq_2]
  exact AK ⟨rfl,hs⟩
 |m+1,k+1,l,x,a,d,hm,hl,hs=>by
  have hp:decide (((k+1:Nat):Int)>0)=true:=decide_eq_true (by omega)
  have w:wrap .i64 (((k+1:Nat):Int)-1)=(k:Int):=by rw [Aq (by omega) (by omega)];omega
  rw [Iu.eq_2,hp,cT,BL (by simp;omega) (by omega),Ao]
  refine BH.bind (Nx hc hs st) fun r _ ⟨h1,_⟩=>?_
  rw [w]
  exact(jH hc e0 st m k (l++[x]) _ _ _ (by omega) (by simp;omega) (h1.mk2 e0)).weaken fun r ⟨q1,q2⟩=>⟨by rw [q1];simp;omega,q2⟩
end Go.Proofs.YthojemmmflaicadGreatDoor
