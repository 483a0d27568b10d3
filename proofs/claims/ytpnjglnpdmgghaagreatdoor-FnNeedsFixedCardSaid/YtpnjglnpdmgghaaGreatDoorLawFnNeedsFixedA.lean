/- The plain law behind FnNeedsFixed: the plain function answers true; no condition. -/
import Derived.Test.YtpnjglnpdmgghaaGreatDoorWalkFnNeedsFixed
set_option linter.all false
set_option maxHeartbeats 4000000
namespace Go.Proofs.YtpnjglnpdmgghaaGreatDoor
open Go Go.RowKit Go.Eng
open Go.IntKind (wrap)

theorem Hg{b c:Bool}:(cond b (some true) (some c))=some (b||c):=by cases b<;>rfl
theorem EH{b c:Bool}:(cond b (some c) (some false))=some (b&&c):=by cases b<;>rfl
theorem FL{i N:Nat}(h:i<N):decide ((i:Int)<(N:Int))=true:=Aw (by omega)
theorem Fh(N:Nat):decide ((N:Int)<(N:Int))=false:=Av (by omega)
theorem wS{i:Nat}(h:i<4611686018427387904):wrap .i64 ((i:Int)+1)=((i+1:Nat):Int):=by rw [BV (by omega) (by omega)];simp
theorem Ar{α:Type}{xs:List α}{i:Nat}(h:i<xs.length):AU xs (i:Int)=some xs[i]:=by rw [HM];exact AK h
theorem Ia{α:Type}{xs:List α}{i:Int}(F:0<=i)(E:i<xs.length):∃x,AU xs i=some x∧xs[i.toNat]? =some x:=by
 obtain⟨x,B,_⟩:=JL F E
 exact⟨x,B,(Gf B).2.2⟩
theorem loop{σ R:Type}{L:Nat->Int->σ->Option R}(N:Nat)(I:Nat->σ->Prop)(B:Option R->Prop)
 (H:∀(m i:Nat) (E:σ),i<N->I i E->(∃F,I (i+1) F∧L (m+1) (i:Int) E=L m ((i+1:Nat):Int) F)∨B (L (m+1) (i:Int) E))
 (G:∀(m:Nat) (E:σ),I N E->B (L (m+1) (N:Int) E)):∀(m i:Nat) (E:σ),i<=N->N-i<m->I i E->B (L m (i:Int) E)
 |0,i,E,_,hm,_=>by omega
 |m+1,i,E,hi,hm,h=>by
  by_cases hlt:i<N
  ·rcases H m i E hlt h with ⟨F,h1,J⟩|h1
   ·rw [J];exact loop N I B H G m (i+1) F (by omega) (by omega) h1
   ·exact h1
  ·obtain rfl:i=N:=by omega
   exact G m E h
theorem UF{α σ R:Type}{xs:List α}{L:Nat->Int->σ->Option R}{k:σ->Option R}(f:σ->α->σ)(I:Nat->σ->Prop)
 (J:∀(m i:Nat) (h:i<xs.length) (B:σ),I i B->L (m+1) (i:Int) B=L m ((i+1:Nat):Int) (f B xs[i])∧I (i+1) (f B xs[i]))
 (G:∀(m:Nat) (B:σ),I xs.length B->L (m+1) (xs.length:Int) B=k B) (m:Nat) (B:σ) (h:I 0 B) (hm:xs.length<m):L m 0 B=k (xs.foldl f B)∧I xs.length (xs.foldl f B):=by
 refine loop xs.length (fun i s=>I i s∧(xs.drop i).foldl f s=xs.foldl f B) (fun o=>o=k (xs.foldl f B)∧I xs.length (xs.foldl f B)) ?_ ?_ m 0 B (by omega) (by omega) ⟨h,by simp⟩
 ·intro m i s hi ⟨F,E⟩
  obtain⟨e,H⟩:=J m i hi s F
  exact .inl ⟨_,⟨H,by rw [Df hi]at E;exact E⟩,e⟩
 ·intro m s ⟨F,E⟩
  rw [GW]at E
  have E:s=xs.foldl f B:=E
  rw [←E]
  exact⟨G m s F,F⟩
theorem CU{α:Type}{xs ys:List α}{b:Nat}(h:xs.length+ys.length<=16777216)(B:b<=1048576):EU xs ys b=some (xs++ys):=by
 unfold EU
 have:(xs.length+ys.length)*b<=16777216*1048576:=FE h B
 rw [BE ⟨by omega,by omega⟩]
theorem SZ{α R:Type}{xs:List α}{L:Nat->Int->Option R}{k B:Option R}(p:α->Bool)(E:∀(m i:Nat) (h:i<xs.length),L (m+1) (i:Int)=cond (p xs[i]) (L m ((i+1:Nat):Int)) B)
 (F:∀m:Nat,L (m+1) (xs.length:Int)=k) (m:Nat) (hm:xs.length<m):L m 0=cond (xs.all p) k B:=by
 refine loop (L:=fun m i (_:Unit)=>L m i) xs.length (fun i _=>xs.all p=(xs.drop i).all p) (fun o=>o=cond (xs.all p) k B) ?_ ?_ m 0 () (by omega) (by omega) (by simp)
 ·intro m i _ hi h
  rw [Df hi,Fw]at h
  cases hp:p xs[i]with
  |false=>refine .inr ?_;rw [h,hp];simp only [E m i hi,hp,cF,FF]
  |true=>refine .inl ⟨(),by rw [h,hp];simp,?_⟩;simp only [E m i hi,hp,cT]
 ·intro m _ h
  rw [GW]at h
  rw [h];simp [F m]
theorem Vt{σ R:Type}{L:Nat->σ->Option R}(μ:σ->Nat)(I:σ->Prop)(B:Option R->Prop)
 (G:∀(m:Nat) (F:σ),I F->(∀E,I E->μ E<μ F->B (L m E))->B (L (m+1) F)):∀(m:Nat) (F:σ),μ F<m->I F->B (L m F)
 |0,F,h,_=>by omega
 |m+1,F,h,hI=>G m F hI fun E H J=>Vt μ I B G m E (by omega) H
theorem IC{σ R:Type}{L:Nat->Int->σ->Option R}(N:Nat)(I:Nat->σ->Prop)(B:Option R->Prop)
 (H:∀(m i:Nat) (E:σ),i<N->I i E->(∀F,I (i+1) F->B (L m ((i+1:Nat):Int) F))->B (L (m+1) (i:Int) E))
 (G:∀(m:Nat) (E:σ),I N E->B (L (m+1) (N:Int) E)):∀(m i:Nat) (E:σ),i<=N->N-i<m->I i E->B (L m (i:Int) E)
 |0,i,E,_,hm,_=>by omega
 |m+1,i,E,hi,hm,h=>by
  by_cases hlt:i<N
  ·exact H m i E hlt h fun F J=>IC N I B H G m (i+1) F (by omega) (by omega) J
  ·obtain rfl:i=N:=by omega
   exact G m E h
def Cf{α:Type}(Q:α->Prop)(o:Option α):Prop:=∃v,o=some v∧Q v
theorem Ao{α:Type}{Q:α->Prop}{v:α}(h:Q v):Cf Q (some v):=⟨v,rfl,h⟩
theorem Cf.bind{α β:Type}{A:α->Prop}{Q:β->Prop}{o:Option α}{f:α->Option β}(h:Cf A o)(k:∀v,o=Option.some v->A v->Cf Q (f v)):Cf Q (Option.bind o f):=by
 obtain⟨v,e,B⟩:=h
 rw [e];exact k v e B
theorem Be{α:Type}{Q:α->Prop}{c:Bool}{x y:Option α}(B:c=true->Cf Q x)(E:c=false->Cf Q y):Cf Q (cond c x y):=by
 cases c
 ·exact E rfl
 ·exact B rfl
theorem Cf.weaken{α:Type}{Q B:α->Prop}{o:Option α}(h:Cf Q o)(F:∀v,Q v->B v):Cf B o:=by
 obtain⟨v,e,E⟩:=h
 exact⟨v,e,F v E⟩
theorem Cf.get{α:Type}{Q:α->Prop}{xs:List α}{i:Int}(E:0<=i)(B:i<xs.length)(h:∀x∈xs,Q x):Cf Q (AU xs i):=by
 obtain⟨x,F,hm⟩:=JL E B
 exact⟨x,F,h x hm⟩
theorem Eo{α:Type}{xs:List α}{i:Int}(E:0<=i)(B:i<xs.length):Cf (fun x=>x∈xs) (AU xs i):=Cf.get E B fun _ h=>h
theorem PC{α:Type}{xs:List α}{L:Nat->Int->Option Int}(p:α->Bool)(B:∀(m i:Nat) (h:i<xs.length),L (m+1) (i:Int)=cond (p xs[i]) (some (i:Int)) (L m ((i+1:Nat):Int)))
 (E:∀m:Nat,L (m+1) (xs.length:Int)=some (-1)) (m:Nat) (hm:xs.length<m):∃r,L m 0=some r∧decide (r>=0)=xs.any p:=by
 refine loop (L:=fun m i (_:Unit)=>L m i) xs.length (fun i _=>xs.any p=(xs.drop i).any p) (fun o=>∃r,o=some r∧decide (r>=0)=xs.any p) ?_ ?_ m 0 () (by omega) (by omega) (by simp)
 ·intro m i _ hi h
  rw [Df hi,List.any_cons]at h
  cases hp:p xs[i]with
  |false=>refine .inl ⟨(),by rw [h,hp];simp,?_⟩;simp only [B m i hi,hp,cF]
  |true=>refine .inr ⟨(i:Int),?_,?_⟩
         ·simp only [B m i hi,hp,cT]
         ·rw [h,hp];simp
 ·intro m _ h
  rw [GW]at h
  exact⟨-1,E m,by rw [h];rfl⟩
structure HN(c:List Int)(s:AA):Prop where
 code:s.d=c
 at0:0<=s.c∧s.c<=c.length
 sd:0<=s.b∧s.b<2147483647
def OZ(c:List Int):Prop:=c.length<=4096∧∀x∈c,0<=x∧x<=255
theorem Je{a b:Int}(B:0<=a)(E:0<b):0<=Int.tmod a b∧Int.tmod a b<b:=⟨Int.tmod_nonneg _ B,Int.tmod_lt_of_pos _ E⟩
theorem Nx{n:Nat}{c:List Int}(W:OZ c){s:AA}(h:HN c s)(k:Int):Cf (fun r=>HN c r.2∧0<=r.1∧(r.1<k∨r.1=0∧k<=1)) (Hn n s k):=by
 obtain⟨I,H,U⟩:=h
 have hl:=W.1
 rw [Hn]
 refine Be (fun G=>Ao ⟨⟨I,H,U⟩,Gt _,.inr ⟨rfl,Cu G⟩⟩) fun G=>?_
 have G:=FI G
 have F:(k==0)=false:=by rw [AJ];omega
 refine Be (fun E=>?_) fun E=>?_
 ·have E:=Cu E
  rw [I]at E ⊢
  refine Cf.bind (Cf.get H.1 E W.2) fun x _ Y=>?_
  have Z:wrap .i64 x=x:=BV (by omega) (by omega)
  have wa:wrap .i64 (s.c+1)=s.c+1:=BV (by omega) (by omega)
  have J:wrap .i64 (s.b*48271)=s.b*48271:=BV (by omega) (by omega)
  simp only [F,cF,Z,wa,J,BV (x:=s.b*48271+x) (by omega) (by omega),BV (x:=s.b*48271+x+1) (by omega) (by omega)]
  have B:=Je (a:=s.b*48271+x+1) (b:=2147483647) (by omega) (by omega)
  refine Be (fun _=>Ao ⟨⟨rfl,⟨?_,?_⟩,U⟩,?_⟩) fun _=>Ao ⟨⟨rfl,⟨?_,?_⟩,B⟩,?_⟩
  ·show 0<=s.c+1;omega
  ·show s.c+1<=_;omega
  ·exact⟨(Je Y.1 (by omega)).1,.inl (Je Y.1 (by omega)).2⟩
  ·show 0<=s.c+1;omega
  ·show s.c+1<=_;omega
  ·exact⟨(Je B.1 (by omega)).1,.inl (Je B.1 (by omega)).2⟩
 ·have J:wrap .i64 (s.b*48271)=s.b*48271:=BV (by omega) (by omega)
  have B:=Je (a:=s.b*48271+11) (b:=2147483647) (by omega) (by omega)
  simp only [F,cF,J,BV (x:=s.b*48271+11) (by omega) (by omega)]
  generalize Int.tmod (s.b*48271+11) 2147483647=q at*
  have O:0<=Int.tdiv q 7:=Int.tdiv_nonneg B.1 (by omega)
  have d1:Int.tdiv q 7<=q:=Int.tdiv_le_self _ B.1
  rw [BV (x:=Int.tdiv q 7) (by omega) (by omega)]
  exact Ao ⟨⟨I,H,B⟩,(Je O (by omega)).1,.inl (Je O (by omega)).2⟩
theorem HN.mk2{c d:List Int}{s:AA}(h:HN c s)(e:d=c):HN c (AA.mk d s.c s.b):=⟨e,h.at0,h.sd⟩
theorem Fr{n:Nat}{c:List Int}(J:OZ c)(hn:1048577<=n):Cf (fun r=>HN c r) (ZX n c):=by
 have Y:=J.1
 rw [ZX]
 refine IC (L:=fun m i (p:Int×Int)=>Mr c (fun U I H=>(some ((AA.mk c I H)))) m i p.1 p.2) (min c.length 64) (fun _ p=>p.1=0∧0<=p.2∧p.2<2147483647) _ ?_ ?_ n 0 (0,12345) (by omega) (by omega) ⟨rfl,by omega,by omega⟩
 ·intro m i ⟨a,F⟩ hi ⟨E,G⟩ O
  dsimp only at E G ⊢
  have B:i<c.length:=by omega
  have Z:=J.2 _ (AQ B)
  simp only [Mr.eq_2,FL B,FL (show i<64 by omega),Bool.and_self,cT,Ar B,BQ,show((64:Int))=((64:Nat):Int)from rfl,wT i]
  generalize c[i]=x at*
  rw [BV (x:=F*31) (by omega) (by omega),BV (x:=x) (by omega) (by omega),BV (x:=F*31+x) (by omega) (by omega)]
  have W:=Je (a:=F*31+x) (b:=2147483647) (by omega) (by omega)
  exact O (a,_) ⟨E,W⟩
 ·intro m ⟨a,F⟩ ⟨E,G⟩
  dsimp only at E G ⊢
  have:(decide (((min c.length 64:Nat):Int)<(c.length:Int))&&decide (((min c.length 64:Nat):Int)<64))=false:=by
   rw [BN,Ad,Ad];omega
  simp only [Mr.eq_2,this,cF]
  exact Ao ⟨rfl,⟨by subst E;exact Gt _,by subst E;exact Int.natCast_nonneg _⟩,G⟩
theorem OZ.of{B:List Int}(F:B.length<=9223372036854775807∧∀x∈B,sP .u8 x)(h:¬(B.length:Int)>4096):OZ B:=⟨by omega,fun x E=>F.2 x E⟩
def gd(t:List Int)(j:Nat):Int:=t.getD j 0
theorem Ox{t:List Int}{j:Nat}{v:Int}(h:t[j]? =some v):gd t j=v:=by simp [gd,h]
theorem pK{t:List Int}{j:Nat}(h:j<t.length):t[j]? =some (gd t j):=by simp [gd,h]
theorem KX{t:List Int}{i j:Nat}{v:Int}(h:i<t.length):gd (t.set i v) j=if i=j then v else gd t j:=by
 unfold gd
 rw [Ce,Ce,EQ]
 by_cases e:i=j
 ·subst e;simp [h]
 ·simp [e]
theorem SK{t:List Int}{i:Int}(E:0<=i)(B:i<t.length):AU t i=some (gd t i.toNat):=by
 obtain⟨x,F,h⟩:=Ia E B
 rw [F,Ox h]
def gb(t:List Bool)(j:Nat):Bool:=t.getD j false
theorem Kb{t:List Bool}{i j:Nat}{v:Bool}(h:i<t.length):gb (t.set i v) j=if i=j then v else gb t j:=by
 unfold gb
 rw [Ce,Ce,EQ]
 by_cases e:i=j
 ·subst e;simp [h]
 ·simp [e]
theorem rQ{t u:List Bool}(h:t.length=u.length)(e:∀j,j<t.length->gb t j=gb u j):t=u:=by
 apply Cl
 intro j
 by_cases hj:j<t.length
 ·have:=e j hj
  simp only [gb,Ce,AK hj,AK (h▸hj),Option.getD_some]at this
  rw [AK hj,AK (h▸hj),this]
 ·rw [BM (by omega),BM (by omega)]
theorem Pz{n j:Nat}:gd (List.replicate n 0) j=0:=by
 simp only [gd,Ce,Em];split<;>rfl
def PS(b:UInt8):Bool:=decide ((b.toNat:Int)>=97)&&decide ((b.toNat:Int)<=122)
def VE(b:UInt8):Bool:=decide ((b.toNat:Int)>=48)&&decide ((b.toNat:Int)<=57)
def Ha(s:ByteArray):Bool:=(decide ((s.size:Int)>=1)&&decide ((s.size:Int)<=8))&&(s.data.toList.all fun b=>PS b||VE b)&&(s.data.toList.take 1).all PS
theorem Rh(s:ByteArray):s.size=s.data.toList.length:=by rw [GX];rfl
theorem YC{s:ByteArray}{i:Nat}(h:i<s.data.toList.length):Ua s (i:Int)=some ((s.data.toList[i].toNat:Nat):Int):=by
 unfold Ua
 rw [BE (by omega),BZ]
 have:s[i]? =some s.data.toList[i]:=by
  have B:i<s.size:=by rw [Rh];exact h
  rw [show s[i]? =some s[i]from getElem?_pos s i B]
  rfl
 rw [this];rfl
theorem dU(p q:UInt8->Bool)(h:(List.range 256).all (fun i=>p (UInt8.ofNat i)==q (UInt8.ofNat i))=true)(b:UInt8):p b=q b:=by
 have:=CX.1 h b.toNat (FG.2 b.toNat_lt)
 rw [UInt8.ofNat_toNat]at this
 exact eq_of_beq this
def lettersL:List UInt8:=[97,98,99,100,101,102,103,104,105,106,107,108,109,110,111,112,113,114,115,116,117,118,119,120,121,122]
def nameL:List UInt8:=[97,98,99,100,101,102,103,104,105,106,107,108,109,110,111,112,113,114,115,116,117,118,119,120,121,122,48,49,50,51,52,53,54,55,56,57]
theorem bF(b:UInt8):nameL.contains b=(PS b||VE b):=dU (fun b=>nameL.contains b) (fun b=>PS b||VE b) (by decide+kernel) b
theorem WI(b:UInt8):lettersL.contains b=PS b:=dU (fun b=>lettersL.contains b) (fun b=>PS b) (by decide+kernel) b
theorem RS{p:UInt8->Bool}:∀{l:List UInt8} (h:0<l.length),(l.take 1).all p=p l[0]
 |[],h=>by simp at h
 |a::r,_=>by simp
theorem Jf{p:UInt8->Bool}:∀(l:List UInt8),(l.dropWhile p=[])↔l.all p=true
 |[]=>by simp
 |a::l=>by
  rw [List.dropWhile_cons,Fw]
  cases h:p a with
  |true=>simpa using Jf l
  |false=>simp
theorem Oo{p:UInt8->Bool}:∀{l:List UInt8} {a:UInt8} {r:List UInt8},l.dropWhile p=a::r->p a=false
 |b::l,a,r,h=>by
  rw [List.dropWhile_cons]at h
  split at h
  ·exact Oo h
  ·next q=>simp only [List.cons.injEq]at h;rw [←h.1];simpa using q
theorem ZW(l cs:List UInt8):(Lib.trimS l cs==[])=l.all (cs.contains ·):=by
 rw [Dq,BB]
 unfold Lib.trimS Lib.trimLeftS Lib.trimRightS
 rw [Jf,List.all_reverse]
 rw [show l.all (cs.contains ·)=l.reverse.all (cs.contains ·) by rw [List.all_reverse]]
 constructor
 ·intro h
  cases hd:l.reverse.dropWhile (cs.contains ·)with
  |nil=>exact(Jf _).1 hd
  |cons a r=>
   have B:=Oo hd
   rw [hd,Fw,B]at h
   cases h
 ·intro h
  rw [(Jf _).2 h];rfl
theorem Qv:∀(l:List UInt8) (c:UInt8),decide (Lib.indexByte l c>=0)=l.contains c∧Lib.indexByte l c>= -1
 |[],c=>by simp [Lib.indexByte]
 |b::l,c=>by
  obtain⟨F,H⟩:=Qv l c
  rw [Lib.indexByte,List.contains_cons]
  by_cases e:b=c
  ·subst e;simp
  ·have E:(b==c)=false:=AJ.2 e
   have G:(c==b)=false:=AJ.2 fun q=>e q.symm
   rw [E,G,Dk,←F]
   by_cases h:Lib.indexByte l c= -1
   ·rw [h];simp
   ·have:(Lib.indexByte l c== -1)=false:=AJ.2 h
    rw [this]
    have B:Lib.indexByte l c>=0:=by omega
    rw [Aw B]
    simp only [Bool.false_eq_true,if_false]
    exact⟨Aw (by omega),by omega⟩
theorem Nm1{n:Nat}{s:ByteArray}(O:s.size<=1048576)(U:1048577<=n):Xd n s=some (Ha s):=by
 rw [Xd,Nv,BQ]
 unfold Ha
 cases hw:(decide ((s.size:Int)>=1)&&decide ((s.size:Int)<=8))with
 |false=>simp
 |true=>
  have B:1<=s.size:=by simp only [AG,Ak]at hw;omega
  have G:aX n s ((ByteArray.mk #[97,98,99,100,101,102,103,104,105,106,107,108,109,110,111,112,113,114,115,116,117,118,119,120,121,122,48,49,50,51,52,53,54,55,56,57]))=some ⟨(Lib.trimS s.data.toList nameL).toArray⟩:=by
   unfold aX
   rw [BE ⟨by omega,by decide,by decide⟩];rfl
  simp only [cT,G,BQ,FS]
  have H:((⟨(Lib.trimS s.data.toList nameL).toArray⟩:ByteArray).toList==((ByteArray.mk #[])).toList)=(s.data.toList.all fun b=>PS b||VE b):=by
   rw [Lib.toList_data,Lib.toList_data]
   show((Lib.trimS s.data.toList nameL)==[])=_
   rw [ZW]
   congr 1
   funext b;exact bF b
  rw [H]
  cases(s.data.toList.all fun b=>PS b||VE b)with
  |false=>simp
  |true=>
   rw [Rh]at B
   have I:=YC (s:=s) (i:=0) (by omega)
   simp only [cT,show((0:Int))=((0:Nat):Int)from rfl,I,BQ,pY,FS]
   have E:=(Qv lettersL (s.data.toList[0])).1
   rw [WI]at E
   have F:(((s.data.toList[0].toNat:Nat):Int).toNat.toUInt8)=s.data.toList[0]:=by rw [BZ];exact UInt8.ofNat_toNat
   rw [F]
   have J:(s.data.toList.take 1).all PS=PS s.data.toList[0]:=RS (by omega)
   rw [J,←E];rfl
theorem xY{n:Nat}{s:ByteArray}(Y:s.size<=1048576)(Z:1048577<=n):lV n s=some (Ha s):=by
 rw [lV]
 have W:=Rh s
 refine loop (L:=fun m i (_:Unit)=>Jy s _ m i) s.data.toList.length (fun i _=>Ha s=((decide ((s.size:Int)>=1)&&decide ((s.size:Int)<=8))&&((s.data.toList.drop i).all fun b=>PS b||VE b)&&((s.data.toList.take 1).drop i).all PS)) (fun r=>r=some (Ha s)) ?_ ?_ n 0 () (by omega) (by omega) (by simp [Ha])
 ·intro m i _ hi F
  have g:=YC hi
  have H:decide ((i:Int)<(s.size:Int))=true:=Aw (by omega)
  have E:Jy s (fun U=>(some (((decide ((s.size:Int)>=1))&&(decide ((s.size:Int)<=8)))))) (m+1) (i:Int)=cond (!PS s.data.toList[i]&& !(VE s.data.toList[i]&&decide (0<i))) (some false) (Jy s (fun U=>(some (((decide ((s.size:Int)>=1))&&(decide ((s.size:Int)<=8)))))) m ((i+1:Nat):Int)):=by
   have J:decide ((i:Int)>0)=decide (0<i):=by by_cases h:0<i<;>simp [h]<;>omega
   simp only [Jy.eq_2,H,cT,g,BQ,EH,wT i,J]
   rfl
  by_cases B:(!PS s.data.toList[i]&& !(VE s.data.toList[i]&&decide (0<i)))=true
  ·refine .inr ?_
   show Jy s _ (m+1) (i:Int)=_
   rw [E,B,cT]
   have:Ha s=false:=by
    rw [F,Df hi,Fw]
    simp only [AG,CB,BN,Ad]at B
    obtain⟨G,h2⟩:=B
    rw [G]
    rcases h2 with h2|h2
    ·rw [h2];simp
    ·obtain rfl:i=0:=by omega
     rw [List.drop_zero,RS hi,G];simp
   rw [this]
  ·refine .inl ⟨(),?_,?_⟩
   ·rw [F,Df hi,Fw]
    have B:=Bool.eq_false_iff.2 B
    simp only [BN,CJ,AG,Ak]at B
    by_cases h0:i=0
    ·subst h0
     have G:PS s.data.toList[0]=true:=by
      rcases B with h|h
      ·exact h
      ·omega
     have I:(s.data.toList.take 1).drop (0+1)=[]:=FA (by simp;omega)
     rw [List.drop_zero,RS hi,I,G];simp
    ·have O:(s.data.toList.take 1).drop i=[]:=FA (by simp;omega)
     have I:(s.data.toList.take 1).drop (i+1)=[]:=FA (by simp;omega)
     rw [O,I]
     have:(PS s.data.toList[i]||VE s.data.toList[i])=true:=by
      rcases B with h|h
      ·rw [h];rfl
      ·rw [h.1];simp
     rw [this];simp
   ·show Jy s _ (m+1) (i:Int)=Jy s _ m ((i+1:Nat):Int)
    rw [E,Bool.eq_false_iff.2 B,cF]
 ·intro m _ F
  have H:decide (((s.data.toList.length:Nat):Int)<(s.size:Int))=false:=Av (by omega)
  simp only [Jy.eq_2,H,cF]
  rw [F,GW,FA (by simp;omega)]
  simp
def DG(P:Prop)(r:Option Bool):Prop:=∃b:Bool,r=some b∧(b=true↔P)
theorem DC{P:Prop}(h:¬P):DG P (some false):=⟨false,rfl,by simp [h]⟩
theorem FU{P:Prop}(h:P):DG P (some true):=⟨true,rfl,by simp [h]⟩
theorem Ct1{n:Nat}{xs:List ByteArray}{x:ByteArray}(h:xs.length<=1048576)(G:1048577<=n):dS n xs x=some (xs.any fun y=>x.toList==y.toList):=by
 rw [dS,gU]
 obtain⟨r,B,E⟩:=PC (xs:=xs) (L:=fun m i=>LM xs x (fun F=>(some (-1))) m i) (fun y=>x.toList==y.toList) (fun m i hi=>by
  simp only [LM.eq_2,FL hi,cT,Ar hi,BQ,wT i]) (fun m=>by
  simp only [LM.eq_2,Fh,cF]) n (by omega)
 have B:LM xs x (fun F=>(some (-1))) n 0=some r:=B
 rw [B,BQ,E]
theorem AN{n:Nat}{xs:List ByteArray}(h:xs.length<=1048576)(Z:∀x∈xs,x.size<=1048576)(I:1048577<=n):DG (∀k (h:k<xs.length),Ha xs[k]=true∧∀i (hi:i<k),(xs[i].toList==xs[k].toList)=false) (UZ n xs):=by
 rw [UZ]
 refine loop (L:=fun m i (_:Unit)=>NU n xs _ m i) xs.length (fun i _=>∀k (h:k<xs.length),k<i->Ha xs[k]=true∧∀i (hi:i<k),(xs[i].toList==xs[k].toList)=false) _ ?_ ?_ n 0 () (by omega) (by omega) (fun k h J=>by omega)
 ·intro m i _ hi F
  have B:PP xs 0 (i:Int)=some (xs.take i):=by
   unfold PP
   rw [BE ⟨by omega,by omega,by omega⟩];simp
  have G:=Ct1 (n:=n) (xs:=xs.take i) (x:=xs[i]) (by simp;omega) I
  simp only [NU.eq_2,FL hi,cT,Ar hi,BQ,Nm1 (Z _ (AQ hi)) I,B,G,Hg,wT i]
  cases hb:(!Ha xs[i]||(xs.take i).any fun y=>xs[i].toList==y.toList)with
  |true=>
   refine .inr (DC fun O=>?_)
   obtain⟨Y,U⟩:=O i hi
   rw [Y,Ac,Dk,List.any_eq_true]at hb
   obtain⟨y,W,E⟩:=hb
   obtain⟨j,H,rfl⟩:=GN.1 W
   rw [EC]at H
   rw [GH]at E
   have:=U j (by omega)
   rw [AJ]at this
   exact this (eq_of_beq E).symm
  |false=>
   simp only [BS,CJ]at hb
   refine .inl ⟨(),fun k h J=>?_,rfl⟩
   by_cases e:k=i
   ·subst e
    refine⟨hb.1,fun j H=>?_⟩
    rw [AJ]
    intro E
    have:=List.any_eq_false.1 hb.2 xs[j] (GN.2 ⟨j,by rw [EC];omega,by rw [GH]⟩)
    exact this (by rw [E];simp)
   ·exact F k h (by omega)
 ·intro m _ F
  simp only [NU.eq_2,Fh,cF]
  exact FU fun k h=>F k h h
theorem AW{n:Nat}{B:List Int}{lo hi:Int}(h:B.length<=1048576)(H:1048577<=n):RA n B lo hi=some (B.all fun k=>decide (k>=lo)&&decide (k<=hi)):=by
 rw [RA,aF,eQ]
 obtain⟨r,E,G⟩:=PC (xs:=B) (L:=fun m i=>JD n B lo hi (fun F=>(some (-1))) m i) (fun k=>!(decide (k>=lo)&&decide (k<=hi))) (fun m i hi=>by
  simp only [JD.eq_2,FL hi,cT,Ar hi,BQ,aZ,Nv,wT i]) (fun m=>by
  simp only [JD.eq_2,Fh,cF]) n (by omega)
 have E:JD n B lo hi (fun F=>(some (-1))) n 0=some r:=E
 rw [E,BQ,BQ,G]
 congr 1
 rw [List.not_any_eq_all_not]
 congr 1
 funext k;rw [Bool.not_not]
theorem Nb{n0:Nat}:∀(j n:Nat) (k:Int),0<=k->k<(10:Int)^(j+1)->k<=1000000000000000000->j<n->j<=100->Cf (fun t=>t.size<=j+1) (TD n k)
 |j,0,k,_,_,_,h,_=>by omega
 |j,n+1,k,k0,k1,k2,h,hj=>by
  rw [tX,Av (show¬k<0 by omega),cF]
  by_cases hk:k<10
  ·rw [Aw hk,cT]
   exact Ao (by rw [Ra];simp)
  ·rw [Av hk,cF]
   match j,k1 with
   |0,k1=>simp at k1;omega
   |j+1,k1=>
    have e:wrap .i64 (Int.tdiv k 10)=k/10:=by rw [Dy k0];exact BV (by omega) (by omega)
    rw [e]
    rw [Int.pow_succ]at k1
    refine Cf.bind (Nb (n0:=n0) j n (k/10) (by omega) (by omega) (by omega) (by omega) (by omega)) fun r _ B=>?_
    rw [SJ (by rw [Ra];simp;omega)]
    exact Ao (by rw [ByteArray.size_append,Ra];simp;omega)
theorem Nb2{n:Nat}{k:Nat}(B:k<=1000)(E:1048577<=n):Cf (fun t=>t.size<=4) (TD n (k:Int)):=
 (Nb (n0:=0) 3 n k (by omega) (by show _<(10000:Int);omega) (by omega) (by omega) (by omega))
theorem DG.iff{P Q:Prop}{o:Option Bool}(h:DG P o)(e:P↔Q):DG Q o:=by
 obtain⟨b,rfl,h⟩:=h;exact⟨b,rfl,h.trans e⟩
theorem DT{P:Prop}{b:Bool}(h:b=true↔P):DG P (some b):=⟨b,rfl,h⟩
theorem DG.bind{P R:Prop}{o:Option Bool}{f:Bool->Option Bool}(h:DG P o)(B:P->DG R (f true))(E:¬P->DG R (f false)):DG R (Option.bind o f):=by
 obtain⟨b,rfl,h⟩:=h
 cases b with
 |true=>exact B (h.1 rfl)
 |false=>exact E fun p=>by have:=h.2 p;cases this
theorem Is{R:Prop}{c:Bool}{x y:Option Bool}(B:c=true->DG R x)(E:c=false->DG R y):DG R (cond c x y):=by
 cases c
 ·exact E rfl
 ·exact B rfl
theorem Hx{L:Nat->Int->Option Bool}{Q:Prop}(N s:Nat)(p:Nat->Prop)
 (J:∀(m i:Nat),s<=i->i<N->(p i∧L (m+1) (i:Int)=L m ((i+1:Nat):Int))∨(¬p i∧L (m+1) (i:Int)=some false))
 (G:∀(m i:Nat),N<=i->i<=N+s->(∀j,s<=j->j<N->p j)->DG Q (L (m+1) (i:Int))):∀(m i:Nat),s<=i->i<=N+s->N-i<m->(∀j,s<=j->j<i->j<N->p j)->DG ((∀i,s<=i->i<N->p i)∧Q) (L m (i:Int))
 |0,i,_,_,hm,_=>by omega
 |m+1,i,hi,hi2,hm,hI=>by
  by_cases hlt:i<N
  ·rcases J m i hi hlt with ⟨E,B⟩|⟨E,B⟩
   ·rw [B]
    refine Hx N s p J G m (i+1) (by omega) (by omega) (by omega) fun j F I O=>?_
    by_cases e:j=i
    ·subst e;exact E
    ·exact hI j F (by omega) O
   ·rw [B];exact DC fun h=>E (h.1 i hi hlt)
  ·have H:∀j,s<=j->j<N->p j:=fun j F I=>hI j F (by omega) I
   exact(G m i (by omega) hi2 H).iff ⟨fun q=>⟨H,q⟩,fun q=>q.2⟩
theorem Qk{α:Type}{xs:List α}{L:Nat->Int->Option Int}{f:α->Option Bool}{P:α->Prop}(H:∀x∈xs,DG (P x) (f x))(J:∀(m i:Nat) (h:i<xs.length),L (m+1) (i:Int)=Option.bind (f xs[i]) fun r=>cond r (some (i:Int)) (L m ((i+1:Nat):Int)))
 (I:∀m:Nat,L (m+1) (xs.length:Int)=some (-1)) (m:Nat) (hm:xs.length<m):∃r,L m 0=some r∧(r>=0↔∃x∈xs,P x)∧(r= -1∨∃j:Nat,r=(j:Int)∧∃h:j<xs.length,P xs[j]∧∀i (hi:i<xs.length),i<j->¬P xs[i]):=by
 refine loop (L:=fun m i (_:Unit)=>L m i) xs.length (fun i _=>∀j (h:j<xs.length),j<i->¬P xs[j]) (fun o=>∃r,o=some r∧(r>=0↔∃x∈xs,P x)∧(r= -1∨∃j:Nat,r=(j:Int)∧∃h:j<xs.length,P xs[j]∧∀i (hi:i<xs.length),i<j->¬P xs[i])) ?_ ?_ m 0 () (by omega) (by omega) (fun j _ h=>by omega)
 ·intro m i _ hi B
  obtain⟨b,e,G⟩:=H _ (AQ hi)
  rw [J m i hi,e,BQ]
  cases b with
  |true=>exact .inr ⟨(i:Int),rfl,⟨fun _=>⟨_,AQ hi,G.1 rfl⟩,fun _=>by omega⟩,.inr ⟨i,rfl,hi,G.1 rfl,B⟩⟩
  |false=>
   refine .inl ⟨(),fun j h F=>?_,by trivial⟩
   by_cases ej:j=i
   ·subst ej;intro E;have:=G.2 E;cases this
   ·exact B j h (by omega)
 ·intro m _ B
  refine⟨-1,I m,⟨fun h=>by omega,fun⟨x,O,E⟩=>?_⟩,.inl rfl⟩
  obtain⟨j,F,rfl⟩:=DB O
  exact absurd E (B j F F)
theorem gI{l:List Int}{i:Nat}(h:i<l.length):AU l (i:Int)=some (gd l i):=by rw [HM];exact pK h
def YG(l:List Int):Prop:=(1<=l.length∧l.length<=4)∧(∀i,i<l.length->0<=gd l i∧gd l i<=100000)∧∀i,i<l.length->0<i->gd l (i-1)<gd l i
def VT(t:Cc):Prop:=(YG t.d∧YG t.c)∧t.b.length=t.d.length*t.c.length∧∀i,i<t.b.length-> -1000000<=gd t.b i∧gd t.b i<=1000000
theorem Su{l:List Int}{lo hi:Int}:(l.all fun k=>decide (k>=lo)&&decide (k<=hi))=true↔∀i,i<l.length->lo<=gd l i∧gd l i<=hi:=by
 rw [CX]
 constructor
 ·intro h i hi
  have:=h _ (AQ hi)
  simp only [AG,Ak]at this
  rw [Ox (AK hi)];omega
 ·intro h x E
  obtain⟨j,B,rfl⟩:=DB E
  have:=h j B
  rw [Ox (AK B)]at this
  simp only [AG,Ak];omega
theorem Ax1{n:Nat}{l:List Int}(h:l.length<=1048576)(O:1048577<=n):DG (YG l) (Yu n l):=by
 rw [Yu]
 refine(Hx (L:=fun m i=>Mp n l _ m i) (Q:=1<=l.length∧l.length<=4) l.length 0 (fun i=>(0<=gd l i∧gd l i<=100000)∧(0<i->gd l (i-1)<gd l i)) ?_ ?_ n 0 (by omega) (by omega) (by omega) (fun j _ h=>by omega)).iff ?_
 ·intro m i _ hi
  have H:0<i->wrap .i64 ((i:Int)-1)=((i-1:Nat):Int):=fun B=>by rw [BV (by omega) (by omega)];omega
  simp only [Mp.eq_2,FL hi,cT,gI hi,BQ,Kz,wT i]
  by_cases c1:0<=gd l i∧gd l i<=100000
  ·have G:(decide (gd l i>=0)&&decide (gd l i<=100000))=true:=by simp only [AG,Ak];omega
   simp only [G,Ac,cF]
   by_cases B:0<i
   ·have E:decide ((i:Int)>0)=true:=Aw (by omega)
    simp only [E,cT,H B,gI (show i-1<l.length by omega),BQ]
    by_cases c2:gd l (i-1)<gd l i
    ·have F:decide (gd l (i-1)>=gd l i)=false:=Av (by omega)
     simp only [F,cF]
     exact .inl ⟨⟨c1,fun _=>c2⟩,by trivial⟩
    ·have F:decide (gd l (i-1)>=gd l i)=true:=Aw (by omega)
     simp only [F,cT]
     exact .inr ⟨fun h=>c2 (h.2 B),by trivial⟩
   ·have E:decide ((i:Int)>0)=false:=Av (by omega)
    simp only [E,cF,BQ]
    exact .inl ⟨⟨c1,fun h=>absurd h B⟩,by trivial⟩
  ·have G:(decide (gd l i>=0)&&decide (gd l i<=100000))=false:=by
    rw [BN,Ad,Ad];omega
   simp only [G,BC,cT,BQ]
   exact .inr ⟨fun h=>c1 h.1,by trivial⟩
 ·intro m i J I _
  obtain rfl:i=l.length:=by omega
  simp only [Mp.eq_2,Fh,cF]
  exact DT (by simp only [AG,Ak];omega)
 ·exact⟨fun⟨a,b⟩=>⟨b,fun i hi=>(a i (by omega) hi).1,fun i hi B=>(a i (by omega) hi).2 B⟩,fun⟨a,b,c⟩=>⟨fun i _ hi=>⟨b i hi,c i hi⟩,a⟩⟩
theorem Inc{n:Nat}{l:List Int}(h:l.length<=1048576)(I:1048577<=n):DG (∀i,i<l.length->0<i->gd l (i-1)<gd l i) (Yj n l):=by
 rw [Yj]
 refine(Hx (L:=fun m i=>Mw l _ m i) (Q:=True) l.length 1 (fun i=>gd l (i-1)<gd l i) ?_ ?_ n 1 (by omega) (by omega) (by omega) (fun j _ h=>by omega)).iff ?_
 ·intro m i B hi
  have F:wrap .i64 ((i:Int)-1)=((i-1:Nat):Int):=by rw [BV (by omega) (by omega)];omega
  simp only [Mw.eq_2,FL hi,cT,F,gI hi,gI (show i-1<l.length by omega),BQ,wT i]
  by_cases c2:gd l (i-1)<gd l i
  ·have E:decide (gd l (i-1)>=gd l i)=false:=Av (by omega)
   simp only [E,cF]
   exact .inl ⟨c2,by trivial⟩
  ·have E:decide (gd l (i-1)>=gd l i)=true:=Aw (by omega)
   simp only [E,cT]
   exact .inr ⟨c2,by trivial⟩
 ·intro m i H G _
  have:decide ((i:Int)<(l.length:Int))=false:=Av (by omega)
  simp only [Mw.eq_2,this,cF]
  exact FU trivial
 ·exact⟨fun a i hi B=>a.1 i B hi,fun a=>⟨fun i B hi=>a i hi B,trivial⟩⟩
theorem Ax2{n:Nat}{l:List Int}(h:l.length<=1048576)(B:1048577<=n):DG (YG l) (Ym n l):=by
 obtain⟨b,e,E⟩:=Inc (n:=n) h B
 rw [Ym]
 simp only [Si,Nv,AW (n:=n) h B,e,BQ,EH]
 refine DT ?_
 rw [AG,AG,Su,E]
 simp only [AG,Ak]
 exact⟨fun⟨⟨a,b⟩,c⟩=>⟨by omega,b,c⟩,fun⟨a,b,c⟩=>⟨⟨by omega,b⟩,c⟩⟩
theorem gJ{a b:Nat}(B:a<=4)(E:b<=4):wrap .i64 ((a:Int)*(b:Int))=((a*b:Nat):Int):=by
 have:a*b<=4*4:=FE B E
 have e:((a*b:Nat):Int)=(a:Int)*b:=by simp
 rw [←e,BV (by omega) (by omega)]
def dI(t:Cc):Prop:=t.d.length<=1048576∧t.c.length<=1048576∧t.b.length<=1048576
theorem Tb1{n:Nat}{t:Cc}(h:dI t)(H:1048577<=n):DG (VT t) (aA n t):=by
 rw [aA]
 refine DG.bind (Ax1 h.1 H) (fun B=>?_) fun B=>?_
 ·simp only [Ac,cF]
  obtain⟨b,e,G⟩:=Ax1 (n:=n) h.2.1 H
  rw [e,BQ,BQ]
  cases b with
  |false=>
   simp only [BC,GR,cT]
   exact DC fun v=>by have:=G.2 v.1.2;cases this
  |true=>
   have F:=G.1 rfl
   rw [gJ B.1.2 F.1.2]
   simp only [Ac,Dk]
   refine Is (fun c=>?_) fun c=>?_
   ·refine DC fun v=>?_
    rw [v.2.1]at c;simp at c
   ·have c:t.b.length=t.d.length*t.c.length:=by
     rw [Bp]at c;omega
    have I:=h.2.2
    refine(Hx (L:=fun m i=>MR n t _ m i) (Q:=True) t.b.length 0 (fun i=>-1000000<=gd t.b i∧gd t.b i<=1000000) ?_ ?_ n 0 (by omega) (by omega) (by omega) (fun j _ h=>by omega)).iff ?_
    ·intro m i _ hi
     simp only [MR.eq_2,FL hi,cT,gI hi,BQ,Kz,wT i]
     by_cases c1:-1000000<=gd t.b i∧gd t.b i<=1000000
     ·have E:(decide (gd t.b i>= -1000000)&&decide (gd t.b i<=1000000))=true:=by simp only [AG,Ak];omega
      simp only [E,Ac,cF]
      exact .inl ⟨c1,by trivial⟩
     ·have E:(decide (gd t.b i>= -1000000)&&decide (gd t.b i<=1000000))=false:=by
       rw [BN,Ad,Ad];omega
      simp only [E,BC,cT]
      exact .inr ⟨c1,by trivial⟩
    ·intro m i O J _
     obtain rfl:i=t.b.length:=by omega
     simp only [MR.eq_2,Fh,cF]
     exact FU trivial
    ·exact⟨fun a=>⟨⟨B,F⟩,c,fun i hi=>a.1 i (by omega) hi⟩,fun a=>⟨fun i _ hi=>a.2.2 i hi,trivial⟩⟩
 ·simp only [BC,cT,BQ,GR]
  exact DC fun v=>B v.1.1
theorem Tb2{n:Nat}{t:Cc}(h:dI t)(E:1048577<=n):DG (VT t) (bO n t):=by
 rw [bO]
 refine DG.bind (Ax2 h.1 E) (fun B=>?_) fun B=>?_
 ·simp only [cT]
  obtain⟨b,e,G⟩:=Ax2 (n:=n) h.2.1 E
  rw [e,BQ,BQ]
  cases b with
  |false=>
   simp only [FF,cF,BQ]
   exact DC fun v=>by have:=G.2 v.1.2;cases this
  |true=>
   have F:=G.1 rfl
   rw [gJ B.1.2 F.1.2,AW (n:=n) h.2.2 E]
   simp only [FS,BQ,EH]
   refine DT ?_
   rw [AG,Su,BB]
   exact⟨fun⟨a,b⟩=>⟨⟨B,F⟩,by omega,b⟩,fun a=>⟨by have:=a.2.1;omega,a.2.2⟩⟩
 ·simp only [cF,BQ,FF]
  exact DC fun v=>B v.1.1
theorem VT.pos{t:Cc}(h:VT t):0<t.b.length∧t.b.length<=16:=by
 have a:=h.1.1.1
 have b:=h.1.2.1
 rw [h.2.1]
 exact⟨Nat.mul_pos (by omega) (by omega),(FE a.2 b.2:_<=4*4)⟩
def VP(t:Cc):Prop:=∀j,j<t.b.length->0<=gd t.b j
theorem Bnd{n:Nat}{t:Cc}(h:dI t)(Z:1048577<=n):(¬VT t∧∃s:Ax,YV n t=some (s,1))∨(VT t∧∃s:Ax,YV n t=some (s,0)∧(s.b<0↔¬VP t)):=by
 obtain⟨b,e,O⟩:=Tb1 (n:=n) h Z
 rw [YV,e,BQ]
 cases b with
 |false=>exact .inl ⟨fun v=>(by have:=O.2 v;cases this),_,rfl⟩
 |true=>
  have v:=O.1 rfl
  have hp:=v.pos
  have W:AU t.b 0=some (gd t.b 0):=gI (i:=0) (by omega)
  refine .inr ⟨v,?_⟩
  simp only [Ac,cF,W,BQ]
  refine loop (L:=fun m i (p:Int×Int)=>NW t (fun Y I H=>(some ((Ax.mk I H),0))) m i p.1 p.2) t.b.length (fun i p=>(p.1<0↔¬∀j,j<i->0<=gd t.b j)) (fun o=>∃s:Ax,o=some (s,0)∧(s.b<0↔¬VP t)) ?_ ?_ n 1 (gd t.b 0,gd t.b 0) (by omega) (by omega) ?_
  ·intro m i ⟨a,c⟩ hi E
   dsimp only at E ⊢
   refine .inl ⟨(min a (gd t.b i),max c (gd t.b i)),?_,?_⟩
   ·dsimp only
    constructor
    ·intro hm B
     by_cases ha:a<0
     ·exact E.1 ha fun j F=>B j (by omega)
     ·have:=B i (by omega);omega
    ·intro G
     by_cases ha:a<0
     ·omega
     ·have B:∀j,j<i->0<=gd t.b j:=fun j F=>by
       by_cases q:0<=gd t.b j
       ·exact q
       ·exact absurd (E.2 fun U=>q (U j F)) ha
      by_cases q:0<=gd t.b i
      ·exfalso;apply G;intro j F
       by_cases ej:j=i
       ·subst ej;exact q
       ·exact B j (by omega)
      ·omega
   ·simp only [NW.eq_2,FL hi,cT,gI hi,BQ,wT i]
  ·intro m ⟨a,c⟩ E
   dsimp only at E ⊢
   simp only [NW.eq_2,Fh,cF]
   exact⟨_,rfl,E⟩
  ·dsimp only
   constructor
   ·intro J B;have:=B 0 (by omega);omega
   ·intro J
    by_cases q:gd t.b 0<0
    ·exact q
    ·exfalso;apply J;intro j F;obtain rfl:j=0:=by omega
     omega
theorem Mn{n:Nat}{l:List Int}(I:0<l.length)(h:l.length<=1048576)(Y:1048577<=n):∃r,bU n l=some r∧(r<0↔¬∀j,j<l.length->0<=gd l j):=by
 have U:AU l 0=some (gd l 0):=gI (i:=0) (by omega)
 have J:decide ((l.length:Int)<1)=false:=Av (by omega)
 rw [bU,J,cF,U,BQ]
 refine loop (L:=fun m i (a:Int)=>Mg l (fun H W=>(some H)) m a i) l.length (fun i a=>(a<0↔¬∀j,j<i->0<=gd l j)) (fun o=>∃r,o=some r∧(r<0↔¬∀j,j<l.length->0<=gd l j)) ?_ ?_ n 1 (gd l 0) (by omega) (by omega) ?_
 ·intro m i a hi E
  refine .inl ⟨min a (gd l i),?_,?_⟩
  ·constructor
   ·intro hm B
    by_cases ha:a<0
    ·exact E.1 ha fun j F=>B j (by omega)
    ·have:=B i (by omega);omega
   ·intro G
    by_cases ha:a<0
    ·omega
    ·have B:∀j,j<i->0<=gd l j:=fun j F=>by
      by_cases q:0<=gd l j
      ·exact q
      ·exact absurd (E.2 fun O=>q (O j F)) ha
     by_cases q:0<=gd l i
     ·exfalso;apply G;intro j F
      by_cases ej:j=i
      ·subst ej;exact q
      ·exact B j (by omega)
     ·omega
  ·simp only [Mg.eq_2,FL hi,cT,gI hi,BQ,wT i]
 ·intro m a E
  simp only [Mg.eq_2,Fh,cF]
  exact⟨_,rfl,E⟩
 ·constructor
  ·intro I B;have:=B 0 (by omega);omega
  ·intro I
   by_cases q:gd l 0<0
   ·exact q
   ·exfalso;apply I;intro j F;obtain rfl:j=0:=by omega
    omega
def VI(l:List Cc)(pos:Bool):Prop:=l.length=2∧∀t∈l,VT t∧(pos=true->VP t)
theorem Ts1{n:Nat}{l:List Cc}{pos:Bool}(h:∀t∈l,dI t)(O:1048577<=n):DG (VI l pos) (Uc n l pos):=by
 rw [Uc]
 refine Is (fun c=>?_) fun c=>?_
 ·refine DC fun v=>?_
  rw [v.1]at c;simp at c
 ·have c:l.length=2:=by rw [Bp]at c;omega
  refine(Hx (L:=fun m i=>NG n l pos _ m i) (Q:=True) 2 0 (fun i=>∀t,l[i]? =some t->VT t∧(pos=true->VP t)) ?_ ?_ n 0 (by omega) (by omega) (by omega) (fun j _ h=>by omega)).iff ?_
  ·intro m i _ hi
   have B:i<l.length:=by omega
   have g:=AK B
   have J:decide ((i:Int)<2)=true:=Aw (by omega)
   simp only [NG.eq_2,J,cT,Ar B,BQ,wT i,g]
   rcases Bnd (n:=n) (h _ (AQ B)) O with ⟨v,s,e⟩|⟨v,s,e,H⟩
   ·rw [e]
    exact .inr ⟨fun q=>v (q _ rfl).1,by trivial⟩
   ·rw [e]
    simp only [BQ,Cj,Dk]
    by_cases F:pos=true
    ·subst F
     by_cases q:s.b<0
     ·rw [Aw q]
      exact .inr ⟨fun r=>(H.1 q) ((r _ rfl).2 rfl),by trivial⟩
     ·rw [Av q]
      refine .inl ⟨fun t E=>?_,by trivial⟩
      obtain rfl:=Ai E
      exact⟨v,fun _=>EW fun r=>q (H.2 r)⟩
    ·have F:pos=false:=by simpa using F
     subst F
     refine .inl ⟨fun t E=>?_,by trivial⟩
     obtain rfl:=Ai E
     exact⟨v,fun h=>by cases h⟩
  ·intro m i W U _
   obtain rfl:i=2:=by omega
   simp only [NG.eq_2,show decide (((2:Nat):Int)<2)=false from rfl,cF]
   exact FU trivial
  ·constructor
   ·rintro ⟨a,_⟩
    refine⟨c,fun t E=>?_⟩
    obtain⟨j,G⟩:=List.getElem?_of_mem E
    have I:j<l.length:=(AR.1 G).1
    exact a j (by omega) (by omega) t G
   ·rintro ⟨_,a⟩
    exact⟨fun i _ _ t E=>a t (Dw E),trivial⟩
theorem Ts2{n:Nat}{l:List Cc}{pos:Bool}(h:∀t∈l,dI t)(J:l.length<=1048576)(G:1048577<=n):DG (VI l pos) (XL n l pos):=by
 rw [XL]
 have H:∀t∈l,DG (¬(VT t∧(pos=true->VP t))) (ZD n t pos):=by
  intro t B
  have hm:=h t B
  rw [ZD]
  refine DG.bind (Tb2 hm G) (fun v=>?_) fun v=>?_
  ·simp only [Ac,cF]
   by_cases E:pos=true
   ·subst E
    obtain⟨r,e,F⟩:=Mn (n:=n) v.pos.1 hm.2.2 G
    simp only [cT,e,BQ]
    refine DT ?_
    rw [Ak,F]
    exact⟨fun a b=>a (b.2 trivial),fun a b=>a ⟨v,fun _=>b⟩⟩
   ·have E:pos=false:=by simpa using E
    subst E
    exact DC fun a=>a ⟨v,fun h=>by cases h⟩
  ·simp only [BC,cT,BQ]
   exact FU fun a=>v a.1
 obtain⟨r,e,F,_⟩:=Qk (xs:=l) (L:=fun m i=>LX n l pos (fun I=>(some (-1))) m i) (f:=fun t=>ZD n t pos) H (fun m i hi=>by
  simp only [LX.eq_2,FL hi,cT,Ar hi,BQ,wT i]) (fun m=>by
  simp only [LX.eq_2,Fh,cF]) n (by omega)
 have e:LX n l pos (fun I=>(some (-1))) n 0=some r:=e
 rw [kQ,kV,e]
 simp only [BQ]
 by_cases c:l.length=2
 ·have:((l.length:Int)==2)=true:=by simp;omega
  rw [this]
  simp only [cT,BQ]
  refine DT ?_
  rw [CB,Ad,F]
  exact⟨fun a=>⟨c,fun t B=>EW fun q=>a ⟨t,B,q⟩⟩,fun a ⟨t,B,q⟩=>q (a.2 t B)⟩
 ·have:((l.length:Int)==2)=false:=by rw [AJ];omega
  rw [this]
  exact DC fun v=>c v.1
def WA(N i:Nat)(p:EF):Prop:=(0<=p.f∧p.f<=500)∧(i+1=N->p.b=2∧p.f=0∧p.c=false)∧(i+1<N->p.b=1)
structure PT(l:List EF):Prop where
 few:2<=l.length∧l.length<=5
 pin:∀i (h:i<l.length),WA l.length i l[i]
 nm:∀k (h:k<l.length),Ha l[k].d=true∧∀i (hi:i<k),(l[i].d.toList==l[k].d.toList)=false
def cnt(l:List EF):Nat:=l.countP (·.c)
def qZ(l:List EF):Prop:=l.length<=1048576∧∀p∈l,p.d.size<=1048576
theorem Vi{l:List EF}{i:Nat}(h:i<l.length):cnt (l.take (i+1))=cnt (l.take i)+if l[i].c=true then 1 else 0:=by
 unfold cnt
 rw [Bg h,DV]
 congr 1
 by_cases e:l[i].c=true
 ·rw [BE e];simp [e]
 ·rw [BU e];simp [e]
theorem Pn1{n:Nat}{c:Bv}(h:qZ c.b)(hn:1048577<=n):∃r:Int×Bool,wW n c=some r∧(r.2=true↔PT c.b)∧(r.2=true->r.1=cnt c.b):=by
 rw [wW]
 by_cases hl:2<=c.b.length∧c.b.length<=5
 ·have d:(decide ((c.b.length:Int)<2)||decide ((c.b.length:Int)>5))=false:=by
   simp only [BS,Ad];omega
  rw [d,cF]
  have wl:wrap .i64 ((c.b.length:Int)-1)=(c.b.length:Int)-1:=BV (by omega) (by omega)
  refine loop (L:=fun m i (q:Int)=>OD n c (fun a0 a2=>(some (a0,true))) m q i) c.b.length (fun i q=>q=cnt (c.b.take i)∧∀k (h:k<c.b.length),k<i->WA c.b.length k c.b[k]∧Ha c.b[k].d=true∧∀j (B:j<k),(c.b[j].d.toList==c.b[k].d.toList)=false)
   (fun o=>∃r:Int×Bool,o=some r∧(r.2=true↔PT c.b)∧(r.2=true->r.1=cnt c.b)) ?_ ?_ n 0 0 (by omega) (by omega) ⟨by simp [cnt],fun k _ G=>by omega⟩
  ·intro m i q hi ⟨H,J⟩
   have O:∀o:Option (Int×Bool),o=some (0,false)->¬PT c.b->∃r:Int×Bool,o=some r∧(r.2=true↔PT c.b)∧(r.2=true->r.1=cnt c.b):=fun o e hv=>⟨_,e,by simp [hv],fun h=>by cases h⟩
   have wi:decide ((i:Int)<(c.b.length:Int))=true:=FL hi
   rw [OD.eq_2]
   simp only [wi,cT,Ar hi,BQ]
   have E:∀F:Int->Option (Int×Bool),(∀j (B:j<i),(c.b[j].d.toList==c.b[i].d.toList)=false)∧NH c i c.b[i] F n 0=F i∨(¬∀j (B:j<i),(c.b[j].d.toList==c.b[i].d.toList)=false)∧NH c i c.b[i] F n 0=some (0,false):=by
    intro F
    refine loop (L:=fun m j (_:Unit)=>NH c i c.b[i] F m j) i (fun b _=>∀j (B:j<i),j<b->(c.b[j].d.toList==c.b[i].d.toList)=false) (fun o=>(∀j (B:j<i),(c.b[j].d.toList==c.b[i].d.toList)=false)∧o=F i∨(¬∀j (B:j<i),(c.b[j].d.toList==c.b[i].d.toList)=false)∧o=some (0,false)) ?_ ?_ n 0 () (by omega) (by omega) (fun j _ B=>by omega)
    ·intro m j _ B hJ
     simp only [NH.eq_2,FL B,cT,Ar (show j<c.b.length by omega),BQ,wT j]
     cases e:(c.b[j].d.toList==c.b[i].d.toList)with
     |true=>exact .inr (.inr ⟨fun h=>(by rw [h j B]at e;cases e),by trivial⟩)
     |false=>
      refine .inl ⟨(),fun a ha hb=>?_,by trivial⟩
      by_cases ea:a=j
      ·subst ea;exact e
      ·exact hJ a ha (by omega)
    ·intro m _ hJ
     simp only [NH.eq_2,Fh,cF]
     exact .inl ⟨fun j B=>hJ j B B,by trivial⟩
   rcases E _ with ⟨g1,W⟩|⟨g1,W⟩
   ·rw [W]
    have Z:=h.2 _ (AQ hi)
    simp only [xY Z hn,BQ,Kz,Hg,wl]
    cases hnm:Ha c.b[i].d with
    |false=>
     simp only [BC,GR,cT]
     exact .inr (O _ rfl fun v=>by have:=(v.nm i hi).1;rw [hnm]at this;cases this)
    |true=>
     simp only [Ac,Dk]
     by_cases c1:0<=c.b[i].f∧c.b[i].f<=500
     ·have Y:(decide (c.b[i].f>=0)&&decide (c.b[i].f<=500))=true:=by simp only [AG,Ak];omega
      simp only [Y,Ac,cF]
      have pI:WA c.b.length i c.b[i]↔((((i:Int)==(c.b.length:Int)-1)&&((((c.b[i].b !=2))||((c.b[i].f !=0)))||c.b[i].c))||((decide ((i:Int)<(c.b.length:Int)-1))&&((c.b[i].b !=1))))=false:=by
       unfold WA
       by_cases e1:i+1=c.b.length
       ·have t1:((i:Int)==(c.b.length:Int)-1)=true:=by rw [BB];omega
        have U:decide ((i:Int)<(c.b.length:Int)-1)=false:=Av (by omega)
        simp only [t1,U,FS,FF,Fu,BS,Bp]
        exact⟨fun⟨_,a,_⟩=>⟨⟨(a e1).1,(a e1).2.1⟩,(a e1).2.2⟩,fun⟨⟨a,b⟩,d⟩=>⟨c1,fun _=>⟨a,b,d⟩,fun h=>by omega⟩⟩
       ·have t1:((i:Int)==(c.b.length:Int)-1)=false:=by rw [AJ];omega
        have U:decide ((i:Int)<(c.b.length:Int)-1)=true:=Aw (by omega)
        simp only [t1,U,FS,FF,Dk,Bp]
        exact⟨fun⟨_,_,a⟩=>a (by omega),fun a=>⟨c1,fun h=>absurd h e1,fun _=>a⟩⟩
      cases hc:((((i:Int)==(c.b.length:Int)-1)&&((((c.b[i].b !=2))||((c.b[i].f !=0)))||c.b[i].c))||((decide ((i:Int)<(c.b.length:Int)-1))&&((c.b[i].b !=1))))with
      |true=>
       rw [hc]at pI
       simp only [cT]
       exact .inr (O _ rfl fun v=>by have:=pI.1 (v.pin i hi);cases this)
      |false=>
       have hp:=pI.2 hc
       simp only [cF]
       have I:∀k (h:k<c.b.length),k<i+1->WA c.b.length k c.b[k]∧Ha c.b[k].d=true∧∀j (B:j<k),(c.b[j].d.toList==c.b[k].d.toList)=false:=fun k G a1=>by
        by_cases ek:k=i
        ·subst ek;exact⟨hp,hnm,g1⟩
        ·exact J k G (by omega)
       have ct:=Vi hi
       have cl:cnt (c.b.take i)<=5:=BH CW (by simp;omega)
       cases G:c.b[i].c with
       |true=>
        rw [G,BE rfl]at ct
        refine .inl ⟨q+1,⟨by rw [ct,H];simp,I⟩,?_⟩
        simp only [cT,wT i,BV (x:=q+1) (by omega) (by omega)]
       |false=>
        rw [G]at ct
        refine .inl ⟨q,⟨by rw [ct,H];simp,I⟩,?_⟩
        simp only [cF,wT i]
     ·have Y:(decide (c.b[i].f>=0)&&decide (c.b[i].f<=500))=false:=by
       rw [BN,Ad,Ad];omega
      simp only [Y,BC,cT]
      exact .inr (O _ rfl fun v=>c1 (v.pin i hi).1)
   ·rw [W]
    exact .inr (O _ rfl fun v=>g1 (v.nm i hi).2)
  ·intro m q ⟨H,J⟩
   simp only [OD.eq_2,Fh,cF]
   rw [Ch]at H
   exact⟨_,rfl,⟨fun _=>⟨hl,fun i h=>(J i h h).1,fun k h=>(J k h h).2⟩,fun _=>rfl⟩,fun _=>H⟩
 ·have d:(decide ((c.b.length:Int)<2)||decide ((c.b.length:Int)>5))=true:=by
   rw [CZ,Ak,Ak];omega
  rw [d,cT]
  exact⟨_,rfl,⟨fun h=>(by cases h),fun v=>absurd v.few hl⟩,fun h=>(by cases h)⟩
theorem Pn2{n:Nat}{l:List EF}(h:qZ l)(hn:1048577<=n):DG (PT l) (dB n l):=by
 have Y:=h.1
 rw [dB]
 have U:0<l.length->wrap .i64 ((l.length:Int)-1)=(l.length:Int)-1:=fun h0=>BV (by omega) (by omega)
 refine loop (L:=fun m i (q:List ByteArray)=>LN n l _ m q i) l.length (fun i q=>q=(l.take i).map (·.d)∧∀k (h:k<l.length),k<i->WA l.length k l[k]) _ ?_ ?_ n 0 [] (by omega) (by omega) ⟨by simp,fun k _ O=>by omega⟩
 ·intro m i q hi ⟨E,H⟩
  have a0:q.length<=1048576:=by rw [E];simp;omega
  have Z:=CU (xs:=q) (ys:=[l[i].d]) (b:=16) (by simp;omega) (by omega)
  have F:q++[l[i].d]=(l.take (i+1)).map (·.d):=by rw [E,Bg hi,FN];rfl
  simp only [LN.eq_2,FL hi,cT,Ar hi,BQ,Z,U (by omega),Nv,wT i]
  have B:WA l.length i l[i]->∀k (h:k<l.length),k<i+1->WA l.length k l[k]:=fun G k O W=>by
   by_cases ek:k=i
   ·subst ek;exact G
   ·exact H k O (by omega)
  by_cases e1:i+1=l.length
  ·have I:((i:Int)==(l.length:Int)-1)=true:=by rw [BB];omega
   simp only [I,cT]
   cases hc:((((l[i].b !=2))||((l[i].f !=0)))||l[i].c)with
   |true=>
    refine .inr (DC fun v=>?_)
    have:=(v.pin i hi).2.1 e1
    rw [this.1,this.2.1,this.2.2]at hc;cases hc
   |false=>
    simp only [BS,Bp]at hc
    exact .inl ⟨_,⟨F,B ⟨by omega,fun _=>⟨hc.1.1,hc.1.2,hc.2⟩,fun h=>by omega⟩⟩,by trivial⟩
  ·have I:((i:Int)==(l.length:Int)-1)=false:=by rw [AJ];omega
   simp only [I,cF,Hg,BQ]
   by_cases c1:l[i].b=1∧0<=l[i].f∧l[i].f<=500
   ·have J:((l[i].b !=1)|| !(decide (l[i].f>=0)&&decide (l[i].f<=500)))=false:=by
     simp only [BS,Bp,CJ,AG,Ak];omega
    simp only [J,cF]
    exact .inl ⟨_,⟨F,B ⟨by omega,fun h=>absurd h e1,fun _=>c1.1⟩⟩,by trivial⟩
   ·have J:((l[i].b !=1)|| !(decide (l[i].f>=0)&&decide (l[i].f<=500)))=true:=by
     simp only [CZ,EI,CB,BN,Ad];omega
    simp only [J,cT]
    exact .inr (DC fun v=>c1 ⟨(v.pin i hi).2.2 (by omega),(v.pin i hi).1⟩)
 ·intro m q ⟨E,H⟩
  rw [Ch]at E
  obtain⟨b,e,hb⟩:=AN (n:=n) (xs:=q) (by rw [E];simpa using Y) (by rw [E];intro x hx;obtain⟨p,G,rfl⟩:=ED.1 hx;exact h.2 p G) hn
  simp only [LN.eq_2,Fh,cF,Ws,Nv,e,BQ,EH]
  refine DT ?_
  rw [AG,hb,AG,Ak,Ak]
  subst E
  simp only [Dn,Fg]
  exact⟨fun⟨a,b⟩=>⟨by omega,fun i hi=>H i hi hi,b⟩,fun v=>⟨by have:=v.few;omega,v.nm⟩⟩
def Od(l:List EF)(i:Int):Bool:=((l[i.toNat]?).map (·.c)).getD false
theorem rV{l:List EF}{i:Int}(E:0<=i)(B:i<l.length):∃x,AU l i=some x∧x.c=Od l i:=by
 obtain⟨x,e,h⟩:=Ia E B
 exact⟨x,e,by simp [Od,h]⟩
theorem XC{l:List EF}{j:Nat}(h:j<l.length):Od l (j:Int)=l[j].c:=by simp [Od,h]
theorem Xh{l:List EF}(O:cnt l<=1){i j:Nat}(hi:i<l.length)(E:j<l.length)(G:l[i].c=true)(F:l[j].c=true):i=j:=by
 have B:∀i j:Nat,∀(hi:i<l.length) (E:j<l.length),l[i].c=true->l[j].c=true->¬i<j:=by
  intro i j hi E G F H
  have e:cnt l=cnt (l.take (i+1))+cnt (l.drop (i+1)):=by unfold cnt;rw [←DV,DZ]
  have I:0<cnt (l.take (i+1)):=List.countP_pos_iff.2 ⟨l[i],by rw [By];exact⟨i,by omega,rfl⟩,G⟩
  have J:0<cnt (l.drop (i+1)):=List.countP_pos_iff.2 ⟨l[j],by rw [List.mem_drop_iff_getElem];exact⟨j-(i+1),by omega,by congr 1;omega⟩,F⟩
  omega
 have a:=B i j hi E G F
 have b:=B j i E hi F G
 omega
theorem Ck{n:Nat}{c:Bv}(h:c.b.length<=1048576)(F:1048577<=n):∃r,We n c=some r∧(r>=0↔∃x∈c.b,x.c=true)∧(r= -1∨∃j:Nat,r=(j:Int)∧∃h:j<c.b.length,c.b[j].c=true∧∀i (hi:i<c.b.length),i<j->¬c.b[i].c=true):=by
 obtain⟨r,e,E⟩:=Qk (xs:=c.b) (L:=fun m i=>LA n c.b (fun B=>(some (-1))) m i) (f:=fun p=>bL n p) (P:=fun p=>p.c=true) (fun p _=>by rw [bL];exact DT Iff.rfl) (fun m i hi=>by
  simp only [LA.eq_2,FL hi,cT,Ar hi,BQ,wT i]) (fun m=>by
  simp only [LA.eq_2,Fh,cF]) n (by omega)
 have e:LA n c.b (fun B=>(some (-1))) n 0=some r:=e
 exact⟨r,by rw [We,kB,e];rfl,E⟩
def uK(a:DW):Prop:=(a.h.length<=1048576∧∀t∈a.h,dI t)∧(a.f.length<=1048576∧∀t∈a.f,dI t)
structure ZS(c:Bv):Prop where
 name:c.d.size<=1048576
 pins:qZ c.b
 arcs:c.f.length<=1048576∧∀a∈c.f,uK a
 truth:c.g.length<=1048576
def RH(c:Bv)(a:DW):Prop:=((0<=a.d∧a.d+2<=c.b.length)∧(0<=a.b∧a.b+1<=c.b.length))∧
 if a.c=1 then Od c.b a.d=false∧a.b+1=c.b.length∧(1<=a.g∧a.g<=3)∧VI a.h true∧VI a.f true
 else if a.c=2∨a.c=3 then Od c.b a.d=true∧a.b+1=c.b.length∧a.g=0∧VI a.h true∧VI a.f true
 else if a.c=4∨a.c=5 then Od c.b a.d=true∧a.b+1<c.b.length∧Od c.b a.b=false∧a.g=0∧VI a.h false∧a.f.length=0
 else False
def Yb(c:Bv)(a:DW)(r:Int):Prop:=
 if a.c=4∨a.c=5 then a.g=0∧a.f.length=0∧VI a.h false∧a.d=r∧0<=a.d∧(0<=a.b∧a.b+2<=c.b.length)∧a.b≠a.d
 else VI a.h true∧VI a.f true∧a.b+1=c.b.length∧(0<=a.d∧a.d+2<=c.b.length)∧
  if a.c=1 then Od c.b a.d=false∧1<=a.g∧a.g<=3 else if a.c=2∨a.c=3 then Od c.b a.d=true∧a.g=0 else False
theorem lY(k:Int):k=1∨k=2∨k=3∨k=4∨k=5∨(k≠1∧k≠2∧k≠3∧k≠4∧k≠5):=by omega
theorem QV{x lo hi:Int}:(decide (x>=lo)&&decide (x<=hi))=true↔lo<=x∧x<=hi:=by simp only [AG,Ak,ge_iff_le]
theorem AeO{n:Nat}{c:Bv}{a:DW}(hp:c.b.length<=5)(h2:2<=c.b.length)(h:uK a)(J:1048577<=n):DG (RH c a) (aJ n c a):=by
 have W:wrap .i64 ((c.b.length:Int)-1)=(c.b.length:Int)-1:=BV (by omega) (by omega)
 have w2:wrap .i64 ((c.b.length:Int)-1-1)=(c.b.length:Int)-1-1:=BV (by omega) (by omega)
 obtain⟨t1,e1,H⟩:=Ts1 (n:=n) (pos:=true) h.1.2 J
 obtain⟨t2,e2,E⟩:=Ts1 (n:=n) (pos:=true) h.2.2 J
 obtain⟨t3,e3,U⟩:=Ts1 (n:=n) (pos:=false) h.1.2 J
 rw [aJ];try simp only [jn]
 simp only [Kz,BQ,W,w2,Hg]
 by_cases c1:(0<=a.d∧a.d+2<=c.b.length)∧(0<=a.b∧a.b+1<=c.b.length)
 ·have I:(decide (a.d>=0)&&decide (a.d<=(c.b.length:Int)-1-1))=true:=QV.2 (by omega)
  have Z:(decide (a.b>=0)&&decide (a.b<=(c.b.length:Int)-1))=true:=QV.2 (by omega)
  obtain⟨x,Y,hx⟩:=rV (l:=c.b) c1.1.1 (by omega)
  obtain⟨y,ey,hy⟩:=rV (l:=c.b) c1.2.1 (by omega)
  simp only [I,Z,Ac,Bool.or_self,cF,Y,ey,BQ,hx,hy,e1,e2,e3,EH]
  have B:(a.b==(c.b.length:Int)-1)=true↔a.b+1=c.b.length:=by rw [BB];omega
  have F:decide (a.b<(c.b.length:Int)-1)=true↔a.b+1<c.b.length:=by rw [Ak];omega
  have sl:((a.f.length:Int)==0)=true↔a.f.length=0:=by rw [BB];omega
  have G:∀b:Bool,(!b)=true↔b=false:=by simp
  rcases lY a.c with k|k|k|k|k|k
  ·have:RH c a↔_:=Iff.rfl
   simp only [k,show((1:Int)==1)=true from rfl,cT]
   refine DT ?_
   unfold RH
   simp only [k,if_true,AG,G,B,QV,H,E]
   exact⟨fun⟨⟨⟨⟨p,q⟩,s⟩,u⟩,v⟩=>⟨c1,p,q,by simpa using s,u,v⟩,fun⟨_,p,q,s,u,v⟩=>⟨⟨⟨⟨p,q⟩,by simpa using s⟩,u⟩,v⟩⟩
  ·simp only [k,show((2:Int)==1)=false from rfl,show((2:Int)==2)=true from rfl,cT,cF]
   refine DT ?_
   unfold RH
   simp only [k,show¬((2:Int)=1) by omega,if_false,true_or,if_true,AG,BB,B,H,E]
   exact⟨fun⟨⟨⟨⟨p,q⟩,s⟩,u⟩,v⟩=>⟨c1,p,by omega,s,u,v⟩,fun⟨_,p,q,s,u,v⟩=>⟨⟨⟨⟨p,by omega⟩,s⟩,u⟩,v⟩⟩
  ·simp only [k,show((3:Int)==1)=false from rfl,show((3:Int)==2)=false from rfl,show((3:Int)==3)=true from rfl,cT,cF]
   refine DT ?_
   unfold RH
   simp only [k,show¬((3:Int)=1) by omega,if_false,or_true,if_true,AG,BB,B,H,E]
   exact⟨fun⟨⟨⟨⟨p,q⟩,s⟩,u⟩,v⟩=>⟨c1,p,by omega,s,u,v⟩,fun⟨_,p,q,s,u,v⟩=>⟨⟨⟨⟨p,by omega⟩,s⟩,u⟩,v⟩⟩
  ·simp only [k,show((4:Int)==1)=false from rfl,show((4:Int)==2)=false from rfl,show((4:Int)==3)=false from rfl,show((4:Int)==4)=true from rfl,cT,cF]
   refine DT ?_
   unfold RH
   simp only [k,show¬((4:Int)=1) by omega,show¬((4:Int)=2∨(4:Int)=3) by omega,if_false,true_or,if_true,AG,BB,G,F,sl,U,true_and]
   exact⟨fun⟨⟨⟨⟨⟨p,q⟩,z⟩,s⟩,u⟩,v⟩=>⟨c1,p,q,z,s,u,by omega⟩,fun⟨_,p,q,z,s,u,v⟩=>⟨⟨⟨⟨⟨p,q⟩,z⟩,s⟩,u⟩,by omega⟩⟩
  ·simp only [k,show((5:Int)==1)=false from rfl,show((5:Int)==2)=false from rfl,show((5:Int)==3)=false from rfl,show((5:Int)==4)=false from rfl,show((5:Int)==5)=true from rfl,cT,cF]
   refine DT ?_
   unfold RH
   simp only [k,show¬((5:Int)=1) by omega,show¬((5:Int)=2∨(5:Int)=3) by omega,if_false,or_true,if_true,AG,BB,G,F,sl,U,true_and]
   exact⟨fun⟨⟨⟨⟨⟨p,q⟩,z⟩,s⟩,u⟩,v⟩=>⟨c1,p,q,z,s,u,by omega⟩,fun⟨_,p,q,z,s,u,v⟩=>⟨⟨⟨⟨⟨p,q⟩,z⟩,s⟩,u⟩,by omega⟩⟩
  ·obtain⟨O,k2,k3,k4,k5⟩:=k
   simp only [AJ.2 O,AJ.2 k2,AJ.2 k3,AJ.2 k4,AJ.2 k5,cF]
   refine DC fun v=>?_
   have:=v.2
   rw [BU O,BU (by omega),BU (by omega)]at this
   exact this
 ·have I:(!(decide (a.d>=0)&&decide (a.d<=(c.b.length:Int)-1-1))|| !(decide (a.b>=0)&&decide (a.b<=(c.b.length:Int)-1)))=true:=by
   rw [CZ,CB,CB,BN,BN,Ad,Ad,Ad,Ad]
   omega
  simp only [I,cT]
  exact DC fun v=>c1 v.1
theorem AbO{n:Nat}{c:Bv}{a:DW}{r:Int}(hp:c.b.length<=5)(h2:2<=c.b.length)(h:uK a)(Z:We n c=some r)(H:1048577<=n):DG (Yb c a r) (Zj n c a):=by
 have U:wrap .i64 ((c.b.length:Int)-1)=(c.b.length:Int)-1:=BV (by omega) (by omega)
 have w2:wrap .i64 ((c.b.length:Int)-1-1)=(c.b.length:Int)-1-1:=BV (by omega) (by omega)
 obtain⟨G,e1,J⟩:=Ts2 (n:=n) (pos:=true) h.1.2 h.1.1 H
 obtain⟨E,Y,B⟩:=Ts2 (n:=n) (pos:=true) h.2.2 h.2.1 H
 obtain⟨t3,e3,h3⟩:=Ts2 (n:=n) (pos:=false) h.1.2 h.1.1 H
 rw [Zj]
 simp only [iB,eY,Vd,Ws,Nv,BQ,U,w2,e1,Y,e3,Z,EH,Hg]
 unfold Yb
 by_cases k:a.c=4∨a.c=5
 ·have I:((a.c==4)||(a.c==5))=true:=by rw [CZ,BB,BB];exact k
  simp only [I,cT,BE k]
  refine DT ?_
  simp only [AG,BB,EI,Ak,h3]
  exact⟨fun⟨⟨⟨⟨⟨⟨p,q⟩,s⟩,t⟩,u⟩,v⟩,x⟩=>⟨p,by omega,s,t,by omega,by omega,x⟩,fun⟨p,q,s,t,u,v,x⟩=>⟨⟨⟨⟨⟨⟨p,by omega⟩,s⟩,t⟩,by omega⟩,by omega⟩,x⟩⟩
 ·have I:((a.c==4)||(a.c==5))=false:=by rw [BS,AJ,AJ];omega
  simp only [I,cF,BU k]
  by_cases g:(VI a.h true∧VI a.f true)∧a.b+1=c.b.length∧(0<=a.d∧a.d+2<=c.b.length)
  ·have gb:(((!G|| !E)||(a.b !=(c.b.length:Int)-1))|| !(decide (a.d>=0)&&decide (a.d<=(c.b.length:Int)-1-1)))=false:=by
    rw [J.2 g.1.1,B.2 g.1.2]
    simp only [Ac,Bool.or_self,Dk,BS,Bp,CJ,QV];omega
   obtain⟨x,O,hx⟩:=rV (l:=c.b) g.2.2.1 (by omega)
   simp only [gb,cF,O,BQ,hx]
   have W:∀b:Bool,(!b)=true↔b=false:=by simp
   have F:∀R:Prop,(VI a.h true∧VI a.f true∧a.b+1=c.b.length∧(0<=a.d∧a.d+2<=c.b.length)∧R)↔R:=fun R=>⟨fun q=>q.2.2.2.2,fun q=>⟨g.1.1,g.1.2,g.2.1,g.2.2,q⟩⟩
   rw [F]
   by_cases k1:a.c=1
   ·simp only [k1,show((1:Int)==1)=true from rfl,cT,if_true]
    refine DT ?_
    simp only [AG,W,Ak]
   ·simp only [AJ.2 k1,cF,BU k1]
    by_cases k2:a.c=2
    ·simp only [k2,show((2:Int)==2)=true from rfl,cT,true_or,if_true]
     refine DT ?_
     simp only [AG,BB]
    ·simp only [AJ.2 k2,cF]
     by_cases k3:a.c=3
     ·simp only [k3,show((3:Int)==3)=true from rfl,cT,or_true,if_true]
      refine DT ?_
      simp only [AG,BB]
     ·simp only [AJ.2 k3,cF]
      rw [BU (by omega)]
      exact DC fun v=>v
  ·have gb:(((!G|| !E)||(a.b !=(c.b.length:Int)-1))|| !(decide (a.d>=0)&&decide (a.d<=(c.b.length:Int)-1-1)))=true:=by
    cases hq:(((!G|| !E)||(a.b !=(c.b.length:Int)-1))|| !(decide (a.d>=0)&&decide (a.d<=(c.b.length:Int)-1-1)))with
    |true=>rfl
    |false=>
     exfalso;apply g
     simp only [BS,CJ,Bp,QV]at hq
     exact⟨⟨J.1 hq.1.1.1,B.1 hq.1.1.2⟩,by omega,by omega⟩
   simp only [gb,cT]
   exact DC fun v=>g ⟨⟨v.1,v.2.1⟩,v.2.2.1,v.2.2.2.1⟩
theorem YP{c:Bv}{a:DW}{r:Int}(hv:PT c.b)(hc:cnt c.b<=1)(O:r= -1∨∃j:Nat,r=(j:Int)∧∃h:j<c.b.length,c.b[j].c=true∧∀i (hi:i<c.b.length),i<j->¬c.b[i].c=true)(Y:r>=0↔∃x∈c.b,x.c=true):RH c a↔Yb c a r:=by
 have a7:=hv.few
 unfold RH Yb
 by_cases k:a.c=4∨a.c=5
 ·rw [BU (by omega),BU (by omega),BE k,BE k]
  constructor
  ·rintro ⟨⟨⟨a1,a2⟩,a3,a4⟩,F,b2,I,Z,b5,U⟩
   obtain⟨f,J⟩:=Ap a1
   have J:a.d=(f:Int):=J
   have E:f<c.b.length:=by omega
   have cf:c.b[f].c=true:=by rw [J,XC E]at F;exact F
   have a5:r>=0:=Y.2 ⟨_,AQ E,cf⟩
   rcases O with O|⟨j,rfl,H,B,_⟩
   ·omega
   ·have:=Xh hc E H cf B
    subst this
    refine⟨Z,U,b5,J,a1,by omega,fun e=>?_⟩
    rw [e,F]at I;cases I
  ·rintro ⟨F,b2,I,Z,b5,⟨U,b7⟩,b8⟩
   rcases O with O|⟨j,a0,H,B,_⟩
   ·omega
   ·have cf:Od c.b a.d=true:=by rw [Z,a0,XC H];exact B
    have a6:j+1<c.b.length:=by
     by_cases q:j+1<c.b.length
     ·exact q
     ·have:=(hv.pin j H).2.1 (by omega)
      rw [this.2.2]at B;cases B
    obtain⟨t,W⟩:=Ap U
    have W:a.b=(t:Int):=W
    have G:t<c.b.length:=by omega
    refine⟨⟨⟨by omega,by omega⟩,by omega,by omega⟩,cf,by omega,?_,F,I,b2⟩
    rw [W,XC G]
    cases hq:c.b[t].c with
    |false=>rfl
    |true=>have:=Xh hc G H hq B;omega
 ·rw [BU k,BU k]
  by_cases k1:a.c=1
  ·rw [BE k1,BE k1]
   exact⟨fun⟨p,q,s,t,u,v⟩=>⟨u,v,s,p.1,q,t⟩,fun⟨u,v,s,p,q,t⟩=>⟨⟨p,by omega,by omega⟩,q,s,t,u,v⟩⟩
  ·rw [BU k1,BU k1]
   by_cases k2:a.c=2∨a.c=3
   ·rw [BE k2,BE k2]
    exact⟨fun⟨p,q,s,t,u,v⟩=>⟨u,v,s,p.1,q,t⟩,fun⟨u,v,s,p,q,t⟩=>⟨⟨p,by omega,by omega⟩,q,s,t,u,v⟩⟩
   ·rw [BU k2,BU k2]
    exact⟨fun h=>h.2.elim,fun h=>h.2.2.2.2.elim⟩
def Lv(a b:DW):Prop:=(a.c=b.c∧a.d=b.d)∧a.b=b.b
def JY(l:List DW)(k:Int):Prop:=∃a∈l,a.c=k
def KU(c:Bv):Prop:=
 (c.c=1∧cnt c.b=0∧c.g.length=2^(c.b.length-1)∧∀i,i<c.g.length->0<=gd c.g i∧gd c.g i<=1)∨
 (c.c=2∧cnt c.b=1∧c.g.length=0∧¬JY c.f 1∧¬(JY c.f 2↔JY c.f 3))∨
 (c.c=3∧cnt c.b=1∧c.g.length=0∧JY c.f 1∧JY c.f 2∧¬JY c.f 3)
def dZ(A:DW->Prop)(l:List DW):Prop:=∀i (h:i<l.length),A l[i]∧∀j (hj:j<i),¬Lv l[j] l[i]
structure TQ(c:Bv):Prop where
 name:Ha c.d=true
 pins:PT c.b
 few:c.f.length<=8
 leak:0<=c.h∧c.h<=100000
 energy:0<=c.i∧c.i<=100000
 arcs:dZ (RH c) c.f
 kind:KU c
theorem KU.cnt{c:Bv}(h:KU c):cnt c.b<=1:=by
 rcases h with h|h|h<;>omega
theorem Kd{n:Nat}{c:Bv}(hl:c.f.length<=1048576)(J:∀a∈c.f,0<=a.c∧a.c<6)(hn:1048577<=n):∃l,cD n c=some l∧l.length=6∧∀k:Nat,k<6->0<=gd l k∧(gd l k>0↔JY c.f k):=by
 have U:QS 6 8=some 6:=Gc (n:=6) (by omega) (by omega)
 rw [cD,U,BQ]
 refine loop (L:=fun m i (l:List Int)=>Mx c (fun O H=>(some H)) m i l) c.f.length (fun i l=>l.length=6∧∀k:Nat,k<6->(0<=gd l k∧gd l k<=i)∧(gd l k>0↔JY (c.f.take i) k)) (fun o=>∃l,o=some l∧l.length=6∧∀k:Nat,k<6->0<=gd l k∧(gd l k>0↔JY c.f k)) ?_ ?_ n 0 (List.replicate 6 0) (by omega) (by omega) ⟨by simp,fun k J=>?_⟩
 ·intro m i l hi ⟨B,G⟩
  have hx:=J _ (AQ hi)
  obtain⟨q,F⟩:=Ap hx.1
  have F:c.f[i].c=(q:Int):=F
  have I:q<6:=by omega
  have Z:AU l c.f[i].c=some (gd l q):=by rw [F];exact gI (by omega)
  have hb:=(G q I).1
  refine .inl ⟨l.set q (gd l q+1),⟨by simpa using B,fun k E=>?_⟩,?_⟩
  ·have W:=G k E
   rw [KX (by omega)]
   have Y:JY (c.f.take (i+1)) k↔JY (c.f.take i) k∨c.f[i].c=(k:Int):=by
    rw [Bg hi]
    unfold JY
    constructor
    ·rintro ⟨a,ha,e⟩
     rcases CM.1 ha with ha|ha
     ·exact .inl ⟨a,ha,e⟩
     ·obtain rfl:=Bb.1 ha;exact .inr e
    ·rintro (⟨a,ha,e⟩|e)
     ·exact⟨a,CM.2 (.inl ha),e⟩
     ·exact⟨_,CM.2 (.inr (Bb.2 rfl)),e⟩
   rw [Y]
   by_cases e:q=k
   ·subst e
    rw [BE rfl]
    exact⟨⟨by omega,by omega⟩,⟨fun _=>.inr F,fun _=>by omega⟩⟩
   ·rw [BU e]
    refine⟨⟨by omega,by omega⟩,W.2.trans ⟨.inl,fun h=>h.resolve_right fun h=>e (by omega)⟩⟩
  ·simp only [Mx.eq_2,FL hi,cT,Ar hi,BQ,Z,wT i,BV (x:=gd l q+1) (by omega) (by omega)]
   rw [F,BZ]
 ·intro m l ⟨B,G⟩
  simp only [Mx.eq_2,Fh,cF]
  refine⟨l,rfl,B,fun k E=>?_⟩
  have:=G k E
  rw [Ch]at this
  exact⟨this.1.1,this.2⟩
 ·have:gd (List.replicate 6 0) k=0:=by simp only [gd,Ce,Em];split<;>rfl
  rw [this]
  refine⟨by omega,⟨fun h=>by omega,fun⟨a,ha,_⟩=>by simp at ha⟩⟩
theorem Hs{n:Nat}{c:Bv}(F:c.f.length<=1048576)(k:Int)(G:1048577<=n):DG (JY c.f k) (PQ n c k):=by
 obtain⟨r,e,E,_⟩:=Qk (xs:=c.f) (L:=fun m i=>Lb n c.f k (fun B=>(some (-1))) m i) (f:=fun a=>aC n a k) (P:=fun a=>a.c=k) (fun p _=>by rw [aC];exact DT BB) (fun m i hi=>by
  simp only [Lb.eq_2,FL hi,cT,Ar hi,BQ,wT i]) (fun m=>by
  simp only [Lb.eq_2,Fh,cF]) n (by omega)
 have e:Lb n c.f k (fun B=>(some (-1))) n 0=some r:=e
 rw [PQ,gV,iR,e]
 exact DT (by rw [Ak];exact E)
theorem eJ{L:Nat}(B:2<=L)(E:L<=5):Px .i64 1 ((L:Int)-1)=((2^(L-1):Nat):Int)∧Px .i64 1 (IntKind.wrap IntKind.u64 ((L:Int)-1))=((2^(L-1):Nat):Int)∧decide (IntKind.wrap IntKind.u64 ((L:Int)-1)<0)=false:=by
 have:L=2∨L=3∨L=4∨L=5:=by omega
 rcases this with rfl|rfl|rfl|rfl<;>decide
theorem Tr1{n:Nat}{c:Bv}{o:Option Bool}{Q:Prop}(h:c.g.length<=1048576)(H:1048577<=n)(E:DG Q o):DG ((∀i,i<c.g.length->0<=gd c.g i∧gd c.g i<=1)∧Q) (Oy n c (fun _=>o) n 0):=by
 refine(Hx (L:=fun m i=>Oy n c (fun _=>o) m i) (Q:=Q) c.g.length 0 (fun i=>0<=gd c.g i∧gd c.g i<=1) ?_ ?_ n 0 (by omega) (by omega) (by omega) (fun j _ h=>by omega)).iff ⟨fun a=>⟨fun i hi=>a.1 i (by omega) hi,a.2⟩,fun a=>⟨fun i _ hi=>a.1 i hi,a.2⟩⟩
 ·intro m i _ hi
  simp only [Oy.eq_2,FL hi,cT,gI hi,BQ,Kz,wT i]
  by_cases c1:0<=gd c.g i∧gd c.g i<=1
  ·have B:(decide (gd c.g i>=0)&&decide (gd c.g i<=1))=true:=QV.2 c1
   simp only [B,Ac,cF]
   exact .inl ⟨c1,by trivial⟩
  ·have B:(decide (gd c.g i>=0)&&decide (gd c.g i<=1))=false:=by
    rw [BN,Ad,Ad];omega
   simp only [B,BC,cT]
   exact .inr ⟨c1,by trivial⟩
 ·intro m i G F _
  obtain rfl:i=c.g.length:=by omega
  simp only [Oy.eq_2,Fh,cF]
  exact E
theorem In2{n:Nat}{c:Bv}{i:Nat}(hi:i<c.f.length)(J:c.f.length<=1048576)(U:1048577<=n)(E:Int->Option Bool):(∀j (B:j<i),¬Lv c.f[j] c.f[i])∧MQ c i c.f[i] E n 0=E i∨(¬∀j (B:j<i),¬Lv c.f[j] c.f[i])∧MQ c i c.f[i] E n 0=some false:=by
 refine loop (L:=fun m j (_:Unit)=>MQ c i c.f[i] E m j) i (fun b _=>∀j (B:j<i),j<b->¬Lv c.f[j] c.f[i]) (fun o=>(∀j (B:j<i),¬Lv c.f[j] c.f[i])∧o=E i∨(¬∀j (B:j<i),¬Lv c.f[j] c.f[i])∧o=some false) ?_ ?_ n 0 () (by omega) (by omega) (fun j _ B=>by omega)
 ·intro m j _ B F
  have G:Lv c.f[j] c.f[i]↔(((c.f[j].c==c.f[i].c)&&(c.f[j].d==c.f[i].d))&&(c.f[j].b==c.f[i].b))=true:=by
   unfold Lv;simp only [AG,BB]
  simp only [MQ.eq_2,FL B,cT,Ar (show j<c.f.length by omega),BQ,EH,wT j]
  cases e:(((c.f[j].c==c.f[i].c)&&(c.f[j].d==c.f[i].d))&&(c.f[j].b==c.f[i].b))with
  |true=>exact .inr (.inr ⟨fun h=>h j B (G.2 e),by trivial⟩)
  |false=>
   refine .inl ⟨(),fun a H O=>?_,by trivial⟩
   by_cases ea:a=j
   ·subst ea;intro I;rw [G.1 I]at e;cases e
   ·exact F a H (by omega)
 ·intro m _ F
  simp only [MQ.eq_2,Fh,cF]
  exact .inl ⟨fun j B=>F j B B,by trivial⟩
theorem AfQ{n:Nat}{c:Bv}(h:ZS c)(H:1048577<=n):DG (TQ c) (tO n c):=by
 obtain⟨r,e,hr,hc⟩:=Pn1 (n:=n) h.pins H
 rw [tO,e]
 simp only [BQ,xY h.name H,Kz,Hg]
 by_cases g:(PT c.b∧Ha c.d=true)∧c.f.length<=8∧(0<=c.h∧c.h<=100000)∧(0<=c.i∧c.i<=100000)
 ·have rt:r.2=true:=hr.2 g.1.1
  have gb:((((!r.2|| !Ha c.d)||decide ((c.f.length:Int)>8))|| !(decide (c.h>=0)&&decide (c.h<=100000)))|| !(decide (c.i>=0)&&decide (c.i<=100000)))=false:=by
   rw [rt,g.1.2]
   simp only [Ac,Bool.or_self,Dk,BS,Ad,CJ,QV];omega
  simp only [gb,cF]
  have B:=g.1.1.few
  have I:=h.arcs.1
  have E:=hc rt
  refine(Hx (L:=fun m i=>OL n c _ m i) (Q:=KU c) c.f.length 0 (fun i=>∀(hi:i<c.f.length),RH c c.f[i]∧∀j (hj:j<i),¬Lv c.f[j] c.f[i]) ?_ ?_ n 0 (by omega) (by omega) (by omega) (fun j _ h=>by omega)).iff ?_
  ·intro m i _ hi
   obtain⟨b,e,hb⟩:=AeO (n:=n) (c:=c) B.2 B.1 (h.arcs.2 _ (AQ hi)) H
   simp only [OL.eq_2,FL hi,cT,Ar hi,BQ,e]
   cases b with
   |false=>exact .inr ⟨fun q=>(by have:=hb.2 (q hi).1;cases this),by trivial⟩
   |true=>
    simp only [Ac,cF,wT i]
    rcases In2 (n:=n) hi I H (fun _=>OL n c _ m ((i+1:Nat):Int))with ⟨F,G⟩|⟨F,G⟩
    ·exact .inl ⟨fun _=>⟨hb.1 rfl,F⟩,G⟩
    ·exact .inr ⟨fun q=>F (q hi).2,G⟩
  ·intro m i h1 h2 hA
   obtain rfl:i=c.f.length:=by omega
   simp only [OL.eq_2,Fh,cF]
   obtain⟨l,e,a0,Y⟩:=Kd (n:=n) I (fun a ha=>by
    obtain⟨j,hj,rfl⟩:=DB ha
    have:=(hA j (by omega) hj hj).1.2
    rcases lY c.f[j].c with k|k|k|k|k|k<;>first|omega|skip
    obtain⟨J,k2,U,k4,k5⟩:=k
    rw [BU J,BU (by omega),BU (by omega)]at this
    exact this.elim) H
   have g1:AU l 1=some (gd l 1):=gI (i:=1) (by omega)
   have g2:AU l 2=some (gd l 2):=gI (i:=2) (by omega)
   have g3:AU l 3=some (gd l 3):=gI (i:=3) (by omega)
   have J:0<=gd l 1∧(gd l 1>0↔JY c.f 1):=Y 1 (by omega)
   have k2:0<=gd l 2∧(gd l 2>0↔JY c.f 2):=Y 2 (by omega)
   have U:0<=gd l 3∧(gd l 3>0↔JY c.f 3):=Y 3 (by omega)
   have wl:wrap .i64 ((c.b.length:Int)-1)=(c.b.length:Int)-1:=BV (by omega) (by omega)
   obtain⟨s1,s2,s3⟩:=eJ B.1 B.2
   rw [e,BQ]
   simp only [g1,g2,g3,BQ,wl,s2,s3,cF,EH]
   have tl:((c.g.length:Int)==0)=true↔c.g.length=0:=by rw [BB];omega
   have tw:((c.g.length:Int)==((2^(c.b.length-1):Nat):Int))=true↔c.g.length=2^(c.b.length-1):=by rw [BB];omega
   have c0:(r.1==0)=true↔cnt c.b=0:=by rw [BB,E];omega
   have c1:(r.1==1)=true↔cnt c.b=1:=by rw [BB,E];omega
   have Z:(gd l 1==0)=true↔¬JY c.f 1:=by rw [BB,←J.2];omega
   have W:(gd l 3==0)=true↔¬JY c.f 3:=by rw [BB,←U.2];omega
   have p1:decide (gd l 1>0)=true↔JY c.f 1:=by rw [Ak];exact J.2
   have p2:decide (gd l 2>0)=true↔JY c.f 2:=by rw [Ak];exact k2.2
   have p3:decide (gd l 3>0)=true↔JY c.f 3:=by rw [Ak];exact U.2
   have O:(decide (gd l 2>0) !=decide (gd l 3>0))=true↔¬(JY c.f 2↔JY c.f 3):=by
    rw [←p2,←p3];cases decide (gd l 2>0)<;>cases decide (gd l 3>0)<;>simp
   by_cases F:c.c=1
   ·simp only [F,show((1:Int)==1)=true from rfl,cT]
    refine(Tr1 (c:=c) (o:=some ((r.1==0)&&((c.g.length:Int)==((2^(c.b.length-1):Nat):Int)))) (Q:=cnt c.b=0∧c.g.length=2^(c.b.length-1)) h.truth H (DT (by rw [AG,c0,tw]))).iff ?_
    unfold KU
    constructor
    ·rintro ⟨a,b,d⟩;exact .inl ⟨F,b,d,a⟩
    ·rintro (⟨_,b,d,a⟩|⟨a,_⟩|⟨a,_⟩)
     ·exact⟨a,b,d⟩
     ·omega
     ·omega
   ·simp only [AJ.2 F,cF]
    by_cases G:c.c=2
    ·simp only [G,show((2:Int)==2)=true from rfl,cT]
     refine DT ?_
     rw [AG,AG,AG,c1,Z,O,tl]
     unfold KU
     constructor
     ·rintro ⟨⟨⟨a,b⟩,d⟩,f⟩;exact .inr (.inl ⟨G,a,f,b,d⟩)
     ·rintro (⟨a,_⟩|⟨_,a,f,b,d⟩|⟨a,_⟩)
      ·omega
      ·exact⟨⟨⟨a,b⟩,d⟩,f⟩
      ·omega
    ·simp only [AJ.2 G,cF]
     by_cases q3:c.c=3
     ·simp only [q3,show((3:Int)==3)=true from rfl,cT]
      refine DT ?_
      simp only [AG,true_and,c1,p1,p2,W,tl]
      unfold KU
      constructor
      ·rintro ⟨⟨⟨⟨a,b⟩,d⟩,x⟩,f⟩;exact .inr (.inr ⟨q3,a,f,b,d,x⟩)
      ·rintro (⟨a,_⟩|⟨a,_⟩|⟨_,a,f,b,d,x⟩)
       ·omega
       ·omega
       ·exact⟨⟨⟨⟨a,b⟩,d⟩,x⟩,f⟩
     ·simp only [AJ.2 q3,cF]
      refine DC ?_
      rintro (⟨a,_⟩|⟨a,_⟩|⟨a,_⟩)
      ·exact F a
      ·exact G a
      ·exact q3 a
  ·constructor
   ·rintro ⟨a,b⟩
    exact⟨g.1.2,g.1.1,g.2.1,g.2.2.1,g.2.2.2,fun i hi=>a i (by omega) hi hi,b⟩
   ·rintro v
    exact⟨fun i _ _ hi=>v.arcs i hi,v.kind⟩
 ·have gb:((((!r.2|| !Ha c.d)||decide ((c.f.length:Int)>8))|| !(decide (c.h>=0)&&decide (c.h<=100000)))|| !(decide (c.i>=0)&&decide (c.i<=100000)))=true:=by
   cases hq:((((!r.2|| !Ha c.d)||decide ((c.f.length:Int)>8))|| !(decide (c.h>=0)&&decide (c.h<=100000)))|| !(decide (c.i>=0)&&decide (c.i<=100000)))with
   |true=>rfl
   |false=>
    exfalso;apply g
    simp only [BS,CJ,Ad,QV]at hq
    exact⟨⟨hr.1 hq.1.1.1.1,hq.1.1.1.2⟩,by omega,by simpa using hq.1.2,by simpa using hq.2⟩
  simp only [gb,cT]
  exact DC fun v=>g ⟨⟨v.pins,v.name⟩,v.few,v.leak,v.energy⟩
theorem Cn{n:Nat}{l:List EF}{K:Int->Option Bool}{c:Bv}(E:c.b=l)(F:l.length<=1048576)(G:1048577<=n):Ji c (fun i _=>K i) n 0 0=K (cnt l):=by
 subst E
 refine loop (L:=fun m i (q:Int)=>Ji c (fun i _=>K i) m q i) c.b.length (fun i q=>q=cnt (c.b.take i)) (fun o=>o=K (cnt c.b)) ?_ ?_ n 0 0 (by omega) (by omega) (by simp [cnt])
 ·intro m i q hi B
  have ct:=Vi hi
  have cl:cnt (c.b.take i)<=1048576:=BH CW (by simp;omega)
  cases hk:c.b[i].c with
  |true=>
   rw [hk,BE rfl]at ct
   refine .inl ⟨q+1,by rw [ct,B];simp,?_⟩
   simp only [Ji.eq_2,FL hi,cT,Ar hi,BQ,hk,wT i,BV (x:=q+1) (by omega) (by omega)]
  |false=>
   rw [hk]at ct
   refine .inl ⟨q,by rw [ct,B];simp,?_⟩
   simp only [Ji.eq_2,FL hi,cT,Ar hi,BQ,hk,cF,wT i]
 ·intro m q B
  rw [Ch]at B
  simp only [Ji.eq_2,Fh,cF,B]
theorem Kn2{n:Nat}{c:Bv}(h:ZS c)(hv:PT c.b)(F:1048577<=n):DG (KU c) (aK n c):=by
 have E:=hv.few
 obtain⟨b1,e1,h1⟩:=Hs (n:=n) h.arcs.1 1 F
 obtain⟨b2,e2,h2⟩:=Hs (n:=n) h.arcs.1 2 F
 obtain⟨H,e3,h3⟩:=Hs (n:=n) h.arcs.1 3 F
 have wl:wrap .i64 ((c.b.length:Int)-1)=(c.b.length:Int)-1:=BV (by omega) (by omega)
 have o:=(Cn (n:=n) (c:=c) (l:=c.b) (K:=fun B=>(cond (c.c==1) (Option.bind (cond (B==0) (Option.bind (Vd n c) fun G=>(cond (decide (G<0)) none (some ((((c.g.length:Int))==(Px .i64 1 G)))))) (some false)) fun a6=>(Option.bind (cond a6 (Option.bind (RA n c.g 0 1) fun O=>(some O)) (some false)) fun U=>(some U))) (cond (c.c==2) (Option.bind (cond (((B==1))&&((((c.g.length:Int))==0))) (Option.bind (PQ n c 1) fun r38=>(some (!r38))) (some false)) fun a3=>(Option.bind (cond a3 (Option.bind (PQ n c 2) fun a5=>(Option.bind (PQ n c 3) fun Y=>(some ((a5 !=Y))))) (some false)) fun a2=>(some a2))) (cond (c.c==3) (Option.bind (cond (((B==1))&&((((c.g.length:Int))==0))) (Option.bind (PQ n c 1) fun W=>(some W)) (some false)) fun Z=>(Option.bind (cond Z (Option.bind (PQ n c 2) fun a1=>(some a1)) (some false)) fun I=>(Option.bind (cond I (Option.bind (PQ n c 3) fun a0=>(some (!a0))) (some false)) fun a4=>(some a4)))) (some false))))) rfl h.pins.1 F)
 have o2:aK n c=_:=o
 rw [o2]
 obtain⟨s1,s2,s3⟩:=eJ E.1 E.2
 have d0:decide ((c.b.length:Int)-1<0)=false:=Av (by omega)
 simp only [Vd,Ws,BQ,wl,d0,cF,s1,AW (n:=n) h.truth F,e1,e2,e3,EH]
 have tl:((c.g.length:Int)==0)=true↔c.g.length=0:=by rw [BB];omega
 have tw:((c.g.length:Int)==((2^(c.b.length-1):Nat):Int))=true↔c.g.length=2^(c.b.length-1):=by rw [BB];omega
 have c0:((cnt c.b:Int)==0)=true↔cnt c.b=0:=by rw [BB];omega
 have c1:((cnt c.b:Int)==1)=true↔cnt c.b=1:=by rw [BB];omega
 have n1:(!b1)=true↔¬JY c.f 1:=by rw [←h1];cases b1<;>simp
 have n3:(!H)=true↔¬JY c.f 3:=by rw [←h3];cases H<;>simp
 have J:(b2 !=H)=true↔¬(JY c.f 2↔JY c.f 3):=by rw [←h2,←h3];cases b2<;>cases H<;>simp
 by_cases q1:c.c=1
 ·simp only [q1,show((1:Int)==1)=true from rfl,cT]
  refine DT ?_
  rw [AG,AG,c0,tw,Su]
  unfold KU
  constructor
  ·rintro ⟨⟨a,b⟩,d⟩;exact .inl ⟨q1,a,b,d⟩
  ·rintro (⟨_,a,b,d⟩|⟨a,_⟩|⟨a,_⟩)
   ·exact⟨⟨a,b⟩,d⟩
   ·omega
   ·omega
 ·simp only [AJ.2 q1,cF]
  by_cases q2:c.c=2
  ·simp only [q2,show((2:Int)==2)=true from rfl,cT]
   refine DT ?_
   simp only [AG,c1,tl,n1,J]
   unfold KU
   constructor
   ·rintro ⟨⟨⟨a,b⟩,d⟩,f⟩;exact .inr (.inl ⟨q2,a,b,d,f⟩)
   ·rintro (⟨a,_⟩|⟨_,a,b,d,f⟩|⟨a,_⟩)
    ·omega
    ·exact⟨⟨⟨a,b⟩,d⟩,f⟩
    ·omega
  ·simp only [AJ.2 q2,cF]
   by_cases q3:c.c=3
   ·simp only [q3,show((3:Int)==3)=true from rfl,cT]
    refine DT ?_
    simp only [AG,true_and,c1,tl,h1,h2,n3]
    unfold KU
    constructor
    ·rintro ⟨⟨⟨⟨a,b⟩,d⟩,x⟩,f⟩;exact .inr (.inr ⟨q3,a,b,d,x,f⟩)
    ·rintro (⟨a,_⟩|⟨a,_⟩|⟨_,a,b,d,x,f⟩)
     ·omega
     ·omega
     ·exact⟨⟨⟨⟨a,b⟩,d⟩,x⟩,f⟩
   ·simp only [AJ.2 q3,cF]
    refine DC ?_
    rintro (⟨a,_⟩|⟨a,_⟩|⟨a,_⟩)
    ·exact q1 a
    ·exact q2 a
    ·exact q3 a
theorem As2{n:Nat}{c:Bv}{r:Int}(h:ZS c)(hv:PT c.b)(Z:We n c=some r)(hn:1048577<=n):DG (dZ (fun a=>Yb c a r) c.f∧c.f.length<=8) (bH n c):=by
 have E:=hv.few
 have a0:=h.arcs.1
 rw [bH];try simp only [jn]
 refine(Hx (L:=fun m i=>Me n c _ m i) (Q:=c.f.length<=8) c.f.length 0 (fun i=>∀(hi:i<c.f.length),Yb c c.f[i] r∧∀j (B:j<i),¬Lv c.f[j] c.f[i]) ?_ ?_ n 0 (by omega) (by omega) (by omega) (fun j _ h=>by omega)).iff ⟨fun a=>⟨fun i hi=>a.1 i (by omega) hi hi,a.2⟩,fun a=>⟨fun i _ _ hi=>a.1 i hi,a.2⟩⟩
 ·intro m i _ hi
  obtain⟨b,e,W⟩:=AbO (n:=n) (c:=c) E.2 E.1 (h.arcs.2 _ (AQ hi)) Z hn
  have G:PP c.f 0 (i:Int)=some (c.f.take i):=by
   unfold PP
   rw [BE ⟨by omega,by omega,by omega⟩];simp
  obtain⟨q,J,Y,_⟩:=Qk (xs:=c.f.take i) (L:=fun m j=>Lc n (c.f.take i) c.f[i] (fun i6=>(some (-1))) m j) (f:=fun a=>Zi n a c.f[i]) (P:=fun a=>Lv a c.f[i]) (fun p _=>by rw [Zi];exact DT (by unfold Lv;simp only [AG,BB])) (fun m j B=>by
   simp only [Lc.eq_2,FL B,cT,Ar B,BQ,wS (show j<4611686018427387904 by have:=B;simp at this;omega)]) (fun m=>by
   simp only [Lc.eq_2,Fh,cF]) n (by simp;omega)
  have J:Lc n (c.f.take i) c.f[i] (fun i6=>(some (-1))) n 0=some q:=J
  simp only [Me.eq_2,FL hi,cT,Ar hi,BQ,e,G,iA,kP,J,Hg,wT i,jn]
  have U:(decide (q>=0))=true↔¬∀j (B:j<i),¬Lv c.f[j] c.f[i]:=by
   rw [Ak,Y]
   constructor
   ·rintro ⟨x,hx,O⟩ F
    obtain⟨j,B,rfl⟩:=By.1 hx
    exact F j (by omega) O
   ·intro H
    refine EW fun I=>H fun j B O=>I ⟨c.f[j],By.2 ⟨j,by omega,rfl⟩,O⟩
  cases hc:(!b||decide (q>=0))with
  |true=>
   refine .inr ⟨fun g=>?_,by trivial⟩
   have:=g hi
   rw [CZ]at hc
   rcases hc with hc|hc
   ·rw [W.2 this.1]at hc;cases hc
   ·exact U.1 hc this.2
  |false=>
   rw [BS]at hc
   refine .inl ⟨fun _=>⟨W.1 (by simpa using hc.1),EW fun g=>?_⟩,by trivial⟩
   have:=U.2 g
   rw [hc.2]at this;cases this
 ·intro m i h1 h2 _
  obtain rfl:i=c.f.length:=by omega
  simp only [Me.eq_2,Fh,cF,jn]
  exact DT (by rw [Ak];omega)
theorem AcH{n:Nat}{c:Bv}(h:ZS c)(G:1048577<=n):DG (TQ c) (Zq n c):=by
 obtain⟨r,U,B,F⟩:=Ck (n:=n) h.pins.1 G
 rw [Zq,Nm1 h.name G,BQ]
 cases hnm:Ha c.d with
 |false=>
  simp only [cF,BQ]
  exact DC fun v=>(by have:=v.name;rw [hnm]at this;cases this)
 |true=>
  obtain⟨b,e,H⟩:=Pn2 (n:=n) h.pins G
  simp only [cT,e,BQ]
  cases b with
  |false=>
   simp only [cF,BQ]
   exact DC fun v=>(by have:=H.2 v.pins;cases this)
  |true=>
   have E:=H.1 rfl
   obtain⟨Z,J,W⟩:=As2 (n:=n) h E U G
   obtain⟨b2,Y,O⟩:=Kn2 (n:=n) h E G
   simp only [cT,J,Y,Nv,BQ,EH]
   refine DT ?_
   rw [AG,AG,AG,W,O,QV,QV]
   constructor
   ·rintro ⟨⟨⟨⟨a,I⟩,b⟩,d⟩,f⟩
    exact⟨hnm,E,I,b,d,fun i hi=>⟨(YP E f.cnt F B).2 (a i hi).1,(a i hi).2⟩,f⟩
   ·rintro v
    exact⟨⟨⟨⟨fun i hi=>⟨(YP E v.kind.cnt F B).1 (v.arcs i hi).1,(v.arcs i hi).2⟩,v.few⟩,v.leak⟩,v.energy⟩,v.kind⟩
def Jd(xs:List ByteArray):Prop:=∀k (h:k<xs.length),Ha xs[k]=true∧∀i (hi:i<k),(xs[i].toList==xs[k].toList)=false
theorem pC{n:Nat}{xs:List ByteArray}(h:xs.length<=1048576)(U:∀x∈xs,x.size<=1048576)(Y:1048577<=n):DG (Jd xs) (oO n xs):=by
 rw [oO]
 refine(Hx (L:=fun m i=>Lo n xs _ m i) (Q:=True) xs.length 0 (fun i=>∀(hi:i<xs.length),Ha xs[i]=true∧∀j (B:j<i),(xs[j].toList==xs[i].toList)=false) ?_ ?_ n 0 (by omega) (by omega) (by omega) (fun j _ h=>by omega)).iff ⟨fun a k H=>a.1 k (by omega) H H,fun a=>⟨fun i _ _ hi=>a i hi,trivial⟩⟩
 ·intro m i _ hi
  simp only [Lo.eq_2,FL hi,cT,Ar hi,BQ,xY (U _ (AQ hi)) Y]
  cases hb:Ha xs[i]with
  |false=>simp only [BC,cT];exact .inr ⟨fun g=>(by have:=(g hi).1;rw [hb]at this;cases this),trivial⟩
  |true=>
   simp only [Ac,cF]
   have E:Ny xs (i:Int) (fun G=>Lo n xs (fun I=>some true) m (wrap .i64 ((i:Int)+1))) n 0=cond ((xs.take i).all (fun x=>!(x.toList==xs[i].toList))) (Lo n xs (fun I=>some true) m (wrap .i64 ((i:Int)+1))) (some false):=by
    refine SZ (xs:=xs.take i) (L:=fun q j=>Ny xs (i:Int) (fun G=>Lo n xs (fun I=>some true) m (wrap .i64 ((i:Int)+1))) q j) (fun x=>!(x.toList==xs[i].toList)) ?_ ?_ n (by simp;omega)
    ·intro q j B
     have J:j<i:=by simp at B;omega
     have F:decide ((j:Int)<(i:Int))=true:=Aw (by omega)
     simp only [Ny.eq_2,F,cT,Ar (show j<xs.length by omega),Ar hi,BQ,GH,wT j]
     cases(xs[j].toList==xs[i].toList)<;>rfl
    ·intro q
     have O:(xs.take i).length=i:=by simp;omega
     have F:decide (((xs.take i).length:Int)<(i:Int))=false:=Av (by rw [O];omega)
     simp only [Ny.eq_2,F,cF]
   rw [E]
   cases ha:(xs.take i).all (fun x=>!(x.toList==xs[i].toList))with
   |true=>
    rw [cT,wT i]
    refine .inl ⟨fun _=>⟨hb,fun j B=>?_⟩,rfl⟩
    have:=CX.1 ha xs[j] (By.2 ⟨j,by omega,rfl⟩)
    simpa using this
   |false=>
    rw [cF]
    refine .inr ⟨fun g=>?_,rfl⟩
    have:(xs.take i).all (fun x=>!(x.toList==xs[i].toList))=true:=by
     rw [CX]
     intro x W
     obtain⟨j,B,rfl⟩:=By.1 W
     have:=(g hi).2 j (by omega)
     simp [this]
    rw [ha]at this;cases this
 ·intro m i h1 Z _
  obtain rfl:i=xs.length:=by omega
  simp only [Lo.eq_2,Fh,cF]
  exact FU trivial
structure Vr(l:Br):Prop where
 few:l.b.length<=8
 cells:∀i (h:i<l.b.length),TQ l.b[i]
 names:∀k (h:k<l.b.length),∀i (hi:i<k),(l.b[i].d.toList==l.b[k].d.toList)=false
def XV(l:Br):Prop:=l.b.length<=1048576∧∀c∈l.b,ZS c
theorem Lb1{n:Nat}{l:Br}(h:XV l)(Z:1048577<=n):DG (Vr l) (xI n l):=by
 have W:=h.1
 rw [xI]
 refine(Hx (L:=fun m i=>Lh n l _ m i) (Q:=l.b.length<=8) l.b.length 0 (fun i=>∀(hi:i<l.b.length),TQ l.b[i]∧∀j (E:j<i),(l.b[j].d.toList==l.b[i].d.toList)=false) ?_ ?_ n 0 (by omega) (by omega) (by omega) (fun j _ h=>by omega)).iff ⟨fun a=>⟨a.2,fun i hi=>(a.1 i (by omega) hi hi).1,fun k I=>(a.1 k (by omega) I I).2⟩,fun a=>⟨fun i _ _ hi=>⟨a.cells i hi,a.names i hi⟩,a.few⟩⟩
 ·intro m i _ hi
  obtain⟨b,e,J⟩:=AfQ (n:=n) (h.2 _ (AQ hi)) Z
  simp only [Lh.eq_2,FL hi,cT,Ar hi,BQ,e]
  cases b with
  |false=>simp only [BC,cT];exact .inr ⟨fun g=>(by have:=J.2 (g hi).1;cases this),trivial⟩
  |true=>
   simp only [Ac,cF]
   have F:OU l (i:Int) (fun H=>Lh n l (fun B=>some (decide ((l.b.length:Int)<=8))) m (wrap .i64 ((i:Int)+1))) n 0=cond ((l.b.take i).all (fun x=>!(x.d.toList==l.b[i].d.toList))) (Lh n l (fun B=>some (decide ((l.b.length:Int)<=8))) m (wrap .i64 ((i:Int)+1))) (some false):=by
    refine SZ (xs:=l.b.take i) (L:=fun q j=>OU l (i:Int) (fun H=>Lh n l (fun B=>some (decide ((l.b.length:Int)<=8))) m (wrap .i64 ((i:Int)+1))) q j) (fun x=>!(x.d.toList==l.b[i].d.toList)) ?_ ?_ n (by simp;omega)
    ·intro q j E
     have O:j<i:=by simp at E;omega
     have G:decide ((j:Int)<(i:Int))=true:=Aw (by omega)
     simp only [OU.eq_2,G,cT,Ar (show j<l.b.length by omega),Ar hi,BQ,GH,wT j]
     cases(l.b[j].d.toList==l.b[i].d.toList)<;>rfl
    ·intro q
     have U:(l.b.take i).length=i:=by simp;omega
     have G:decide (((l.b.take i).length:Int)<(i:Int))=false:=Av (by rw [U];omega)
     simp only [OU.eq_2,G,cF]
   rw [F]
   cases ha:(l.b.take i).all (fun x=>!(x.d.toList==l.b[i].d.toList))with
   |true=>
    rw [cT,wT i]
    refine .inl ⟨fun _=>⟨J.1 rfl,fun j E=>?_⟩,rfl⟩
    have:=CX.1 ha l.b[j] (By.2 ⟨j,by omega,rfl⟩)
    simpa using this
   |false=>
    rw [cF]
    refine .inr ⟨fun g=>?_,rfl⟩
    have:(l.b.take i).all (fun x=>!(x.d.toList==l.b[i].d.toList))=true:=by
     rw [CX]
     intro x Y
     obtain⟨j,E,rfl⟩:=By.1 Y
     have:=(g hi).2 j (by omega)
     simp [this]
    rw [ha]at this;cases this
 ·intro m i W h2 _
  obtain rfl:i=l.b.length:=by omega
  simp only [Lh.eq_2,Fh,cF]
  exact DT (by rw [Ak];omega)
theorem Lb2{n:Nat}{l:Br}(h:XV l)(J:1048577<=n):DG (Vr l) (bR n l):=by
 have Y:=h.1
 rw [bR]
 refine loop (L:=fun m i (s:List ByteArray)=>MO n l _ m s i) l.b.length (fun i s=>s=(l.b.take i).map (·.d)∧∀j (H:j<l.b.length),j<i->TQ l.b[j]) (fun o=>DG (Vr l) o) ?_ ?_ n 0 [] (by omega) (by omega) ⟨by simp,fun j _ h=>by omega⟩
 ·intro m i s hi ⟨B,F⟩
  obtain⟨b,e,E⟩:=AcH (n:=n) (h.2 _ (AQ hi)) J
  have G:s.length=i:=by rw [B];simp;omega
  simp only [MO.eq_2,FL hi,cT,Ar hi,BQ,e]
  cases b with
  |false=>simp only [BC,cT];exact .inr (DC fun v=>by have:=E.2 (v.cells i hi);cases this)
  |true=>
   simp only [Ac,cF,CU (show s.length+[l.b[i].d].length<=16777216 by simp;omega) (show 16<=1048576 by omega),BQ,wT i]
   refine .inl ⟨_,⟨?_,fun j H U=>?_⟩,rfl⟩
   ·rw [B,Bg hi,FN];rfl
   ·by_cases ej:j=i
    ·subst ej;exact E.1 rfl
    ·exact F j H (by omega)
 ·intro m s ⟨B,F⟩
  rw [Ch]at B
  have G:s.length=l.b.length:=by rw [B];simp
  simp only [MO.eq_2,Fh,cF]
  by_cases c:l.b.length<=8
  ·have d:decide ((l.b.length:Int)<=8)=true:=Aw (by omega)
   obtain⟨b,e,E⟩:=AN (n:=n) (xs:=s) (by omega) (fun x I=>by
    rw [B]at I
    obtain⟨c,W,rfl⟩:=ED.1 I
    exact(h.2 c W).name) J
   simp only [d,cT,e,BQ]
   refine DT (E.trans ⟨fun g=>⟨c,fun i hi=>F i hi hi,fun k O i hi=>?_⟩,fun v k O=>⟨?_,fun i hi=>?_⟩⟩)
   ·have:=(g k (by omega)).2 i hi
    simpa [B] using this
   ·have:=(v.cells k (by omega)).name
    simpa [B] using this
   ·have:=v.names k (by omega) i hi
    simpa [B] using this
  ·have d:decide ((l.b.length:Int)<=8)=false:=Av (by omega)
   simp only [d,cF,BQ]
   exact DC fun v=>c v.few
def kG(l:List Int)(lo hi:Int):Prop:=∀i,i<l.length->lo<=gd l i∧gd l i<=hi
theorem bN{n:Nat}{l:List Int}{lo hi:Int}(h:l.length<=1048576)(B:1048577<=n):DG (kG l lo hi) (RA n l lo hi):=by
 rw [RA,aF,eQ]
 obtain⟨r,e,h⟩:=PC (xs:=l) (L:=fun m i=>JD n l lo hi (fun E=>(some (-1))) m i) (fun x=>!((decide (x>=lo))&&(decide (x<=hi)))) (by
  intro m i hi
  simp only [JD.eq_2,FL hi,cT,Ar hi,BQ,aZ,Nv,wT i]) (by
  intro m
  simp only [JD.eq_2,Fh,cF]) n (by omega)
 simp only [e,BQ]
 refine DT ?_
 rw [h,List.any_eq_not_all_not,Bool.not_not]
 simp only [Bool.not_not]
 exact Su
structure Ve(w:DD)(s:Int):Prop where
 many:1<=w.b.length∧w.b.length<=8
 res:w.d.length=w.b.length
 cap:w.f.length=w.b.length
 sink:(w.c.length:Int)=s
 root:gd w.b 0= -1∧gd w.d 0=0
 tree:∀i,0<i->i<w.b.length->0<=gd w.b i∧gd w.b i<=(i:Int)-1
 ress:kG w.d 0 1000
 caps:kG w.f 0 500
 sinks:kG w.c 0 ((w.b.length:Int)-1)
def Node(w:DD)(i:Nat):Prop:=(i=0->gd w.b 0= -1∧gd w.d 0=0)∧(0<i->0<=gd w.b i∧gd w.b i<=(i:Int)-1)
theorem Wr1{n:Nat}{w:DD}{s:Int}(h:w.c.length<=1048576)(Y:1048577<=n):DG (Ve w s) (aI n w s):=by
 rw [aI]
 refine Is (fun c=>DC fun v=>?_) (fun c=>?_)
 ·have:=v.many;have:=v.res;have:=v.cap;have:=v.sink
  simp only [CZ,Ak,EI,ne_eq]at c;omega
 ·simp only [BS,Ad,Bp]at c
  obtain⟨⟨⟨⟨W,J⟩,O⟩,U⟩,I⟩:=c
  refine(Hx (L:=fun m i=>NF n w _ m i) (Q:=kG w.c 0 ((w.b.length:Int)-1)) w.b.length 0 (fun i=>(0<=gd w.f i∧gd w.f i<=500)∧(0<=gd w.d i∧gd w.d i<=1000)∧Node w i) ?_ ?_ n 0 (by omega) (by omega) (by omega) (fun j _ h=>by omega)).iff ⟨fun a=>⟨by omega,by omega,by omega,I,(a.1 0 (by omega) (by omega)).2.2.1 rfl,fun i F E=>(a.1 i (by omega) E).2.2.2 F,fun i hi=>(a.1 i (by omega) (by omega)).2.1,fun i hi=>(a.1 i (by omega) (by omega)).1,a.2⟩,fun v=>⟨fun i _ hi=>⟨v.caps i (by omega),v.ress i (by omega),fun _=>v.root,fun h=>v.tree i h hi⟩,v.sinks⟩⟩
  ·intro m i _ hi
   have B:wrap .i64 ((i:Int)-1)=(i:Int)-1:=BV (by omega) (by omega)
   simp only [NF.eq_2,FL hi,cT,gI (show i<w.b.length by omega),gI (show i<w.d.length by omega),gI (show i<w.f.length by omega),BQ,Kz,Hg,EH,B,wT i]
   cases e1:(!(decide (gd w.f i>=0)&&decide (gd w.f i<=500))|| !(decide (gd w.d i>=0)&&decide (gd w.d i<=1000)))with
   |true=>
    rw [cT]
    refine .inr ⟨fun g=>?_,rfl⟩
    simp only [CZ,CB,BN,Ad]at e1;omega
   |false=>
    rw [cF]
    simp only [BS,CJ,AG,Ak]at e1
    cases e2:((((i:Int)==0)&&((gd w.b i != -1)||(gd w.d i !=0)))||(decide ((i:Int)>0)&& !(decide (gd w.b i>=0)&&decide (gd w.b i<=(i:Int)-1))))with
    |true=>
     rw [cT]
     refine .inr ⟨fun g=>?_,rfl⟩
     obtain⟨_,_,H,G⟩:=g
     simp only [CZ,CB,BN,AG,Ad,Ak,BB,EI,ne_eq]at e2
     by_cases z:i=0
     ·subst z;have:=H rfl;omega
     ·have:=G (by omega);omega
    |false=>
     rw [cF]
     refine .inl ⟨⟨by omega,by omega,?_⟩,rfl⟩
     simp only [BS,CJ,BN,AG,Ad,Ak,AJ,Bp,ne_eq]at e2
     refine⟨fun z=>?_,fun z=>by omega⟩
     subst z;omega
  ·intro m i F E _
   obtain rfl:i=w.b.length:=by omega
   have B:wrap .i64 ((w.b.length:Int)-1)=(w.b.length:Int)-1:=BV (by omega) (by omega)
   simp only [NF.eq_2,Fh,cF]
   refine(Hx (L:=fun m i=>Mz n w _ m i) (Q:=True) w.c.length 0 (fun i=>0<=gd w.c i∧gd w.c i<=(w.b.length:Int)-1) ?_ ?_ n 0 (by omega) (by omega) (by omega) (fun j _ h=>by omega)).iff ⟨fun a i hi=>a.1 i (by omega) hi,fun v=>⟨fun i _ hi=>v i hi,trivial⟩⟩
   ·intro m i _ hi
    simp only [Mz.eq_2,FL hi,cT,gI hi,BQ,Kz,B,wT i]
    cases e:(!(decide (gd w.c i>=0)&&decide (gd w.c i<=(w.b.length:Int)-1)))with
    |true=>refine .inr ⟨fun g=>?_,by trivial⟩;simp only [CB,BN,Ad]at e;omega
    |false=>refine .inl ⟨?_,by trivial⟩;simp only [CJ,AG,Ak]at e;omega
   ·intro m i F E _
    obtain rfl:i=w.c.length:=by omega
    simp only [Mz.eq_2,Fh,cF]
    exact FU trivial
theorem AcD{n:Nat}{w:DD}(H:1<=w.b.length)(h:w.b.length<=8)(G:w.d.length=w.b.length)(J:1048577<=n):DG (∀i,0<=i->i<w.b.length->Node w i) (aS n w):=by
 rw [aS]
 refine(Hx (L:=fun m i=>Mm n w _ m i) (Q:=True) w.b.length 0 (fun i=>Node w i) ?_ ?_ n 0 (by omega) (by omega) (by omega) (fun j _ h=>by omega)).iff ⟨fun a=>a.1,fun a=>⟨a,trivial⟩⟩
 ·intro m i _ hi
  have B:wrap .i64 ((i:Int)-1)=(i:Int)-1:=BV (by omega) (by omega)
  have I:AU w.d 0=some (gd w.d 0):=gI (i:=0) (by omega)
  simp only [Mm.eq_2,FL hi,cT,gI hi,I,BQ,Nv,Hg,EH,B,wT i]
  cases e2:((((i:Int)==0)&&((gd w.b i != -1)||(gd w.d 0 !=0)))||(decide ((i:Int)>0)&& !(decide (gd w.b i>=0)&&decide (gd w.b i<=(i:Int)-1))))with
  |true=>
   rw [cT]
   refine .inr ⟨fun g=>?_,rfl⟩
   obtain⟨F,E⟩:=g
   simp only [CZ,CB,BN,AG,Ad,Ak,BB,EI,ne_eq]at e2
   by_cases z:i=0
   ·subst z;have:=F rfl;omega
   ·have:=E (by omega);omega
  |false=>
   rw [cF]
   refine .inl ⟨?_,rfl⟩
   simp only [BS,CJ,BN,AG,Ad,Ak,AJ,Bp,ne_eq]at e2
   refine⟨fun z=>?_,fun z=>by omega⟩
   subst z;omega
 ·intro m i H G _
  obtain rfl:i=w.b.length:=by omega
  simp only [Mm.eq_2,Fh,cF]
  exact FU trivial
theorem DG.and{P Q:Prop}{o:Option Bool}{c:Bool}(B:c=true↔P)(h:P->DG Q o):DG (P∧Q) (cond c o (some false)):=by
 cases c with
 |true=>exact(h (B.1 rfl)).iff ⟨fun q=>⟨B.1 rfl,q⟩,fun q=>q.2⟩
 |false=>exact DC fun q=>by have:=B.2 q.1;cases this
theorem DG.ab{P R:Prop}{o:Option Bool}{f:Bool->Option Bool}(h:DG P o)(k:∀c:Bool,(c=true↔P)->DG R (f c)):DG R (Option.bind o f):=by
 obtain⟨b,rfl,h⟩:=h
 exact k b h
theorem TJ{o:Option Bool}:(Option.bind o fun r=>some r)=o:=by cases o<;>rfl
theorem Wr2{n:Nat}{w:DD}{s:Int}(h:w.c.length<=1048576)(J:w.d.length<=1048576)(W:w.f.length<=1048576)(hp:w.b.length<=1048576)(B:1048577<=n):DG (Ve w s) (eD n w s):=by
 have E:wrap .i64 ((w.b.length:Int)-1)=(w.b.length:Int)-1:=BV (by omega) (by omega)
 rw [eD]
 simp only [Si,Nv,BQ,E,EH,TJ]
 refine DG.ab (DG.and (P:=(1<=w.b.length∧w.b.length<=8)∧w.d.length=w.b.length∧w.f.length=w.b.length) (Q:=∀i,0<=i->i<w.b.length->Node w i) ?_ fun p=>AcD p.1.1 p.1.2 p.2.1 B) fun c1 F=>?_
 ·simp only [AG,Ak,BB];omega
 refine DG.ab (DG.and F fun _=>bN J B) fun Z Y=>?_
 refine DG.ab (DG.and Y fun _=>bN W B) fun c3 G=>?_
 refine(DG.and (P:=(((((1<=w.b.length∧w.b.length<=8)∧w.d.length=w.b.length∧w.f.length=w.b.length)∧∀i,0<=i->i<w.b.length->Node w i)∧kG w.d 0 1000)∧kG w.f 0 500)∧(w.c.length:Int)=s) ?_ fun _=>bN h B).iff ⟨fun⟨⟨⟨⟨⟨⟨a,b,c⟩,t⟩,r⟩,k⟩,U⟩,H⟩=>⟨a,b,c,U,(t 0 (by omega) (by omega)).1 rfl,fun i O I=>(t i (by omega) I).2 O,r,k,H⟩,fun v=>⟨⟨⟨⟨⟨⟨v.many,v.res,v.cap⟩,fun i _ hi=>⟨fun _=>v.root,fun h=>v.tree i h hi⟩⟩,v.ress⟩,v.caps⟩,v.sink⟩,v.sinks⟩⟩
 rw [AG,G,BB]
def MB(t:List Int)(q:Int):List Int:=t.set q.toNat (gd t q.toNat+1)
def OX(x:Bq):Int:=gd x.b (x.b.length-1)
def cI(t:List Int)(x:Bq):List Int:=MB t (OX x)
def cP(t:List Int)(p:Dr):List Int:=if p.b=1 then MB t p.c else t
def drv(d:At):List Int:=d.d.foldl cP (d.c.foldl cI (List.replicate d.b.length 0))
structure PU(l:Br)(d:At)(x:Bq):Prop where
 cell:0<=x.c∧x.c<=(l.b.length:Int)-1
 pins:∀c,AU l.b x.c=some c->x.b.length=c.b.length
 nets:kG x.b 0 ((d.b.length:Int)-1)
structure Rs(d:At)(p:Dr):Prop where
 dir:p.b=1∨p.b=2
 net:0<=p.c∧p.c<=(d.b.length:Int)-1
structure Fs(l:Br)(d:At):Prop where
 lib:Vr l
 few:d.c.length<=14∧d.b.length<=30∧d.d.length<=8
 inst:∀x∈d.c,PU l d x
 port:∀p∈d.d,Rs d p
 ni:Jd (d.c.map (·.d))
 np:Jd (d.d.map (·.d))
 nn:Jd d.b
 one:∀i,i<d.b.length->gd (drv d) i=1
structure fI(d:At):Prop where
 inst:d.c.length<=1048576∧∀x∈d.c,x.d.size<=1048576∧x.b.length<=1048576
 nets:d.b.length<=1048576∧∀x∈d.b,x.size<=1048576
 ports:d.d.length<=1048576∧∀p∈d.d,p.d.size<=1048576
theorem PU.long{l:Br}{d:At}{x:Bq}(v:PU l d x)(E:Vr l):2<=x.b.length∧x.b.length<=5:=by
 obtain⟨c,e,G⟩:=Ia (xs:=l.b) v.cell.1 (by have:=v.cell.2;omega)
 have h:=v.pins c e
 obtain⟨B,F⟩:=AR.1 G
 have:=(E.cells _ B).pins.few
 rw [F]at this;omega
theorem PU.last{l:Br}{d:At}{x:Bq}(v:PU l d x)(B:Vr l):0<=OX x∧OX x<d.b.length:=by
 have:=v.long B
 have:=v.nets (x.b.length-1) (by omega)
 unfold OX;omega
theorem Mc{α:Type}{xs:List α}(B:α->ByteArray){L:Nat->List ByteArray->Int->Option Bool}{k:List ByteArray->Option Bool}(G:xs.length<=1048576)
 (E:∀(m i:Nat) (h:i<xs.length) (s:List ByteArray),L (m+1) s (i:Int)=Option.bind (EU s [B xs[i]] 16) fun z=>L m z ((i+1:Nat):Int))
 (F:∀(m:Nat) (s:List ByteArray),L (m+1) s (xs.length:Int)=k s) (m:Nat) (hm:xs.length<m):L m [] 0=k (xs.map B):=by
 refine loop (L:=fun m i s=>L m s i) xs.length (fun i s=>s=(xs.take i).map B) (fun o=>o=k (xs.map B)) ?_ ?_ m 0 [] (by omega) (by omega) (by simp)
 ·intro m i s hi e
  refine .inl ⟨s++[B xs[i]],?_,?_⟩
  ·rw [e,Bg hi,FN];rfl
  ·have:s.length=i:=by rw [e];simp;omega
   show L (m+1) s (i:Int)=_
   rw [E m i hi,CU (by simp;omega) (by omega),BQ]
 ·intro m s e
  rw [Ch]at e
  show L (m+1) s (xs.length:Int)=_
  rw [F,e]
def Yx(N B:Nat)(t:List Int):Prop:=t.length=N∧∀j,0<=gd t j∧gd t j<=B
theorem Yx.bump{N B:Nat}{t:List Int}{q:Int}(h:Yx N B t)(F:0<=q)(E:q<N):Yx N (B+1) (MB t q):=by
 refine⟨by unfold MB;simpa using h.1,fun j=>?_⟩
 unfold MB
 rw [KX (by have:=h.1;omega)]
 have:=h.2 j;have:=h.2 q.toNat
 split<;>omega
theorem Yx.up{N B:Nat}{t:List Int}(h:Yx N B t):Yx N (B+1) t:=⟨h.1,fun j=>by have:=h.2 j;omega⟩
theorem Yx.step{N B:Nat}{t:List Int}{q:Int}(h:Yx N B t)(F:0<=q)(E:q<N)(G:B<=1048576):AU t q=some (gd t q.toNat)∧t.set q.toNat (wrap .i64 (gd t q.toNat+1))=MB t q:=by
 refine⟨SK F (by rw [h.1];exact E),?_⟩
 have:=h.2 q.toNat
 rw [BV (by omega) (by omega)];rfl
theorem QC{α σ:Type}{f:σ->α->σ}{xs:List α}{i:Nat}{s:σ}(h:i<xs.length):(xs.take (i+1)).foldl f s=f ((xs.take i).foldl f s) xs[i]:=by
 rw [Bg h,List.foldl_append];rfl
theorem Pa1{n:Nat}{l:Br}{d:At}(hl:Vr l)(h:fI d)(hn:1048577<=n):DG ((∀x∈d.c,PU l d x)∧∀p∈d.d,Rs d p) (vB n l d):=by
 have a0:=h.inst.1;have a2:=h.ports.1;have a3:=h.nets.1;have Z:=hl.few
 have W:wrap .i64 ((d.b.length:Int)-1)=(d.b.length:Int)-1:=BV (by omega) (by omega)
 have wL:wrap .i64 ((l.b.length:Int)-1)=(l.b.length:Int)-1:=BV (by omega) (by omega)
 rw [vB]
 refine(Hx (L:=fun m i=>Lr n l d _ m i) (Q:=∀p∈d.d,Rs d p) d.c.length 0 (fun i=>∀(hi:i<d.c.length),PU l d d.c[i]) ?_ ?_ n 0 (by omega) (by omega) (by omega) (fun j _ h=>by omega)).iff ⟨fun a=>⟨fun x hx=>?_,a.2⟩,fun a=>⟨fun i _ _ hi=>a.1 _ (AQ hi),a.2⟩⟩
 ·intro m i _ hi
  simp only [Lr.eq_2,FL hi,cT,Ar hi,BQ,Kz,wL,wT i]
  by_cases c1:0<=d.c[i].c∧d.c[i].c<=(l.b.length:Int)-1
  ·obtain⟨c,H,hc⟩:=Ia (xs:=l.b) c1.1 (by omega)
   have J:(decide (d.c[i].c>=0)&&decide (d.c[i].c<=(l.b.length:Int)-1))=true:=by simp only [AG,Ak];omega
   simp only [J,Ac,cF,H,BQ]
   by_cases c2:d.c[i].b.length=c.b.length
   ·have G:((d.c[i].b.length:Int) !=(c.b.length:Int))=false:=by rw [Bp];omega
    simp only [G,cF]
    have a1:=(h.inst.2 _ (AQ hi)).2
    have O:Ok n d d.c[i] (fun I=>Lr n l d (fun E=>Lp n d (fun F=>some true) n 0) m ((i+1:Nat):Int)) n 0=cond (d.c[i].b.all (fun k=>decide (k>=0)&&decide (k<=(d.b.length:Int)-1))) (Lr n l d (fun E=>Lp n d (fun F=>some true) n 0) m ((i+1:Nat):Int)) (some false):=by
     refine SZ (xs:=d.c[i].b) (L:=fun q j=>Ok n d d.c[i] (fun I=>Lr n l d (fun E=>Lp n d (fun F=>some true) n 0) m ((i+1:Nat):Int)) q j) _ ?_ ?_ n (by omega)
     ·intro q j B
      simp only [Ok.eq_2,FL B,cT,Ar B,BQ,Kz,W,wT j]
      cases(decide (d.c[i].b[j]>=0)&&decide (d.c[i].b[j]<=(d.b.length:Int)-1))<;>rfl
     ·intro q
      simp only [Ok.eq_2,Fh,cF]
    rw [O]
    cases ha:d.c[i].b.all (fun k=>decide (k>=0)&&decide (k<=(d.b.length:Int)-1))with
    |true=>
     rw [cT]
     exact .inl ⟨fun _=>⟨c1,fun c' U=>(by rw [H]at U;cases U;exact c2),Su.1 ha⟩,rfl⟩
    |false=>
     rw [cF]
     exact .inr ⟨fun g=>(by have:=Su.2 (g hi).nets;rw [ha]at this;cases this),rfl⟩
   ·have G:((d.c[i].b.length:Int) !=(c.b.length:Int))=true:=by rw [EI];omega
    simp only [G,cT]
    exact .inr ⟨fun g=>c2 ((g hi).pins c H),by trivial⟩
  ·have J:(decide (d.c[i].c>=0)&&decide (d.c[i].c<=(l.b.length:Int)-1))=false:=by rw [BN,Ad,Ad];omega
   simp only [J,BC,cT,BQ]
   exact .inr ⟨fun g=>c1 (g hi).cell,by trivial⟩
 ·intro m i h1 Y _
  obtain rfl:i=d.c.length:=by omega
  simp only [Lr.eq_2,Fh,cF]
  refine(Hx (L:=fun m i=>Lp n d _ m i) (Q:=True) d.d.length 0 (fun i=>∀(hi:i<d.d.length),Rs d d.d[i]) ?_ ?_ n 0 (by omega) (by omega) (by omega) (fun j _ h=>by omega)).iff ⟨fun a p hp=>?_,fun a=>⟨fun i _ _ hi=>a _ (AQ hi),trivial⟩⟩
  ·intro m i _ hi
   simp only [Lp.eq_2,FL hi,cT,Ar hi,BQ,Kz,W,Hg,wT i]
   cases e1:(!(decide (d.d[i].b>=1)&&decide (d.d[i].b<=2))|| !(decide (d.d[i].c>=0)&&decide (d.d[i].c<=(d.b.length:Int)-1)))with
   |true=>
    rw [cT]
    refine .inr ⟨fun g=>?_,rfl⟩
    have:=(g hi).dir;have:=(g hi).net
    simp only [CZ,CB,BN,Ad]at e1;omega
   |false=>
    rw [cF]
    simp only [BS,CJ,AG,Ak]at e1
    exact .inl ⟨fun _=>⟨by omega,by omega⟩,rfl⟩
  ·intro m i h1 Y _
   obtain rfl:i=d.d.length:=by omega
   simp only [Lp.eq_2,Fh,cF]
   exact FU trivial
  ·obtain⟨j,B,rfl⟩:=DB hp
   exact a.1 j (by omega) B B
 ·obtain⟨j,B,rfl⟩:=DB hx
  exact a.1 j (by omega) B B
theorem Dg1{n:Nat}{l:Br}{d:At}(h:XV l)(G:fI d)(Z:1048577<=n):DG (Fs l d) (yM n l d):=by
 have a0:=G.inst.1;have Y:=G.ports.1;have a1:=G.nets.1
 rw [yM]
 refine(Lb1 h Z).bind (fun I=>?_) (fun I=>?_)
 ·simp only [Ac,Dk]
  by_cases c:(d.c.length<=14∧d.b.length<=30)∧d.d.length<=8
  ·have e:(decide ((d.c.length:Int)>14)||decide ((d.b.length:Int)>30)||decide ((d.d.length:Int)>8))=false:=by simp only [BS,Ad];omega
   simp only [e,cF]
   obtain⟨b,W,hb⟩:=Pa1 (n:=n) I G Z
   rw [W,BQ,BQ]
   cases b with
   |false=>
    simp only [BC,cT]
    exact DC fun v=>by have:=hb.2 ⟨v.inst,v.port⟩;cases this
   |true=>
    obtain⟨v1,v2⟩:=hb.1 rfl
    simp only [Ac,cF]
    rw [Mc (xs:=d.c) (·.d) (L:=fun m s i=>Pt d _ m s i) (k:=fun s=>ON d _ n [] 0) a0 (by
     intro m i hi s
     simp only [Pt.eq_2,FL hi,cT,Ar hi,BQ,wT i]) (by
     intro m s
     simp only [Pt.eq_2,Fh,cF];rfl) n (by omega)]
    rw [Mc (xs:=d.d) (·.d) (L:=fun m s i=>ON d _ m s i) Y (by
     intro m i hi s
     simp only [ON.eq_2,FL hi,cT,Ar hi,BQ,wT i]) (by
     intro m s
     simp only [ON.eq_2,Fh,cF];rfl) n (by omega)]
    obtain⟨b1,e1,h1⟩:=pC (n:=n) (xs:=d.c.map (·.d)) (by simpa using a0) (fun x hx=>by obtain⟨y,hy,rfl⟩:=ED.1 hx;exact(G.inst.2 y hy).1) Z
    obtain⟨b2,e2,h2⟩:=pC (n:=n) (xs:=d.d.map (·.d)) (by simpa using Y) (fun x hx=>by obtain⟨y,hy,rfl⟩:=ED.1 hx;exact G.ports.2 y hy) Z
    obtain⟨b3,e3,h3⟩:=pC (n:=n) (xs:=d.b) a1 G.nets.2 Z
    simp only [e1,e2,e3,BQ,Hg]
    cases W:((!b1|| !b2)|| !b3)with
    |true=>
     rw [cT]
     refine DC fun v=>?_
     have:=h1.2 v.ni;have:=h2.2 v.np;have:=h3.2 v.nn
     subst b1 b2 b3;cases W
    |false=>
     rw [cF]
     simp only [BS,CJ]at W
     obtain⟨⟨rfl,rfl⟩,rfl⟩:=W
     rw [Gc (by omega) (by omega),BQ]
     have k1:=UF (xs:=d.c) (L:=fun m i s=>QQ d (fun a2 O=>Lg d (fun F E=>Jz E (fun B=>some true) n 0) n 0 O) m i s) (k:=fun s=>Lg d (fun F E=>Jz E (fun B=>some true) n 0) n 0 s) cI (fun i s=>Yx d.b.length i s) (by
      intro m i hi s J
      have H:=v1 _ (AQ hi)
      have a3:=H.long I
      obtain⟨q0,q1⟩:=H.last I
      obtain⟨g1,g2⟩:=J.step q0 q1 (by omega)
      have wx:wrap .i64 ((d.c[i].b.length:Int)-1)=((d.c[i].b.length-1:Nat):Int):=by rw [BV (by omega) (by omega)];omega
      refine⟨?_,J.bump q0 q1⟩
      simp only [QQ.eq_2,FL hi,cT,Ar hi,BQ,wx,gI (show d.c[i].b.length-1<d.c[i].b.length by omega),wT i]
      rw [show gd d.c[i].b (d.c[i].b.length-1)=OX d.c[i]from rfl,g1,BQ,BQ,g2];rfl) (by
      intro m s _
      simp only [QQ.eq_2,Fh,cF]) n (List.replicate d.b.length 0) ⟨by simp,fun j=>by rw [Pz];omega⟩ (by omega)
     rw [k1.1]
     have k2:=UF (xs:=d.d) (L:=fun m i s=>Lg d (fun F E=>Jz E (fun B=>some true) n 0) m i s) (k:=fun s=>Jz s (fun B=>some true) n 0) cP (fun i s=>Yx d.b.length (d.c.length+i) s) (by
      intro m i hi s J
      have H:=v2 _ (AQ hi)
      obtain⟨g1,g2⟩:=J.step H.net.1 (by have:=H.net.2;omega) (by omega)
      simp only [Lg.eq_2,FL hi,cT,Ar hi,BQ,wT i,g1,g2]
      by_cases c:d.d[i].b=1
      ·have e:(d.d[i].b==1)=true:=BB.2 c
       have e':cP s d.d[i]=MB s d.d[i].c:=BE c
       rw [e,cT,e']
       exact⟨rfl,J.bump H.net.1 (by have:=H.net.2;omega)⟩
      ·have e:(d.d[i].b==1)=false:=AJ.2 c
       have e':cP s d.d[i]=s:=BU c
       rw [e,cF,e']
       exact⟨rfl,J.up⟩) (by
      intro m s _
      simp only [Lg.eq_2,Fh,cF]) n _ k1.2 (by omega)
     rw [k2.1]
     show DG _ (Jz (drv d) (fun B=>some true) n 0)
     have U:(drv d).length=d.b.length:=k2.2.1
     refine(Hx (L:=fun m i=>Jz (drv d) (fun B=>some true) m i) (Q:=True) d.b.length 0 (fun i=>gd (drv d) i=1) ?_ ?_ n 0 (by omega) (by omega) (by omega) (fun j _ h=>by omega)).iff ⟨fun a=>⟨I,⟨c.1.1,c.1.2,c.2⟩,v1,v2,h1.1 rfl,h2.1 rfl,h3.1 rfl,fun i hi=>a.1 i (by omega) hi⟩,fun v=>⟨fun i _ hi=>v.one i hi,trivial⟩⟩
     ·intro m i _ hi
      have hi':i<(drv d).length:=by omega
      simp only [Jz.eq_2,FL hi',cT,gI hi',BQ,wT i]
      by_cases c:gd (drv d) i=1
      ·have e:(gd (drv d) i !=1)=false:=Bp.2 c
       rw [e,cF];exact .inl ⟨c,rfl⟩
      ·have e:(gd (drv d) i !=1)=true:=EI.2 c
       rw [e,cT];exact .inr ⟨c,rfl⟩
     ·intro m i q1 q2 _
      obtain rfl:i=d.b.length:=by omega
      rw [←U]
      simp only [Jz.eq_2,Fh,cF]
      exact FU trivial
  ·have e:(decide ((d.c.length:Int)>14)||decide ((d.b.length:Int)>30)||decide ((d.d.length:Int)>8))=true:=by simp only [CZ,Ak];omega
   simp only [e,cT,BQ]
   exact DC fun v=>c ⟨⟨v.few.1,v.few.2.1⟩,v.few.2.2⟩
 ·simp only [BC,GR,cT,BQ]
  exact DC fun v=>I v.lib
theorem Hn2{n:Nat}{d:At}(B:fI d)(J:1048577<=n):DG (((((d.c.length<=14∧d.b.length<=30)∧d.d.length<=8)∧Jd (d.c.map (·.d)))∧Jd d.b)∧Jd (d.d.map (·.d))) (fH n d):=by
 have F:=B.inst.1;have E:=B.ports.1;have H:=B.nets.1
 rw [fH]
 rw [Mc (xs:=d.c) (·.d) (L:=fun m s i=>NE d _ m s i) (k:=fun s=>LW d _ n [] 0) F (by
  intro m i hi s
  simp only [NE.eq_2,FL hi,cT,Ar hi,BQ,wT i]) (by
  intro m s
  simp only [NE.eq_2,Fh,cF];rfl) n (by omega)]
 rw [Mc (xs:=d.d) (·.d) (L:=fun m s i=>LW d _ m s i) E (by
  intro m i hi s
  simp only [LW.eq_2,FL hi,cT,Ar hi,BQ,wT i]) (by
  intro m s
  simp only [LW.eq_2,Fh,cF];rfl) n (by omega)]
 simp only [TJ,Dn]
 refine DG.ab (DG.and (P:=(d.c.length<=14∧d.b.length<=30)∧d.d.length<=8) (Q:=Jd (d.c.map fun x:Bq=>x.d)) ?_ fun _=>AN (xs:=d.c.map fun x:Bq=>x.d) (by simpa using F) (fun x I=>by obtain⟨y,G,rfl⟩:=ED.1 I;exact(B.inst.2 y G).1) J) fun Y O=>?_
 ·simp only [AG,Ak];omega
 refine DG.ab (DG.and (Q:=Jd d.b) O fun _=>AN H B.nets.2 J) fun W U=>?_
 exact DG.and (Q:=Jd (d.d.map fun x:Dr=>x.d)) U fun _=>AN (xs:=d.d.map fun x:Dr=>x.d) (by simpa using E) (fun x I=>by obtain⟨y,G,rfl⟩:=ED.1 I;exact B.ports.2 y G) J
theorem nN{n:Nat}{d:At}{q:Int}(E:d.b.length<=1048576):ZJ n d q=some (decide (q>=0)&&decide (q<=(d.b.length:Int)-1)):=by
 have B:wrap .i64 ((d.b.length:Int)-1)=(d.b.length:Int)-1:=BV (by omega) (by omega)
 simp only [ZJ,kU,Nv,BQ,B]
theorem AfU{n:Nat}{l:Br}{d:At}{x:Bq}(J:Vr l)(G:d.b.length<=1048576)(Z:x.b.length<=1048576)(hn:1048577<=n):DG (PU l d x) (fA n d l x):=by
 have O:=J.few
 have I:wrap .i64 ((l.b.length:Int)-1)=(l.b.length:Int)-1:=BV (by omega) (by omega)
 rw [fA]
 simp only [gY,Nv,BQ,I,TJ]
 by_cases c1:0<=x.c∧x.c<=(l.b.length:Int)-1
 ·obtain⟨c,E,Y⟩:=Ia (xs:=l.b) c1.1 (by omega)
  have F:(decide (x.c>=0)&&decide (x.c<=(l.b.length:Int)-1))=true:=by simp only [AG,Ak];omega
  simp only [F,cT,E,BQ]
  by_cases c2:x.b.length=c.b.length
  ·have B:((x.b.length:Int)==(c.b.length:Int))=true:=by rw [BB];omega
   simp only [B,cT,kX,iU]
   obtain⟨r,e,h⟩:=PC (xs:=x.b) (L:=fun m i=>Nf n x.b d (fun U=>(some (-1))) m i) (fun q=>!((decide (q>=0))&&(decide (q<=(d.b.length:Int)-1)))) (by
    intro m i hi
    simp only [Nf.eq_2,FL hi,cT,Ar hi,BQ,iQ,nN G,wT i]) (by
    intro m
    simp only [Nf.eq_2,Fh,cF]) n (by omega)
   simp only [e,BQ]
   refine(DT (P:=kG x.b 0 ((d.b.length:Int)-1)) ?_).iff ⟨fun w=>⟨c1,fun W H=>(by rw [E]at H;cases H;exact c2),w⟩,fun v=>v.nets⟩
   rw [h,List.any_eq_not_all_not,Bool.not_not]
   simp only [Bool.not_not]
   exact Su
  ·have B:((x.b.length:Int)==(c.b.length:Int))=false:=by rw [AJ];omega
   simp only [B,cF]
   exact DC fun v=>c2 (v.pins c E)
 ·have F:(decide (x.c>=0)&&decide (x.c<=(l.b.length:Int)-1))=false:=by rw [BN,Ad,Ad];omega
  simp only [F,cF,BQ]
  exact DC fun v=>c1 v.cell
theorem Dg2{n:Nat}{l:Br}{d:At}(h:XV l)(O:fI d)(hn:1048577<=n):DG (Fs l d) (bP n l d):=by
 have a7:=O.inst.1;have a6:=O.ports.1;have Y:=O.nets.1
 rw [bP];try simp only [jn]
 refine(Lb2 h hn).bind (fun J=>?_) (fun J=>?_)
 ·simp only [Ac,cF]
  obtain⟨b,eb,U⟩:=Hn2 (n:=n) O hn
  rw [eb,BQ,BQ]
  cases b with
  |false=>
   simp only [BC,cT]
   exact DC fun v=>by have:=U.2 ⟨⟨⟨⟨⟨v.few.1,v.few.2.1⟩,v.few.2.2⟩,v.ni⟩,v.nn⟩,v.np⟩;cases this
  |true=>
   obtain⟨⟨⟨c,a1⟩,a2⟩,a3⟩:=U.1 rfl
   simp only [Ac,cF]
   rw [Gc (by omega) (by omega),BQ]
   refine loop (L:=fun m i s=>ND n l d _ m i s) d.c.length (fun i s=>(s=(d.c.take i).foldl cI (List.replicate d.b.length 0)∧Yx d.b.length i s)∧∀j (E:j<d.c.length),j<i->PU l d d.c[j]) (fun o=>DG (Fs l d) o) ?_ ?_ n 0 _ (by omega) (by omega) ⟨⟨by simp,⟨by simp,fun j=>by rw [Pz];omega⟩⟩,fun j _ h=>by omega⟩
   ·intro m i s hi ⟨⟨hs,Z⟩,hI⟩
    obtain⟨b,eb,U⟩:=AfU (n:=n) J Y (O.inst.2 _ (AQ hi)).2 hn
    simp only [ND.eq_2,FL hi,cT,Ar hi,BQ,eb,wT i,jn]
    cases b with
    |false=>
     simp only [BC,cT]
     exact .inr (DC fun v=>by have:=U.2 (v.inst _ (AQ hi));cases this)
    |true=>
     simp only [Ac,cF]
     have H:=U.1 rfl
     have a4:=H.long J
     obtain⟨q0,q1⟩:=H.last J
     obtain⟨g1,g2⟩:=Z.step q0 q1 (by omega)
     have wx:wrap .i64 ((d.c[i].b.length:Int)-1)=((d.c[i].b.length-1:Nat):Int):=by rw [BV (by omega) (by omega)];omega
     refine .inl ⟨cI s d.c[i],⟨⟨by rw [QC hi,hs],Z.bump q0 q1⟩,fun j E a0=>?_⟩,?_⟩
     ·by_cases ej:j=i
      ·subst ej;exact H
      ·exact hI j E (by omega)
     ·rw [wx,gI (show d.c[i].b.length-1<d.c[i].b.length by omega),show gd d.c[i].b (d.c[i].b.length-1)=OX d.c[i]from rfl,BQ,g1,BQ,BQ,g2];rfl
   ·intro m s ⟨⟨hs,Z⟩,hI⟩
    rw [Ch]at hs
    have v1:∀x∈d.c,PU l d x:=fun x W=>by obtain⟨j,E,rfl⟩:=DB W;exact hI j E E
    simp only [ND.eq_2,Fh,cF,jn]
    refine loop (L:=fun m i s=>LL n d _ m i s) d.d.length (fun i F=>(F=(d.d.take i).foldl cP s∧Yx d.b.length (d.c.length+i) F)∧∀j (E:j<d.d.length),j<i->Rs d d.d[j]) (fun o=>DG (Fs l d) o) ?_ ?_ n 0 _ (by omega) (by omega) ⟨⟨by simp,Z⟩,fun j _ h=>by omega⟩
    ·intro m i F hi ⟨⟨B,G⟩,I⟩
     simp only [LL.eq_2,FL hi,cT,Ar hi,BQ,nN Y,Hg,wT i,jn]
     cases e1:(((d.d[i].b !=1)&&(d.d[i].b !=2))|| !(decide (d.d[i].c>=0)&&decide (d.d[i].c<=(d.b.length:Int)-1)))with
     |true=>
      rw [cT]
      refine .inr (DC fun v=>?_)
      have g:=v.port _ (AQ hi)
      have:=g.dir;have:=g.net
      simp only [CZ,CB,BN,AG,Ad,EI,ne_eq]at e1;omega
     |false=>
      rw [cF]
      simp only [BS,CJ,AG,BN,Ak,Bp]at e1
      have H:Rs d d.d[i]:=⟨e1.1,e1.2⟩
      obtain⟨g1,g2⟩:=G.step H.net.1 (by have:=H.net.2;omega) (by omega)
      have hV:∀j (E:j<d.d.length),j<i+1->Rs d d.d[j]:=fun j E a0=>by
       by_cases ej:j=i
       ·subst ej;exact H
       ·exact I j E (by omega)
      simp only [g1,g2,BQ]
      by_cases c:d.d[i].b=1
      ·have e:(d.d[i].b==1)=true:=BB.2 c
       have e':cP F d.d[i]=MB F d.d[i].c:=BE c
       rw [e,cT]
       exact .inl ⟨_,⟨⟨by rw [QC hi,←B,e'],G.bump H.net.1 (by have:=H.net.2;omega)⟩,hV⟩,rfl⟩
      ·have e:(d.d[i].b==1)=false:=AJ.2 c
       have e':cP F d.d[i]=F:=BU c
       rw [e,cF]
       exact .inl ⟨_,⟨⟨by rw [QC hi,←B,e'],G.up⟩,hV⟩,rfl⟩
    ·intro m F ⟨⟨B,G⟩,I⟩
     rw [Ch,hs]at B
     have B:F=drv d:=B
     have v2:∀p∈d.d,Rs d p:=fun x W=>by obtain⟨j,E,rfl⟩:=DB W;exact I j E E
     simp only [LL.eq_2,Fh,cF,jK,gN,jn]
     have a5:=G.1
     obtain⟨r,e,h⟩:=PC (xs:=F) (L:=fun m i=>Mj n F (fun i7=>(some (-1))) m i) (fun q=>q !=1) (by
      intro m i hi
      simp only [Mj.eq_2,FL hi,cT,Ar hi,BQ,iE,wT i]) (by
      intro m
      simp only [Mj.eq_2,Fh,cF]) n (by omega)
     simp only [e,BQ]
     refine DT ?_
     rw [h,CB,List.any_eq_false]
     refine⟨fun a=>⟨J,⟨c.1.1,c.1.2,c.2⟩,v1,v2,a1,a3,a2,fun i hi=>?_⟩,fun v x W=>?_⟩
     ·have:=a F[i] (AQ (by omega))
      rw [←B,Ox (AK (show i<F.length by omega))]
      simpa using this
     ·obtain⟨j,E,rfl⟩:=DB W
      have:=v.one j (by omega)
      rw [←B,Ox (AK E)]at this
      simp [this]
 ·simp only [BC,cT,BQ]
  exact DC fun v=>J v.lib
def HZ{α β:Type}(g:Nat->α->List β):Nat->List α->List β
 |_,[]=>[]
 |i,x::xs=>g i x++HZ g (i+1) xs
theorem QA{α β:Type}{g:Nat->α->List β}:∀(xs ys:List α) (i:Nat),HZ g i (xs++ys)=HZ g i xs++HZ g (i+xs.length) ys
 |[],ys,i=>by simp [HZ]
 |x::xs,ys,i=>by simp only [List.cons_append,HZ,QA xs ys (i+1),Ci,DO];rw [show i+1+xs.length=i+(xs.length+1) by omega]
theorem MH{α β:Type}{g:Nat->α->List β}{xs:List α}{i:Nat}(h:i<xs.length):HZ g 0 (xs.take (i+1))=HZ g 0 (xs.take i)++g i xs[i]:=by
 rw [Bg h,QA]
 simp [HZ,Nat.min_eq_left (Nat.le_of_lt h)]
theorem HP{α β:Type}{g:Nat->α->List β}{c:Nat}:∀(xs:List α) (i:Nat),(∀j,∀x∈xs,(g j x).length<=c)->(HZ g i xs).length<=xs.length*c
 |[],i,_=>by simp [HZ]
 |x::xs,i,h=>by
  have E:=h i x (by simp)
  have F:=HP xs (i+1) fun j y B=>h j y (by simp [B])
  simp only [HZ,CA,DO,Cy];omega
theorem UY{α β γ:Type}{g:Nat->α->List β}(f:β->γ):∀(xs:List α) (i:Nat),(HZ g i xs).map f=HZ (fun i x=>(g i x).map f) i xs
 |[],i=>rfl
 |x::xs,i=>by simp only [HZ,FN,UY f xs (i+1)]
theorem GE{α β R:Type}{xs:List α}{L:Nat->List β->Int->Option R}{k:List β->Option R}(g:Nat->α->List β)(c B:Nat)(O:∀j,∀x∈xs,(g j x).length<=c)(U:B+xs.length*c<=1048576)
 (J:∀(m i:Nat) (h:i<xs.length) (s:List β),s.length+c<=1048576->L (m+1) s (i:Int)=L m (s++g i xs[i]) ((i+1:Nat):Int))
 (E:∀(m:Nat) (s:List β),L (m+1) s (xs.length:Int)=k s) (m:Nat) (hm:xs.length<m) (s0:List β) (W:s0.length<=B):L m s0 0=k (s0++HZ g 0 xs):=by
 refine loop (L:=fun m i s=>L m s i) xs.length (fun i s=>s=s0++HZ g 0 (xs.take i)) (fun o=>o=k (s0++HZ g 0 xs)) ?_ ?_ m 0 s0 (by omega) (by omega) (by simp [HZ])
 ·intro m i s hi e
  refine .inl ⟨s++g i xs[i],?_,J m i hi s ?_⟩
  ·rw [e,MH hi,Ci]
  ·have H:=HP (g:=g) (c:=c) (xs.take i) 0 fun j y G=>O j y (List.mem_of_mem_take G)
   have F:(xs.take i).length=i:=by simp;omega
   rw [F]at H
   have I:(i+1)*c<=xs.length*c:=CC c hi
   rw [Cy]at I
   rw [e,CA];omega
 ·intro m s e
  rw [Ch]at e
  show L (m+1) s (xs.length:Int)=_
  rw [E,e]
def RJ(i:Nat)(x:Bq):List CP:=HZ (fun j q=>[CP.mk i j q ((j:Int)==(x.b.length:Int)-1)]) 0 x.b
def ZN(i:Nat)(p:Dr):List CP:=[CP.mk (-1) i p.c (p.b==1)]
def pls(d:At):List CP:=HZ RJ 0 d.c++HZ ZN 0 d.d
def Iu(p:CP):Ca:=⟨p.c,p.f,p.b,p.d⟩
theorem SI{i:Nat}{x:Bq}(h:x.b.length<=5):(RJ i x).length<=5:=by
 have:=HP (c:=1) (g:=fun j q=>[CP.mk i j q ((j:Int)==(x.b.length:Int)-1)]) x.b 0 fun j q _=>by simp
 unfold RJ;omega
theorem EJ{d:At}(h:∀x∈d.c,x.b.length<=5)(E:d.c.length<=14)(F:d.d.length<=8):(pls d).length<=78:=by
 have a:=HP (c:=5) (g:=RJ) d.c 0 fun j q B=>SI (h q B)
 have b:=HP (c:=1) (g:=ZN) d.d 0 fun j q _=>by simp [ZN]
 unfold pls;rw [CA];omega
theorem kJ{n:Nat}{d:At}(h:∀x∈d.c,x.b.length<=5)(I:d.c.length<=14)(H:d.d.length<=8)(O:1048577<=n):lU n d=some (pls d):=by
 rw [lU]
 have a:=HP (c:=5) (g:=RJ) d.c 0 fun j q B=>SI (h q B)
 rw [GE (xs:=d.c) (L:=fun m s i=>OV n d _ m s i) (k:=fun s=>OS d _ n s 0) RJ 5 0 (fun j q B=>SI (h q B)) (by omega) (by
  intro m i hi s F
  have J:=h _ (AQ hi)
  have G:wrap .i64 ((d.c[i].b.length:Int)-1)=(d.c[i].b.length:Int)-1:=BV (by omega) (by omega)
  simp only [OV.eq_2,FL hi,cT,Ar hi,BQ,wT i]
  refine GE (xs:=d.c[i].b) (L:=fun m s j=>QE (i:Int) d.c[i] _ m s j) (k:=fun s=>OV n d _ m s ((i+1:Nat):Int)) (fun j q=>[CP.mk i j q ((j:Int)==(d.c[i].b.length:Int)-1)]) 1 s.length (fun j q _=>by simp) (by omega) ?_ ?_ n (by omega) s (by omega)
  ·intro m j E s F
   simp only [QE.eq_2,FL E,cT,Ar E,BQ,G,wT j]
   rw [CU (by simp;omega) (by omega),BQ]
  ·intro m s
   simp only [QE.eq_2,Fh,cF]) (by
  intro m s
  simp only [OV.eq_2,Fh,cF];rfl) n (by omega) [] (by simp)]
 rw [GE (xs:=d.d) (L:=fun m s i=>OS d _ m s i) (k:=fun s=>some s) ZN 1 70 (fun j q _=>by simp [ZN]) (by omega) (by
  intro m i hi s F
  simp only [OS.eq_2,FL hi,cT,Ar hi,BQ,wT i]
  rw [CU (by simp;omega) (by omega),BQ];rfl) (by
  intro m s
  simp only [OS.eq_2,Fh,cF]) n (by omega) _ (by simp;omega)]
 simp [pls]
theorem SF{n:Nat}{d:At}(h:∀x∈d.c,x.b.length<=5)(J:d.c.length<=14)(I:d.d.length<=8)(O:1048577<=n):Xk n d=some ((pls d).map Iu):=by
 rw [Xk]
 have B:∀j,∀x∈d.c,((RJ j x).map Iu).length<=5:=fun j x G=>by rw [Dn];exact SI (h x G)
 have a:=HP (c:=5) (g:=fun i x=>(RJ i x).map Iu) d.c 0 B
 rw [GE (xs:=d.c) (L:=fun m s i=>Oj n d _ m s i) (k:=fun s=>OR d _ n s 0) (fun i x=>(RJ i x).map Iu) 5 0 B (by omega) (by
  intro m i hi s F
  have G:=h _ (AQ hi)
  have H:wrap .i64 ((d.c[i].b.length:Int)-1)=(d.c[i].b.length:Int)-1:=BV (by omega) (by omega)
  simp only [Oj.eq_2,FL hi,cT,Ar hi,BQ,wT i]
  rw [RJ,UY]
  refine GE (xs:=d.c[i].b) (L:=fun m s j=>QN (i:Int) d.c[i] _ m s j) (k:=fun s=>Oj n d _ m s ((i+1:Nat):Int)) (fun j q=>[CP.mk i j q ((j:Int)==(d.c[i].b.length:Int)-1)].map Iu) 1 s.length (fun j q _=>by simp) (by omega) ?_ ?_ n (by omega) s (by omega)
  ·intro m j E s F
   simp only [QN.eq_2,FL E,cT,Ar E,BQ,H,wT j]
   rw [CU (by simp;omega) (by omega),BQ];rfl
  ·intro m s
   simp only [QN.eq_2,Fh,cF]) (by
  intro m s
  simp only [Oj.eq_2,Fh,cF];rfl) n (by omega) [] (by simp)]
 rw [GE (xs:=d.d) (L:=fun m s i=>OR d _ m s i) (k:=fun s=>some s) (fun i x=>(ZN i x).map Iu) 1 70 (fun j q _=>by simp [ZN]) (by omega) (by
  intro m i hi s F
  simp only [OR.eq_2,FL hi,cT,Ar hi,BQ,wT i]
  rw [CU (by simp;omega) (by omega),BQ];rfl) (by
  intro m s
  simp only [OR.eq_2,Fh,cF]) n (by omega) _ (by simp;omega)]
 simp [pls,UY]
def Hz(q:Int)(p:CP):Bool:=p.b==q&& !p.d
def snk(d:At)(q:Int):Nat:=(pls d).countP (Hz q)
structure Dd(b:AV):Prop where
 design:Fs b.d b.b
 many:b.c.length=b.b.b.length
 wire:∀i (h:i<b.c.length),Ve b.c[i] (snk b.b i)
def SMW(w:DD):Prop:=((w.b.length<=1048576∧w.d.length<=1048576)∧w.f.length<=1048576)∧w.c.length<=1048576
structure Qz(b:AV):Prop where
 lib:XV b.d
 design:fI b.b
 wires:b.c.length<=1048576∧∀w∈b.c,SMW w
theorem Fs.short{l:Br}{d:At}(v:Fs l d):∀x∈d.c,x.b.length<=5:=fun x B=>((v.inst x B).long v.lib).2
theorem GY{α β:Type}{g:Nat->α->List β}{Q:β->Prop}:∀(xs:List α) (i:Nat),(∀j (h:j<xs.length),∀y∈g (i+j) xs[j],Q y)->∀y∈HZ g i xs,Q y
 |[],i,_,y,hy=>by simp [HZ]at hy
 |x::xs,i,h,y,hy=>by
  simp only [HZ,CM]at hy
  rcases hy with hy|hy
  ·exact h 0 (by simp) y (by simpa using hy)
  ·refine GY xs (i+1) (fun j B y hy=>h (j+1) (by simpa using B) y ?_) y hy
   simpa [show i+1+j=i+(j+1) by omega] using hy
theorem Fs.net{l:Br}{d:At}(v:Fs l d):∀p∈pls d,0<=p.b∧p.b<d.b.length:=by
 intro p hp
 simp only [pls,CM]at hp
 rcases hp with hp|hp
 ·refine GY (Q:=fun p:CP=>0<=p.b∧p.b<d.b.length) d.c 0 (fun j E y B=>?_) p hp
  refine GY (Q:=fun p:CP=>0<=p.b∧p.b<d.b.length) _ 0 (fun k F z G=>?_) y B
  have:=(v.inst _ (AQ E)).nets k F
  rw [Ox (AK F)]at this
  simp only [Bb]at G
  subst G;show 0<=d.c[j].b[k]∧d.c[j].b[k]<_;omega
 ·refine GY (Q:=fun p:CP=>0<=p.b∧p.b<d.b.length) d.d 0 (fun j E y B=>?_) p hp
  have:=(v.port _ (AQ E)).net
  simp only [ZN,Bb]at B
  subst B;show 0<=d.d[j].c∧d.d[j].c<_;omega
def It(d:At)(q:Int):List Int:=HZ (fun i p=>if Hz q p=true then [(i:Int)]else []) 0 (pls d)
theorem JH{d:At}{q:Int}:(It d q).length=snk d q:=by
 have:∀(xs:List CP) (i:Nat),(HZ (fun i p=>if Hz q p=true then [(i:Int)]else []) i xs).length=xs.countP (Hz q):=by
  intro xs
  induction xs with
  |nil=>intro i;rfl
  |cons x xs B=>
   intro i
   simp only [HZ,CA,B,FD]
   split<;>simp<;>omega
 exact this _ 0
theorem iI{n:Nat}{l:Br}{d:At}(v:Fs l d)(q:Int)(G:1048577<=n):fW n d q=some (It d q):=by
 rw [fW,SF v.short v.few.1 v.few.2.2 G,BQ]
 have H:=EJ v.short v.few.1 v.few.2.2
 have e:((pls d).map Iu).length=(pls d).length:=by simp
 have:=GE (xs:=(pls d).map Iu) (L:=fun m s i=>Ki q ((pls d).map Iu) (fun B F=>some B) m s i) (k:=fun s=>some s) (fun i p=>if (p.b==q&& !p.d)=true then [(i:Int)]else []) 1 0 (fun j p _=>by split<;>simp) (by omega) (by
  intro m i hi s I
  simp only [Ki.eq_2,FL hi,cT,Ar hi,BQ,EH,wT i]
  cases c:(((pls d).map Iu)[i].b==q&& !((pls d).map Iu)[i].d)with
  |true=>rw [cT,BE rfl,CU (by simp;omega) (by omega),BQ]
  |false=>rw [cF,BU (by simp),Gq]) (by
  intro m s
  simp only [Ki.eq_2,Fh,cF]) n (by omega) [] (by simp)
 rw [this,Dg]
 congr 1
 have:∀(xs:List CP) (i:Nat),HZ (fun i (p:Ca)=>if (p.b==q&& !p.d)=true then [(i:Int)]else []) i (xs.map Iu)=HZ (fun i p=>if Hz q p=true then [(i:Int)]else []) i xs:=by
  intro xs
  induction xs with
  |nil=>intro i;rfl
  |cons x xs E=>intro i;simp only [Gk,HZ,E];rfl
 exact this _ 0
theorem gF{n:Nat}{b:AV}(h:Qz b)(B:1048577<=n):DG (Dd b) (WP n b):=by
 have F:=h.wires.1
 rw [WP]
 refine(Dg1 h.lib h.design B).bind (fun v=>?_) (fun v=>?_)
 ·simp only [Ac,Dk]
  refine Is (fun c=>DC fun g=>?_) (fun c=>?_)
  ·have:=g.many;rw [EI]at c;omega
  ·rw [Bp]at c
   refine(Hx (L:=fun m i=>Pj n b _ m i) (Q:=True) b.c.length 0 (fun i=>∀(hi:i<b.c.length),Ve b.c[i] (snk b.b i)) ?_ ?_ n 0 (by omega) (by omega) (by omega) (fun j _ h=>by omega)).iff ⟨fun a=>⟨v,by omega,fun i hi=>a.1 i (by omega) hi hi⟩,fun a=>⟨fun i _ _ hi=>a.wire i hi,trivial⟩⟩
   ·intro m i _ hi
    obtain⟨r,e,E⟩:=Wr1 (n:=n) (w:=b.c[i]) (s:=(snk b.b i:Int)) (h.wires.2 _ (AQ hi)).2 B
    simp only [Pj.eq_2,FL hi,cT,Ar hi,BQ,iI v _ B,JH,e,wT i]
    cases r with
    |true=>exact .inl ⟨fun _=>E.1 rfl,by trivial⟩
    |false=>exact .inr ⟨fun g=>(by have:=E.2 (g hi);cases this),by trivial⟩
   ·intro m i H G _
    obtain rfl:i=b.c.length:=by omega
    simp only [Pj.eq_2,Fh,cF]
    exact FU trivial
 ·simp only [BC,GR,cT]
  exact DC fun g=>v g.design
theorem Bk2{n:Nat}{b:AV}(h:Qz b)(I:1048577<=n):DG (Dd b) (nU n b):=by
 have Y:=h.wires.1
 rw [nU]
 refine(Dg2 h.lib h.design I).bind (fun v=>?_) (fun v=>?_)
 ·simp only [Ac,Dk]
  refine Is (fun c=>DC fun g=>?_) (fun c=>?_)
  ·have:=g.many;rw [EI]at c;omega
  ·rw [Bp]at c
   have hl:=EJ v.short v.few.1 v.few.2.2
   rw [Gc (by omega) (by omega),BQ,kJ v.short v.few.1 v.few.2.2 I,BQ]
   refine loop (L:=fun m i s=>Oz (pls b.b) _ m i s) (pls b.b).length (fun i s=>Yx b.c.length i s∧∀q:Nat,q<b.c.length->gd s q=((pls b.b).take i).countP (Hz q)) (fun o=>DG (Dd b) o) ?_ ?_ n 0 _ (by omega) (by omega) ⟨⟨by simp,fun j=>by rw [Pz];omega⟩,fun q _=>by rw [Pz];simp⟩
   ·intro m i s hi ⟨B,E⟩
    have J:=v.net _ (AQ hi)
    obtain⟨W,U⟩:=B.step J.1 (by omega) (by omega)
    simp only [Oz.eq_2,FL hi,cT,Ar hi,BQ,W,U,wT i]
    cases hd:(pls b.b)[i].d with
    |true=>
     simp only [Ac,cF]
     refine .inl ⟨s,⟨B.up,fun q G=>?_⟩,rfl⟩
     rw [E q G,Bg hi,DV]
     simp [Hz,hd]
    |false=>
     simp only [BC,cT]
     refine .inl ⟨_,⟨B.bump J.1 (by omega),fun q G=>?_⟩,rfl⟩
     rw [Bg hi,DV]
     unfold MB
     rw [KX (by have:=B.1;omega)]
     by_cases e:(pls b.b)[i].b.toNat=q
     ·have H:(pls b.b)[i].b=(q:Int):=by omega
      rw [BE e,e,E q G]
      simp [Hz,hd,H]
     ·have H:¬(pls b.b)[i].b=(q:Int):=by omega
      rw [BU e,E q G]
      simp [Hz,hd,H]
   ·intro m s ⟨B,E⟩
    simp only [Oz.eq_2,Fh,cF]
    refine(Hx (L:=fun m i=>QI n b s _ m i) (Q:=True) b.c.length 0 (fun i=>∀(hi:i<b.c.length),Ve b.c[i] (snk b.b i)) ?_ ?_ n 0 (by omega) (by omega) (by omega) (fun j _ h=>by omega)).iff ⟨fun a=>⟨v,by omega,fun i hi=>a.1 i (by omega) hi hi⟩,fun a=>⟨fun i _ _ hi=>a.wire i hi,trivial⟩⟩
    ·intro m i _ hi
     have F:=h.wires.2 _ (AQ hi)
     obtain⟨r,e,O⟩:=Wr2 (n:=n) (w:=b.c[i]) (s:=(snk b.b i:Int)) F.2 F.1.1.2 F.1.2 F.1.1.1 I
     have Z:gd s i=(snk b.b i:Int):=by rw [E i hi,Ch];rfl
     simp only [QI.eq_2,FL hi,cT,Ar hi,gI (show i<s.length by rw [B.1];exact hi),Z,BQ,e,wT i]
     cases r with
     |true=>exact .inl ⟨fun _=>O.1 rfl,by trivial⟩
     |false=>exact .inr ⟨fun g=>(by have:=O.2 (g hi);cases this),by trivial⟩
    ·intro m i h1 h2 _
     obtain rfl:i=b.c.length:=by omega
     simp only [QI.eq_2,Fh,cF]
     exact FU trivial
 ·simp only [BC,GR,cT]
  exact DC fun g=>v g.design
theorem OI{σ R:Type}{Q:R->Prop}{L:Nat->Int->σ->Option R}(N:Nat)(I:Nat->σ->Prop)
 (F:∀(m i:Nat) (B:σ),i<N->I i B->∃E,I (i+1) E∧L (m+1) (i:Int) B=L m ((i+1:Nat):Int) E)
 (G:∀(m:Nat) (B:σ),I N B->Cf Q (L (m+1) (N:Int) B)) (m:Nat) (B:σ) (hm:N<m) (h:I 0 B):Cf Q (L m 0 B):=
 loop N I (Cf Q) (fun m i B a b=>.inl (F m i B a b)) G m 0 B (by omega) (by omega) h
theorem Yk{σ R:Type}{Q:R->Prop}{L:Nat->Int->σ->Option R}(s N:Nat)(I:Nat->σ->Prop)
 (O:∀(m i:Nat) (B:σ),s<=i->i<N->I i B->∃E,I (i+1) E∧L (m+1) (i:Int) B=L m ((i+1:Nat):Int) E)
 (G:∀(m:Nat) (B:σ),I N B->Cf Q (L (m+1) (N:Int) B)) (m:Nat) (B:σ) (F:s<=N) (hm:N<m) (h:I s B):Cf Q (L m (s:Int) B):=
 loop N (fun i B=>s<=i∧I i B) (Cf Q) (fun m i B a b=>by
  obtain⟨E,J,H⟩:=O m i B b.1 a b.2
  exact .inl ⟨E,⟨by have:=b.1;omega,J⟩,H⟩) (fun m B h=>G m B h.2) m s B F (by omega) ⟨Bj _,h⟩
theorem AdB{n:Nat}{l:Br}{d:At}(v:Fs l d)(q:Int)(F:1048577<=n):bX n d q=some (It d q):=by
 rw [bX,kJ v.short v.few.1 v.few.2.2 F,BQ]
 have G:=EJ v.short v.few.1 v.few.2.2
 have:=GE (xs:=pls d) (L:=fun m s i=>LG q (pls d) (fun B E=>some B) m s i) (k:=fun s=>some s) (fun i p=>if Hz q p=true then [(i:Int)]else []) 1 0 (fun j p _=>by split<;>simp) (by omega) (by
  intro m i hi s H
  simp only [LG.eq_2,FL hi,cT,Ar hi,BQ,wT i]
  rw [show((pls d)[i].b==q&& !(pls d)[i].d)=Hz q (pls d)[i]from rfl]
  cases c:Hz q (pls d)[i]with
  |true=>rw [cT,BE rfl,CU (by simp;omega) (by omega),BQ]
  |false=>rw [cF,BU (by simp),Gq]) (by
  intro m s
  simp only [LG.eq_2,Fh,cF]) n (by omega) [] (by simp)
 rw [this,Dg];rfl
theorem PF{d:At}{q:Int}:∀x∈It d q,0<=x∧x<(pls d).length:=by
 refine GY (Q:=fun x:Int=>0<=x∧x<(pls d).length) _ 0 fun j E y B=>?_
 split at B
 ·simp only [DA,Bb]at B;omega
 ·cases B
theorem Fs.place{l:Br}{d:At}(v:Fs l d):∀p∈pls d,0<=p.c->∃x c B,AU d.c p.c=some x∧AU l.b x.c=some c∧AU c.b p.f=some B:=by
 intro p hp
 simp only [pls,CM]at hp
 rcases hp with hp|hp
 ·refine GY (Q:=fun p:CP=>0<=p.c->∃x c B,AU d.c p.c=some x∧AU l.b x.c=some c∧AU c.b p.f=some B) d.c 0 (fun j F y E=>?_) p hp
  refine GY (Q:=fun p:CP=>0<=p.c->∃x c B,AU d.c p.c=some x∧AU l.b x.c=some c∧AU c.b p.f=some B) _ 0 (fun k J z I=>?_) y E
  have G:=v.inst _ (AQ F)
  simp only [DA,Bb]at I
  subst I
  intro _
  obtain⟨c,H,_⟩:=Ia (xs:=l.b) G.cell.1 (by have:=G.cell.2;omega)
  have O:=G.pins c H
  exact⟨_,c,_,Ar F,H,Ar (show k<c.b.length by omega)⟩
 ·refine GY (Q:=fun p:CP=>0<=p.c->∃x c B,AU d.c p.c=some x∧AU l.b x.c=some c∧AU c.b p.f=some B) d.d 0 (fun j F y E=>?_) p hp
  simp only [ZN,Bb]at E
  subst E;intro h;exact absurd h (by show¬(0:Int)<= -1;decide)
theorem JL{t:List Int}{i:Int}(E:0<=i)(B:i<t.length):∃x,AU t i=some x:=⟨_,SK E B⟩
def DF(b:AV):Int:=2*((pls b.b).length:Int)
theorem Py{n:Nat}{b:AV}(v:Dd b)(B:1048577<=n):YB n b=some (DF b):=by
 have E:=EJ v.design.short v.design.few.1 v.design.few.2.2
 rw [YB,SF v.design.short v.design.few.1 v.design.few.2.2 B,BQ,Dn,BV (by omega) (by omega)];rfl
theorem Wp{n:Nat}{b:AV}{r:Cd}(v:Dd b)(e:r.d=pls b.b):Rx n r=some (DF b):=by
 have B:=EJ v.design.short v.design.few.1 v.design.few.2.2
 rw [Rx,iD,e,BQ,BV (by omega) (by omega)];rfl
def VN(xs:List Af)(i:Nat):Int:=gd (xs.map fun t:Af=>t.c) i
theorem PL{xs:List Af}{i:Nat}(h:i<xs.length):VN xs i=xs[i].c:=by
 unfold VN;rw [Ox (v:=xs[i].c) (by simp [h])]
theorem mN{xs:List Af}{i:Nat}(hi:i<xs.length)(c:Int)(E:xs.length<=1048576):(cond (decide ((i:Int)>0)) (Option.bind (AU xs (wrap .i64 ((i:Int)-1))) fun x=>some (decide (x.c>=c))) (some false))=some (decide (0<i∧c<=VN xs (i-1))):=by
 by_cases h:0<i
 ·have B:decide ((i:Int)>0)=true:=Aw (by omega)
  have wk:wrap .i64 ((i:Int)-1)=((i-1:Nat):Int):=by rw [BV (by omega) (by omega)];omega
  rw [B,cT,wk,Ar (show i-1<xs.length by omega),BQ,PL (show i-1<xs.length by omega)]
  simp [h]
 ·have B:decide ((i:Int)>0)=false:=Av (by omega)
  rw [B,cF];simp [h]
structure TZ(b:AV)(xs:List Af)(i:Nat)(t:Af):Prop where
 node:0<=t.c∧t.c<=DF b-1
 up:¬(0<i∧t.c<=VN xs (i-1))
 early:-1000000000<=t.b.b∧t.b.b<=1000000000
 late:-1000000000<=t.b.c∧t.b.c<=1000000000
theorem Tg1{n:Nat}{b:AV}{xs:List Af}(v:Dd b)(F:xs.length<=1048576)(G:1048577<=n):DG (∀i (h:i<xs.length),TZ b xs i xs[i]) (XF n b xs):=by
 have H:=EJ v.design.short v.design.few.1 v.design.few.2.2
 have E:wrap .i64 (DF b-1)=DF b-1:=BV (by unfold DF;omega) (by unfold DF;omega)
 rw [XF,Py v G,BQ]
 refine(Hx (L:=fun m i=>Nc n xs (DF b) _ m i) (Q:=True) xs.length 0 (fun i=>∀(hi:i<xs.length),TZ b xs i xs[i]) ?_ ?_ n 0 (by omega) (by omega) (by omega) (fun j _ h=>by omega)).iff ⟨fun a i hi=>a.1 i (by omega) hi hi,fun a=>⟨fun i _ _ hi=>a i hi,trivial⟩⟩
 ·intro m i _ hi
  simp only [Nc.eq_2,FL hi,cT,Ar hi,BQ,Kz,WW,E,mN hi _ F,Hg,EH,wT i]
  cases e:((!(decide (xs[i].c>=0)&&decide (xs[i].c<=DF b-1))||decide (0<i∧xs[i].c<=VN xs (i-1)))|| !((decide (xs[i].b.b>= -1000000000)&&decide (xs[i].b.b<=1000000000))&&(decide (xs[i].b.c>= -1000000000)&&decide (xs[i].b.c<=1000000000))))with
  |true=>
   rw [cT]
   refine .inr ⟨fun g=>?_,rfl⟩
   obtain⟨J,B,W,I⟩:=g hi
   simp only [CZ,CB,BN,Ad,Ak]at e
   rcases e with (e|e)|e
   ·omega
   ·exact B e
   ·omega
  |false=>
   rw [cF]
   simp only [BS,CJ,AG,Ad,Ak]at e
   exact .inl ⟨fun _=>⟨by omega,e.1.2,by omega,by omega⟩,rfl⟩
 ·intro m i U O _
  obtain rfl:i=xs.length:=by omega
  simp only [Nc.eq_2,Fh,cF]
  exact FU trivial
theorem Tg2{n:Nat}{b:AV}{r:Cd}{xs:List Af}(v:Dd b)(G:r.d=pls b.b)(F:xs.length<=1048576)(W:1048577<=n):DG (∀i (h:i<xs.length),TZ b xs i xs[i]) (Yd n r xs):=by
 have H:=EJ v.design.short v.design.few.1 v.design.few.2.2
 have E:wrap .i64 (DF b-1)=DF b-1:=BV (by unfold DF;omega) (by unfold DF;omega)
 rw [Yd]
 refine(Hx (L:=fun m i=>MU n r xs _ m i) (Q:=True) xs.length 0 (fun i=>∀(hi:i<xs.length),TZ b xs i xs[i]) ?_ ?_ n 0 (by omega) (by omega) (by omega) (fun j _ h=>by omega)).iff ⟨fun a i hi=>a.1 i (by omega) hi hi,fun a=>⟨fun i _ _ hi=>a i hi,trivial⟩⟩
 ·intro m i _ hi
  simp only [MU.eq_2,FL hi,cT,Ar hi,BQ,Yq,Wp v G,Nv,Tl,Tg,E,mN hi _ F,Hg,EH,wT i]
  cases e:((!(decide (xs[i].c>=0)&&decide (xs[i].c<=DF b-1))|| !((decide (xs[i].b.b>= -1000000000)&&decide (xs[i].b.b<=1000000000))&&(decide (xs[i].b.c>= -1000000000)&&decide (xs[i].b.c<=1000000000))))||decide (0<i∧xs[i].c<=VN xs (i-1)))with
  |true=>
   rw [cT]
   refine .inr ⟨fun g=>?_,rfl⟩
   obtain⟨J,B,Y,I⟩:=g hi
   simp only [CZ,CB,BN,Ad,Ak]at e
   rcases e with (e|e)|e
   ·omega
   ·omega
   ·exact B e
  |false=>
   rw [cF]
   simp only [BS,CJ,AG,Ad,Ak]at e
   exact .inl ⟨fun _=>⟨by omega,e.2,by omega,by omega⟩,rfl⟩
 ·intro m i U O _
  obtain rfl:i=xs.length:=by omega
  simp only [MU.eq_2,Fh,cF]
  exact FU trivial
def II(s:Ax):Bool:=(decide (s.b>= -1000000000)&&decide (s.b<=1000000000))&&(decide (s.c>= -1000000000)&&decide (s.c<=1000000000))
def Vb(b:Bool)(s:Ax):Bool:=!(!II s||(!b&& !(s.b==0&&s.c==0)))
structure Vw(b:AV)(x:CY):Prop where
 bound:(x.c.length:Int)=DF b
 req:(x.b.length:Int)=DF b
 each:∀i (h:i<x.c.length) (h2:i<x.b.length),Vb x.c[i] x.b[i]=true
theorem Ns2{n:Nat}{b:AV}{r:Cd}{x:CY}(v:Dd b)(F:r.d=pls b.b)(G:x.c.length<=1048576)(I:1048577<=n):DG (Vw b x) (Yo n r x):=by
 rw [Yo]
 simp only [Yg,XH,Wp v F,BQ,Hg]
 refine Is (fun c=>DC fun v=>?_) (fun c=>?_)
 ·have:=v.bound;have:=v.req
  simp only [CZ,EI,ne_eq]at c;omega
 ·simp only [BS,Bp]at c
  refine(Hx (L:=fun m i=>Mk n x _ m i) (Q:=True) x.c.length 0 (fun i=>∀(h:i<x.c.length) (B:i<x.b.length),Vb x.c[i] x.b[i]=true) ?_ ?_ n 0 (by omega) (by omega) (by omega) (fun j _ h=>by omega)).iff ⟨fun a=>⟨c.1,c.2,fun i h B=>a.1 i (by omega) h h B⟩,fun a=>⟨fun i _ _ h B=>a.each i h B,trivial⟩⟩
  ·intro m i _ hi
   have E:i<x.b.length:=by omega
   simp only [Mk.eq_2,FL hi,cT,Ar hi,Ar E,BQ,Tl,Tg,Nv,Hg,EH,wT i]
   rw [show((decide (x.b[i].b>= -1000000000)&&decide (x.b[i].b<=1000000000))&&(decide (x.b[i].c>= -1000000000)&&decide (x.b[i].c<=1000000000)))=II x.b[i]from rfl]
   cases e:(!II x.b[i]||(!x.c[i]&& !(x.b[i].b==0&&x.b[i].c==0)))with
   |true=>rw [cT];exact .inr ⟨fun g=>(by have:=g hi E;unfold Vb at this;rw [e]at this;cases this),rfl⟩
   |false=>rw [cF];exact .inl ⟨fun _ _=>(by unfold Vb;rw [e];rfl),rfl⟩
  ·intro m i H B _
   obtain rfl:i=x.c.length:=by omega
   simp only [Mk.eq_2,Fh,cF]
   exact FU trivial
def UC(s:Ax):Bool:=II s&&decide (s.b<=s.c)
def UK(s:Ax):Bool:=(decide (s.b>=0)&&decide (s.b<=s.c))&&decide (s.c<=1000000)
theorem sp1{n:Nat}{s:Ax}:Vs n s=some (UC s):=by
 simp only [Vs,Kz,BQ,EH];rfl
theorem sp2{n:Nat}{s:Ax}:Yp n s=some (UC s):=by
 simp only [Yp,Tg,Nv,BQ,EH];rfl
theorem sl1{n:Nat}{s:Ax}:YU n s=some (UK s):=rfl
theorem sl2{n:Nat}{s:Ax}:Zh n s=some (UK s):=by
 simp only [Zh,sp2,aV,Nv,BQ,EH]
 congr 1
 rw [Dq]
 simp only [UC,II,UK,AG,Ak]
 omega
def Wy(r:Bool)(a s:Ax):Bool:=!((!UC a|| !UK s)||(!r&&(!(a.b==0&&a.c==0)|| !(s.b==0&&s.c==0))))
structure kM(b:AV)(x:BW):Prop where
 reached:(x.c.length:Int)=DF b
 arr:(x.b.length:Int)=DF b
 slew:(x.f.length:Int)=DF b
 each:∀i (h:i<x.c.length) (h2:i<x.b.length) (h3:i<x.f.length),Wy x.c[i] x.b[i] x.f[i]=true
theorem Tm1{n:Nat}{b:AV}{x:BW}(H:x.c.length<=1048576)(J:1048577<=n):DG (kM b x) (bW n (DF b) x):=by
 rw [bW]
 refine Is (fun c=>DC fun v=>?_) (fun c=>?_)
 ·have:=v.reached;have:=v.arr;have:=v.slew
  simp only [CZ,EI,ne_eq]at c;omega
 ·simp only [BS,Bp]at c
  refine(Hx (L:=fun m i=>MY n x _ m i) (Q:=True) x.c.length 0 (fun i=>∀(h:i<x.c.length) (B:i<x.b.length) (G:i<x.f.length),Wy x.c[i] x.b[i] x.f[i]=true) ?_ ?_ n 0 (by omega) (by omega) (by omega) (fun j _ h=>by omega)).iff ⟨fun a=>⟨c.1.1,c.1.2,c.2,fun i h B G=>a.1 i (by omega) h h B G⟩,fun a=>⟨fun i _ _ h B G=>a.each i h B G,trivial⟩⟩
  ·intro m i _ hi
   have F:i<x.b.length:=by omega
   have E:i<x.f.length:=by omega
   simp only [MY.eq_2,FL hi,cT,Ar hi,Ar F,Ar E,BQ,sp1,sl1,Hg,EH,wT i]
   cases e:((!UC x.b[i]|| !UK x.f[i])||(!x.c[i]&&(!(x.b[i].b==0&&x.b[i].c==0)|| !(x.f[i].b==0&&x.f[i].c==0))))with
   |true=>rw [cT];exact .inr ⟨fun g=>(by have:=g hi F E;unfold Wy at this;rw [e]at this;cases this),rfl⟩
   |false=>rw [cF];exact .inl ⟨fun _ _ _=>(by unfold Wy;rw [e];rfl),rfl⟩
  ·intro m i I B _
   obtain rfl:i=x.c.length:=by omega
   simp only [MY.eq_2,Fh,cF]
   exact FU trivial
theorem Tm2{n:Nat}{b:AV}{r:Cd}{x:BW}(v:Dd b)(H:r.d=pls b.b)(I:x.c.length<=1048576)(O:1048577<=n):DG (kM b x) (Yi n r x):=by
 rw [Yi]
 simp only [Yg,XH,Wp v H,BQ,Hg]
 refine Is (fun c=>DC fun v=>?_) (fun c=>?_)
 ·have:=v.reached;have:=v.arr;have:=v.slew
  simp only [CZ,EI,ne_eq]at c;omega
 ·simp only [BS,Bp]at c
  refine(Hx (L:=fun m i=>MV n x _ m i) (Q:=True) x.c.length 0 (fun i=>∀(h:i<x.c.length) (B:i<x.b.length) (G:i<x.f.length),Wy x.c[i] x.b[i] x.f[i]=true) ?_ ?_ n 0 (by omega) (by omega) (by omega) (fun j _ h=>by omega)).iff ⟨fun a=>⟨c.1.1,c.1.2,c.2,fun i h B G=>a.1 i (by omega) h h B G⟩,fun a=>⟨fun i _ _ h B G=>a.each i h B G,trivial⟩⟩
  ·intro m i _ hi
   have F:i<x.b.length:=by omega
   have E:i<x.f.length:=by omega
   simp only [MV.eq_2,FL hi,cT,Ar hi,Ar F,Ar E,BQ,sp2,sl2,Hg,EH,wT i]
   cases e:((!UC x.b[i]|| !UK x.f[i])||(!x.c[i]&&(!(x.b[i].b==0&&x.b[i].c==0)|| !(x.f[i].b==0&&x.f[i].c==0))))with
   |true=>rw [cT];exact .inr ⟨fun g=>(by have:=g hi F E;unfold Wy at this;rw [e]at this;cases this),rfl⟩
   |false=>rw [cF];exact .inl ⟨fun _ _ _=>(by unfold Wy;rw [e];rfl),rfl⟩
  ·intro m i J B _
   obtain rfl:i=x.c.length:=by omega
   simp only [MV.eq_2,Fh,cF]
   exact FU trivial
theorem aY{σ τ R R':Type}{L:Nat->Int->σ->Option R}{M:Nat->Int->τ->Option R'}(N:Nat)(I:Nat->σ->τ->Prop)(B:Option R->Option R'->Prop)
 (H:∀(m i:Nat) (s:σ) (t:τ),i<N->I i s t->∃E F,I (i+1) E F∧L (m+1) (i:Int) s=L m ((i+1:Nat):Int) E∧M (m+1) (i:Int) t=M m ((i+1:Nat):Int) F)
 (G:∀(m:Nat) (s:σ) (t:τ),I N s t->B (L (m+1) (N:Int) s) (M (m+1) (N:Int) t)):∀(m i:Nat) (s:σ) (t:τ),i<=N->N-i<m->I i s t->B (L m (i:Int) s) (M m (i:Int) t)
 |0,i,_,_,_,hm,_=>by omega
 |m+1,i,s,t,hi,hm,h=>by
  by_cases hlt:i<N
  ·obtain⟨E,F,O,J,U⟩:=H m i s t hlt h
   rw [J,U];exact aY N I B H G m (i+1) E F (by omega) (by omega) O
  ·obtain rfl:i=N:=by omega
   exact G m s t h
theorem uX{xs:List Int}{i:Nat}(h:i<xs.length):gd xs i=xs[i]:=Ox (by simp [h])
theorem WL{α β:Type}(h:Nat->α->β):∀(xs:List α) (s j:Nat),(HZ (fun j q=>[h j q]) s xs)[j]? =(xs[j]?).map (h (s+j))
 |[],s,j=>by simp [HZ]
 |x::xs,s,0=>by simp [HZ]
 |x::xs,s,j+1=>by
  have:=WL h xs (s+1) j
  simp only [HZ,List.singleton_append,List.getElem?_cons_succ,this]
  rw [show s+1+j=s+(j+1) by omega]
structure Uk{α:Type}(f:α->Bool)(ys:List α)(k:Nat):Prop where
 hit:∃y,ys[k]? =some y∧f y=true
 miss:∀j y,j<k->ys[j]? =some y->f y=false
theorem Uk.lt{α:Type}{f:α->Bool}{ys:List α}{k:Nat}(h:Uk f ys k):k<ys.length:=by
 obtain⟨y,e,_⟩:=h.hit
 exact(AR.1 e).1
def IA(d:At)(i:Nat):Nat:=(HZ RJ 0 (d.c.take i)).length
def bK(i q:Int)(p:CP):Bool:=(p.c==i)&&(p.f==q)
theorem jT{d:At}{i:Nat}(hi:i<d.c.length):∃C,pls d=HZ RJ 0 (d.c.take i)++(RJ i d.c[i]++C):=by
 refine⟨HZ RJ (i+1) (d.c.drop (i+1))++HZ ZN 0 d.d,?_⟩
 have e:d.c=d.c.take i++(d.c[i]::d.c.drop (i+1)):=by
  rw [←Df hi,DZ]
 have B:HZ RJ 0 d.c=HZ RJ 0 (d.c.take i)++(RJ i d.c[i]++HZ RJ (i+1) (d.c.drop (i+1))):=by
  conv=>lhs;rw [e]
  rw [QA]
  simp [HZ,Nat.min_eq_left (Nat.le_of_lt hi)]
 unfold pls
 rw [B];simp
theorem KT{d:At}{i q:Nat}(hi:i<d.c.length)(H:q<d.c[i].b.length):Uk (bK i q) (pls d) (IA d i+q):=by
 obtain⟨C,e⟩:=jT hi
 have E:∀j:Nat,(RJ i d.c[i])[j]? =(d.c[i].b[j]?).map fun x=>CP.mk i j x ((j:Int)==(d.c[i].b.length:Int)-1):=by
  intro j
  have:=WL (fun j q=>CP.mk i j q ((j:Int)==(d.c[i].b.length:Int)-1)) d.c[i].b 0 j
  rw [DA]at this
  exact this
 have U:(RJ i d.c[i]).length=d.c[i].b.length:=by
  apply Nat.le_antisymm
  ·apply Nat.le_of_not_lt
   intro h
   have:=E d.c[i].b.length
   rw [AK h]at this
   simp at this
  ·apply Nat.le_of_not_lt
   intro h
   have:=E (RJ i d.c[i]).length
   rw [AK h]at this
   simp at this
 have J:∀y∈HZ RJ 0 (d.c.take i),y.c<(i:Int):=by
  refine GY (Q:=fun p:CP=>p.c<(i:Int)) _ 0 (fun j F y B=>?_)
  have I:j<i:=by simp at F;omega
  refine GY (Q:=fun p:CP=>p.c<(i:Int)) _ 0 (fun k O z G=>?_) y B
  simp only [Bb]at G
  subst G
  show((0+j:Nat):Int)<i
  omega
 refine⟨⟨CP.mk i q d.c[i].b[q] ((q:Int)==(d.c[i].b.length:Int)-1),?_,by simp [bK]⟩,?_⟩
 ·rw [e,IA,BI (by omega),FY,BA (by omega),E,AK H];rfl
 ·intro j y F B
  rw [e]at B
  by_cases c:j<(HZ RJ 0 (d.c.take i)).length
  ·rw [BA c]at B
   have:=J y (Dw B)
   simp only [bK,BN,AJ];left;omega
  ·unfold IA at F
   rw [BI (by omega),BA (by omega),E]at B
   obtain⟨x,_,rfl⟩:=BL.1 B
   simp only [bK,BN,AJ];right
   show((j-(HZ RJ 0 (d.c.take i)).length:Nat):Int)≠q
   omega
theorem tJ{n:Nat}{l:Br}{d:At}(v:Fs l d){i q:Nat}(hi:i<d.c.length)(I:q<d.c[i].b.length)(W:1048577<=n):ZG n d (i:Int) (q:Int)=some ((IA d i+q:Nat):Int):=by
 have f:=KT hi I
 have Z:=EJ v.short v.few.1 v.few.2.2
 have fl:=f.lt
 rw [ZG,SF v.short v.few.1 v.few.2.2 W,BQ]
 refine loop (L:=fun m j (_:Unit)=>LI (i:Int) (q:Int) ((pls d).map Iu) (fun E=>(some (-1))) m j) (IA d i+q+1) (fun j _=>j<=IA d i+q) (fun o=>o=some ((IA d i+q:Nat):Int)) ?_ ?_ n 0 () (by omega) (by omega) (by omega)
 ·intro m j _ Y H
  have B:j<(pls d).length:=by omega
  have F:j<((pls d).map Iu).length:=by simpa using B
  have U:AU ((pls d).map Iu) (j:Int)=some (Iu (pls d)[j]):=by rw [Ar F];simp
  have O:(Option.bind (cond ((Iu (pls d)[j]).c==(i:Int)) (some ((Iu (pls d)[j]).f==(q:Int))) (some false)) fun G=>(cond G (some (j:Int)) (LI (i:Int) (q:Int) ((pls d).map Iu) (fun E=>(some (-1))) m (wrap .i64 ((j:Int)+1)))))=(cond (bK i q (pls d)[j]) (some (j:Int)) (LI (i:Int) (q:Int) ((pls d).map Iu) (fun E=>(some (-1))) m ((j+1:Nat):Int))):=by
   rw [wT j,EH,BQ];rfl
  simp only [LI.eq_2,FL F,cT,U,BQ]
  rw [O]
  by_cases c:j=IA d i+q
  ·obtain⟨y,e,J⟩:=f.hit
   rw [←c,AK B]at e
   obtain rfl:=Ai e
   rw [J,cT,←c];exact .inr rfl
  ·have:=f.miss j _ (by omega) (AK B)
   rw [this,cF];exact .inl ⟨(),by omega,rfl⟩
 ·intro m _ H
  omega
theorem Fs.inst_at{l:Br}{d:At}(v:Fs l d){i:Nat}(hi:i<d.c.length):∃k,∃h:k<l.b.length,d.c[i].c=(k:Int)∧AU l.b d.c[i].c=some l.b[k]∧d.c[i].b.length=l.b[k].b.length∧TQ l.b[k]:=by
 have x:=v.inst _ (AQ hi)
 obtain⟨k,B⟩:=Ap x.cell.1
 have B:d.c[i].c=(k:Int):=B
 have h:k<l.b.length:=by have:=x.cell.2;omega
 have g:AU l.b d.c[i].c=some l.b[k]:=by rw [B];exact Ar h
 exact⟨k,h,B,g,x.pins _ g,v.lib.cells k h⟩
theorem AeU:∀a:Nat,a<5->∀b:Nat,b<5->wrap .i64 (Vo .u64 (IntKind.wrap IntKind.u64 (wrap .i64 ((a:Int)+(b:Int)))) 1)=(((a+b)/2:Nat):Int):=by decide
theorem YG.mono{l:List Int}(h:YG l):∀(d i:Nat),i+d+1<l.length->gd l i<gd l (i+d+1)
 |0,i,hi=>by have:=h.2.2 (i+0+1) hi (by omega);simpa using this
 |d+1,i,hi=>by
  have a:=YG.mono h d i (by omega)
  have b:=h.2.2 (i+(d+1)+1) hi (by omega)
  rw [show i+(d+1)+1-1=i+d+1 by omega]at b
  omega
theorem YG.lt{l:List Int}(h:YG l){i j:Nat}(B:i<j)(E:j<l.length):gd l i<gd l j:=by
 have:=h.mono (j-i-1) i (by omega)
 rwa [show i+(j-i-1)+1=j by omega]at this
theorem zR{n:Nat}{l:List Int}(h:YG l){c:Int}{K:Int->Int->Option (Int×Bool)}:∀(m i j:Nat),i<=j->j<=l.length->j-i<m->(∀k,k<i->gd l k<c)->(∀k,j<=k->k<l.length->c<=gd l k)->
 ∃p:Nat,p<=l.length∧(∀k,k<p->gd l k<c)∧(∀k,p<=k->k<l.length->c<=gd l k)∧Na n l c K m (i:Int) (j:Int)=K (p:Int) (p:Int)
 |0,i,j,_,_,hm,_,_=>by omega
 |m+1,i,j,hij,hj,hm,h1,h2=>by
  have H:=h.1.2
  rw [Na.eq_2]
  by_cases c0:i<j
  ·have B:decide ((i:Int)<(j:Int))=true:=Aw (by omega)
   have F:(i+j)/2<l.length:=by omega
   simp only [B,cT,AeU i (by omega) j (by omega),gI F,BQ,jU,cX,Cj,cF,Dk]
   by_cases c1:gd l ((i+j)/2)<c
   ·rw [Aw c1,cT,wS (show(i+j)/2<4611686018427387904 by omega)]
    refine zR h m ((i+j)/2+1) j (by omega) hj (by omega) (fun k G=>?_) h2
    by_cases e:k=(i+j)/2
    ·rw [e];exact c1
    ·have:=h.lt (show k<(i+j)/2 by omega) F;omega
   ·rw [Av c1,cF]
    refine zR h m i ((i+j)/2) (by omega) (by omega) (by omega) h1 (fun k G E=>?_)
    by_cases e:k=(i+j)/2
    ·rw [e];omega
    ·have:=h.lt (show(i+j)/2<k by omega) E;omega
  ·obtain rfl:i=j:=by omega
   have B:decide ((i:Int)<(i:Int))=false:=Av (by omega)
   rw [B,cF]
   exact⟨i,hj,h1,h2,rfl⟩
def Ey(l:List Int)(x:Int):Int:=min (max x (gd l 0)) (gd l (l.length-1))
theorem VY{l:List Int}(h:YG l)(x:Int):gd l 0<=Ey l x∧Ey l x<=gd l (l.length-1):=by
 have B:=h.1.1
 have:gd l 0<=gd l (l.length-1):=by
  by_cases c:l.length=1
  ·rw [c];exact Gt _
  ·have:=h.lt (show 0<l.length-1 by omega) (by omega);omega
 unfold Ey;omega
theorem WtS{l:List Int}(h:YG l){x:Int}{q:Nat}{R:Int×Int×Int}(I:q<l.length)(E:∀k,q<k->k<l.length->Ey l x<gd l k)
 (F:∀m,Jx l x (gd l 0) (gd l (l.length-1)) (fun B=>(some (0,1,0))) (m+1) (q:Int)=some R):
 ∀(m i:Nat),q<=i->i<l.length->i-q<m->Jx l x (gd l 0) (gd l (l.length-1)) (fun B=>(some (0,1,0))) m (i:Int)=some R
 |0,i,_,_,hm=>by omega
 |m+1,i,hi,hil,hm=>by
  by_cases e:i=q
  ·rw [e];exact F m
  ·have a:=E i (by omega) hil
   have a:min (max x (gd l 0)) (gd l (l.length-1))<gd l i:=a
   have H:decide ((i:Int)>=0)=true:=Aw (by omega)
   have J:(min (max x (gd l 0)) (gd l (l.length-1))==gd l i)=false:=by rw [AJ];omega
   have G:decide (min (max x (gd l 0)) (gd l (l.length-1))>gd l i)=false:=Av (by omega)
   have w:wrap .i64 ((i:Int)-1)=((i-1:Nat):Int):=by rw [BV (by omega) (by have:=h.1.2;omega)];omega
   simp only [Jx.eq_2,H,cT,gI hil,BQ,J,G,cF,w]
   exact WtS h I E F m (i-1) (by omega) (by omega) (by omega)
theorem Wt{n:Nat}{l:List Int}(h:YG l)(x:Int)(hn:1048577<=n):∃(i:Nat) (a b:Int),kC n l x=some ((i:Int),a,b)∧
 ((i<l.length∧a=1∧b=0∧Vf n l x=some ([⟨(i:Int),1⟩],1))∨(i+1<l.length∧(1<=a∧a<=100000)∧(1<=b∧b<=100000)∧Vf n l x=some ([⟨(i:Int),a⟩,⟨((i+1:Nat):Int),b⟩],a+b))):=by
 have h1:=h.1
 have ci:=VY h x
 have w1:wrap .i64 ((l.length:Int)-1)=((l.length-1:Nat):Int):=by rw [BV (by omega) (by omega)];omega
 have g0:AU l 0=some (gd l 0):=gI (l:=l) (i:=0) (by omega)
 have gL:AU l ((l.length-1:Nat):Int)=some (gd l (l.length-1)):=gI (by omega)
 obtain⟨p,p1,p2,p3,p4⟩:=zR (n:=n) h (c:=Ey l x) (K:=fun H i6=>(Option.bind (cond (decide (H<(l.length:Int))) (Option.bind (AU l H) fun x7=>(Option.bind (cond (x7==Ey l x) (some true) (Option.bind (AU l H) fun J=>(Option.bind (Wx n J) fun B=>(Option.bind (cond B (Option.bind (Wx n (Ey l x)) fun Z=>(some Z)) (some false)) fun I=>(some I))))) fun U=>(some U))) (some false)) fun c7=>(some (H,c7)))) n 0 l.length (by omega) (by omega) (by omega) (fun k G=>by omega) (fun k G E=>by omega)
 have pl:p<l.length:=by
  apply Nat.lt_of_not_le
  intro c
  have:=p2 (l.length-1) (by omega);omega
 have hb:ZK n l (Ey l x)=some ((p:Int),gd l p==Ey l x):=by
  rw [ZK]
  refine p4.trans ?_
  simp only [FL pl,cT,gI pl,BQ,Wx,Cj,cF]
  cases(gd l p==Ey l x)<;>rfl
 have hi:Vf n l x=(Option.bind (ZK n l (Ey l x)) fun B=>(cond B.2 (some ([(EX.mk B.1 1)],1)) (Option.bind (AU l B.1) fun a2=>(Option.bind (AU l (wrap .i64 (B.1-1))) fun a0=>(Option.bind (AU l B.1) fun Y=>(Option.bind (AU l (wrap .i64 (B.1-1))) fun a1=>(some ([(EX.mk (wrap .i64 (B.1-1)) (wrap .i64 (a2-(Ey l x)))),(EX.mk B.1 (wrap .i64 ((Ey l x)-a0)))],wrap .i64 (Y-a1))))))))):=by
  rw [Vf,g0,w1,BQ,gL,BQ];rfl
 have F:kC n l x=Jx l x (gd l 0) (gd l (l.length-1)) (fun a3=>(some (0,1,0))) n ((l.length-1:Nat):Int):=by
  rw [kC,g0,w1,BQ,gL,BQ]
 have cp:=p3 p (Bj _) pl
 by_cases c:gd l p=Ey l x
 ·refine⟨p,1,0,?_,.inl ⟨pl,rfl,rfl,?_⟩⟩
  ·rw [F]
   refine WtS h pl (fun k G E=>by have:=h.lt G E;omega) (fun m=>?_) n _ (by omega) (by omega) (by omega)
   have W:decide ((p:Int)>=0)=true:=Aw (by omega)
   have O:(min (max x (gd l 0)) (gd l (l.length-1))==gd l p)=true:=by rw [BB];exact c.symm
   simp only [Jx.eq_2,W,cT,gI pl,BQ,O]
  ·rw [hi,hb,BQ,show(gd l p==Ey l x)=true from by rw [BB];exact c];rfl
 ·have p0:0<p:=by
   apply Nat.pos_of_ne_zero
   intro e;subst e;omega
  have b1:=p2 (p-1) (by omega)
  have r1:=h.2.1 p pl
  have r2:=h.2.1 (p-1) (by omega)
  have wp:wrap .i64 ((p:Int)-1)=((p-1:Nat):Int):=by rw [BV (by omega) (by omega)];omega
  have wq:wrap .i64 (((p-1:Nat):Int)+1)=(p:Int):=by rw [BV (by omega) (by omega)];omega
  have e1:wrap .i64 (gd l p-Ey l x)=gd l p-Ey l x:=BV (by omega) (by omega)
  have e2:wrap .i64 (Ey l x-gd l (p-1))=Ey l x-gd l (p-1):=BV (by omega) (by omega)
  have e3:wrap .i64 (gd l p-gd l (p-1))=gd l p-Ey l x+(Ey l x-gd l (p-1)):=by rw [BV (by omega) (by omega)];omega
  refine⟨p-1,gd l p-Ey l x,Ey l x-gd l (p-1),?_,.inr ⟨by omega,by omega,by omega,?_⟩⟩
  ·rw [F]
   refine WtS h (show p-1<l.length by omega) (fun k G E=>?_) (fun m=>?_) n _ (by omega) (by omega) (by omega)
   ·by_cases e:k=p
    ·rw [e];omega
    ·have:=h.lt (show p<k by omega) E;omega
   ·have W:decide (((p-1:Nat):Int)>=0)=true:=Aw (by omega)
    have O:(min (max x (gd l 0)) (gd l (l.length-1))==gd l (p-1))=false:=by rw [AJ];show Ey l x≠_;omega
    have d2:decide (min (max x (gd l 0)) (gd l (l.length-1))>gd l (p-1))=true:=Aw (show Ey l x>_ by omega)
    simp only [Jx.eq_2,W,cT,gI (show p-1<l.length by omega),BQ,O,d2,cF,wq,gI pl]
    show some (((p-1:Nat):Int),wrap .i64 (gd l p-Ey l x),wrap .i64 (Ey l x-gd l (p-1)))=_
    rw [e1,e2]
  ·rw [hi,hb,BQ,show(gd l p==Ey l x)=false from by rw [AJ];exact c]
   simp only [cF,wp,gI pl,gI (show p-1<l.length by omega),BQ,e1,e2,e3]
   rw [show p-1+1=p by omega]
theorem Dv{n:Nat}{s D mode:Int}(h:D≠0):∃r,Of n s D mode=some r∧Ur n s D mode=some r:=by
 have B:(D==0)=false:=by rw [AJ];exact h
 rw [Of,Ur,B]
 simp only [cF]
 rw [Bool.and_comm,Bool.and_comm (decide (Int.tmod s D>0))]
 cases(mode==0)&&decide (Int.tmod s D<0)<;>cases(mode==1)&&decide (Int.tmod s D>0)<;>exact⟨_,rfl,rfl⟩
theorem iS{V a c:Int}(B:-1000000<=V∧V<=1000000)(E:1<=a∧a<=100000)(J:1<=c∧c<=100000):wrap .i64 (wrap .i64 (a*c)*V)=wrap .i64 (wrap .i64 (V*a)*c)∧decide (wrap .i64 (a*c)>0)=true:=by
 have F:0<a*c:=Int.mul_pos (by omega) (by omega)
 have G:a*c<=100000*c:=EZ E.2 (by omega)
 have I:V*a<=1000000*a:=EZ B.2 (by omega)
 have H:-1000000*a<=V*a:=EZ B.1 (by omega)
 rw [BV (x:=a*c) (by omega) (by omega),BV (x:=V*a) (by omega) (by omega)]
 refine⟨by rw [Int.mul_comm (V*a) c,Int.mul_comm a c,Int.mul_assoc,Int.mul_comm a V],Aw F⟩
theorem mw{a c:Int}(E:0<=a∧a<=200000)(B:0<=c∧c<=200000):wrap .i64 (a*c)=a*c:=by
 have F:0<=a*c:=Int.mul_nonneg E.1 B.1
 have G:a*c<=200000*c:=EZ E.2 B.1
 exact BV (by omega) (by omega)
theorem jZ{i L k:Nat}(hi:i<=4)(B:L<=4)(E:k<=4):wrap .i64 (wrap .i64 ((i:Int)*(L:Int))+(k:Int))=((i*L+k:Nat):Int):=by
 have:i*L<=4*4:=FE hi B
 rw [gJ hi B,BV (by omega) (by omega)];omega
theorem tP{i L k u v:Nat}(hi:i+u<=4)(B:L<=4)(F:k<=4)(E:v<=1):wrap .i64 (wrap .i64 (wrap .i64 (wrap .i64 ((i:Int)+(u:Int))*(L:Int))+(k:Int))+(v:Int))=(((i+u)*L+(k+v):Nat):Int):=by
 have:(i+u)*L<=4*4:=FE hi B
 rw [BV (x:=(i:Int)+(u:Int)) (by omega) (by omega),show(i:Int)+(u:Int)=((i+u:Nat):Int) by omega,gJ hi B,BV (x:=(((i+u)*L:Nat):Int)+(k:Int)) (by omega) (by omega),BV (by omega) (by omega)];omega
theorem gG{S L i k:Nat}(hi:i<S)(B:k<L):i*L+k<S*L:=by
 have:(i+1)*L<=S*L:=CC L hi
 rw [Cy]at this;omega
theorem zH{n:Nat}{s D mode:Int}(h:D≠0):∃r,(Option.bind (Of n s D mode) fun r=>some r)=some r∧(Option.bind (Ur n s D mode) fun r=>some r)=some r:=by
 obtain⟨r,a,b⟩:=Dv (n:=n) (s:=s) (mode:=mode) h
 exact⟨r,by rw [a];rfl,by rw [b];rfl⟩
set_option maxHeartbeats 4000000 in
theorem Lk{n:Nat}{t:Cc}(v:VT t)(x y mode:Int)(hn:1048577<=n):∃r,mU n t x y mode=some r∧sV n t x y mode=some r:=by
 obtain⟨i,a,b,s1,e1⟩:=Wt (n:=n) v.1.1 x hn
 obtain⟨k,c,d,s2,e2⟩:=Wt (n:=n) v.1.2 y hn
 have S4:=v.1.1.1.2
 have L4:=v.1.2.1.2
 have hV:=v.2.2
 have c8:=v.2.1
 obtain⟨m,rfl⟩:∃m,n=m+3:=⟨n-3,by omega⟩
 rw [mU];(try simp only [jn]);rw [sV,s1,s2]
 have a9:wrap .i64 (0+1)=1:=rfl
 have b0:wrap .i64 (1+1)=2:=rfl
 have a3:decide ((0:Int)<2)=true:=rfl
 have Y:decide ((1:Int)<2)=true:=rfl
 have a1:decide ((2:Int)<2)=false:=rfl
 have Z:decide ((0:Int)<1)=true:=rfl
 have U:decide ((1:Int)<1)=false:=rfl
 have O:((0:Int)==1)=false:=rfl
 have W:((1:Int)==1)=true:=rfl
 have a2:((0:Int)==0)=true:=rfl
 have a0:((1:Int)==0)=false:=rfl
 have a6:wrap .i64 0=0:=rfl
 have a8:decide ((0:Int)>0)=false:=rfl
 have a5:wrap .i64 (1+0)=1:=rfl
 have b1:∀w:EX,AU [w] 0=some w:=fun _=>rfl
 have a4:∀w z:EX,AU [w,z] 0=some w:=fun _ _=>rfl
 have a7:∀w z:EX,AU [w,z] 1=some z:=fun _ _=>rfl
 have n1:∀w:EX,(([w]:List EX).length:Int)=1:=fun _=>rfl
 have n2:∀w z:EX,(([w,z]:List EX).length:Int)=2:=fun _ _=>rfl
 have J:=tP (i:=i) (u:=0) (k:=k) (v:=0) (L:=t.c.length)
 have b8:=tP (i:=i) (u:=0) (k:=k) (v:=1) (L:=t.c.length)
 have b6:=tP (i:=i) (u:=1) (k:=k) (v:=0) (L:=t.c.length)
 have c2:=tP (i:=i) (u:=1) (k:=k) (v:=1) (L:=t.c.length)
 simp only [Int.natCast_zero,Int.natCast_one,HA]at J b8 b6 c2
 rcases e1 with ⟨hi,ha,hb,e1⟩|⟨hi,ha,hb,e1⟩<;>rcases e2 with ⟨hk,hc,hd,e2⟩|⟨hk,hc,hd,e2⟩<;>rw [e1,e2]
 ·subst ha hb
  subst hc hd
  have b2:=gG (S:=t.d.length) (L:=t.c.length) (i:=i) (k:=k) (by omega) (by omega)
  have B:=iS (V:=gd t.b (i*t.c.length+k)) (a:=1) (c:=1) (hV _ (by omega)) (by omega) (by omega)
  have F:=J (by omega) (by omega) (by omega) (by omega)
  have E:=jZ (i:=i) (k:=k) (L:=t.c.length) (by omega) (by omega) (by omega)
  have G:=gI (l:=t.b) (i:=i*t.c.length+k) (by omega)
  simp only [BQ,Kj.eq_2,Ii.eq_2,Om.eq_2,Oa.eq_2,n1,n2,b1,a4,a7,a9,b0,a3,Y,a1,Z,U,cT,cF,O,W,a2,a0,Int.zero_mul,Int.mul_zero,a6,a8,a5,F,E,G,B.1,B.2,jn]
  refine zH ?_
  exact(by decide:wrap .i64 (1*1)≠0)
 ·subst ha hb
  have b2:=gG (S:=t.d.length) (L:=t.c.length) (i:=i) (k:=k) (by omega) (by omega)
  have B:=iS (V:=gd t.b (i*t.c.length+k)) (a:=1) (c:=c) (hV _ (by omega)) (by omega) (by omega)
  have F:=J (by omega) (by omega) (by omega) (by omega)
  have E:=jZ (i:=i) (k:=k) (L:=t.c.length) (by omega) (by omega) (by omega)
  have G:=gI (l:=t.b) (i:=i*t.c.length+k) (by omega)
  have c5:=gG (S:=t.d.length) (L:=t.c.length) (i:=i) (k:=(k+1)) (by omega) (by omega)
  have I:=iS (V:=gd t.b (i*t.c.length+(k+1))) (a:=1) (c:=d) (hV _ (by omega)) (by omega) (by omega)
  have c0:=b8 (by omega) (by omega) (by omega) (by omega)
  have b9:=jZ (i:=i) (k:=(k+1)) (L:=t.c.length) (by omega) (by omega) (by omega)
  have b5:=gI (l:=t.b) (i:=i*t.c.length+(k+1)) (by omega)
  have sB:wrap .i64 (c+d)=c+d:=BV (by omega) (by omega)
  simp only [BQ,Kj.eq_2,Ii.eq_2,Om.eq_2,Oa.eq_2,n1,n2,b1,a4,a7,a9,b0,a3,Y,a1,Z,U,cT,cF,O,W,a2,a0,Int.zero_mul,Int.mul_zero,a6,a8,a5,F,E,G,B.1,B.2,c0,b9,b5,I.1,I.2,sB,jn]
  refine zH ?_
  rw [mw (by omega) (by omega)]
  have:=Int.mul_pos (show 0<(1:Int) by omega) (show 0<(c+d) by omega)
  omega
 ·subst hc hd
  have b2:=gG (S:=t.d.length) (L:=t.c.length) (i:=i) (k:=k) (by omega) (by omega)
  have B:=iS (V:=gd t.b (i*t.c.length+k)) (a:=a) (c:=1) (hV _ (by omega)) (by omega) (by omega)
  have F:=J (by omega) (by omega) (by omega) (by omega)
  have E:=jZ (i:=i) (k:=k) (L:=t.c.length) (by omega) (by omega) (by omega)
  have G:=gI (l:=t.b) (i:=i*t.c.length+k) (by omega)
  have c7:=gG (S:=t.d.length) (L:=t.c.length) (i:=(i+1)) (k:=k) (by omega) (by omega)
  have H:=iS (V:=gd t.b ((i+1)*t.c.length+k)) (a:=b) (c:=1) (hV _ (by omega)) (by omega) (by omega)
  have b4:=b6 (by omega) (by omega) (by omega) (by omega)
  have b7:=jZ (i:=(i+1)) (k:=k) (L:=t.c.length) (by omega) (by omega) (by omega)
  have b3:=gI (l:=t.b) (i:=(i+1)*t.c.length+k) (by omega)
  have sA:wrap .i64 (a+b)=a+b:=BV (by omega) (by omega)
  simp only [BQ,Kj.eq_2,Ii.eq_2,Om.eq_2,Oa.eq_2,n1,n2,b1,a4,a7,a9,b0,a3,Y,a1,Z,U,cT,cF,O,W,a2,a0,Int.zero_mul,Int.mul_zero,a6,a8,a5,F,E,G,B.1,B.2,b4,b7,b3,H.1,H.2,sA,jn]
  refine zH ?_
  rw [mw (by omega) (by omega)]
  have:=Int.mul_pos (show 0<(a+b) by omega) (show 0<(1:Int) by omega)
  omega
 ·have b2:=gG (S:=t.d.length) (L:=t.c.length) (i:=i) (k:=k) (by omega) (by omega)
  have B:=iS (V:=gd t.b (i*t.c.length+k)) (a:=a) (c:=c) (hV _ (by omega)) (by omega) (by omega)
  have F:=J (by omega) (by omega) (by omega) (by omega)
  have E:=jZ (i:=i) (k:=k) (L:=t.c.length) (by omega) (by omega) (by omega)
  have G:=gI (l:=t.b) (i:=i*t.c.length+k) (by omega)
  have c5:=gG (S:=t.d.length) (L:=t.c.length) (i:=i) (k:=(k+1)) (by omega) (by omega)
  have I:=iS (V:=gd t.b (i*t.c.length+(k+1))) (a:=a) (c:=d) (hV _ (by omega)) (by omega) (by omega)
  have c0:=b8 (by omega) (by omega) (by omega) (by omega)
  have b9:=jZ (i:=i) (k:=(k+1)) (L:=t.c.length) (by omega) (by omega) (by omega)
  have b5:=gI (l:=t.b) (i:=i*t.c.length+(k+1)) (by omega)
  have c7:=gG (S:=t.d.length) (L:=t.c.length) (i:=(i+1)) (k:=k) (by omega) (by omega)
  have H:=iS (V:=gd t.b ((i+1)*t.c.length+k)) (a:=b) (c:=c) (hV _ (by omega)) (by omega) (by omega)
  have b4:=b6 (by omega) (by omega) (by omega) (by omega)
  have b7:=jZ (i:=(i+1)) (k:=k) (L:=t.c.length) (by omega) (by omega) (by omega)
  have b3:=gI (l:=t.b) (i:=(i+1)*t.c.length+k) (by omega)
  have c9:=gG (S:=t.d.length) (L:=t.c.length) (i:=(i+1)) (k:=(k+1)) (by omega) (by omega)
  have c1:=iS (V:=gd t.b ((i+1)*t.c.length+(k+1))) (a:=b) (c:=d) (hV _ (by omega)) (by omega) (by omega)
  have c3:=c2 (by omega) (by omega) (by omega) (by omega)
  have c4:=jZ (i:=(i+1)) (k:=(k+1)) (L:=t.c.length) (by omega) (by omega) (by omega)
  have c6:=gI (l:=t.b) (i:=(i+1)*t.c.length+(k+1)) (by omega)
  have sA:wrap .i64 (a+b)=a+b:=BV (by omega) (by omega)
  have sB:wrap .i64 (c+d)=c+d:=BV (by omega) (by omega)
  simp only [BQ,Kj.eq_2,Ii.eq_2,Om.eq_2,Oa.eq_2,n1,n2,b1,a4,a7,a9,b0,a3,Y,a1,Z,U,cT,cF,O,W,a2,a0,Int.zero_mul,Int.mul_zero,a6,a8,a5,F,E,G,B.1,B.2,c0,b9,b5,I.1,I.2,b4,b7,b3,H.1,H.2,c3,c4,c6,c1.1,c1.2,sA,sB,jn]
  refine zH ?_
  rw [mw (by omega) (by omega)]
  have:=Int.mul_pos (show 0<(a+b) by omega) (show 0<(c+d) by omega)
  omega
theorem wk{k:Int}(E:0<=k)(B:k<=2305843009213693952):wrap .i64 (k+1)=k+1:=BV (by omega) (by omega)
def My(b:AV)(x:Bq):List DW:=match AU b.d.b x.c with
 |some c=>c.f
 |none=>[]
def ID(q:Int)(p:CP):Bool:=p.b==q&&p.d
theorem Xj(i:Nat)(q L:Int):∀(xs:List Int) (s:Nat),xs≠[]->L=((s+xs.length:Nat):Int)-1->((HZ (fun j n=>[CP.mk i j n ((j:Int)==L)]) s xs).countP (ID q):Int)=if gd xs (xs.length-1)=q then 1 else 0
 |[],_,h,_=>absurd rfl h
 |[x],s,_,hL=>by
  have e:((s:Int)==L)=true:=by rw [BB,hL];simp
  simp only [HZ,Gq,e]
  by_cases c:x=q
  ·subst c;simp [ID,gd]
  ·have:(x==q)=false:=by rw [AJ];exact c
   simp [ID,gd,this,c]
 |x::y::zs,s,_,hL=>by
  have B:=Xj i q L (y::zs) (s+1) (by simp) (by rw [hL];simp only [DO];omega)
  have e:((s:Int)==L)=false:=by rw [AJ,hL];simp only [DO];omega
  rw [HZ,DV]
  have E:List.countP (ID q) [CP.mk i s x ((s:Int)==L)]=0:=by simp [ID,e]
  rw [E,DA,B]
  simp [gd]
theorem cL{q:Nat}{N:Nat}(E:q<N):∀(xs:List Bq) (t:List Int) (s:Nat),t.length=N->(∀x∈xs,x.b≠[]∧0<=OX x∧OX x<N)->gd (xs.foldl cI t) q=gd t q+((HZ RJ s xs).countP (ID q):Int)∧(xs.foldl cI t).length=N
 |[],t,s,ht,_=>by simp [HZ,ht]
 |x::xs,t,s,ht,hx=>by
  obtain⟨J,W,U⟩:=hx x (by simp)
  obtain⟨I,G⟩:=cL E xs (cI t x) (s+1) (by unfold cI MB;simpa using ht) fun y H=>hx y (by simp [H])
  refine⟨?_,G⟩
  rw [List.foldl_cons,I,HZ,DV]
  have B:=Xj s q ((x.b.length:Int)-1) x.b 0 J (by simp)
  have B:((RJ s x).countP (ID q):Int)=if gd x.b (x.b.length-1)=q then 1 else 0:=B
  have O:gd (cI t x) q=gd t q+if gd x.b (x.b.length-1)=q then 1 else 0:=by
   have F:OX x=gd x.b (x.b.length-1):=rfl
   unfold cI MB
   rw [KX (by omega),←F]
   by_cases c:OX x=q
   ·rw [BE (by omega),BE c];have:(OX x).toNat=q:=by omega
    rw [this]
   ·rw [BU (by omega),BU c];omega
  rw [O];push_cast;omega
theorem Ze{q:Nat}{N:Nat}(E:q<N):∀(xs:List Dr) (t:List Int) (s:Nat),t.length=N->(∀x∈xs,0<=x.c∧x.c<N)->gd (xs.foldl cP t) q=gd t q+((HZ ZN s xs).countP (ID q):Int)
 |[],t,s,ht,_=>by simp [HZ]
 |x::xs,t,s,ht,hx=>by
  obtain⟨I,J⟩:=hx x (by simp)
  have G:=Ze E xs (cP t x) (s+1) (by unfold cP MB;split<;>simpa using ht) fun y F=>hx y (by simp [F])
  rw [List.foldl_cons,G,HZ,DV]
  have H:gd (cP t x) q=gd t q+((ZN s x).countP (ID q):Int):=by
   unfold cP ZN
   by_cases d:x.b=1
   ·have:(x.b==1)=true:=by rw [BB];exact d
    rw [BE d];unfold MB
    rw [KX (by omega)]
    by_cases c:x.c=q
    ·have e:(x.c==(q:Int))=true:=by rw [BB];exact c
     have B:x.c.toNat=q:=by omega
     rw [BE B,B];simp [ID,this,e]
    ·have e:(x.c==(q:Int))=false:=by rw [AJ];exact c
     rw [BU (by omega)];simp [ID,this,e]
   ·have:(x.b==1)=false:=by rw [AJ];exact d
    rw [BU d];simp [ID,this]
  rw [H];push_cast;omega
theorem kK{l:Br}{d:At}(v:Fs l d){q:Nat}(E:q<d.b.length):(pls d).countP (ID q)=1:=by
 obtain⟨H,G⟩:=cL (N:=d.b.length) E d.c (List.replicate d.b.length 0) 0 (by simp) fun x B=>by
  have a:=(v.inst x B).long v.lib
  have b:=(v.inst x B).last v.lib
  exact⟨fun e=>by rw [e]at a;simp at a,b⟩
 have I:=Ze (N:=d.b.length) E d.d _ 0 G fun x B=>by have:=(v.port x B).net;omega
 have F:=v.one q E
 unfold drv at F
 rw [I,H,Pz]at F
 unfold pls
 rw [DV];omega
theorem UL{α:Type}(f:α->Bool):∀(xs:List α),xs.countP f=1->∃k,∃h:k<xs.length,f xs[k]=true∧∀j (h:j<xs.length),f xs[j]=true->j=k
 |[],h=>by simp at h
 |x::xs,h=>by
  rw [FD]at h
  by_cases c:f x=true
  ·have E:xs.countP f=0:=by simpa [c] using h
   refine⟨0,by simp,c,fun j F B=>?_⟩
   cases j with
   |zero=>rfl
   |succ j=>
    have B:f (xs[j]'(by simpa using F))=true:=B
    rw [List.countP_eq_zero]at E
    exact absurd B (E _ (AQ _))
  ·have E:xs.countP f=1:=by simpa [c] using h
   obtain⟨k,G,a,b⟩:=UL f xs E
   refine⟨k+1,by simpa using G,by simpa using a,fun j F B=>?_⟩
   cases j with
   |zero=>exact absurd B c
   |succ j=>rw [b j (by simpa using F) (by simpa using B)]
def JV(d:At)(q:Nat):Nat:=(pls d).findIdx (ID q)
structure yP(d:At)(q k:Nat):Prop where
 lt:k<(pls d).length
 hit:ID q (pls d)[k]=true
 only:∀j (h:j<(pls d).length),ID q (pls d)[j]=true->j=k
theorem QK{l:Br}{d:At}(v:Fs l d){q:Nat}(E:q<d.b.length):yP d q (JV d q):=by
 obtain⟨k,B,a,b⟩:=UL _ _ (kK v E)
 have:JV d q=k:=by
  unfold JV
  rw [List.findIdx_eq B]
  refine⟨a,fun j F=>?_⟩
  cases c:ID q ((pls d)[j]'(by omega))with
  |false=>rfl
  |true=>have:=b j (by omega) c;omega
 rw [this];exact⟨B,a,b⟩
theorem AaF{n:Nat}{l:Br}{d:At}(v:Fs l d){q:Nat}(G:q<d.b.length)(J:1048577<=n):aE n d (q:Int)=some (JV d q:Int):=by
 have B:=QK v G
 have U:=EJ v.short v.few.1 v.few.2.2
 rw [aE,SF v.short v.few.1 v.few.2.2 J,BQ]
 have O:=B.lt
 refine loop (L:=fun m i (_:Unit)=>PH (q:Int) ((pls d).map Iu) (fun H=>some (-1)) m i) ((pls d).map Iu).length (fun i _=>i<=JV d q) (fun o=>o=some (JV d q:Int)) ?_ ?_ n 0 () (by omega) (by simp;omega) (by omega)
 ·intro m i _ hi F
  have E:i<(pls d).length:=by simpa using hi
  have e:((pls d).map Iu)[i]=Iu (pls d)[i]:=by simp
  simp only [PH.eq_2,FL hi,cT,Ar hi,BQ,EH,e,wT i]
  have I:((Iu (pls d)[i]).b==(q:Int)&&(Iu (pls d)[i]).d)=ID q (pls d)[i]:=rfl
  rw [I]
  cases c:ID q (pls d)[i]with
  |true=>rw [B.only i E c];exact .inr rfl
  |false=>
   refine .inl ⟨(),?_,rfl⟩
   rcases GU i (JV d q)with h|h
   ·omega
   ·obtain rfl:i=JV d q:=by omega
    rw [B.hit]at c;cases c
 ·intro m _ F
  have:((pls d).map Iu).length=(pls d).length:=by simp
  omega
def Uf(a:DW)(p:Int×Int):Bool:=cond (a.c==1) ((a.g==3)||((a.g==1)==(p.1==p.2))) (cond (a.c==2) (p.1==0) (cond (a.c==3) (p.1==1) false))
def WS(a:DW):List (Int×Int):=[(0,0),(0,1),(1,0),(1,1)].filter (Uf a)
def iO(o k:Nat)(a:DW):List Al:=(WS a).map fun t=>⟨2*((o:Int)+a.d)+t.1,2*((o:Int)+a.b)+t.2,1,(k:Int)⟩
def VH(b:AV)(i:Nat)(x:Bq):List Al:=HZ (iO (IA b.b i)) 0 (My b x)
def dX(r:Int)(j:Nat)(s:Int):List Al:=[⟨2*r,2*s,2,(j:Int)⟩,⟨2*r+1,2*s+1,2,(j:Int)⟩]
def mZ(d:At)(q:Nat):List Al:=HZ (dX (JV d q:Int)) 0 (It d (q:Int))
def HV(b:AV):List Al:=HZ (VH b) 0 b.b.c++HZ (fun q (_:ByteArray)=>mZ b.b q) 0 b.b.b
theorem Xq(a:DW):(WS a).length<=4:=BH (GC _ _) (by simp)
theorem Up(o k:Nat)(a:DW):(iO o k a).length<=4:=by unfold iO;rw [Dn];exact Xq a
theorem PM{b:AV}(v:Dd b)(i:Nat){x:Bq}(H:x∈b.b.c):(VH b i x).length<=32:=by
 obtain⟨j,E,rfl⟩:=DB H
 obtain⟨k,I,_,F,_,B⟩:=v.design.inst_at E
 have:=HP (c:=4) (g:=iO (IA b.b i)) (My b b.b.c[j]) 0 fun j a _=>Up _ _ a
 have G:=B.few
 unfold VH
 unfold My at this ⊢
 rw [F]at this ⊢
 simp only at this ⊢
 omega
theorem Uv{l:Br}{d:At}(v:Fs l d)(q:Nat):(mZ d q).length<=156:=by
 have E:=HP (c:=2) (g:=dX (JV d q:Int)) (It d (q:Int)) 0 fun j s _=>by simp [dX]
 have F:=JH (d:=d) (q:=(q:Int))
 have B:=EJ v.short v.few.1 v.few.2.2
 have G:snk d (q:Int)<=78:=BH CW B
 unfold mZ;omega
theorem IJ{b:AV}(v:Dd b):(HV b).length<=5128:=by
 have E:=HP (c:=32) (g:=VH b) b.b.c 0 fun j x B=>PM v j B
 have F:=HP (c:=156) (g:=fun q (_:ByteArray)=>mZ b.b q) b.b.b 0 fun j x _=>Uv v.design j
 have:=v.design.few
 unfold HV;rw [CA];omega
theorem nJ{n:Nat}{l:List Al}{f t a b kd k:Int}(E:l.length<=10000000)(B:0<=f∧f<=100000)(G:0<=t∧t<=100000)(F:0<=a∧a<=1)(H:0<=b∧b<=1):Uo n l f t a b kd k=some (l++[⟨2*f+a,2*t+b,kd,k⟩]):=by
 rw [Uo,BV (x:=2*f) (by omega) (by omega),BV (x:=2*t) (by omega) (by omega),BV (by omega) (by omega),BV (by omega) (by omega),CU (by simp;omega) (by omega),BQ]
theorem mL{n:Nat}{a:DW}{f t k i:Int}{B:List Al->Int->Option (List Al)}(W:0<=f∧f<=100000)(ht:0<=t∧t<=100000)(hi:0<=i∧i<=1){l:List Al}(hl:l.length<=9000000)(m:Nat):
 Ij n a f t k i B (m+3) l 0=B (l++([(i,0),(i,1)].filter (Uf a)).map fun p=>⟨2*f+p.1,2*t+p.2,1,k⟩) 2:=by
 have U:wrap .i64 ((0:Int)+1)=1:=by decide
 have w2:wrap .i64 ((1:Int)+1)=2:=by decide
 have step:∀(m:Nat) (l:List Al) (j:Int),l.length<=9500000->0<=j->j<=1->Ij n a f t k i B (m+1) l j=Ij n a f t k i B m (l++([(i,j)].filter (Uf a)).map fun p=>⟨2*f+p.1,2*t+p.2,1,k⟩) (wrap .i64 (j+1)):=by
  intro m l j Y h0 I
  have J:=nJ (n:=n) (l:=l) (f:=f) (t:=t) (a:=i) (b:=j) (kd:=1) (k:=k) (by omega) W ht hi ⟨h0,I⟩
  have Z:decide (j<=1)=true:=Aw I
  simp only [Ij.eq_2,Z,cT,J,BQ,List.filter_cons,List.filter_nil,Uf]
  by_cases k1:a.c=1
  ·have E:(a.c==1)=true:=by rw [BB];exact k1
   simp only [E,cT]
   by_cases c:((a.g==3)||((a.g==1)==(i==j)))=true
   ·rw [c];simp
   ·have c:((a.g==3)||((a.g==1)==(i==j)))=false:=by simpa using c
    rw [c];simp
  ·have E:(a.c==1)=false:=by rw [AJ];exact k1
   simp only [E,cF]
   by_cases B:a.c=2
   ·have H:(a.c==2)=true:=by rw [BB];exact B
    simp only [H,cT]
    by_cases c:i=0
    ·subst c;simp
    ·have c:(i==0)=false:=by rw [AJ];exact c
     rw [c];simp
   ·have H:(a.c==2)=false:=by rw [AJ];exact B
    simp only [H,cF]
    by_cases k3:a.c=3
    ·have F:(a.c==3)=true:=by rw [BB];exact k3
     simp only [F,cT]
     by_cases c:i=1
     ·subst c;simp
     ·have c:(i==1)=false:=by rw [AJ];exact c
      rw [c];simp
    ·have F:(a.c==3)=false:=by rw [AJ];exact k3
     simp only [F,cF];simp
 have G:∀j:Int,(([(i,j)].filter (Uf a)).map fun p:Int×Int=>(⟨2*f+p.1,2*t+p.2,1,k⟩:Al)).length<=1:=fun j=>by rw [Dn];exact BH (GC _ _) (by simp)
 rw [step (m+2) l 0 (by omega) (by omega) (by omega),U,step (m+1) _ 1 (by have:=G 0;rw [CA];omega) (by omega) (by omega),w2,Ij.eq_2]
 have O:decide ((2:Int)<=1)=false:=by decide
 rw [O,cF,Ci,←FN,←List.filter_append]
 rfl
theorem AfV{n:Nat}{a:DW}{f t k:Int}(B:0<=f∧f<=100000)(E:0<=t∧t<=100000){l:List Al}(U:l.length<=8000000)(W:1048577<=n):
 xS n l a f t k=some (l++(WS a).map fun p=>⟨2*f+p.1,2*t+p.2,1,k⟩):=by
 obtain⟨m,rfl⟩:∃m,n=m+3:=⟨n-3,by omega⟩
 have H:wrap .i64 ((0:Int)+1)=1:=by decide
 have O:wrap .i64 ((1:Int)+1)=2:=by decide
 have G:decide ((0:Int)<=1)=true:=by decide
 have I:decide ((1:Int)<=1)=true:=by decide
 have F:decide ((2:Int)<=1)=false:=by decide
 have J:(([((0:Int),(0:Int)),(0,1)].filter (Uf a)).map fun p:Int×Int=>(⟨2*f+p.1,2*t+p.2,1,k⟩:Al)).length<=2:=by rw [Dn];exact BH (GC _ _) (by simp)
 rw [xS,QF.eq_2,G,cT,mL B E (by omega) (by omega),H,QF.eq_2,I,cT,mL B E (by omega) (by rw [CA];omega),O,QF.eq_2,F,cF,Ci,←FN,←List.filter_append]
 rfl
theorem Uj{c:Bv}(F:TQ c){j:Nat}(E:j<c.f.length):(0<=c.f[j].d∧c.f[j].d<c.b.length)∧(0<=c.f[j].b∧c.f[j].b<c.b.length)∧(c.f[j].c=1∧(1<=c.f[j].g∧c.f[j].g<=3)∨c.f[j].c=2∨c.f[j].c=3∨c.f[j].c=4∨c.f[j].c=5):=by
 have B:=(F.arcs j E).1
 unfold RH at B
 refine⟨by omega,by omega,?_⟩
 obtain⟨_,B⟩:=B
 by_cases k1:c.f[j].c=1
 ·rw [BE k1]at B;exact .inl ⟨k1,B.2.2.1⟩
 ·rw [BU k1]at B
  by_cases k2:c.f[j].c=2∨c.f[j].c=3
  ·rcases k2 with k|k
   ·exact .inr (.inl k)
   ·exact .inr (.inr (.inl k))
  ·rw [BU k2]at B
   by_cases k4:c.f[j].c=4∨c.f[j].c=5
   ·rcases k4 with k|k
    ·exact .inr (.inr (.inr (.inl k)))
    ·exact .inr (.inr (.inr (.inr k)))
   ·rw [BU k4]at B;exact B.elim
theorem Vk{a:DW}(h:3<a.c):WS a=[]:=by
 have F:(a.c==1)=false:=by rw [AJ];omega
 have E:(a.c==2)=false:=by rw [AJ];omega
 have B:(a.c==3)=false:=by rw [AJ];omega
 simp [WS,Uf,F,E,B]
theorem Sp{n:Nat}{b:AV}(v:Dd b)(J:1048577<=n):fX n b=some (HV b):=by
 have E:=v.design
 have a3:=E.few
 have hl:=EJ E.short E.few.1 E.few.2.2
 have hI:=HP (c:=32) (g:=VH b) b.b.c 0 fun j x Y=>PM v j Y
 rw [fX]
 rw [GE (xs:=b.b.c) (L:=fun m s i=>OO n b (fun H a0=>(KV n b (fun B G=>(some B)) n H 0)) m s i) (k:=fun s=>KV n b (fun B G=>some B) n s 0) (VH b) 32 0 (fun j x Y=>PM v j Y) (by omega) (by
  intro m i hi s hs
  obtain⟨k,hk,_,gc,a4,Z⟩:=v.design.inst_at hi
  have fa:=Z.few
  have fp:=Z.pins.few
  have a1:=(KT (d:=b.b) (q:=0) hi (by have:=(E.inst _ (AQ hi)).long E.lib;omega)).lt
  simp only [OO.eq_2,FL hi,cT,Ar hi,gc,BQ,wT i]
  have ea:My b b.b.c[i]=b.d.b[k].f:=by unfold My;rw [gc]
  rw [VH,ea]
  refine GE (xs:=b.d.b[k].f) (L:=fun m s j=>Ow n b (i:Int) b.d.b[k] _ m s j) (k:=fun s=>OO n b (fun H a0=>(KV n b (fun B G=>(some B)) n H 0)) m s ((i+1:Nat):Int)) (iO (IA b.b i)) 4 s.length (fun j a _=>Up _ _ a) (by omega) ?_ ?_ n (by omega) s (by omega)
  ·intro m j I s2 W
   obtain⟨⟨f0,f1⟩,⟨t0,t1⟩,kd⟩:=Uj Z I
   simp only [Ow.eq_2,FL I,cT,Ar I,BQ,wT j]
   by_cases c:b.d.b[k].f[j].c<=3
   ·rw [Aw c,cT]
    obtain⟨F,U⟩:=Ap f0
    have U:b.d.b[k].f[j].d=(F:Int):=U
    obtain⟨T,O⟩:=Ap t0
    have O:b.d.b[k].f[j].b=(T:Int):=O
    have p1:=tJ (n:=n) E (q:=F) hi (by omega) J
    have p2:=tJ (n:=n) E (q:=T) hi (by omega) J
    rw [U,O,p1,BQ,p2,BQ,AfV (by omega) (by omega) (by omega) J,BQ]
    congr 2
    unfold iO
    rw [U,O]
    simp
   ·rw [Av c,cF]
    unfold iO
    rw [Vk (by omega),List.map_nil,Gq]
  ·intro m s
   simp only [Ow.eq_2,Fh,cF]) (by
  intro m s
  simp only [OO.eq_2,Fh,cF]) n (by omega) [] (by simp)]
 rw [Dg]
 rw [GE (xs:=b.b.b) (L:=fun m s i=>KV n b (fun B G=>(some B)) m s i) (k:=fun s=>some s) (fun q _=>mZ b.b q) 156 (HZ (VH b) 0 b.b.c).length (fun j x _=>Uv E j) (by omega) (by
  intro m i hi s hs
  have hd:=(QK E hi).lt
  have a2:(It b.b (i:Int)).length<=78:=by
   rw [JH];exact BH CW hl
  simp only [KV.eq_2,FL hi,cT,AaF E hi J,iI E (i:Int) J,BQ,wT i]
  refine GE (xs:=It b.b (i:Int)) (L:=fun m s j=>Po n (JV b.b i:Int) (It b.b (i:Int)) _ m s j) (k:=fun s=>KV n b (fun B G=>(some B)) m s ((i+1:Nat):Int)) (dX (JV b.b i:Int)) 2 s.length (fun j a _=>by simp [dX]) (by omega) ?_ ?_ n (by omega) s (by omega)
  ·intro m j I s2 W
   have hq:=PF _ (AQ I)
   simp only [Po.eq_2,FL I,cT,Ar I,BQ,wT j]
   rw [nJ (by omega) (by omega) (by omega) (by omega) (by omega),BQ,nJ (by simp;omega) (by omega) (by omega) (by omega) (by omega),BQ]
   rw [Ci]
   congr 2
   simp [dX]
  ·intro m s
   simp only [Po.eq_2,Fh,cF]) (by
  intro m s
  simp only [KV.eq_2,Fh,cF]) n (by omega) _ (Bj _)]
 rfl
theorem Gu{α β:Type}(h:Nat->α->β):∀(xs:List α) (s:Nat),(HZ (fun j q=>[h j q]) s xs).length=xs.length
 |[],_=>rfl
 |x::xs,s=>by simp [HZ,Gu h xs (s+1)]
theorem Ui{α β:Type}(h:α->β):∀(xs:List α) (s:Nat),HZ (fun _ q=>[h q]) s xs=xs.map h
 |[],_=>rfl
 |x::xs,s=>by simp [HZ,Ui h xs (s+1)]
theorem XK(i:Nat)(x:Bq):(RJ i x).length=x.b.length:=Gu (fun j q=>CP.mk i j q ((j:Int)==(x.b.length:Int)-1)) x.b 0
theorem Ya{d:At}{i:Nat}(hi:i<d.c.length):IA d (i+1)=IA d i+d.c[i].b.length:=by
 unfold IA;rw [MH hi,CA,XK]
theorem YJ{a:DW}:∀p∈WS a,(0<=p.1∧p.1<=1)∧0<=p.2∧p.2<=1:=fun p B=>by
 have:=(List.mem_filter.1 B).1
 simp only [DX,Ec,or_false]at this
 rcases this with rfl|rfl|rfl|rfl<;>simp
theorem Trn{n:Nat}{a:DW}(h:a.c=1∧(1<=a.g∧a.g<=3)∨a.c=2∨a.c=3∨a.c=4∨a.c=5):dD n a=some ((WS a).map fun p=>(⟨p.1,p.2⟩:Eg)):=by
 unfold dD
 rcases h with ⟨k,s⟩|k|k|k|k
 ·rcases(by omega:a.g=1∨a.g=2∨a.g=3)with s|s|s<;>simp [WS,Uf,k,s]
 all_goals simp [WS,Uf,k]
theorem AdV{n:Nat}{b:AV}(v:Dd b){i:Nat}(hi:i<b.b.c.length)(hn:1048577<=n):Zs n b b.b.c[i] (IA b.b i:Int)=some (VH b i b.b.c[i]):=by
 have E:=v.design
 have hl:=EJ E.short E.few.1 E.few.2.2
 obtain⟨k,hk,_,O,Y,H⟩:=v.design.inst_at hi
 have fa:=H.few
 have fp:=H.pins.few
 have U:=(KT (d:=b.b) (q:=0) hi (by have:=(E.inst _ (AQ hi)).long E.lib;omega)).lt
 have ea:My b b.b.c[i]=b.d.b[k].f:=by unfold My;rw [O]
 rw [Zs,O,BQ,VH,ea]
 rw [GE (xs:=b.d.b[k].f) (L:=fun m s j=>LU n (IA b.b i:Int) b.d.b[k] (fun B F=>(some B)) m s j) (k:=fun s=>some s) (iO (IA b.b i)) 4 0 (fun j a _=>Up _ _ a) (by omega) (by
  intro m j I s hs
  obtain⟨⟨f0,f1⟩,⟨t0,t1⟩,kd⟩:=Uj H I
  simp only [LU.eq_2,FL I,cT,Ar I,BQ,Trn kd,wT j]
  have e:iO (IA b.b i) j b.d.b[k].f[j]=HZ (fun _ (t:Eg)=>[(⟨2*((IA b.b i:Int)+b.d.b[k].f[j].d)+t.e0,2*((IA b.b i:Int)+b.d.b[k].f[j].b)+t.e1,1,(j:Int)⟩:Al)]) 0 ((WS b.d.b[k].f[j]).map fun p=>(⟨p.1,p.2⟩:Eg)):=by
   rw [Ui,List.map_map];rfl
  rw [e]
  have tl:=Xq b.d.b[k].f[j]
  refine GE (xs:=(WS b.d.b[k].f[j]).map fun p=>(⟨p.1,p.2⟩:Eg)) (L:=fun m s q=>Ml (IA b.b i:Int) (j:Int) b.d.b[k].f[j] ((WS b.d.b[k].f[j]).map fun p=>(⟨p.1,p.2⟩:Eg)) _ m s q) (k:=fun s=>LU n (IA b.b i:Int) b.d.b[k] (fun B F=>(some B)) m s ((j+1:Nat):Int)) _ 1 s.length (fun _ _ _=>by simp) (by rw [Dn];omega) ?_ ?_ n (by rw [Dn];omega) s (by omega)
  ·intro m q G s2 Z
   have J:q<(WS b.d.b[k].f[j]).length:=by simpa using G
   have r:=YJ _ (AQ J)
   have W:((WS b.d.b[k].f[j]).map fun p=>(⟨p.1,p.2⟩:Eg))[q]=⟨(WS b.d.b[k].f[j])[q].1,(WS b.d.b[k].f[j])[q].2⟩:=by simp
   simp only [Ml.eq_2,FL G,cT,Ar G,BQ,W,wT q]
   rw [BV (x:=(IA b.b i:Int)+b.d.b[k].f[j].d) (by omega) (by omega),BV (x:=(IA b.b i:Int)+b.d.b[k].f[j].b) (by omega) (by omega),BV (x:=2*((IA b.b i:Int)+b.d.b[k].f[j].d)) (by omega) (by omega),BV (x:=2*((IA b.b i:Int)+b.d.b[k].f[j].b)) (by omega) (by omega),BV (by omega) (by omega),BV (by omega) (by omega),CU (by simp;omega) (by omega),BQ]
  ·intro m s
   simp only [Ml.eq_2,Fh,cF]) (by
  intro m s
  simp only [LU.eq_2,Fh,cF]) n (by omega) [] (by simp)]
 rw [Dg]
def Tf(d:At)(q j:Nat):List Int:=HZ (fun i p=>if Hz (q:Int) p=true then [(i:Int)]else []) 0 ((pls d).take j)
theorem Zn(d:At)(q:Nat):Tf d q (pls d).length=It d (q:Int):=by unfold Tf It;rw [Ch]
theorem Zr(d:At)(q j:Nat):(Tf d q j).length<=j:=by
 have:=HP (c:=1) (g:=fun i p=>if Hz (q:Int) p=true then [(i:Int)]else []) ((pls d).take j) 0 fun i p _=>by split<;>simp
 have B:((pls d).take j).length<=j:=by simp;omega
 unfold Tf;omega
def lC(N:Int)(br:List Int):Prop:=∀i,i<br.length->(0<=gd br i∧gd br i<=N-1)∧(0<i->gd br (i-1)<gd br i)
theorem Rs1{n:Nat}{br:List Int}{N:Int}(h:br.length<=1048576)(G:0<=N∧N<=1048576)(H:1048577<=n):DG (lC N br) (Zb n br N):=by
 rw [Zb]
 refine(Hx (L:=fun m i=>Mo n br N _ m i) (Q:=True) br.length 0 (fun i=>(0<=gd br i∧gd br i<=N-1)∧(0<i->gd br (i-1)<gd br i)) ?_ ?_ n 0 (by omega) (by omega) (by omega) (fun j _ h=>by omega)).iff ?_
 ·intro m i _ hi
  simp only [Mo.eq_2,FL hi,cT,gI hi,BQ,Kz,wT i,BV (x:=N-1) (by omega) (by omega)]
  by_cases c:0<=gd br i∧gd br i<=N-1
  ·have e:(decide (gd br i>=0)&&decide (gd br i<=N-1))=true:=QV.2 c
   rw [e]
   simp only [Ac,cF]
   by_cases c0:0<i
   ·have B:wrap .i64 ((i:Int)-1)=((i-1:Nat):Int):=by rw [BV (by omega) (by omega)];omega
    simp only [Aw (show(i:Int)>0 by omega),cT,B,gI (show i-1<br.length by omega),BQ]
    by_cases c1:gd br (i-1)<gd br i
    ·rw [Av (show¬gd br (i-1)>=gd br i by omega),cF];exact .inl ⟨⟨c,fun _=>c1⟩,rfl⟩
    ·rw [Aw (show gd br (i-1)>=gd br i by omega),cT];exact .inr ⟨fun h=>c1 (h.2 c0),rfl⟩
   ·simp only [Av (show¬(i:Int)>0 by omega),cF,BQ]
    exact .inl ⟨⟨c,fun h=>absurd h c0⟩,by trivial⟩
  ·have e:(decide (gd br i>=0)&&decide (gd br i<=N-1))=false:=by
    cases q:(decide (gd br i>=0)&&decide (gd br i<=N-1))with
    |false=>rfl
    |true=>exact absurd (QV.1 q) c
   rw [e]
   simp only [BC,cT,BQ]
   exact .inr ⟨fun h=>c h.1,by trivial⟩
 ·intro m i F E _
  obtain rfl:i=br.length:=by omega
  simp only [Mo.eq_2,Fh,cF]
  exact⟨true,rfl,by simp⟩
 ·exact⟨fun h i hi=>h.1 i (Nat.zero_le _) hi,fun h=>⟨fun i _ hi=>h i hi,trivial⟩⟩
theorem Rs2{n:Nat}{br:List Int}{v:Cd}(h:br.length<=1048576)(H:v.b.length<=1048576)(E:1048577<=n):DG (lC (v.b.length:Int) br) (YX n v br):=by
 rw [YX,kY,BQ,BV (by omega) (by omega),AW h E,BQ]
 have B:(br.all fun k=>decide (k>=0)&&decide (k<=(v.b.length:Int)-1))=true↔∀i,i<br.length->0<=gd br i∧gd br i<=(v.b.length:Int)-1:=by
  rw [CX]
  refine⟨fun g i hi=>?_,fun g k F=>?_⟩
  ·have:=g br[i] (AQ hi)
   rw [uX hi];exact QV.1 this
  ·obtain⟨i,hi,rfl⟩:=DB F
   have:=g i hi
   rw [uX hi]at this;exact QV.2 this
 cases c:(br.all fun k=>decide (k>=0)&&decide (k<=(v.b.length:Int)-1))with
 |true=>
  have B:=B.1 c
  obtain⟨r,e,G⟩:=Inc (n:=n) h E
  rw [cT,e,BQ,BQ]
  exact⟨r,rfl,G.trans ⟨fun g i hi=>⟨B i hi,g i hi⟩,fun g i hi=>(g i hi).2⟩⟩
 |false=>
  rw [cF,BQ]
  refine⟨false,rfl,by simp,fun g=>?_⟩
  rw [B.2 fun i hi=>(g i hi).1]at c;cases c
theorem sZ{n:Nat}{br:List Int}{x:Int}(h:br.length<=1048576)(F:1048577<=n):XN n br x=some (br.any fun y=>y==x):=by
 rw [XN]
 refine loop (L:=fun m i (_:Unit)=>NQ br x (fun E=>some false) m i) br.length (fun i _=>(br.any fun y=>y==x)=((br.drop i).any fun y=>y==x)) (fun o=>o=some (br.any fun y=>y==x)) ?_ ?_ n 0 () (by omega) (by omega) (by simp)
 ·intro m i _ hi B
  simp only [NQ.eq_2,FL hi,cT,Ar hi,BQ,wT i]
  rw [Df hi,List.any_cons]at B
  cases c:(br[i]==x)with
  |true=>rw [c,GR]at B;rw [B];exact .inr rfl
  |false=>rw [c,Dk]at B;exact .inl ⟨(),B,rfl⟩
 ·intro m _ B
  rw [GW]at B
  simp only [NQ.eq_2,Fh,cF,B,List.any_nil]
structure XE(b:AV)(x:Al):Prop where
 from_:0<=x.d∧x.d<DF b
 to_:0<=x.b∧x.b<DF b
 arc:x.c=1->∃p y c a,AU (pls b.b) (wrap .i64 (Int.tdiv x.b 2))=some p∧p∈pls b.b∧AU b.b.c p.c=some y∧AU b.d.b y.c=some c∧AU c.f x.f=some a∧(a.c=1∨a.c=2∨a.c=3)
theorem Rj{b:AV}(v:Dd b):∀x∈HV b,XE b x:=by
 have G:=v.design
 have hl:=EJ G.short G.few.1 G.few.2.2
 have nd:DF b=2*((pls b.b).length:Int):=rfl
 intro x hx
 simp only [HV,CM]at hx
 rcases hx with hx|hx
 ·refine GY (Q:=XE b) b.b.c 0 (fun i hi y B=>?_) x hx
  rw [DA]at B
  obtain⟨k,hk,_,Z,a0,vc⟩:=G.inst_at hi
  have ea:My b b.b.c[i]=b.d.b[k].f:=by unfold My;rw [Z]
  rw [VH,ea]at B
  refine GY (Q:=XE b) _ 0 (fun j J z E=>?_) y B
  rw [DA]at E
  obtain⟨⟨f0,f1⟩,⟨t0,t1⟩,kd⟩:=Uj vc J
  obtain⟨t,O,rfl⟩:=ED.1 E
  have tr:=YJ t O
  obtain⟨F,W⟩:=Ap f0
  have W:b.d.b[k].f[j].d=(F:Int):=W
  obtain⟨T,H⟩:=Ap t0
  have H:b.d.b[k].f[j].b=(T:Int):=H
  have b1:=(KT (d:=b.b) (q:=F) hi (by omega)).lt
  have Y:=KT (d:=b.b) (q:=T) hi (by omega)
  have b2:=Y.lt
  obtain⟨p,ep,I⟩:=Y.hit
  have I:(p.c==(i:Int)&&p.f==(T:Int))=true:=I
  simp only [AG,BB]at I
  have k3:¬3<b.d.b[k].f[j].c:=fun h=>by rw [Vk h]at O;cases O
  refine⟨?_,?_,fun _=>⟨p,b.b.c[i],b.d.b[k],b.d.b[k].f[j],?_,Dw ep,?_,Z,?_,by omega⟩⟩
  ·have U:0<=2*((IA b.b i:Int)+b.d.b[k].f[j].d)+t.1∧2*((IA b.b i:Int)+b.d.b[k].f[j].d)+t.1<DF b:=by rw [W];omega
   exact U
  ·have U:0<=2*((IA b.b i:Int)+b.d.b[k].f[j].b)+t.2∧2*((IA b.b i:Int)+b.d.b[k].f[j].b)+t.2<DF b:=by rw [H];omega
   exact U
  ·show AU (pls b.b) (wrap .i64 (Int.tdiv (2*((IA b.b i:Int)+b.d.b[k].f[j].b)+t.2) 2))=some p
   rw [H]
   have e1:Int.tdiv (2*((IA b.b i:Int)+(T:Int))+t.2) 2=((IA b.b i+T:Nat):Int):=by
    rw [Dy (by omega)];omega
   rw [e1,BV (by omega) (by omega),HM];exact ep
  ·rw [I.1];exact Ar hi
  ·exact Ar J
 ·refine GY (Q:=XE b) b.b.b 0 (fun q hq y B=>?_) x hx
  rw [DA]at B
  have hd:=(QK G hq).lt
  refine GY (Q:=XE b) _ 0 (fun j J z E=>?_) y B
  have hs:=PF _ (AQ J)
  simp only [dX,DX,Ec,or_false]at E
  rcases E with rfl|rfl
  ·exact⟨⟨by show(0:Int)<=2*_;omega,by show(2:Int)*_<_;omega⟩,⟨by show(0:Int)<=2*_;omega,by show(2:Int)*_<_;omega⟩,fun h=>by have h:(2:Int)=1:=h;omega⟩
  ·exact⟨⟨by show(0:Int)<=2*_+1;omega,by show(2:Int)*_+1<_;omega⟩,⟨by show(0:Int)<=2*_+1;omega,by show(2:Int)*_+1<_;omega⟩,fun h=>by have h:(2:Int)=1:=h;omega⟩
theorem AbF{n:Nat}{l:Br}{d:At}(v:Fs l d){p:CP}(G:p∈pls d):∃r,Wh n l d (Iu p)=some r:=by
 rw [Wh]
 by_cases c:p.c<0
 ·rw [Aw (show(Iu p).c<0 from c),cT];exact⟨_,rfl⟩
 ·obtain⟨x,H,F,B,I,E⟩:=v.place p G (by omega)
  have B:AU d.c (Iu p).c=some x:=B
  have E:AU H.b (Iu p).f=some F:=E
  rw [Av (show¬(Iu p).c<0 from c),cF,B,BQ,I,BQ,E,BQ];exact⟨_,rfl⟩
theorem Ld1{n:Nat}{b:AV}(v:Dd b){i:Nat}(hi:i<b.c.length)(hn:1048577<=n):Cf (fun r=>r.length=b.c[i].b.length) (gB n b (i:Int)):=by
 have B:=v.design
 have F:=v.wire i hi
 have hm:=F.many
 have hP:=F.cap
 have hl:=EJ B.short B.few.1 B.few.2.2
 have a3:(It b.b (i:Int)).length=b.c[i].c.length:=by rw [JH];have:=F.sink;omega
 have a2:snk b.b (i:Int)<=78:=BH CW hl
 have a1:=JH (d:=b.b) (q:=(i:Int))
 rw [gB,Ar hi,BQ,TO,CU (by simp;omega) (by omega),BQ,BQ,SF B.short B.few.1 B.few.2.2 hn,BQ,iI B (i:Int) hn,BQ]
 refine OI (L:=fun m j s=>Ll n b b.c[i] ((pls b.b).map Iu) (It b.b (i:Int)) _ m j s) (It b.b (i:Int)).length (fun _ s=>s.length=b.c[i].b.length) ?_ ?_ n _ (by omega) (by simp;omega)
 ·intro m j s Y E
  have G:j<b.c[i].c.length:=by omega
  have H:=F.sinks j G
  have O:=PF _ (AQ Y)
  obtain⟨a,Z⟩:=JL (t:=s) H.1 (by omega)
  obtain⟨p,ep,I⟩:=Ia (xs:=pls b.b) O.1 O.2
  obtain⟨r,er⟩:=AbF (n:=n) B (Dw I)
  have W:AU ((pls b.b).map Iu) (It b.b (i:Int))[j]=some (Iu p):=by
   obtain⟨N,hN⟩:=Ap O.1
   have hN:(It b.b (i:Int))[j]=(N:Int):=hN
   rw [hN]at I ⊢
   rw [HM,FR]
   rw [BZ]at I
   rw [I];rfl
  simp only [Ll.eq_2,FL Y,cT,Ar Y,gI G,BQ,Z,W,er,wT j]
  exact⟨_,by simpa using E,rfl⟩
 ·intro m s E
  simp only [Ll.eq_2,Fh,cF]
  have wx:wrap .i64 ((s.length:Int)-1)=((s.length-1:Nat):Int):=by rw [BV (by omega) (by omega)];omega
  rw [wx]
  have U:∀(m k:Nat) (s:List Int),k<b.c[i].b.length->s.length=b.c[i].b.length->k<m->Cf (fun r:List Int=>r.length=b.c[i].b.length) (Ls b.c[i] (fun a4 a0=>(some a0)) m (k:Int) s):=by
   intro m
   induction m with
   |zero=>intro k s _ _ h;omega
   |succ m ih=>
    intro k s H E hm
    by_cases c:0<k
    ·have J:decide ((k:Int)>0)=true:=Aw (by omega)
     have ht:=F.tree k c H
     obtain⟨a,Z⟩:=JL (t:=s) ht.1 (by omega)
     have wk:wrap .i64 ((k:Int)-1)=((k-1:Nat):Int):=by rw [BV (by omega) (by omega)];omega
     simp only [Ls.eq_2,J,cT,gI H,BQ,Z,gI (show k<s.length by omega),wk]
     exact ih (k-1) _ (by omega) (by simpa using E) (by omega)
    ·have J:decide ((k:Int)>0)=false:=Av (by omega)
     simp only [Ls.eq_2,J,cF]
     exact⟨s,rfl,E⟩
  exact U n (s.length-1) s (by omega) E (by omega)
theorem JB{l:List Bool}{i:Nat}(h:i<l.length):AU l (i:Int)=some (gb l i):=by rw [Ar h];simp [gb,h]
def Ed(L:List Al)(lv:List Bool)(u w:Int):Prop:=∃k,∃h:k<L.length,gb lv k=true∧L[k].d=u∧L[k].b=w
inductive LJ(L:List Al)(lv:List Bool)(src:Int->Prop):Int->Prop
 |src {u:Int}:src u->LJ L lv src u
 |step {u w:Int}:LJ L lv src u->Ed L lv u w->LJ L lv src w
theorem LJ.closed{L:List Al}{lv:List Bool}{s:Int->Prop}{Q:Int->Prop}(F:∀u,s u->Q u)(B:∀u w,Q u->Ed L lv u w->Q w){v:Int}(r:LJ L lv s v):Q v:=by
 induction r with
 |src h=>exact F _ h
 |step _ e E=>exact B _ _ E e
structure Vv(L:List Al)(lv:List Bool)(s:Int->Prop)(N:Nat)(out:List Bool):Prop where
 len:out.length=N
 iff:∀v:Nat,v<N->(gb out v=true↔LJ L lv s (v:Int))
def cf(l:List Bool):Nat:=l.countP (fun b=>!b)
theorem uV(l:List Bool):cf l<=l.length:=CW
theorem aH:∀{l:List Bool} {i:Nat},i<l.length->gb l i=false->cf (l.set i true)+1=cf l
 |[],i,h,_=>by simp at h
 |b::l,0,_,h=>by
  have h:b=false:=h
  subst h;simp [cf]
 |b::l,i+1,hi,h=>by
  have B:=aH (l:=l) (i:=i) (by simpa using hi) h
  unfold cf at B ⊢
  simp only [List.set_cons_succ,FD];omega
structure Pb(L:List Al)(N:Nat):Prop where
 from_:∀k (h:k<L.length),0<=L[k].d∧L[k].d<(N:Int)
 to_:∀k (h:k<L.length),0<=L[k].b∧L[k].b<(N:Int)
theorem Rc1{n:Nat}{L:List Al}{lv:List Bool}{N s:Nat}(hL:Pb L N)(a5:lv.length=L.length)(hl:L.length<=10000)(hN:N<=1000)(hs:s<N)(hn:1048577<=n):
 ∃out,lR n (N:Int) L lv (s:Int) true=some out∧Vv L lv (fun u=>u=(s:Int)) N out:=by
 rw [lR];(try simp only [jn]);rw [Gc (by omega) (by omega),BQ,Ar (show s<(List.replicate N false).length by simpa using hs),BQ,BZ]
 have a3:=Vt (L:=fun m (B:Bool×List Bool)=>Ju n L lv true (fun a1 G=>(some G)) m B.1 B.2) (fun B=>2*cf B.2+B.1.toNat)
  (fun B=>B.2.length=N∧gb B.2 s=true∧(∀v,v<N->gb B.2 v=true->LJ L lv (fun u=>u=(s:Int)) (v:Int))∧(B.1=false->∀k (h:k<L.length),gb lv k=true->gb B.2 L[k].d.toNat=true->gb B.2 L[k].b.toNat=true))
  (fun o=>∃out,o=some out∧Vv L lv (fun u=>u=(s:Int)) N out) ?_ n (true,(List.replicate N false).set s true) ?_ ?_
 ·exact a3
 ·rintro m ⟨q,out⟩ ⟨Y,h2,h3,h4⟩ ih
  have Y:out.length=N:=Y
  have h2:gb out s=true:=h2
  have h3:∀v,v<N->gb out v=true->LJ L lv (fun u=>u=(s:Int)) (v:Int):=h3
  simp only [Ju.eq_2,jn]
  cases q with
  |false=>
   have h4:=h4 rfl
   refine⟨out,rfl,Y,fun v hv=>⟨h3 v hv,fun r=>?_⟩⟩
   have:=LJ.closed (Q:=fun u=>0<=u∧u<(N:Int)∧gb out u.toNat=true) (fun u e=>by subst e;exact⟨by omega,by omega,by simpa using h2⟩) (fun u w hu e=>by
    obtain⟨k,H,e1,e2,e3⟩:=e
    subst e2 e3
    have:=hL.to_ k H
    exact⟨this.1,this.2,h4 k H e1 hu.2.2⟩) r
   simpa using this.2.2
  |true=>
   rw [cT]
   have O:=IC (L:=fun m' i (B:Bool×List Bool)=>JO L lv true (fun J a2 I=>(Ju n L lv true (fun a1 G=>(some G)) m J I)) m' B.1 i B.2) L.length
    (fun i B=>B.2.length=N∧gb B.2 s=true∧(∀v,v<N->gb B.2 v=true->LJ L lv (fun u=>u=(s:Int)) (v:Int))∧(∀v,gb out v=true->gb B.2 v=true)∧cf B.2<=cf out∧(B.1=true->cf B.2<cf out)∧(B.1=false->B.2=out∧∀k (h:k<L.length),k<i->gb lv k=true->gb out L[k].d.toNat=true->gb out L[k].b.toNat=true))
    (fun o=>∃out,o=some out∧Vv L lv (fun u=>u=(s:Int)) N out) ?_ ?_ n 0 (false,out) (by omega) (by omega) ⟨Y,h2,h3,fun v h=>h,Bj _,fun h=>Bool.noConfusion h,fun _=>⟨rfl,fun k _ h=>absurd h (AX k)⟩⟩
   ·exact O
   ·rintro m' i ⟨q,l⟩ hi ⟨Z,W,U,g4,g5,g6,g7⟩ kk
    have Z:l.length=N:=Z
    have W:gb l s=true:=W
    have U:∀v,v<N->gb l v=true->LJ L lv (fun u=>u=(s:Int)) (v:Int):=U
    have g4:∀v,gb out v=true->gb l v=true:=g4
    have g5:cf l<=cf out:=g5
    have g6:q=true->cf l<cf out:=g6
    have g7:q=false->l=out∧∀k (h:k<L.length),k<i->gb lv k=true->gb out L[k].d.toNat=true->gb out L[k].b.toNat=true:=g7
    have hF:=hL.from_ i hi
    have hT:=hL.to_ i hi
    obtain⟨F,eF⟩:=Ap hF.1
    have eF:L[i].d=(F:Int):=eF
    obtain⟨T,eT⟩:=Ap hT.1
    have eT:L[i].b=(T:Int):=eT
    have lF:F<l.length:=by omega
    have lT:T<l.length:=by omega
    show∃o',JO L lv true _ (m'+1) q (i:Int) l=some o'∧_
    simp only [JO.eq_2,FL hi,cT,Ar hi,BQ,Ac,cF,JB (show i<lv.length by omega),eF,eT,JB lF,JB lT,EH,BZ,wT i,jn]
    have skip:(gb lv i=true->gb l F=true->gb l T=true)->∃o',JO L lv true (fun J a2 I=>(Ju n L lv true (fun a1 G=>(some G)) m J I)) m' q ((i+1:Nat):Int) l=some o'∧Vv L lv (fun u=>u=(s:Int)) N o':=fun hc=>kk (q,l) ⟨Z,W,U,g4,g5,g6,fun hq=>by
     obtain⟨e,h⟩:=g7 hq
     refine⟨e,fun k H a4 a b=>?_⟩
     by_cases c:k=i
     ·subst c;subst e
      rw [eT,BZ]
      rw [eF,BZ]at b
      exact hc a b
     ·exact h k H (by omega) a b⟩
    cases c1:(gb lv i&&gb l F)with
    |false=>
     simp only [FF,cF]
     exact skip fun a b=>by rw [a,b]at c1;cases c1
    |true=>
     simp only [FS]
     simp only [AG]at c1
     cases c2:gb l T with
     |true=>
      simp only [Ac,cF]
      exact skip fun _ _=>c2
     |false=>
      simp only [BC,cT]
      have a6:=aH lT c2
      refine kk (true,l.set T true) ⟨by simpa using Z,?_,?_,?_,by show cf (l.set T true)<=_;omega,fun _=>by show cf (l.set T true)<_;omega,fun h=>by cases h⟩
      ·show gb (l.set T true) s=true
       rw [Kb lT];split
       ·rfl
       ·exact W
      ·intro v hv E
       have E:gb (l.set T true) v=true:=E
       rw [Kb lT]at E
       by_cases c:T=v
       ·subst c
        refine .step (U F (by omega) c1.2) ⟨i,hi,c1.1,eF,eT⟩
       ·rw [BU c]at E;exact U v hv E
      ·intro v E
       show gb (l.set T true) v=true
       rw [Kb lT];split
       ·rfl
       ·exact g4 v E
   ·rintro m' ⟨q,l⟩ ⟨Z,W,U,g4,g5,g6,g7⟩
    show∃o',JO L lv true _ (m'+1) q (L.length:Int) l=some o'∧_
    simp only [JO.eq_2,Fh,cF,jn]
    refine ih (q,l) ⟨Z,W,U,fun hq=>?_⟩ ?_
    ·obtain⟨e,h⟩:=g7 hq
     have e:l=out:=e
     subst e
     exact fun k H a b=>h k H H a b
    ·show 2*cf l+q.toNat<2*cf out+1
     cases q with
     |true=>have:=g6 rfl;have:cf l<cf out:=this;simp;omega
     |false=>have:cf l<=cf out:=g5;simp;omega
 ·have Y:=uV ((List.replicate N false).set s true)
  simp only [Er,GB]at Y
  show 2*cf ((List.replicate N false).set s true)+1<n
  omega
 ·have a0:s<(List.replicate N false).length:=by simpa using hs
  refine⟨by simp,by show gb ((List.replicate N false).set s true) s=true;rw [Kb a0,BE rfl],fun v hv E=>?_,fun h=>by cases h⟩
  have E:gb ((List.replicate N false).set s true) v=true:=E
  rw [Kb a0]at E
  by_cases c:s=v
  ·subst c;exact .src rfl
  ·rw [BU c]at E;simp [gb,hv]at E
theorem PA{b:AV}(v:Dd b):Pb (HV b) (2*(pls b.b).length):=
 ⟨fun k h=>by have:=(Rj v _ (AQ h)).from_;unfold DF at this;push_cast;omega,fun k h=>by have:=(Rj v _ (AQ h)).to_;unfold DF at this;push_cast;omega⟩
theorem pH{n:Nat}{L:List Al}{br:List Int}(H:L.length<=1048576)(F:br.length<=1048576)(G:1048577<=n):VS n L br=some (HZ (fun k (_:Al)=>[!(br.any fun y=>y==(k:Int))]) 0 L):=by
 rw [VS]
 rw [GE (xs:=L) (L:=fun m s i=>NI n L br (fun B E=>(some B)) m s i) (k:=fun s=>some s) (fun k (_:Al)=>[!(br.any fun y=>y==(k:Int))]) 1 0 (fun _ _ _=>by simp) (by omega) (by
  intro m i hi s I
  simp only [NI.eq_2,FL hi,cT,sZ F G,BQ,wT i]
  rw [CU (by simp;omega) (by omega),BQ]) (by
  intro m s
  simp only [NI.eq_2,Fh,cF]) n (by omega) [] (by simp)]
 rw [Dg]
theorem Zg{br:List Int}{i:Nat}(hi:i<br.length)(k:Int):((br.take (i+1)).any fun y=>y==k)=(((br.take i).any fun y=>y==k)||(br[i]==k)):=by
 rw [Bg hi,List.any_append];simp
theorem AeG{n:Nat}{w:Cd}{br:List Int}(Y:w.b.length<=1048576)(Z:br.length<=1048576)(W:lC (w.b.length:Int) br)(hn:1048577<=n):∃lv,qV n w br=some ⟨w,lv⟩∧lv.length=w.b.length∧∀k,k<w.b.length->gb lv k= !(br.any fun y=>y==(k:Int)):=by
 rw [qV,Gc (by omega) (by omega),BQ]
 refine loop (L:=fun m i l=>Pp w.b.length _ m i l) (List.replicate w.b.length false).length (fun i l=>l.length=w.b.length∧∀k,k<i->gb l k=true) (fun o=>∃lv,o=some (⟨w,lv⟩:DK)∧lv.length=w.b.length∧∀k,k<w.b.length->gb lv k= !(br.any fun y=>y==(k:Int))) ?_ ?_ n 0 (List.replicate w.b.length false) (by omega) (by simp;omega) ⟨by simp,fun k h=>absurd h (AX k)⟩
 ·intro m i l hi ⟨H,G⟩
  have E:i<l.length:=by rw [H];simpa using hi
  simp only [Pp.eq_2,FL hi,cT,JB E,BQ,BZ,wT i]
  refine .inl ⟨_,⟨by simpa using H,fun k B=>?_⟩,rfl⟩
  rw [Kb E]
  by_cases e:i=k
  ·rw [BE e]
  ·rw [BU e];exact G k (by omega)
 ·intro m l ⟨H,G⟩
  simp only [Pp.eq_2,Fh,cF]
  simp only [GB]at G
  refine loop (L:=fun m i l=>QD br _ m i l) br.length (fun i l=>l.length=w.b.length∧∀k,k<w.b.length->gb l k= !((br.take i).any fun y=>y==(k:Int))) (fun o=>∃lv,o=some (⟨w,lv⟩:DK)∧lv.length=w.b.length∧∀k,k<w.b.length->gb lv k= !(br.any fun y=>y==(k:Int))) ?_ ?_ n 0 l (by omega) (by omega) ⟨H,fun k B=>by rw [G k B];simp⟩
  ·intro m i l hi ⟨J,I⟩
   have U:=(W i hi).1
   rw [uX hi]at U
   obtain⟨X,F⟩:=Ap U.1
   have F:br[i]=(X:Int):=F
   have O:X<l.length:=by omega
   simp only [QD.eq_2,FL hi,cT,Ar hi,BQ,F,JB O,BZ,wT i]
   refine .inl ⟨_,⟨by simpa using J,fun k B=>?_⟩,rfl⟩
   rw [Kb O,Zg hi,F]
   by_cases e:X=k
   ·subst e;rw [BE rfl];simp
   ·have:((X:Int)==(k:Int))=false:=by rw [AJ];omega
    rw [BU e,I k B,this,Fu]
  ·intro m l ⟨J,I⟩
   simp only [QD.eq_2,Fh,cF]
   refine⟨l,rfl,J,fun k B=>?_⟩
   rw [I k B,Ch]
theorem xP{n:Nat}{c:List Int}(I:OZ c){s0:AA}(H:s0.d=c)(G:Int):∀(m k:Nat) (l:List Int) (x a d:Int),k<m->l.length+k<=3->HN c (AA.mk s0.d a d)->
 Cf (fun r=>r.1.length=l.length+k∧HN c r.2) (Ms n s0 G (fun E W Y B F=>(some (E,(AA.mk s0.d B F)))) m l x (k:Int) a d)
 |0,k,l,x,a,d,hm,_,_=>by omega
 |m+1,0,l,x,a,d,hm,hl,hs=>by
  rw [Ms.eq_2]
  exact Ao ⟨rfl,hs⟩
 |m+1,k+1,l,x,a,d,hm,hl,hs=>by
  have J:decide (((k+1:Nat):Int)>0)=true:=Aw (by omega)
  have w:wrap .i64 (((k+1:Nat):Int)-1)=(k:Int):=by rw [BV (by omega) (by omega)];omega
  rw [Ms.eq_2,J,cT,CU (by simp;omega) (by omega),BQ]
  refine Cf.bind (Nx I hs G) fun r _ ⟨U,_⟩=>?_
  rw [w]
  exact(xP I H G m k (l++[x]) _ _ _ (by omega) (by simp;omega) (U.mk2 H)).weaken fun r ⟨O,Z⟩=>⟨by rw [O];simp;omega,Z⟩
theorem DAx{n:Nat}{c:List Int}(E:OZ c){s:AA}(B:HN c s)(F:Int)(W:1048577<=n):Cf (fun r=>(1<=r.1.length∧r.1.length<=3)∧HN c r.2) (Yr n s F):=by
 rw [Yr]
 refine Cf.bind (Nx E B F) fun r _ ⟨I,_⟩=>Cf.bind (Nx E (I.mk2 B.code) 3) fun q _ ⟨H,O,U⟩=>?_
 have w:wrap .i64 (1+q.1)=((1+q.1.toNat:Nat):Int):=by rw [BV (by omega) (by omega)];omega
 rw [w]
 exact(xP E B.code F n _ [] _ _ _ (by omega) (by simp;omega) (H.mk2 B.code)).weaken fun r ⟨G,J⟩=>⟨⟨by rw [G];simp,by rw [G];simp;omega⟩,J⟩
theorem wE{n:Nat}{c:List Int}(Y:OZ c){s0:AA}(J:s0.d=c)(base:Int){E B:List Int×AA}(O:E.1.length<=3)(W:1<=B.1.length∧B.1.length<=3):∀(m i:Nat) (l:List Int) (a d:Int),E.1.length*B.1.length-i<m->i<=E.1.length*B.1.length->l.length=i->HN c (AA.mk s0.d a d)->
 Cf (fun r=>dI r.1∧HN c r.2) (MW n s0 base E B (fun H a1 G I=>(some ((Cc.mk E.1 B.1 H),(AA.mk s0.d G I)))) m l (i:Int) a d)
 |0,i,l,a,d,hm,_,_,_=>by omega
 |m+1,i,l,a,d,hm,hi,hl,hs=>by
  have a0:E.1.length*B.1.length<=3*3:=FE O W.2
  have wp:wrap .i64 ((E.1.length:Int)*(B.1.length:Int))=((E.1.length*B.1.length:Nat):Int):=by
   rw [←Int.natCast_mul,BV (by omega) (by omega)]
  rw [MW.eq_2];(try simp only [jn]);rw [wp]
  by_cases c0:i<E.1.length*B.1.length
  ·rw [FL c0,cT]
   refine Cf.bind (Nx Y hs 10) fun r _ ⟨h1,_⟩=>?_
   have hz:((B.1.length:Int)==0)=false:=by rw [AJ];omega
   have tm:Int.tmod (i:Int) (B.1.length:Int)=((i%B.1.length:Nat):Int):=rfl
   have F:∀(z:Int) (Z:AA),HN c Z->Cf (fun r=>dI r.1∧HN c r.2) (Option.bind (EU l [z] 8) fun z1=>MW n s0 base E B (fun H a1 G I=>(some ((Cc.mk E.1 B.1 H),(AA.mk s0.d G I)))) m z1 (wrap .i64 ((i:Int)+1)) Z.c Z.b):=fun z Z h'=>by
    rw [CU (by simp;omega) (by omega),BQ,wS (by omega)]
    exact wE Y J base O W m (i+1) _ _ _ (by omega) (by omega) (by simp;omega) (h'.mk2 J)
   have g2:(i:Int)>=(B.1.length:Int)->∃x,AU l (wrap .i64 ((i:Int)-(B.1.length:Int)))=some x:=fun h=>by
    rw [BV (by omega) (by omega)]
    obtain⟨x,U,_⟩:=Ia (xs:=l) (i:=(i:Int)-(B.1.length:Int)) (by omega) (by omega)
    exact⟨x,U⟩
   rw [hz,cF,tm]
   refine Be (fun q1=>?_) fun q1=>?_
   ·have q1:=Cu q1
    have a2:0<i:=by
     rcases Nat.eq_zero_or_pos i with e|e
     ·subst e;simp at q1
     ·exact e
    have w1:wrap .i64 ((i:Int)-1)=((i-1:Nat):Int):=by rw [BV (by omega) (by omega)];omega
    rw [w1,Ar (show i-1<l.length by omega),BQ]
    refine Cf.bind (Nx Y (h1.mk2 J) 20) fun r2 _ ⟨h2,_⟩=>Be (fun q2=>?_) fun _=>F _ _ h2
    obtain⟨x,U⟩:=g2 (Cu q2)
    rw [U,BQ]
    exact Cf.bind (Nx Y (h2.mk2 J) 20) fun r3 _ ⟨h3,_⟩=>F _ _ h3
   ·refine Be (fun q2=>?_) fun _=>F _ _ h1
    obtain⟨x,U⟩:=g2 (Cu q2)
    rw [U,BQ]
    exact Cf.bind (Nx Y (h1.mk2 J) 20) fun r3 _ ⟨h3,_⟩=>F _ _ h3
  ·rw [show decide ((i:Int)<((E.1.length*B.1.length:Nat):Int))=false from Av (by omega),cF]
   exact Ao ⟨⟨by show E.1.length<=_;omega,by show B.1.length<=_;omega,by show l.length<=_;omega⟩,hs⟩
theorem DTb{n:Nat}{c:List Int}(E:OZ c){s:AA}(B:HN c s)(base:Int)(H:1048577<=n):Cf (fun r=>dI r.1∧HN c r.2) (YT n s base):=by
 rw [YT];try simp only [jn]
 refine Cf.bind (DAx E B 60 H) fun r _ ⟨G,J⟩=>Cf.bind (DAx E (J.mk2 B.code) 40 H) fun q _ ⟨F,I⟩=>?_
 have:r.1.length*q.1.length<=3*3:=FE G.2 F.2
 exact wE E B.code base G.2 F n 0 [] _ _ (by omega) (by omega) rfl (I.mk2 B.code)
theorem DTs{n:Nat}{c:List Int}(E:OZ c){s:AA}(B:HN c s)(base:Int)(F:1048577<=n):Cf (fun r=>(r.1.length<=1048576∧∀t∈r.1,dI t)∧HN c r.2) (Ww n s base):=by
 rw [Ww]
 refine Cf.bind (DTb E B base F) fun r _ ⟨J,I⟩=>Cf.bind (DTb E (I.mk2 B.code) base F) fun q _ ⟨G,H⟩=>Ao ⟨⟨by simp,fun t ht=>?_⟩,H.mk2 B.code⟩
 rcases DX.1 ht with e|ht
 ·rw [e];exact J
 ·rw [Bb.1 ht];exact G
theorem uF{n:Nat}{c:List Int}(E:OZ c){s:AA}(B:HN c s)(kd f t z:Int)(I:1048577<=n):Cf (fun r=>uK r.1∧HN c r.2) (Ut n s kd f t z):=by
 rw [Ut]
 refine Be (fun _=>?_) fun _=>?_
 ·exact Cf.bind (Nx E B 10) fun r _ ⟨H,_⟩=>Cf.bind (DTs E (H.mk2 B.code) _ I) fun q _ ⟨F,G⟩=>Ao ⟨⟨F,by simp⟩,G.mk2 B.code⟩
 ·exact Cf.bind (Nx E B 20) fun r _ ⟨H,_⟩=>Cf.bind (DTs E (H.mk2 B.code) _ I) fun q _ ⟨F,G⟩=>Cf.bind (DTs E (G.mk2 B.code) 10 I) fun p _ ⟨J,O⟩=>Ao ⟨⟨F,J⟩,O.mk2 B.code⟩
theorem AdE:∀k:Nat,k<4->∀i:Nat,i<2^k->∀b:Nat,b<k->(fD .i64 (i:Int) (Px .i64 1 (IntKind.wrap IntKind.u64 (b:Int))) !=0)=true∨(0<=wrap .i64 ((i:Int)+(Px .i64 1 (IntKind.wrap IntKind.u64 (b:Int))))∧wrap .i64 ((i:Int)+(Px .i64 1 (IntKind.wrap IntKind.u64 (b:Int))))<((2^k:Nat):Int)):=by decide+kernel
theorem DSn{n:Nat}{cl:Bv}{k b:Nat}(F:k<4)(I:cl.g.length=2^k)(J:b<k)(U:1048577<=n):Cf (fun _=>True) (fK n cl (b:Int)):=by
 have O:2^k<=2^4:=FV (by omega) (by omega)
 have G:IntKind.wrap IntKind.u64 (b:Int)=(b:Int):=by
  have:∀b:Nat,b<4->IntKind.wrap IntKind.u64 (b:Int)=(b:Int):=by decide+kernel
  exact this b (by omega)
 rw [fK,G,Av (by omega),cF]
 refine loop (L:=fun m i (p:Bool×Bool)=>LR cl (b:Int) _ m p.1 p.2 i) cl.g.length (fun _ _=>True) (fun o=>Cf (fun _=>True) o) ?_ ?_ n 0 (false,false) (by omega) (by omega) trivial
 ·intro m i p hi _
  have h8:=AdE k F i (by omega) b J
  simp only [LR.eq_2,FL hi,cT,wT i]
  rcases h8 with h8|h8
  ·simp only [h8,cT]
   exact .inl ⟨p,trivial,rfl⟩
  ·obtain⟨y,H,_⟩:=Ia (xs:=cl.g) h8.1 (by rw [I];exact h8.2)
   cases hx:(fD .i64 (i:Int) (Px .i64 1 (IntKind.wrap IntKind.u64 (b:Int))) !=0)with
   |true=>simp only [cT];exact .inl ⟨p,trivial,rfl⟩
   |false=>
    simp only [cF,Ar hi,H,BQ]
    obtain⟨B,E⟩:=p
    cases B<;>cases E<;>exact .inl ⟨(_,_),trivial,rfl⟩
 ·intro m p _
  simp only [LR.eq_2,Fh,cF]
  obtain⟨B,E⟩:=p
  cases B<;>cases E<;>exact Ao trivial
theorem nm4{j:Nat}(h:j<4):∃x:ByteArray,AU ([(ByteArray.mk #[97]),(ByteArray.mk #[98]),(ByteArray.mk #[99]),(ByteArray.mk #[100])]) (j:Int)=some x∧x.size<=1048576:=by
 match j,h with
 |0,_=>exact⟨_,rfl,by decide⟩
 |1,_=>exact⟨_,rfl,by decide⟩
 |2,_=>exact⟨_,rfl,by decide⟩
 |3,_=>exact⟨_,rfl,by decide⟩
theorem yJ{n:Nat}{c:List Int}(I:OZ c){s0:AA}(E:s0.d=c){T:List Int}{k:Nat}(O:k<4)(G:T.length=2^k){Q:Bv×AA->Prop}{k0:List EF->Int->Int->Int->Option (Bv×AA)}
 (H:∀l i a d,l.length=k->qZ l->HN c (AA.mk s0.d a d)->Cf Q (k0 l i a d)):∀(m j:Nat) (l:List EF) (a d:Int),k-j<m->j<=k->l.length=j->qZ l->HN c (AA.mk s0.d a d)->
 Cf Q (RK n s0 T k0 m l ((2^j:Nat):Int) a d)
 |0,j,l,a,d,hm,_,_,_,_=>by omega
 |m+1,j,l,a,d,hm,hj,hl,hp,hs=>by
  rw [RK.eq_2,G]
  by_cases q:j<k
  ·have F:2^j<2^k:=Nat.pow_lt_pow_right (by omega) q
   have Y:2^k<=2^4:=FV (by omega) (by omega)
   have J:wrap .i64 (2*((2^j:Nat):Int))=((2^(j+1):Nat):Int):=by
    rw [Nat.pow_succ]
    generalize 2^j=P at F ⊢
    rw [BV (by omega) (by omega)];omega
   obtain⟨x,W,Z⟩:=nm4 (j:=j) (by omega)
   rw [FL F,cT,hl,W,BQ,J]
   refine Cf.bind (Nx I hs 9) fun r _ ⟨U,_⟩=>?_
   rw [CU (by simp;omega) (by omega),BQ]
   refine yJ I E O G H m (j+1) _ _ _ (by omega) (by omega) (by simp;omega) ⟨by simp;omega,fun p B=>?_⟩ (U.mk2 E)
   rcases CM.1 B with h|h
   ·exact hp.2 p h
   ·rw [Bb.1 h];exact Z
  ·obtain rfl:j=k:=by omega
   rw [Fh,cF]
   exact H l _ a d hl hp hs
theorem rA{n:Nat}(U:1048577<=n){c:List Int}(hc:OZ c){s0:AA}(W:s0.d=c){T:List Int}{k:Nat}(Y:k<4)(Z:T.length=2^k){O:ByteArray}(G:O.size<=1048576){B E:Int×AA}{ps z:List EF}(F:ps.length=k)(hz:qZ z):∀(m i:Nat) (l:List DW) (a d:Int),k-i<m->i<=k->l.length<=i->(∀x∈l,uK x)->HN c (AA.mk s0.d a d)->
 Cf (fun r=>ZS r.1∧HN c r.2) (On n s0 O T B E ps z (fun J a0 I H=>(some ((Bv.mk O 1 z J T B.1 E.1),(AA.mk s0.d I H)))) m l (i:Int) a d)
 |0,i,l,a,d,hm,_,_,_,_=>by omega
 |m+1,i,l,a,d,hm,hi,hl,hA,hs=>by
  have a1:2^k<=2^4:=FV (by omega) (by omega)
  rw [On.eq_2,F]
  by_cases q:i<k
  ·rw [FL q,cT,wS (by omega)]
   refine Cf.bind (DSn (cl:=Bv.mk O 1 z [] T B.1 E.1) Y Z q U) fun sn _ _=>Be (fun _=>?_) fun _=>rA U hc W Y Z G F hz m (i+1) l a d (by omega) (by omega) (by omega) hA hs
   refine Cf.bind (uF hc hs 1 _ _ _ U) fun r _ ⟨h1,h2⟩=>?_
   rw [CU (by simp;omega) (by omega),BQ]
   refine rA U hc W Y Z G F hz m (i+1) _ _ _ (by omega) (by omega) (by simp;omega) (fun x hx=>?_) (h2.mk2 W)
   rcases CM.1 hx with h|h
   ·exact hA x h
   ·rw [Bb.1 h];exact h1
  ·obtain rfl:i=k:=by omega
   rw [Fh,cF]
   exact Ao ⟨⟨G,hz,⟨by show l.length<=_;omega,hA⟩,by show T.length<=_;omega⟩,hs⟩
theorem tF{n:Nat}{c:List Int}(O:OZ c){s:AA}(G:HN c s){J:ByteArray}(a0:J.size<=1048576){T:List Int}{k:Nat}(hk:k<4)(hT:T.length=2^k)(hn:1048577<=n):Cf (fun r=>ZS r.1∧HN c r.2) (jR n s J T):=by
 rw [jR]
 refine Cf.bind (Nx O G 50) fun r _ ⟨h1,_⟩=>Cf.bind (Nx O (h1.mk2 G.code) 80) fun q _ ⟨h2,_⟩=>?_
 have:=yJ (n:=n) (s0:=s) (Q:=fun r=>ZS r.1∧HN c r.2) O G.code hk hT (k0:=fun F a2 W U=>(Option.bind (EU F ([(EF.mk ((ByteArray.mk #[121])) 2 0 false)]) 40) fun B=>(On n s J T r q F B (fun I a1 H E=>(some ((Bv.mk J 1 B I T r.1 q.1),(AA.mk s.d H E)))) n (([]:List DW)) 0 W U))) (fun l i a d hl hp Z=>by
  rw [CU (by simp;omega) (by omega),BQ]
  refine rA hn O G.code hk hT a0 hl ⟨by simp;omega,fun p Y=>?_⟩ n 0 [] a d (by omega) (by omega) (by simp) (by simp) Z
  rcases CM.1 Y with h|h
  ·exact hp.2 p h
  ·rw [Bb.1 h];exact(by decide:(ByteArray.mk #[121]).size<=1048576)) n 0 [] q.2.c q.2.b (by omega) (by omega) rfl ⟨by simp,by simp⟩ (h2.mk2 G.code)
 exact this
theorem DFl{n:Nat}{c:List Int}(E:OZ c){s:AA}(O:HN c s){I:ByteArray}(G:I.size<=1048576)(kd ed:Int)(H:1048577<=n):Cf (fun r=>ZS r.1∧HN c r.2) (Wi n s I kd ed):=by
 have e:=O.code
 have B:∀x y:Int,qZ [(EF.mk ((ByteArray.mk #[100])) 1 x false),(EF.mk ((ByteArray.mk #[99,107])) 1 y true),(EF.mk ((ByteArray.mk #[113])) 2 0 false)]:=fun x y=>⟨by simp,fun p hp=>by
  rcases DX.1 hp with h|hp
  ·rw [h];exact(by decide:(ByteArray.mk #[100]).size<=1048576)
  ·rcases DX.1 hp with h|hp
   ·rw [h];exact(by decide:(ByteArray.mk #[99,107]).size<=1048576)
   ·rw [Bb.1 hp];exact(by decide:(ByteArray.mk #[113]).size<=1048576)⟩
 rw [Wi]
 refine Cf.bind (Nx E O 50) fun r1 _ ⟨Y,_⟩=>Cf.bind (Nx E (Y.mk2 e) 80) fun r2 _ ⟨U,_⟩=>Cf.bind (Nx E (U.mk2 e) 9) fun r3 _ ⟨h3,_⟩=>Cf.bind (Nx E (h3.mk2 e) 9) fun r4 _ ⟨W,_⟩=>Cf.bind (uF E (W.mk2 e) _ _ _ _ H) fun r5 _ ⟨a5,Z⟩=>Cf.bind (uF E (Z.mk2 e) _ _ _ _ H) fun r6 _ ⟨a6,h6⟩=>Cf.bind (uF E (h6.mk2 e) _ _ _ _ H) fun r7 _ ⟨a7,J⟩=>Be (fun _=>?_) fun _=>?_
 ·refine Cf.bind (uF E (J.mk2 e) _ _ _ _ H) fun r8 _ ⟨a8,h8⟩=>?_
  rw [CU (by simp) (by omega),BQ]
  refine Ao ⟨⟨G,B _ _,⟨by simp,fun x F=>?_⟩,by simp⟩,h8.mk2 e⟩
  simp only [List.cons_append,Dg,DX,Ec,or_false]at F
  rcases F with h|h|h|h<;>rw [h]<;>assumption
 ·refine Ao ⟨⟨G,B _ _,⟨by simp,fun x F=>?_⟩,by simp⟩,J.mk2 e⟩
  simp only [DX,Ec,or_false]at F
  rcases F with h|h|h<;>rw [h]<;>assumption
theorem ZS.re{cl:Bv}(h:ZS cl){T:List Int}(B:T.length<=1048576):ZS (Bv.mk cl.d cl.c cl.b cl.f T cl.h cl.i):=⟨h.name,h.pins,h.arcs,B⟩
theorem DLi{n:Nat}{c:List Int}(E:OZ c){s:AA}(F:HN c s)(B:1048577<=n):Cf (fun r=>XV r.1∧HN c r.2) (cK n s):=by
 have e:=F.code
 rw [cK]
 refine Cf.bind (tF E F (k:=1) (by decide) (by decide) (by decide) B) fun r1 _ ⟨a1,J⟩=>Cf.bind (tF E (J.mk2 e) (k:=1) (by decide) (by decide) (by decide) B) fun r2 _ ⟨a2,H⟩=>Cf.bind (tF E (H.mk2 e) (k:=2) (by decide) (by decide) (by decide) B) fun r3 _ ⟨W,h3⟩=>Cf.bind (tF E (h3.mk2 e) (k:=2) (by decide) (by decide) (by decide) B) fun r4 _ ⟨Z,I⟩=>Cf.bind (tF E (I.mk2 e) (k:=3) (by decide) (by decide) (by decide) B) fun r5 _ ⟨Y,U⟩=>Cf.bind (DFl E (U.mk2 e) (by decide) _ _ B) fun r6 _ ⟨a6,h6⟩=>Cf.bind (DFl E (h6.mk2 e) (by decide) _ _ B) fun r7 _ ⟨a7,O⟩=>Cf.bind (DFl E (O.mk2 e) (by decide) _ _ B) fun r8 _ ⟨a8,h8⟩=>?_
 have b1:=a1.re (T:=[1,0]) (by decide)
 have b2:=a2.re (T:=[0,1]) (by decide)
 have b3:=W.re (T:=[1,1,1,0]) (by decide)
 have b4:=Z.re (T:=[0,1,1,0]) (by decide)
 have b5:=Y.re (T:=[0,1,0,1,0,0,1,1]) (by decide)
 refine Ao ⟨⟨by simp,fun x G=>?_⟩,h8.mk2 e⟩
 simp only [DX,Ec,or_false]at G
 rcases G with h|h|h|h|h|h|h|h<;>rw [h]<;>assumption
theorem Qw{α:Type}{A:α->Prop}{o:Option α}{f:α->Option Unit}(h:Cf A o)(k:∀v,A v->f v=some ()):Option.bind o f=some ():=by
 obtain⟨v,e,B⟩:=h
 rw [e];exact k v B
theorem Iz{b:Bool}{x y:Option Unit}(B:b=true->x=some ())(E:b=false->y=some ()):(cond b x y)=some ():=by
 cases b
 ·exact E rfl
 ·exact B rfl
theorem dQ{α:Type}{l y:List α}(h:JJ Eq l y):y=l:=by
 apply Cl
 intro i
 by_cases c:i<l.length
 ·have B:l[i]? =some l[i]:=AK c
  have E:y[i]? =some (y[i]'(by have:=h.1;omega)):=AK _
  rw [B,E,h.2 i _ _ B E]
 ·rw [BM (by have:=h.1;omega),BM (by omega)]
theorem WZ{α:Type}{r:α->α->Prop}{Q R:α->Prop}{l y:List α}(h:JJ r l y)(E:∀x∈l,Q x)(G:∀x z,r x z->Q x->R z):∀z∈y,R z:=fun z F=>by
 obtain⟨i,hi,rfl⟩:=GN.1 F
 have B:i<l.length:=by have:=h.1;omega
 exact G l[i] y[i] (h.2 i _ _ (AK B) (AK hi)) (E _ (AQ B))
def Pc(x:Bq):Prop:=x.d.size<=1000∧1<=x.b.length∧x.b.length<=5
structure QW(d:At):Prop where
 inst:d.c.length<=6∧∀x∈d.c,Pc x
 nets:(3<=d.b.length∧d.b.length<=9)∧∀x∈d.b,x.size<=1000
 ports:(3<=d.d.length∧d.d.length<=5)∧∀p∈d.d,p.d.size<=1000
theorem Pc.shp{l y:List Bq}(h:JJ KM l y)(F:∀x∈l,Pc x):∀z∈y,Pc z:=
 WZ h F fun x z E B=>⟨by rw [←E.1];exact B.1,by rw [E.2.2.1];exact B.2.1,by rw [E.2.2.1];exact B.2.2⟩
theorem SJ{x y:ByteArray}(h:x.size+y.size<=1000):SB x y=some (x++y)∧(x++y).size=x.size+y.size:=by
 refine⟨?_,ByteArray.size_append⟩
 unfold SB
 rw [BU (by
  have:IntKind.i64.max=9223372036854775807:=rfl
  rw [this];omega)]
theorem yB{j:Nat}(h:j<12):∃(x:Int) (p:Nat),AU [0,1,2,2,3,4,5,5,5,6,7,1] (j:Int)=some x∧AU [2,2,3,3,4,3,3,3] x=some (p:Int)∧2<=p∧p<=4:=by
 match j,h with
 |0,_=>exact⟨0,2,rfl,rfl,by omega,by omega⟩
 |1,_=>exact⟨1,2,rfl,rfl,by omega,by omega⟩
 |2,_=>exact⟨2,3,rfl,rfl,by omega,by omega⟩
 |3,_=>exact⟨2,3,rfl,rfl,by omega,by omega⟩
 |4,_=>exact⟨3,3,rfl,rfl,by omega,by omega⟩
 |5,_=>exact⟨4,4,rfl,rfl,by omega,by omega⟩
 |6,_=>exact⟨5,3,rfl,rfl,by omega,by omega⟩
 |7,_=>exact⟨5,3,rfl,rfl,by omega,by omega⟩
 |8,_=>exact⟨5,3,rfl,rfl,by omega,by omega⟩
 |9,_=>exact⟨6,3,rfl,rfl,by omega,by omega⟩
 |10,_=>exact⟨7,3,rfl,rfl,by omega,by omega⟩
 |11,_=>exact⟨1,2,rfl,rfl,by omega,by omega⟩
theorem tL{n:Nat}{c:List Int}(W:OZ c){s0:AA}(I:s0.d=c){F:List ByteArray}{B:Int}{p:Nat}(Y:AU [2,2,3,3,4,3,3,3] B=some (p:Int))(O:2<=p∧p<=4){J:Int->Int->Int->ByteArray->Int->List Int->Option Unit}{t:ByteArray}{U:Int}
 (Z:∀a d l,l.length=p-1->HN c (AA.mk s0.d a d)->J ((p-1:Nat):Int) a d t U l=some ()):∀(m i:Nat) (a d:Int) (l:List Int),p-1-i<m->i<=p-1->l.length=i->HN c (AA.mk s0.d a d)->
 Pm n s0 F B J m (i:Int) a d t U l=some ()
 |0,i,a,d,l,hm,_,_,_=>by omega
 |m+1,i,a,d,l,hm,hi,hl,hs=>by
  have wp:wrap .i64 ((p:Int)-1)=((p-1:Nat):Int):=by rw [BV (by omega) (by omega)];omega
  rw [Pm.eq_2];(try simp only [jn]);rw [Y,BQ,wp]
  by_cases q:i<p-1
  ·have E:∀(x:Int) (G:AA),HN c G->(Option.bind (EU (([]:List Int)) l 8) fun z=>(Option.bind (EU z [x] 8) fun z2=>(Pm n s0 F B J m (wrap .i64 ((i:Int)+1)) G.c G.b t U z2)))=some ():=fun x G h'=>by
    rw [CU (by simp;omega) (by omega),BQ,Dg,CU (by simp;omega) (by omega),BQ,wS (by omega)]
    exact tL W I Y O Z m (i+1) _ _ _ (by omega) (by omega) (by simp;omega) (h'.mk2 I)
   rw [FL q,cT]
   exact Qw (Nx W hs _) fun r1 ⟨h1,_⟩=>Qw (Nx W (h1.mk2 I) 3) fun r2 ⟨H,_⟩=>Iz (fun _=>Iz (fun _=>E _ _ H) fun _=>E _ _ H) fun _=>Iz (fun _=>E _ _ H) fun _=>E _ _ H
  ·obtain rfl:i=p-1:=by omega
   rw [Fh,cF]
   exact Z a d l hl hs
theorem vE{n:Nat}(H:1048577<=n){c:List Int}(I:OZ c){s0:AA}(E:s0.d=c){k0:List Bq->List ByteArray->Int->Int->Int->Option Unit}
 (O:∀l B i a d,l.length<=6->B.length=3+l.length->(∀x∈l,Pc x)->(∀x∈B,ByteArray.size x<=1000)->HN c (AA.mk s0.d a d)->k0 l B i a d=some ()):∀(m k:Nat) (l:List Bq) (B:List ByteArray) (a d:Int),k<m->l.length+k<=6->B.length=3+l.length->(∀x∈l,Pc x)->(∀x∈B,ByteArray.size x<=1000)->HN c (AA.mk s0.d a d)->
 QP n s0 k0 m l B (k:Int) a d=some ()
 |0,k,l,B,a,d,hm,_,_,_,_,_=>by omega
 |m+1,0,l,B,a,d,hm,hl,hnl,hI,hN,hs=>by
  rw [QP.eq_2];try simp only [jn]
  exact O l B _ a d (by omega) hnl hI hN hs
 |m+1,k+1,l,B,a,d,hm,hl,hnl,hI,hN,hs=>by
  have hp:decide (((k+1:Nat):Int)>0)=true:=Aw (by omega)
  have w:wrap .i64 (((k+1:Nat):Int)-1)=(k:Int):=by rw [BV (by omega) (by omega)];omega
  rw [QP.eq_2];(try simp only [jn]);rw [hp,cT]
  refine Qw (Nx I hs 12) fun r ⟨h1,r0,r1⟩=>?_
  obtain⟨x,p,J,ep,Y,U⟩:=yB (j:=r.1.toNat) (by omega)
  rw [Int.toNat_of_nonneg r0]at J
  rw [J,BQ]
  refine Qw (Nb2 (n:=n) (k:=l.length) (by omega) H) fun t ht=>?_
  obtain⟨c1,c2⟩:=SJ (x:=ByteArray.mk #[117]) (y:=t) (by have:(ByteArray.mk #[117]).size=1:=rfl;omega)
  have z1:(ByteArray.mk #[117]).size=1:=rfl
  have z2:(ByteArray.mk #[110]).size=1:=rfl
  rw [c1,BQ]
  refine tL I E ep ⟨Y,U⟩ (fun a2 d2 l2 Z G=>?_) n 0 _ _ [] (by omega) (by omega) rfl (h1.mk2 E)
  rw [CU (by simp;omega) (by omega),BQ,Dg,CU (by simp;omega) (by omega),BQ]
  refine Qw (Nb2 (n:=n) (k:=B.length) (by omega) H) fun W a0=>?_
  obtain⟨c3,c4⟩:=SJ (x:=ByteArray.mk #[110]) (y:=W) (by omega)
  rw [c3,BQ,CU (by simp;omega) (by omega),BQ,CU (by simp;omega) (by omega),BQ,w]
  refine vE H I E O m k _ _ _ _ (by omega) (by simp;omega) (by simp;omega) (fun y F=>?_) (fun y F=>?_) G
  ·rcases CM.1 F with h|h
   ·exact hI y h
   ·rw [Bb.1 h]
    exact⟨by show(_:ByteArray).size<=1000;rw [c2];omega,by simp,by simp;omega⟩
  ·rcases CM.1 F with h|h
   ·exact hN y h
   ·rw [Bb.1 h,c4];omega
theorem nL{n:Nat}{c:List Int}(G:OZ c){s0:AA}(E:s0.d=c){O:RE}{F:Bool}{L:Nat}(Y:L<=6){B U:List ByteArray}{k4:Int->Int->Int->List Bq->List ByteArray->List ByteArray->Option Unit}
 (H:∀i a d l,l.length=L->(∀x∈l,Pc x)->HN c (AA.mk s0.d a d)->k4 i a d l B U=some ()):∀(m i:Nat) (a d:Int) (l:List Bq),L-i<m->i<=L->l.length=L->(∀x∈l,Pc x)->HN c (AA.mk s0.d a d)->
 QJ n s0 F O k4 m (i:Int) a d l B U=some ()
 |0,i,a,d,l,hm,_,_,_,_=>by omega
 |m+1,i,a,d,l,hm,hi,hl,hI,hs=>by
  rw [QJ.eq_2];try simp only [jn]
  by_cases q:i<l.length
  ·have hx:=hI _ (AQ q)
   rw [FL q,cT,wS (by omega)]
   refine Qw (Nx G hs 4) fun r ⟨Z,_⟩=>Qw (A:=fun _=>True) (Be (fun _=>?_) fun _=>Ao trivial) fun b _=>Iz (fun _=>?_) fun _=>nL G E Y H m (i+1) _ _ l (by omega) (by omega) hl hI (Z.mk2 E)
   ·rw [Ar q,BQ]
    exact Cf.bind (A:=fun _=>True) (Be (fun _=>Ao trivial) fun _=>Ao trivial) fun _ _ _=>Ao trivial
   ·rw [Ar q,BQ]
    refine Qw (Nx G (Z.mk2 E) _) fun r2 ⟨h2,_⟩=>?_
    rw [show(0:Int)=((0:Nat):Int)from rfl,Ar (show 0<l[i].b.length by have:=hx.2.1;omega),BQ]
    refine O.inn fun y W=>O.inn fun y2 J=>O.inn fun y3 I=>?_
    obtain rfl:=dQ J
    obtain rfl:=dQ I
    exact nL G E Y H m (i+1) _ _ y (by omega) (by omega) (by rw [W.1];exact hl) (Pc.shp W hI) (h2.mk2 E)
  ·obtain rfl:i=l.length:=by omega
   rw [Fh,cF]
   exact H _ a d l hl hI hs
theorem D05{n:Nat}(hn:1048577<=n){c:List Int}(H:OZ c){s:AA}(hs:HN c s){O:RE}{B:Int}(hm:2<=B∧B<=6){G:Bool}{g:At×AA->Option Unit}(hg:∀d Z,QW d->HN c Z->g (d,Z)=some ()):xF n O s B G g=some ():=by
 have e:=hs.code
 have wm:wrap .i64 (B-1)=B-1:=BV (by omega) (by omega)
 have n3:∀x∈[(ByteArray.mk #[110,99,107]),(ByteArray.mk #[110,97]),(ByteArray.mk #[110,98])],ByteArray.size x<=1000:=by decide
 rw [xF];(try simp only [jn]);rw [CU (by simp) (by omega),BQ,Dg,wm]
 refine Qw (Nx H hs _) fun r ⟨h1,r0,r1⟩=>?_
 have wr:wrap .i64 (2+r.1)=((2+r.1.toNat:Nat):Int):=by rw [BV (by omega) (by omega)];omega
 rw [wr]
 refine vE hn H e (fun l E i a d hl a1 hI hN U=>?_) n _ [] _ _ _ (by omega) (by simp;omega) rfl (by simp) n3 (h1.mk2 e)
 have Y:∀x:Int,∀p∈[(Dr.mk ((ByteArray.mk #[99,107])) 1 0),(Dr.mk ((ByteArray.mk #[97])) 1 1),(Dr.mk ((ByteArray.mk #[98])) 1 2),(Dr.mk ((ByteArray.mk #[121])) 2 x)],p.d.size<=1000:=fun x p I=>by
  simp only [DX,Ec,or_false]at I
  rcases I with h|h|h|h
  ·rw [h];exact(by decide:(ByteArray.mk #[99,107]).size<=1000)
  ·rw [h];exact(by decide:(ByteArray.mk #[97]).size<=1000)
  ·rw [h];exact(by decide:(ByteArray.mk #[98]).size<=1000)
  ·rw [h];exact(by decide:(ByteArray.mk #[121]).size<=1000)
 refine nL H e hl (fun i a d l2 a0 F J=>?_) n 0 a d l (by omega) (by omega) rfl hI U
 rw [CU (by simp) (by omega),BQ,Dg,CU (by simp) (by omega),BQ]
 refine Qw (Nx H J 2) fun q ⟨W,_⟩=>Iz (fun _=>Qw (Nx H (W.mk2 e) _) fun q2 ⟨k2,_⟩=>?_) fun _=>hg _ _ ⟨⟨by show l2.length<=6;omega,F⟩,⟨⟨by show 3<=E.length;omega,by show E.length<=9;omega⟩,hN⟩,⟨⟨by simp,by simp⟩,Y _⟩⟩ (W.mk2 e)
 rw [CU (by simp) (by omega),BQ]
 refine hg _ _ ⟨⟨by show l2.length<=6;omega,F⟩,⟨⟨by show 3<=E.length;omega,by show E.length<=9;omega⟩,hN⟩,⟨⟨by simp,by simp⟩,fun p I=>?_⟩⟩ (k2.mk2 e)
 rcases CM.1 I with h|h
 ·exact Y _ p h
 ·rw [Bb.1 h];exact(by decide:(ByteArray.mk #[122]).size<=1000)
theorem QW.short{d:At}(h:QW d):∀x∈d.c,x.b.length<=5:=fun x B=>(h.inst.2 x B).2.2
theorem QW.pls{d:At}(h:QW d):(pls d).length<=78:=EJ h.short (by have:=h.inst.1;omega) (by have:=h.ports.1.2;omega)
theorem AaH{n:Nat}{d:At}(h:QW d)(B:1048577<=n):Xk n d=some ((pls d).map Iu):=SF h.short (by have:=h.inst.1;omega) (by have:=h.ports.1.2;omega) B
theorem zY{n:Nat}{d:At}(h:QW d)(q:Int)(G:1048577<=n):∃r,fW n d q=some r∧r.length<=78:=by
 have H:=h.pls
 rw [fW,AaH h G,BQ]
 have e:((pls d).map Iu).length=(pls d).length:=by simp
 refine loop (L:=fun m i s=>Ki q ((pls d).map Iu) (fun B F=>some B) m s i) ((pls d).map Iu).length (fun i s=>s.length<=i) (fun o=>∃r,o=some r∧r.length<=78) ?_ ?_ n 0 [] (by omega) (by omega) (Bj _)
 ·intro m i s hi E
  refine .inl ?_
  simp only [Ki.eq_2,FL hi,cT,Ar hi,BQ,EH,wT i]
  cases c:(((pls d).map Iu)[i].b==q&& !((pls d).map Iu)[i].d)with
  |true=>rw [cT,CU (by simp;omega) (by omega),BQ];exact⟨_,by simp;omega,rfl⟩
  |false=>rw [cF];exact⟨s,by omega,rfl⟩
 ·intro m s E
  simp only [Ki.eq_2,Fh,cF]
  exact⟨s,rfl,by omega⟩
def Ph(w:DD):Prop:=(1<=w.b.length∧w.b.length<=4)∧(1<=w.d.length∧w.d.length<=4)∧(1<=w.f.length∧w.f.length<=4)∧w.c.length<=200
theorem Ph.shp{l y:List DD}(h:JJ Kr l y)(E:∀x∈l,Ph x):∀z∈y,Ph z:=
 WZ h E fun x z B F=>by
  have Y:=B.1.1;have I:=B.2.1.1;have h3:=B.2.2.1.1;have U:=B.2.2.2.1
  obtain⟨⟨J,O⟩,⟨H,Z⟩,⟨c1,G⟩,W⟩:=F
  exact⟨⟨by omega,by omega⟩,⟨by omega,by omega⟩,⟨by omega,by omega⟩,by omega⟩
theorem Xv{n:Nat}{l:List Int}(h:l.length<=1000):TO n l=some l:=by
 rw [TO,CU (by simp;omega) (by omega)];rfl
theorem yO{n:Nat}{c:List Int}(F:OZ c){s0:AA}(E:s0.d=c){Q:DD×AA->Prop}{k0:Int->Int->Int->List Int->List Int->List Int->Option (DD×AA)}
 (G:∀i a d (l1 l2 B:List Int),(1<=l1.length∧l1.length<=4)->l2.length=l1.length->B.length=l1.length->HN c (AA.mk s0.d a d)->Cf Q (k0 i a d l1 l2 B)):∀(m k:Nat) (a d:Int) (l1 l2 B:List Int),k<m->1<=l1.length->l1.length+k<=4->l2.length=l1.length->B.length=l1.length->HN c (AA.mk s0.d a d)->
 Cf Q (NP n s0 k0 m (k:Int) a d l1 l2 B)
 |0,k,a,d,l1,l2,B,hm,_,_,_,_,_=>by omega
 |m+1,0,a,d,l1,l2,B,hm,h1,h2,h3,h4,hs=>by
  rw [NP.eq_2]
  exact G _ a d l1 l2 B ⟨h1,by omega⟩ h3 h4 hs
 |m+1,k+1,a,d,l1,l2,B,hm,h1,h2,h3,h4,hs=>by
  have H:decide (((k+1:Nat):Int)>0)=true:=Aw (by omega)
  have w:wrap .i64 (((k+1:Nat):Int)-1)=(k:Int):=by rw [BV (by omega) (by omega)];omega
  rw [NP.eq_2,H,cT,Xv (show l1.length<=1000 by omega),BQ]
  refine Cf.bind (Nx F hs _) fun Y _ ⟨I,_⟩=>?_
  rw [CU (by simp;omega) (by omega),BQ,Xv (show l2.length<=1000 by omega),BQ]
  refine Cf.bind (Nx F (I.mk2 E) _) fun U _ ⟨O,_⟩=>?_
  rw [CU (by simp;omega) (by omega),BQ,Xv (show B.length<=1000 by omega),BQ]
  refine Cf.bind (Nx F (O.mk2 E) _) fun W _ ⟨J,_⟩=>?_
  rw [CU (by simp;omega) (by omega),BQ,w]
  exact yO F E G m k _ _ _ _ _ (by omega) (by simp) (by simp;omega) (by simp;omega) (by simp;omega) (J.mk2 E)
theorem wH{n:Nat}{c:List Int}(J:OZ c){s0:AA}(H:s0.d=c){l1 l2 G:List Int}(I:1<=l1.length∧l1.length<=4)(U:l2.length=l1.length)(Y:G.length=l1.length){L:Nat}(Z:L<=100):∀(m i:Nat) (a d:Int) (l:List Int),L-i<m->i<=L->l.length=L->HN c (AA.mk s0.d a d)->
 Cf (fun r=>(Ph r.1∧r.1.c.length<=100)∧HN c r.2) (NJ n s0 l1 (fun O F E B=>(some ((DD.mk l1 l2 G B),(AA.mk s0.d F E)))) m (i:Int) a d l)
 |0,i,a,d,l,hm,_,_,_=>by omega
 |m+1,i,a,d,l,hm,hi,hl,hs=>by
  rw [NJ.eq_2]
  by_cases q:i<l.length
  ·rw [FL q,cT]
   refine Cf.bind (Nx J hs _) fun r _ ⟨W,_⟩=>?_
   rw [Ar q,BQ,wS (by omega)]
   exact wH J H I U Y Z m (i+1) _ _ _ (by omega) (by omega) (by rw [Er];exact hl) (W.mk2 H)
  ·obtain rfl:i=l.length:=by omega
   rw [Fh,cF]
   exact Ao ⟨⟨⟨I,⟨by show 1<=l2.length;omega,by show l2.length<=4;omega⟩,⟨by show 1<=G.length;omega,by show G.length<=4;omega⟩,by show l.length<=200;omega⟩,by show l.length<=100;omega⟩,hs⟩
theorem DWr{n:Nat}(hn:1048577<=n){c:List Int}(H:OZ c){s:AA}(Z:HN c s){q:Nat}(hq:q<=100):Cf (fun r=>(Ph r.1∧r.1.c.length<=100)∧HN c r.2) (bD n s (q:Int)):=by
 have e:=Z.code
 rw [bD]
 refine Cf.bind (Nx H Z 6) fun r _ ⟨h1,_⟩=>?_
 rw [iZ,Gc (by omega) (by omega),BQ,BQ]
 refine Cf.bind (Nx H (h1.mk2 e) 4) fun W _ ⟨h2,z0,z1⟩=>?_
 have:=yO (n:=n) (s0:=s) (Q:=fun r=>(Ph r.1∧r.1.c.length<=100)∧HN c r.2) H e (k0:=fun a1 I O F J Y=>(NJ n s F (fun a0 G E B=>(some ((DD.mk F J Y B),(AA.mk s.d G E)))) n 0 I O (List.replicate q 0))) (fun i a d l1 l2 l3 k1 k2 k3 U=>
  wH H e k1 k2 k3 hq n 0 a d _ (by omega) (by omega) (by simp) U) n W.1.toNat W.2.c W.2.b [(-1)] [0] [r.1] (by omega) (by simp) (by simp;omega) rfl rfl (h2.mk2 e)
 rw [Int.toNat_of_nonneg z0]at this
 exact this
end Go.Proofs.YtpnjglnpdmgghaaGreatDoor
