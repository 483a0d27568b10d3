/- The plain law behind FnWorstSlacks: the plain function answers true; no condition. -/
import Derived.Test.YthojemmmflaicadGreatDoorLawFnWorstSlacksA
set_option linter.all false
set_option maxHeartbeats 4000000
namespace Go.Proofs.YthojemmmflaicadGreatDoor
open Go Go.RowKit Go.Eng
open Go.IntKind (wrap)
theorem rJ{n:Nat}{c:List Int}(hc:LD c){s:AA}(hs:Dw c s)(st:Int)(hn:1048577<=n):BH (fun r=>(1<=r.1.length∧r.1.length<=3)∧Dw c r.2) (Sy n s st):=by
 rw [Sy]
 refine BH.bind (Nx hc hs st) fun r _ ⟨h1,_⟩=>BH.bind (Nx hc (h1.mk2 hs.code) 3) fun q _ ⟨k1,k2,k3⟩=>?_
 have w:wrap .i64 (1+q.1)=((1+q.1.toNat:Nat):Int):=by rw [Aq (by omega) (by omega)];omega
 rw [w]
 exact(jH hc hs.code st n _ [] _ _ _ (by omega) (by simp;omega) (k1.mk2 hs.code)).weaken fun r ⟨q1,q2⟩=>⟨⟨by rw [q1];simp,by rw [q1];simp;omega⟩,q2⟩
theorem eA{n:Nat}{c:List Int}(hc:LD c){s0:AA}(e0:s0.code_=c)(base:Int){r15 r26:List Int×AA}(h15:r15.1.length<=3)(h26:1<=r26.1.length∧r26.1.length<=3):∀(m i:Nat) (l:List Int) (a d:Int),r15.1.length*r26.1.length-i<m->i<=r15.1.length*r26.1.length->l.length=i->Dw c (AA.mk s0.code_ a d)->
 BH (fun r=>Wo r.1∧Dw c r.2) (GC n s0 base r15 r26 (fun l52 i56 i58 i59=>(some ((BR.mk r15.1 r26.1 l52),(AA.mk s0.code_ i58 i59)))) m l (i:Int) a d)
 |0,i,l,a,d,hm,_,_,_=>by omega
 |m+1,i,l,a,d,hm,hi,hl,hs=>by
  have hprod:r15.1.length*r26.1.length<=3*3:=Nat.mul_le_mul h15 h26.2
  have wp:wrap .i64 ((r15.1.length:Int)*(r26.1.length:Int))=((r15.1.length*r26.1.length:Nat):Int):=by
   rw [←Int.natCast_mul,Aq (by omega) (by omega)]
  rw [GC.eq_2,wp]
  by_cases c0:i<r15.1.length*r26.1.length
  ·rw [Cj c0,cT]
   refine BH.bind (Nx hc hs 10) fun r _ ⟨h1,_⟩=>?_
   have hz:((r26.1.length:Int)==0)=false:=by rw [beq_eq_false_iff_ne];omega
   have tm:Int.tmod (i:Int) (r26.1.length:Int)=((i%r26.1.length:Nat):Int):=rfl
   have go1:∀(z:Int) (s':AA),Dw c s'->BH (fun r=>Wo r.1∧Dw c r.2) (Option.bind (Bw l [z] 8) fun z1=>GC n s0 base r15 r26 (fun l52 i56 i58 i59=>(some ((BR.mk r15.1 r26.1 l52),(AA.mk s0.code_ i58 i59)))) m z1 (wrap .i64 ((i:Int)+1)) s'.at_ s'.seed_):=fun z s' h'=>by
    rw [BL (by simp;omega) (by omega),Ao,wS (by omega)]
    exact eA hc e0 base h15 h26 m (i+1) _ _ _ (by omega) (by omega) (by simp;omega) (h'.mk2 e0)
   have g2:(i:Int)>=(r26.1.length:Int)->∃x,AM l (wrap .i64 ((i:Int)-(r26.1.length:Int)))=some x:=fun h=>by
    rw [Aq (by omega) (by omega)]
    obtain⟨x,hx,_⟩:=El (xs:=l) (i:=(i:Int)-(r26.1.length:Int)) (by omega) (by omega)
    exact⟨x,hx⟩
   rw [hz,cF,tm]
   refine Af (fun q1=>?_) fun q1=>?_
   ·have q1:=of_decide_eq_true q1
    have hi0:0<i:=by
     rcases Nat.eq_zero_or_pos i with e|e
     ·subst e;simp at q1
     ·exact e
    have w1:wrap .i64 ((i:Int)-1)=((i-1:Nat):Int):=by rw [Aq (by omega) (by omega)];omega
    rw [w1,AU (show i-1<l.length by omega),Ao]
    refine BH.bind (Nx hc (h1.mk2 e0) 20) fun r2 _ ⟨h2,_⟩=>Af (fun q2=>?_) fun _=>go1 _ _ h2
    obtain⟨x,hx⟩:=g2 (of_decide_eq_true q2)
    rw [hx,Ao]
    exact BH.bind (Nx hc (h2.mk2 e0) 20) fun r3 _ ⟨h3,_⟩=>go1 _ _ h3
   ·refine Af (fun q2=>?_) fun _=>go1 _ _ h1
    obtain⟨x,hx⟩:=g2 (of_decide_eq_true q2)
    rw [hx,Ao]
    exact BH.bind (Nx hc (h1.mk2 e0) 20) fun r3 _ ⟨h3,_⟩=>go1 _ _ h3
  ·rw [show decide ((i:Int)<((r15.1.length*r26.1.length:Nat):Int))=false from decide_eq_false (by omega),cF]
   exact AK ⟨⟨by show r15.1.length<=_;omega,by show r26.1.length<=_;omega,by show l.length<=_;omega⟩,hs⟩
theorem rK{n:Nat}{c:List Int}(hc:LD c){s:AA}(hs:Dw c s)(base:Int)(hn:1048577<=n):BH (fun r=>Wo r.1∧Dw c r.2) (TP n s base):=by
 rw [TP]
 refine BH.bind (rJ hc hs 60 hn) fun r _ ⟨h1,h2⟩=>BH.bind (rJ hc (h2.mk2 hs.code) 40 hn) fun q _ ⟨k1,k2⟩=>?_
 have:r.1.length*q.1.length<=3*3:=Nat.mul_le_mul h1.2 k1.2
 exact eA hc hs.code base h1.2 k1 n 0 [] _ _ (by omega) (by omega) rfl (k2.mk2 hs.code)
theorem nC{n:Nat}{c:List Int}(hc:LD c){s:AA}(hs:Dw c s)(base:Int)(hn:1048577<=n):BH (fun r=>(r.1.length<=1048576∧∀t∈r.1,Wo t)∧Dw c r.2) (Rg n s base):=by
 rw [Rg]
 refine BH.bind (rK hc hs base hn) fun r _ ⟨h1,h2⟩=>BH.bind (rK hc (h2.mk2 hs.code) base hn) fun q _ ⟨k1,k2⟩=>AK ⟨⟨by simp,fun t ht=>?_⟩,k2.mk2 hs.code⟩
 rcases List.mem_cons.1 ht with e|ht
 ·rw [e];exact h1
 ·rw [List.mem_singleton.1 ht];exact k1
theorem gB{n:Nat}{c:List Int}(hc:LD c){s:AA}(hs:Dw c s)(kd f t z:Int)(hn:1048577<=n):BH (fun r=>iB r.1∧Dw c r.2) (Pz n s kd f t z):=by
 rw [Pz]
 refine Af (fun _=>?_) fun _=>?_
 ·exact BH.bind (Nx hc hs 10) fun r _ ⟨h1,_⟩=>BH.bind (nC hc (h1.mk2 hs.code) _ hn) fun q _ ⟨k1,k2⟩=>AK ⟨⟨k1,by simp⟩,k2.mk2 hs.code⟩
 ·exact BH.bind (Nx hc hs 20) fun r _ ⟨h1,_⟩=>BH.bind (nC hc (h1.mk2 hs.code) _ hn) fun q _ ⟨k1,k2⟩=>BH.bind (nC hc (k2.mk2 hs.code) 10 hn) fun p _ ⟨p1,p2⟩=>AK ⟨⟨k1,p1⟩,p2.mk2 hs.code⟩
theorem qJ:∀k:Nat,k<4->∀i:Nat,i<2^k->∀b:Nat,b<k->(Vz .i64 (i:Int) (Lf .i64 1 (IntKind.wrap IntKind.u64 (b:Int))) !=0)=true∨(0<=wrap .i64 ((i:Int)+(Lf .i64 1 (IntKind.wrap IntKind.u64 (b:Int))))∧wrap .i64 ((i:Int)+(Lf .i64 1 (IntKind.wrap IntKind.u64 (b:Int))))<((2^k:Nat):Int)):=by decide+kernel
theorem sH{n:Nat}{cl:At}{k b:Nat}(hk:k<4)(ht:cl.Truth.length=2^k)(hb:b<k)(hn:1048577<=n):BH (fun _=>True) (UJ n cl (b:Int)):=by
 have h16:2^k<=2^4:=Nat.pow_le_pow_right (by omega) (by omega)
 have wb:IntKind.wrap IntKind.u64 (b:Int)=(b:Int):=by
  have:∀b:Nat,b<4->IntKind.wrap IntKind.u64 (b:Int)=(b:Int):=by decide+kernel
  exact this b (by omega)
 rw [UJ,wb,decide_eq_false (by omega),cF]
 refine loop (L:=fun m i (p:Bool×Bool)=>He cl (b:Int) _ m p.1 p.2 i) cl.Truth.length (fun _ _=>True) (fun o=>BH (fun _=>True) o) ?_ ?_ n 0 (false,false) (by omega) (by omega) trivial
 ·intro m i p hi _
  have h8:=qJ k hk i (by omega) b hb
  simp only [He.eq_2,Cj hi,cT,wT i]
  rcases h8 with h8|h8
  ·simp only [h8,cT]
   exact .inl ⟨p,trivial,rfl⟩
  ·obtain⟨y,hy,_⟩:=El (xs:=cl.Truth) h8.1 (by rw [ht];exact h8.2)
   cases hx:(Vz .i64 (i:Int) (Lf .i64 1 (IntKind.wrap IntKind.u64 (b:Int))) !=0)with
   |true=>simp only [cT];exact .inl ⟨p,trivial,rfl⟩
   |false=>
    simp only [cF,AU hi,hy,Ao]
    obtain⟨p1,p2⟩:=p
    cases p1<;>cases p2<;>exact .inl ⟨(_,_),trivial,rfl⟩
 ·intro m p _
  simp only [He.eq_2,DB,cF]
  obtain⟨p1,p2⟩:=p
  cases p1<;>cases p2<;>exact AK trivial
theorem sR{j:Nat}(h:j<4):∃x:ByteArray,AM ([(ByteArray.mk #[97]),(ByteArray.mk #[98]),(ByteArray.mk #[99]),(ByteArray.mk #[100])]) (j:Int)=some x∧x.size<=1048576:=by
 match j,h with
 |0,_=>exact⟨_,rfl,by decide⟩
 |1,_=>exact⟨_,rfl,by decide⟩
 |2,_=>exact⟨_,rfl,by decide⟩
 |3,_=>exact⟨_,rfl,by decide⟩
theorem fO{n:Nat}{c:List Int}(hc:LD c){s0:AA}(e0:s0.code_=c){T:List Int}{k:Nat}(hk:k<4)(hT:T.length=2^k){Q:At×AA->Prop}{k0:List Bz->Int->Int->Int->Option (At×AA)}
 (h0:∀l i a d,l.length=k->cL l->Dw c (AA.mk s0.code_ a d)->BH Q (k0 l i a d)):∀(m j:Nat) (l:List Bz) (a d:Int),k-j<m->j<=k->l.length=j->cL l->Dw c (AA.mk s0.code_ a d)->
 BH Q (NH n s0 T k0 m l ((2^j:Nat):Int) a d)
 |0,j,l,a,d,hm,_,_,_,_=>by omega
 |m+1,j,l,a,d,hm,hj,hl,hp,hs=>by
  rw [NH.eq_2,hT]
  by_cases q:j<k
  ·have h2:2^j<2^k:=Nat.pow_lt_pow_right (by omega) q
   have h16:2^k<=2^4:=Nat.pow_le_pow_right (by omega) (by omega)
   have hw:wrap .i64 (2*((2^j:Nat):Int))=((2^(j+1):Nat):Int):=by
    rw [Nat.pow_succ]
    generalize 2^j=P at h2 ⊢
    rw [Aq (by omega) (by omega)];omega
   obtain⟨x,hx,hz⟩:=sR (j:=j) (by omega)
   rw [Cj h2,cT,hl,hx,Ao,hw]
   refine BH.bind (Nx hc hs 9) fun r _ ⟨h1,_⟩=>?_
   rw [BL (by simp;omega) (by omega),Ao]
   refine fO hc e0 hk hT h0 m (j+1) _ _ _ (by omega) (by omega) (by simp;omega) ⟨by simp;omega,fun p hp2=>?_⟩ (h1.mk2 e0)
   rcases List.mem_append.1 hp2 with h|h
   ·exact hp.2 p h
   ·rw [List.mem_singleton.1 h];exact hz
  ·obtain rfl:j=k:=by omega
   rw [DB,cF]
   exact h0 l _ a d hl hp hs
theorem bH{n:Nat}(hn:1048577<=n){c:List Int}(hc:LD c){s0:AA}(e0:s0.code_=c){T:List Int}{k:Nat}(hk:k<4)(hT:T.length=2^k){nm:ByteArray}(hnm:nm.size<=1048576){r33 r41:Int×AA}{ps z:List Bz}(hps:ps.length=k)(hz:cL z):∀(m i:Nat) (l:List Bf) (a d:Int),k-i<m->i<=k->l.length<=i->(∀x∈l,iB x)->Dw c (AA.mk s0.code_ a d)->
 BH (fun r=>Tj r.1∧Dw c r.2) (Ju n s0 nm T r33 r41 ps z (fun l144 i148 i150 i151=>(some ((At.mk nm 1 z l144 T r33.1 r41.1),(AA.mk s0.code_ i150 i151)))) m l (i:Int) a d)
 |0,i,l,a,d,hm,_,_,_,_=>by omega
 |m+1,i,l,a,d,hm,hi,hl,hA,hs=>by
  have h16:2^k<=2^4:=Nat.pow_le_pow_right (by omega) (by omega)
  rw [Ju.eq_2,hps]
  by_cases q:i<k
  ·rw [Cj q,cT,wS (by omega)]
   refine BH.bind (sH (cl:=At.mk nm 1 z [] T r33.1 r41.1) hk hT q hn) fun sn _ _=>Af (fun _=>?_) fun _=>bH hn hc e0 hk hT hnm hps hz m (i+1) l a d (by omega) (by omega) (by omega) hA hs
   refine BH.bind (gB hc hs 1 _ _ _ hn) fun r _ ⟨h1,h2⟩=>?_
   rw [BL (by simp;omega) (by omega),Ao]
   refine bH hn hc e0 hk hT hnm hps hz m (i+1) _ _ _ (by omega) (by omega) (by simp;omega) (fun x hx=>?_) (h2.mk2 e0)
   rcases List.mem_append.1 hx with h|h
   ·exact hA x h
   ·rw [List.mem_singleton.1 h];exact h1
  ·obtain rfl:i=k:=by omega
   rw [DB,cF]
   exact AK ⟨⟨hnm,hz,⟨by show l.length<=_;omega,hA⟩,by show T.length<=_;omega⟩,hs⟩
theorem gH{n:Nat}{c:List Int}(hc:LD c){s:AA}(hs:Dw c s){nm:ByteArray}(hnm:nm.size<=1048576){T:List Int}{k:Nat}(hk:k<4)(hT:T.length=2^k)(hn:1048577<=n):BH (fun r=>Tj r.1∧Dw c r.2) (YJ n s nm T):=by
 rw [YJ]
 refine BH.bind (Nx hc hs 50) fun r _ ⟨h1,_⟩=>BH.bind (Nx hc (h1.mk2 hs.code) 80) fun q _ ⟨h2,_⟩=>?_
 have:=fO (n:=n) (s0:=s) (Q:=fun r=>Tj r.1∧Dw c r.2) hc hs.code hk hT (k0:=fun l75 i79 i81 i82=>(Option.bind (Bw l75 ([(Bz.mk ((ByteArray.mk #[121])) 2 0 false)]) 40) fun z106=>(Ju n s nm T r q l75 z106 (fun l144 i148 i150 i151=>(some ((At.mk nm 1 z106 l144 T r.1 q.1),(AA.mk s.code_ i150 i151)))) n (([]:List Bf)) 0 i81 i82))) (fun l i a d hl hp hs2=>by
  rw [BL (by simp;omega) (by omega),Ao]
  refine bH hn hc hs.code hk hT hnm hl ⟨by simp;omega,fun p hp2=>?_⟩ n 0 [] a d (by omega) (by omega) (by simp) (by simp) hs2
  rcases List.mem_append.1 hp2 with h|h
  ·exact hp.2 p h
  ·rw [List.mem_singleton.1 h];exact(by decide:(ByteArray.mk #[121]).size<=1048576)) n 0 [] q.2.at_ q.2.seed_ (by omega) (by omega) rfl ⟨by simp,by simp⟩ (h2.mk2 hs.code)
 exact this
theorem pK{n:Nat}{c:List Int}(hc:LD c){s:AA}(hs:Dw c s){nm:ByteArray}(hnm:nm.size<=1048576)(kd ed:Int)(hn:1048577<=n):BH (fun r=>Tj r.1∧Dw c r.2) (Rn n s nm kd ed):=by
 have e:=hs.code
 have pins:∀x y:Int,cL [(Bz.mk ((ByteArray.mk #[100])) 1 x false),(Bz.mk ((ByteArray.mk #[99,107])) 1 y true),(Bz.mk ((ByteArray.mk #[113])) 2 0 false)]:=fun x y=>⟨by simp,fun p hp=>by
  rcases List.mem_cons.1 hp with h|hp
  ·rw [h];exact(by decide:(ByteArray.mk #[100]).size<=1048576)
  ·rcases List.mem_cons.1 hp with h|hp
   ·rw [h];exact(by decide:(ByteArray.mk #[99,107]).size<=1048576)
   ·rw [List.mem_singleton.1 hp];exact(by decide:(ByteArray.mk #[113]).size<=1048576)⟩
 rw [Rn]
 refine BH.bind (Nx hc hs 50) fun r1 _ ⟨h1,_⟩=>BH.bind (Nx hc (h1.mk2 e) 80) fun r2 _ ⟨h2,_⟩=>BH.bind (Nx hc (h2.mk2 e) 9) fun r3 _ ⟨h3,_⟩=>BH.bind (Nx hc (h3.mk2 e) 9) fun r4 _ ⟨h4,_⟩=>BH.bind (gB hc (h4.mk2 e) _ _ _ _ hn) fun r5 _ ⟨a5,h5⟩=>BH.bind (gB hc (h5.mk2 e) _ _ _ _ hn) fun r6 _ ⟨a6,h6⟩=>BH.bind (gB hc (h6.mk2 e) _ _ _ _ hn) fun r7 _ ⟨a7,h7⟩=>Af (fun _=>?_) fun _=>?_
 ·refine BH.bind (gB hc (h7.mk2 e) _ _ _ _ hn) fun r8 _ ⟨a8,h8⟩=>?_
  rw [BL (by simp) (by omega),Ao]
  refine AK ⟨⟨hnm,pins _ _,⟨by simp,fun x hx=>?_⟩,by simp⟩,h8.mk2 e⟩
  simp only [List.cons_append,List.nil_append,List.mem_cons,List.not_mem_nil,or_false]at hx
  rcases hx with h|h|h|h<;>rw [h]<;>assumption
 ·refine AK ⟨⟨hnm,pins _ _,⟨by simp,fun x hx=>?_⟩,by simp⟩,h7.mk2 e⟩
  simp only [List.mem_cons,List.not_mem_nil,or_false]at hx
  rcases hx with h|h|h<;>rw [h]<;>assumption
theorem Tj.re{cl:At}(h:Tj cl){T:List Int}(hT:T.length<=1048576):Tj (At.mk cl.Name cl.Kind cl.Pins cl.Arcs T cl.Leak cl.Energy):=⟨h.name,h.pins,h.arcs,hT⟩
theorem rU{n:Nat}{c:List Int}(hc:LD c){s:AA}(hs:Dw c s)(hn:1048577<=n):BH (fun r=>SC r.1∧Dw c r.2) (Ve n s):=by
 have e:=hs.code
 rw [Ve]
 refine BH.bind (gH hc hs (k:=1) (by decide) (by decide) (by decide) hn) fun r1 _ ⟨a1,h1⟩=>BH.bind (gH hc (h1.mk2 e) (k:=1) (by decide) (by decide) (by decide) hn) fun r2 _ ⟨a2,h2⟩=>BH.bind (gH hc (h2.mk2 e) (k:=2) (by decide) (by decide) (by decide) hn) fun r3 _ ⟨a3,h3⟩=>BH.bind (gH hc (h3.mk2 e) (k:=2) (by decide) (by decide) (by decide) hn) fun r4 _ ⟨a4,h4⟩=>BH.bind (gH hc (h4.mk2 e) (k:=3) (by decide) (by decide) (by decide) hn) fun r5 _ ⟨a5,h5⟩=>BH.bind (pK hc (h5.mk2 e) (by decide) _ _ hn) fun r6 _ ⟨a6,h6⟩=>BH.bind (pK hc (h6.mk2 e) (by decide) _ _ hn) fun r7 _ ⟨a7,h7⟩=>BH.bind (pK hc (h7.mk2 e) (by decide) _ _ hn) fun r8 _ ⟨a8,h8⟩=>?_
 have b1:=a1.re (T:=[1,0]) (by decide)
 have b2:=a2.re (T:=[0,1]) (by decide)
 have b3:=a3.re (T:=[1,1,1,0]) (by decide)
 have b4:=a4.re (T:=[0,1,1,0]) (by decide)
 have b5:=a5.re (T:=[0,1,0,1,0,0,1,1]) (by decide)
 refine AK ⟨⟨by simp,fun x hx=>?_⟩,h8.mk2 e⟩
 simp only [List.mem_cons,List.not_mem_nil,or_false]at hx
 rcases hx with h|h|h|h|h|h|h|h<;>rw [h]<;>assumption
theorem LL{α:Type}{A:α->Prop}{o:Option α}{f:α->Option Unit}(h:BH A o)(k:∀v,A v->f v=some ()):Option.bind o f=some ():=by
 obtain⟨v,e,hv⟩:=h
 rw [e];exact k v hv
theorem FB{b:Bool}{x y:Option Unit}(h1:b=true->x=some ())(h2:b=false->y=some ()):(cond b x y)=some ():=by
 cases b
 ·exact h2 rfl
 ·exact h1 rfl
theorem VL{α:Type}{l y:List α}(h:FX Eq l y):y=l:=by
 apply List.ext_getElem?
 intro i
 by_cases c:i<l.length
 ·have h1:l[i]? =some l[i]:=List.getElem?_eq_getElem c
  have h2:y[i]? =some (y[i]'(by have:=h.1;omega)):=List.getElem?_eq_getElem _
  rw [h1,h2,h.2 i _ _ h1 h2]
 ·rw [List.getElem?_eq_none (by have:=h.1;omega),List.getElem?_eq_none (by omega)]
theorem Rt{α:Type}{r:α->α->Prop}{Q R:α->Prop}{l y:List α}(h:FX r l y)(hl:∀x∈l,Q x)(hr:∀x z,r x z->Q x->R z):∀z∈y,R z:=fun z hz=>by
 obtain⟨i,hi,rfl⟩:=List.mem_iff_getElem.1 hz
 have hi2:i<l.length:=by have:=h.1;omega
 exact hr l[i] y[i] (h.2 i _ _ (List.getElem?_eq_getElem hi2) (List.getElem?_eq_getElem hi)) (hl _ (List.getElem_mem hi2))
def LI(x:Av):Prop:=x.Name.size<=1000∧1<=x.Nets.length∧x.Nets.length<=5
structure Mh(d:AX):Prop where
 inst:d.Instances.length<=6∧∀x∈d.Instances,LI x
 nets:(3<=d.Nets.length∧d.Nets.length<=9)∧∀x∈d.Nets,x.size<=1000
 ports:(3<=d.Ports.length∧d.Ports.length<=5)∧∀p∈d.Ports,p.Name.size<=1000
theorem LI.shp{l y:List Av}(h:FX Gh l y)(hl:∀x∈l,LI x):∀z∈y,LI z:=
 Rt h hl fun x z hr hx=>⟨by rw [←hr.1];exact hx.1,by rw [hr.2.2.1];exact hx.2.1,by rw [hr.2.2.1];exact hx.2.2⟩
theorem Nj{x y:ByteArray}(h:x.size+y.size<=1000):NW x y=some (x++y)∧(x++y).size=x.size+y.size:=by
 refine⟨?_,ByteArray.size_append⟩
 unfold NW
 rw [if_neg (by
  have:IntKind.i64.max=9223372036854775807:=rfl
  rw [this];omega)]
theorem dN{j:Nat}(h:j<12):∃(x:Int) (p:Nat),AM [0,1,2,2,3,4,5,5,5,6,7,1] (j:Int)=some x∧AM [2,2,3,3,4,3,3,3] x=some (p:Int)∧2<=p∧p<=4:=by
 match j,h with
 |0,_=>exact⟨0,2,rfl,rfl,by omega,by omega⟩
 |1,_=>exact⟨1,2,rfl,rfl,by omega,by omega⟩
 |2,_=>exact⟨2,3,rfl,rfl,by omega,by omega⟩
 |3,_=>exact⟨2,3,rfl,rfl,by omega,by omega⟩
 |4,_=>exact⟨3,3,rfl,rfl,by omega,by omega⟩
 |5,_=>exact⟨4,4,rfl,rfl,by omega,by omega⟩
 |6,_=>exact⟨5,3,rfl,rfl,by omega,by omega⟩
 |7,_=>exact⟨5,3,rfl,rfl,by omega,by omega⟩
 |8,_=>exact⟨5,3,rfl,rfl,by omega,by omega⟩
 |9,_=>exact⟨6,3,rfl,rfl,by omega,by omega⟩
 |10,_=>exact⟨7,3,rfl,rfl,by omega,by omega⟩
 |11,_=>exact⟨1,2,rfl,rfl,by omega,by omega⟩
theorem iV{n:Nat}{c:List Int}(hc:LD c){s0:AA}(e0:s0.code_=c){nets:List ByteArray}{cell:Int}{p:Nat}(hp:AM [2,2,3,3,4,3,3,3] cell=some (p:Int))(hp2:2<=p∧p<=4){k2:Int->Int->Int->ByteArray->Int->List Int->Option Unit}{t:ByteArray}{i2:Int}
 (hk:∀a d l,l.length=p-1->Dw c (AA.mk s0.code_ a d)->k2 ((p-1:Nat):Int) a d t i2 l=some ()):∀(m i:Nat) (a d:Int) (l:List Int),p-1-i<m->i<=p-1->l.length=i->Dw c (AA.mk s0.code_ a d)->
 Hx n s0 nets cell k2 m (i:Int) a d t i2 l=some ()
 |0,i,a,d,l,hm,_,_,_=>by omega
 |m+1,i,a,d,l,hm,hi,hl,hs=>by
  have wp:wrap .i64 ((p:Int)-1)=((p-1:Nat):Int):=by rw [Aq (by omega) (by omega)];omega
  rw [Hx.eq_2,hp,Ao,wp]
  by_cases q:i<p-1
  ·have go1:∀(x:Int) (s':AA),Dw c s'->(Option.bind (Bw (([]:List Int)) l 8) fun z=>(Option.bind (Bw z [x] 8) fun z2=>(Hx n s0 nets cell k2 m (wrap .i64 ((i:Int)+1)) s'.at_ s'.seed_ t i2 z2)))=some ():=fun x s' h'=>by
    rw [BL (by simp;omega) (by omega),Ao,List.nil_append,BL (by simp;omega) (by omega),Ao,wS (by omega)]
    exact iV hc e0 hp hp2 hk m (i+1) _ _ _ (by omega) (by omega) (by simp;omega) (h'.mk2 e0)
   rw [Cj q,cT]
   exact LL (Nx hc hs _) fun r1 ⟨h1,_⟩=>LL (Nx hc (h1.mk2 e0) 3) fun r2 ⟨h2,_⟩=>FB (fun _=>FB (fun _=>go1 _ _ h2) fun _=>go1 _ _ h2) fun _=>FB (fun _=>go1 _ _ h2) fun _=>go1 _ _ h2
  ·obtain rfl:i=p-1:=by omega
   rw [DB,cF]
   exact hk a d l hl hs
theorem eN{n:Nat}(hn:1048577<=n){c:List Int}(hc:LD c){s0:AA}(e0:s0.code_=c){k0:List Av->List ByteArray->Int->Int->Int->Option Unit}
 (hk:∀l nets i a d,l.length<=6->nets.length=3+l.length->(∀x∈l,LI x)->(∀x∈nets,ByteArray.size x<=1000)->Dw c (AA.mk s0.code_ a d)->k0 l nets i a d=some ()):∀(m k:Nat) (l:List Av) (nets:List ByteArray) (a d:Int),k<m->l.length+k<=6->nets.length=3+l.length->(∀x∈l,LI x)->(∀x∈nets,ByteArray.size x<=1000)->Dw c (AA.mk s0.code_ a d)->
 MC n s0 k0 m l nets (k:Int) a d=some ()
 |0,k,l,nets,a,d,hm,_,_,_,_,_=>by omega
 |m+1,0,l,nets,a,d,hm,hl,hnl,hI,hN,hs=>by
  rw [MC.eq_2]
  exact hk l nets _ a d (by omega) hnl hI hN hs
 |m+1,k+1,l,nets,a,d,hm,hl,hnl,hI,hN,hs=>by
  have hp:decide (((k+1:Nat):Int)>0)=true:=decide_eq_true (by omega)
  have w:wrap .i64 (((k+1:Nat):Int)-1)=(k:Int):=by rw [Aq (by omega) (by omega)];omega
  rw [MC.eq_2,hp,cT]
  refine LL (Nx hc hs 12) fun r ⟨h1,r0,r1⟩=>?_
  obtain⟨x,p,ex,ep,p2,p4⟩:=dN (j:=r.1.toNat) (by omega)
  rw [Int.toNat_of_nonneg r0]at ex
  rw [ex,Ao]
  refine LL (rG (n:=n) (k:=l.length) (by omega) hn) fun t ht=>?_
  obtain⟨c1,c2⟩:=Nj (x:=ByteArray.mk #[117]) (y:=t) (by have:(ByteArray.mk #[117]).size=1:=rfl;omega)
  have z1:(ByteArray.mk #[117]).size=1:=rfl
  have z2:(ByteArray.mk #[110]).size=1:=rfl
  rw [c1,Ao]
  refine iV hc e0 ep ⟨p2,p4⟩ (fun a2 d2 l2 hl2 hs2=>?_) n 0 _ _ [] (by omega) (by omega) rfl (h1.mk2 e0)
  rw [BL (by simp;omega) (by omega),Ao,List.nil_append,BL (by simp;omega) (by omega),Ao]
  refine LL (rG (n:=n) (k:=nets.length) (by omega) hn) fun t2 ht2=>?_
  obtain⟨c3,c4⟩:=Nj (x:=ByteArray.mk #[110]) (y:=t2) (by omega)
  rw [c3,Ao,BL (by simp;omega) (by omega),Ao,BL (by simp;omega) (by omega),Ao,w]
  refine eN hn hc e0 hk m k _ _ _ _ (by omega) (by simp;omega) (by simp;omega) (fun y hy=>?_) (fun y hy=>?_) hs2
  ·rcases List.mem_append.1 hy with h|h
   ·exact hI y h
   ·rw [List.mem_singleton.1 h]
    exact⟨by show(_:ByteArray).size<=1000;rw [c2];omega,by simp,by simp;omega⟩
  ·rcases List.mem_append.1 hy with h|h
   ·exact hN y h
   ·rw [List.mem_singleton.1 h,c4];omega
theorem Ze{n:Nat}{c:List Int}(hc:LD c){s0:AA}(e0:s0.code_=c){O:NB}{wild:Bool}{L:Nat}(hL:L<=6){nets ps:List ByteArray}{k4:Int->Int->Int->List Av->List ByteArray->List ByteArray->Option Unit}
 (hk:∀i a d l,l.length=L->(∀x∈l,LI x)->Dw c (AA.mk s0.code_ a d)->k4 i a d l nets ps=some ()):∀(m i:Nat) (a d:Int) (l:List Av),L-i<m->i<=L->l.length=L->(∀x∈l,LI x)->Dw c (AA.mk s0.code_ a d)->
 MH n s0 wild O k4 m (i:Int) a d l nets ps=some ()
 |0,i,a,d,l,hm,_,_,_,_=>by omega
 |m+1,i,a,d,l,hm,hi,hl,hI,hs=>by
  rw [MH.eq_2]
  by_cases q:i<l.length
  ·have hx:=hI _ (List.getElem_mem q)
   rw [Cj q,cT,wS (by omega)]
   refine LL (Nx hc hs 4) fun r ⟨h1,_⟩=>LL (A:=fun _=>True) (Af (fun _=>?_) fun _=>AK trivial) fun b _=>FB (fun _=>?_) fun _=>Ze hc e0 hL hk m (i+1) _ _ l (by omega) (by omega) hl hI (h1.mk2 e0)
   ·rw [AU q,Ao]
    exact BH.bind (A:=fun _=>True) (Af (fun _=>AK trivial) fun _=>AK trivial) fun _ _ _=>AK trivial
   ·rw [AU q,Ao]
    refine LL (Nx hc (h1.mk2 e0) _) fun r2 ⟨h2,_⟩=>?_
    rw [show(0:Int)=((0:Nat):Int)from rfl,AU (show 0<l[i].Nets.length by have:=hx.2.1;omega),Ao]
    refine O.inn fun y hy=>O.inn fun y2 hy2=>O.inn fun y3 hy3=>?_
    obtain rfl:=VL hy2
    obtain rfl:=VL hy3
    exact Ze hc e0 hL hk m (i+1) _ _ y (by omega) (by omega) (by rw [hy.1];exact hl) (LI.shp hy hI) (h2.mk2 e0)
  ·obtain rfl:i=l.length:=by omega
   rw [DB,cF]
   exact hk _ a d l hl hI hs
theorem rQ{n:Nat}(hn:1048577<=n){c:List Int}(hc:LD c){s:AA}(hs:Dw c s){O:NB}{most:Int}(hm:2<=most∧most<=6){wild:Bool}{g:AX×AA->Option Unit}(hg:∀d s',Mh d->Dw c s'->g (d,s')=some ()):jJ n O s most wild g=some ():=by
 have e:=hs.code
 have wm:wrap .i64 (most-1)=most-1:=Aq (by omega) (by omega)
 have n3:∀x∈[(ByteArray.mk #[110,99,107]),(ByteArray.mk #[110,97]),(ByteArray.mk #[110,98])],ByteArray.size x<=1000:=by decide
 rw [jJ,BL (by simp) (by omega),Ao,List.nil_append,wm]
 refine LL (Nx hc hs _) fun r ⟨h1,r0,r1⟩=>?_
 have wr:wrap .i64 (2+r.1)=((2+r.1.toNat:Nat):Int):=by rw [Aq (by omega) (by omega)];omega
 rw [wr]
 refine eN hn hc e (fun l nets i a d hl hnl hI hN hs2=>?_) n _ [] _ _ _ (by omega) (by simp;omega) rfl (by simp) n3 (h1.mk2 e)
 have p3:∀x:Int,∀p∈[(CI.mk ((ByteArray.mk #[99,107])) 1 0),(CI.mk ((ByteArray.mk #[97])) 1 1),(CI.mk ((ByteArray.mk #[98])) 1 2),(CI.mk ((ByteArray.mk #[121])) 2 x)],p.Name.size<=1000:=fun x p hp=>by
  simp only [List.mem_cons,List.not_mem_nil,or_false]at hp
  rcases hp with h|h|h|h
  ·rw [h];exact(by decide:(ByteArray.mk #[99,107]).size<=1000)
  ·rw [h];exact(by decide:(ByteArray.mk #[97]).size<=1000)
  ·rw [h];exact(by decide:(ByteArray.mk #[98]).size<=1000)
  ·rw [h];exact(by decide:(ByteArray.mk #[121]).size<=1000)
 refine Ze hc e hl (fun i a d l2 hl2 hI2 hs3=>?_) n 0 a d l (by omega) (by omega) rfl hI hs2
 rw [BL (by simp) (by omega),Ao,List.nil_append,BL (by simp) (by omega),Ao]
 refine LL (Nx hc hs3 2) fun q ⟨k1,_⟩=>FB (fun _=>LL (Nx hc (k1.mk2 e) _) fun q2 ⟨k2,_⟩=>?_) fun _=>hg _ _ ⟨⟨by show l2.length<=6;omega,hI2⟩,⟨⟨by show 3<=nets.length;omega,by show nets.length<=9;omega⟩,hN⟩,⟨⟨by simp,by simp⟩,p3 _⟩⟩ (k1.mk2 e)
 rw [BL (by simp) (by omega),Ao]
 refine hg _ _ ⟨⟨by show l2.length<=6;omega,hI2⟩,⟨⟨by show 3<=nets.length;omega,by show nets.length<=9;omega⟩,hN⟩,⟨⟨by simp,by simp⟩,fun p hp=>?_⟩⟩ (k2.mk2 e)
 rcases List.mem_append.1 hp with h|h
 ·exact p3 _ p h
 ·rw [List.mem_singleton.1 h];exact(by decide:(ByteArray.mk #[122]).size<=1000)
theorem Mh.short{d:AX}(h:Mh d):∀x∈d.Instances,x.Nets.length<=5:=fun x hx=>(h.inst.2 x hx).2.2
theorem Mh.pls{d:AX}(h:Mh d):(pls d).length<=78:=CB h.short (by have:=h.inst.1;omega) (by have:=h.ports.1.2;omega)
theorem pP{n:Nat}{d:AX}(h:Mh d)(hn:1048577<=n):Sf n d=some ((pls d).map Gj):=Oq h.short (by have:=h.inst.1;omega) (by have:=h.ports.1.2;omega) hn
theorem oQ{n:Nat}{d:AX}(h:Mh d)(q:Int)(hn:1048577<=n):∃r,XE n d q=some r∧r.length<=78:=by
 have hl:=h.pls
 rw [XE,pP h hn,Ao]
 have e:((pls d).map Gj).length=(pls d).length:=by simp
 refine loop (L:=fun m i s=>HH q ((pls d).map Gj) (fun l38 i42=>some l38) m s i) ((pls d).map Gj).length (fun i s=>s.length<=i) (fun o=>∃r,o=some r∧r.length<=78) ?_ ?_ n 0 [] (by omega) (by omega) (Nat.le_refl _)
 ·intro m i s hi hs
  refine .inl ?_
  simp only [HH.eq_2,Cj hi,cT,AU hi,Ao,Bt,wT i]
  cases c:(((pls d).map Gj)[i].net_==q&& !((pls d).map Gj)[i].drives_)with
  |true=>rw [cT,BL (by simp;omega) (by omega),Ao];exact⟨_,by simp;omega,rfl⟩
  |false=>rw [cF];exact⟨s,by omega,rfl⟩
 ·intro m s hs
  simp only [HH.eq_2,DB,cF]
  exact⟨s,rfl,by omega⟩
def LQ(w:BW):Prop:=(1<=w.Parent.length∧w.Parent.length<=4)∧(1<=w.Res.length∧w.Res.length<=4)∧(1<=w.Cap.length∧w.Cap.length<=4)∧w.Sink.length<=200
theorem LQ.shp{l y:List BW}(h:FX Gw l y)(hl:∀x∈l,LQ x):∀z∈y,LQ z:=
 Rt h hl fun x z hr hx=>by
  have h1:=hr.1.1;have h2:=hr.2.1.1;have h3:=hr.2.2.1.1;have h4:=hr.2.2.2.1
  obtain⟨⟨a1,a2⟩,⟨b1,b2⟩,⟨c1,c2⟩,d1⟩:=hx
  exact⟨⟨by omega,by omega⟩,⟨by omega,by omega⟩,⟨by omega,by omega⟩,by omega⟩
theorem Sc{n:Nat}{l:List Int}(h:l.length<=1000):Ox n l=some l:=by
 rw [Ox,BL (by simp;omega) (by omega)];rfl
theorem iJ{n:Nat}{c:List Int}(hc:LD c){s0:AA}(e0:s0.code_=c){Q:BW×AA->Prop}{k0:Int->Int->Int->List Int->List Int->List Int->Option (BW×AA)}
 (hk:∀i a d (l1 l2 l3:List Int),(1<=l1.length∧l1.length<=4)->l2.length=l1.length->l3.length=l1.length->Dw c (AA.mk s0.code_ a d)->BH Q (k0 i a d l1 l2 l3)):∀(m k:Nat) (a d:Int) (l1 l2 l3:List Int),k<m->1<=l1.length->l1.length+k<=4->l2.length=l1.length->l3.length=l1.length->Dw c (AA.mk s0.code_ a d)->
 BH Q (Iz n s0 k0 m (k:Int) a d l1 l2 l3)
 |0,k,a,d,l1,l2,l3,hm,_,_,_,_,_=>by omega
 |m+1,0,a,d,l1,l2,l3,hm,h1,h2,h3,h4,hs=>by
  rw [Iz.eq_2]
  exact hk _ a d l1 l2 l3 ⟨h1,by omega⟩ h3 h4 hs
 |m+1,k+1,a,d,l1,l2,l3,hm,h1,h2,h3,h4,hs=>by
  have hp:decide (((k+1:Nat):Int)>0)=true:=decide_eq_true (by omega)
  have w:wrap .i64 (((k+1:Nat):Int)-1)=(k:Int):=by rw [Aq (by omega) (by omega)];omega
  rw [Iz.eq_2,hp,cT,Sc (show l1.length<=1000 by omega),Ao]
  refine BH.bind (Nx hc hs _) fun r1 _ ⟨q1,_⟩=>?_
  rw [BL (by simp;omega) (by omega),Ao,Sc (show l2.length<=1000 by omega),Ao]
  refine BH.bind (Nx hc (q1.mk2 e0) _) fun r2 _ ⟨q2,_⟩=>?_
  rw [BL (by simp;omega) (by omega),Ao,Sc (show l3.length<=1000 by omega),Ao]
  refine BH.bind (Nx hc (q2.mk2 e0) _) fun r3 _ ⟨q3,_⟩=>?_
  rw [BL (by simp;omega) (by omega),Ao,w]
  exact iJ hc e0 hk m k _ _ _ _ _ (by omega) (by simp) (by simp;omega) (by simp;omega) (by simp;omega) (q3.mk2 e0)
theorem gO{n:Nat}{c:List Int}(hc:LD c){s0:AA}(e0:s0.code_=c){l1 l2 l3:List Int}(h1:1<=l1.length∧l1.length<=4)(h2:l2.length=l1.length)(h3:l3.length=l1.length){L:Nat}(hL:L<=100):∀(m i:Nat) (a d:Int) (l:List Int),L-i<m->i<=L->l.length=L->Dw c (AA.mk s0.code_ a d)->
 BH (fun r=>(LQ r.1∧r.1.Sink.length<=100)∧Dw c r.2) (JA n s0 l1 (fun i115 i117 i118 l124=>(some ((BW.mk l1 l2 l3 l124),(AA.mk s0.code_ i117 i118)))) m (i:Int) a d l)
 |0,i,a,d,l,hm,_,_,_=>by omega
 |m+1,i,a,d,l,hm,hi,hl,hs=>by
  rw [JA.eq_2]
  by_cases q:i<l.length
  ·rw [Cj q,cT]
   refine BH.bind (Nx hc hs _) fun r _ ⟨q1,_⟩=>?_
   rw [AU q,Ao,wS (by omega)]
   exact gO hc e0 h1 h2 h3 hL m (i+1) _ _ _ (by omega) (by omega) (by rw [List.length_set];exact hl) (q1.mk2 e0)
  ·obtain rfl:i=l.length:=by omega
   rw [DB,cF]
   exact AK ⟨⟨⟨h1,⟨by show 1<=l2.length;omega,by show l2.length<=4;omega⟩,⟨by show 1<=l3.length;omega,by show l3.length<=4;omega⟩,by show l.length<=200;omega⟩,by show l.length<=100;omega⟩,hs⟩
theorem sK{n:Nat}(hn:1048577<=n){c:List Int}(hc:LD c){s:AA}(hs:Dw c s){q:Nat}(hq:q<=100):BH (fun r=>(LQ r.1∧r.1.Sink.length<=100)∧Dw c r.2) (WJ n s (q:Int)):=by
 have e:=hs.code
 rw [WJ]
 refine BH.bind (Nx hc hs 6) fun r _ ⟨h1,_⟩=>?_
 rw [XZ,EA (by omega) (by omega),Ao,Ao]
 refine BH.bind (Nx hc (h1.mk2 e) 4) fun r2 _ ⟨h2,z0,z1⟩=>?_
 have:=iJ (n:=n) (s0:=s) (Q:=fun r=>(LQ r.1∧r.1.Sink.length<=100)∧Dw c r.2) hc e (k0:=fun i75 i77 i78 l80 l84 l88=>(JA n s l80 (fun i115 i117 i118 l124=>(some ((BW.mk l80 l84 l88 l124),(AA.mk s.code_ i117 i118)))) n 0 i77 i78 (List.replicate q 0))) (fun i a d l1 l2 l3 k1 k2 k3 hs2=>
  gO hc e k1 k2 k3 hq n 0 a d _ (by omega) (by omega) (by simp) hs2) n r2.1.toNat r2.2.at_ r2.2.seed_ [(-1)] [0] [r.1] (by omega) (by simp) (by simp;omega) rfl rfl (h2.mk2 e)
 rw [Int.toNat_of_nonneg z0]at this
 exact this
structure NN(b:AF):Prop where
 lib:SC b.Library
 dsg:Mh b.Design
 wires:b.Wires.length<=9∧∀w∈b.Wires,LQ w
theorem NN.sm{b:AF}(h:NN b):Jq b:=
 ⟨h.lib,⟨⟨by have:=h.dsg.inst.1;omega,fun x hx=>⟨by have:=(h.dsg.inst.2 x hx).1;omega,by have:=(h.dsg.inst.2 x hx).2.2;omega⟩⟩,⟨by have:=h.dsg.nets.1;omega,fun x hx=>by have:=h.dsg.nets.2 x hx;omega⟩,⟨by have:=h.dsg.ports.1;omega,fun p hp=>by have:=h.dsg.ports.2 p hp;omega⟩⟩,
  ⟨by have:=h.wires.1;omega,fun w hw=>by obtain⟨⟨_,a⟩,⟨_,b⟩,⟨_,c⟩,d⟩:=h.wires.2 w hw;exact⟨⟨⟨by omega,by omega⟩,by omega⟩,by omega⟩⟩⟩
theorem jL{n:Nat}(hn:1048577<=n){c:List Int}(hc:LD c){s0:AA}(e0:s0.code_=c){r38:AX×AA}(hd:Mh r38.1){k0:List BW->Int->Int->Int->Option Unit}
 (hk:∀l i a d,l.length=r38.1.Nets.length->(∀w∈l,LQ w∧w.Sink.length<=100)->Dw c (AA.mk s0.code_ a d)->k0 l i a d=some ()):∀(m i:Nat) (l:List BW) (a d:Int),r38.1.Nets.length-i<m->i<=r38.1.Nets.length->l.length=i->(∀w∈l,LQ w∧w.Sink.length<=100)->Dw c (AA.mk s0.code_ a d)->
 Mm n s0 r38 k0 m l (i:Int) a d=some ()
 |0,i,l,a,d,hm,_,_,_,_=>by omega
 |m+1,i,l,a,d,hm,hi,hl,hw,hs=>by
  have hb:=hd.nets.1
  rw [Mm.eq_2]
  by_cases q:i<r38.1.Nets.length
  ·obtain⟨r,f,hr⟩:=oQ (n:=n) hd (i:Int) hn
   rw [Cj q,cT,f,Ao]
   refine LL (sK hn hc hs (by omega)) fun r2 ⟨h1,h2⟩=>?_
   rw [BL (by simp;omega) (by omega),Ao,wS (by omega)]
   refine jL hn hc e0 hd hk m (i+1) _ _ _ (by omega) (by omega) (by simp;omega) (fun w h=>?_) (h2.mk2 e0)
   rcases List.mem_append.1 h with h|h
   ·exact hw w h
   ·rw [List.mem_singleton.1 h];exact h1
  ·obtain rfl:i=r38.1.Nets.length:=by omega
   rw [DB,cF]
   exact hk l _ a d hl hw hs
theorem oE{n:Nat}(hn:1048577<=n){c:List Int}(hc:LD c){s:AA}(hs:Dw c s){O:NB}{most:Int}(hm:2<=most∧most<=6){wild:Bool}{g:AF×AA->Option Unit}(hg:∀b s',NN b->b.Wires.length=b.Design.Nets.length->(∀w∈b.Wires,w.Sink.length<=100)->Dw c s'->g (b,s')=some ()):Ww n O s most wild g=some ():=by
 have e:=hs.code
 rw [Ww]
 refine LL (rU hc hs hn) fun r ⟨h1,h2⟩=>rQ hn hc (h2.mk2 e) hm fun d s' hd hs'=>?_
 have hb:=hd.nets.1
 exact jL (r38:=(d,s')) hn hc e hd (fun l i a d2 hl hw hs2=>hg _ _ ⟨h1,hd,by show l.length<=9;rw [hl];exact hb.2,fun w h=>(hw w h).1⟩ hl (fun w h=>(hw w h).2) hs2) n 0 [] _ _ (by show d.Nets.length-0<n;omega) (by omega) rfl (by simp) (hs'.mk2 e)
theorem kU{n:Nat}(hn:1048577<=n){c:List Int}(hc:LD c){s:AA}(hs:Dw c s){O:NB}{g:AF×AA->Option Unit}(hg:∀b s',NN b->Dw c s'->g (b,s')=some ()):Vf n O s g=some ():=by
 have e:=hs.code
 rw [Vf]
 refine LL (Nx hc hs 3) fun r ⟨h1,_⟩=>oE hn hc (h1.mk2 e) (by omega) fun b s' hb hw hk hs'=>LL (Nx hc (hs'.mk2 e) _) fun r2 ⟨h2,z0,z1⟩=>LL (Nx hc (h2.mk2 e) 20) fun r3 ⟨h3,_⟩=>?_
 have wl:=hb.wires.1
 have nl:=hb.dsg.nets.1
 have z1:r2.1<(b.Wires.length:Int):=by
  have z1:r2.1<(b.Wires.length:Int)∨r2.1=0∧(b.Wires.length:Int)<=1:=z1
  omega
 obtain⟨k,ek⟩:=Int.eq_ofNat_of_zero_le z0
 have ek:r2.1=(k:Int):=ek
 have kl:k<b.Wires.length:=by omega
 have gk:AM b.Wires r2.1=some b.Wires[k]:=by rw [ek];exact AU kl
 have wk:=hb.wires.2 _ (List.getElem_mem kl)
 have fin:=fun(y:List BW) (hy:FX Gw b.Wires y)=>(⟨hb.lib,hb.dsg,⟨by show y.length<=9;rw [hy.1];exact wl,LQ.shp hy hb.wires.2⟩⟩:NN (AF.mk b.Library b.Design y))
 refine FB (fun _=>?_) fun _=>FB (fun _=>?_) fun _=>FB (fun _=>?_) fun _=>FB (fun _=>?_) fun _=>FB (fun _=>?_) fun _=>FB (fun _=>?_) fun _=>hg _ _ hb (h3.mk2 e)
 ·rw [show Na b.Wires 1 (b.Wires.length:Int)=some ((b.Wires.take (b.Wires.length:Int).toNat).drop (1:Int).toNat)from if_pos ⟨by omega,by omega,by omega⟩,Ao]
  exact hg _ _ ⟨hb.lib,hb.dsg,⟨by simp;omega,fun w hw2=>hb.wires.2 w (List.mem_of_mem_take (List.mem_of_mem_drop hw2))⟩⟩ (h3.mk2 e)
 ·have sl:=wk.2.2.2
  simp only [gk,Ao,Sc (n:=n) (show b.Wires[k].Sink.length<=1000 by omega),BL (show b.Wires[k].Sink.length+[(0:Int)].length<=16777216 by simp;omega) (show 8<=1048576 by omega)]
  refine hg _ _ ⟨hb.lib,hb.dsg,⟨by rw [List.length_set];exact wl,fun w hw2=>?_⟩⟩ (h3.mk2 e)
  have hk1:=hk _ (List.getElem_mem kl)
  rcases List.mem_or_eq_of_mem_set hw2 with h|h
  ·exact hb.wires.2 w h
  ·rw [h];exact⟨wk.1,wk.2.1,wk.2.2.1,by rw [List.length_append];simp;omega⟩
 ·obtain⟨⟨p1,p2⟩,⟨r1,r2'⟩,⟨c1,c2⟩,s1⟩:=wk
  rw [gk,Ao,show(0:Int)=((0:Nat):Int)from rfl,AU (show 0<b.Wires[k].Res.length by omega),Ao]
  exact O.inn fun y hy=>hg _ _ (fin y hy) (h3.mk2 e)
 ·obtain⟨⟨p1,p2⟩,⟨r1,r2'⟩,⟨c1,c2⟩,s1⟩:=wk
  rw [gk,Ao]
  refine LL (Nx hc (h3.mk2 e) 3) fun r4 ⟨h4,y0,y1⟩=>?_
  obtain⟨v,hv,_⟩:=El (xs:=[(-1:Int),500,501]) y0 (by simp;omega)
  rw [hv,Ao,show(0:Int)=((0:Nat):Int)from rfl,AU (show 0<b.Wires[k].Cap.length by omega),Ao]
  exact O.inn fun y hy=>hg _ _ (fin y hy) (h4.mk2 e)
 ·obtain⟨⟨p1,p2⟩,⟨r1,r2'⟩,⟨c1,c2⟩,s1⟩:=wk
  rw [gk,Ao,Ao]
  refine LL (Nx hc (h3.mk2 e) 5) fun r4 ⟨h4,_⟩=>?_
  have w1:wrap .i64 ((b.Wires[k].Parent.length:Int)-1)=((b.Wires[k].Parent.length-1:Nat):Int):=by rw [Aq (by omega) (by omega)];omega
  rw [w1,AU (show b.Wires[k].Parent.length-1<b.Wires[k].Parent.length by omega),Ao]
  exact O.inn fun y hy=>hg _ _ (fin y hy) (h4.mk2 e)
 ·rw [show(0:Int)=((0:Nat):Int)from rfl,AU (show 0<b.Design.Ports.length by have:=hb.dsg.ports.1;omega),Ao]
  refine O.inn fun y1 hy1=>O.inn fun y2 hy2=>O.inn fun y3 hy3=>?_
  obtain rfl:=VL hy2
  exact hg _ _ ⟨hb.lib,⟨⟨by show y1.length<=6;rw [hy1.1];exact hb.dsg.inst.1,LI.shp hy1 hb.dsg.inst.2⟩,hb.dsg.nets,⟨by show 3<=y3.length∧y3.length<=5;rw [hy3.1];exact hb.dsg.ports.1,Rt hy3 hb.dsg.ports.2 fun x z hr hx=>by rw [←hr.1];exact hx⟩⟩,hb.wires⟩ (h3.mk2 e)
theorem qU{n:Nat}(hn:1048577<=n){c:List Int}(hc:LD c){s:AA}(hs:Dw c s){O:NB}{g:AF×AA->Option Unit}(hg:∀b s',NN b->Dw c s'->g (b,s')=some ()):TS n O s g=some ():=by
 have e:=hs.code
 rw [TS]
 refine LL (Nx hc hs 12) fun r ⟨h1,_⟩=>FB (fun _=>kU hn hc (h1.mk2 e) fun b s' hb hs'=>hg _ _ hb (hs'.mk2 e)) fun _=>FB (fun _=>FB (fun _=>?_) fun _=>?_) fun _=>FB (fun _=>?_) fun _=>?_
 all_goals exact oE hn hc (h1.mk2 e) (by omega) fun b s' hb _ _ hs'=>hg _ _ hb (hs'.mk2 e)
theorem iF{n:Nat}{c:List Int}(hc:LD c){s0:AA}(e0:s0.code_=c){lk:List AR}(hlk:lk.length<=5128){r90:Int×AA}(h90:0<=r90.1∧r90.1<8):∀(m i:Nat) (l:List Int) (a d:Int),lk.length-i<m->l.length<=i->i<=6000->Dw c (AA.mk s0.code_ a d)->
 BH (fun r=>r.1.length<=6001∧Dw c r.2) (Kv n s0 lk r90 (fun l110 i114 i116 i117=>(Option.bind (EP n ((AA.mk s0.code_ i116 i117)) 12) fun r121=>(cond (r121.1==0) (Option.bind (EP n ((AA.mk s0.code_ r121.2.at_ r121.2.seed_)) 2) fun r129=>(Option.bind (Bw l110 ([wrap .i64 (((lk.length:Int))*r129.1)]) 8) fun z149=>(some (z149,(AA.mk s0.code_ r129.2.at_ r129.2.seed_))))) (some (l110,(AA.mk s0.code_ r121.2.at_ r121.2.seed_)))))) m l (i:Int) a d)
 |0,i,l,a,d,hm,_,_,_=>by omega
 |m+1,i,l,a,d,hm,hl,hi,hs=>by
  rw [Kv.eq_2]
  by_cases q:i<lk.length
  ·have w9:wrap .i64 (1+r90.1)=1+r90.1:=Aq (by omega) (by omega)
   rw [Cj q,cT,BL (by simp;omega) (by omega),Ao,w9]
   refine BH.bind (Nx hc hs _) fun r _ ⟨h1,z0,z1⟩=>?_
   have z2:r.1<=8:=by omega
   have wi:wrap .i64 ((i:Int)+(wrap .i64 (1+r.1)))=((i+1+r.1.toNat:Nat):Int):=by
    rw [Aq (x:=1+r.1) (by omega) (by omega),Aq (by omega) (by omega)];omega
   rw [wi]
   exact iF hc e0 hlk h90 m _ _ _ _ (by omega) (by simp;omega) (by omega) (h1.mk2 e0)
  ·rw [show decide ((i:Int)<(lk.length:Int))=false from decide_eq_false (by omega),cF]
   refine BH.bind (Nx hc hs 12) fun r _ ⟨h1,_⟩=>Af (fun _=>?_) fun _=>AK ⟨by show l.length<=6001;omega,h1.mk2 e0⟩
   refine BH.bind (Nx hc (h1.mk2 e0) 2) fun r2 _ ⟨h2,_⟩=>?_
   rw [BL (by simp;omega) (by omega),Ao]
   exact AK ⟨by simp;omega,h2.mk2 e0⟩
theorem sD{n:Nat}(hn:1048577<=n){c:List Int}(hc:LD c){s:AA}(hs:Dw c s){b:AF}(hb:Jq b):BH (fun r=>r.1.length<=6001∧Dw c r.2) (Rx n s b):=by
 have e:=hs.code
 obtain⟨v,e1,hv⟩:=Uj (n:=n) hb hn
 rw [Rx,e1,Ao]
 refine BH.bind (A:=fun x=>Dw c (AA.mk s.code_ x.2.1 x.2.2)∧(x.1=false->v=true)) (Af (fun _=>AK ⟨hs,fun h=>by cases h⟩) fun q=>BH.bind (Nx hc hs 3) fun r _ ⟨h1,_⟩=>AK ⟨h1.mk2 e,fun _=>by cases v<;>simp_all⟩) fun x _ ⟨hx,hv2⟩=>Af (fun _=>AK ⟨by simp,hx⟩) fun q=>?_
 have vb:=hv.1 (hv2 q)
 rw [Rq vb hn,Ao]
 refine BH.bind (Nx hc hx 8) fun r _ ⟨h1,z0,z1⟩=>BH.bind (Nx hc (h1.mk2 e) _) fun r2 _ ⟨h2,y0,y1⟩=>?_
 have w9:wrap .i64 (1+r.1)=1+r.1:=Aq (by omega) (by omega)
 rw [w9]at y1
 have:=iF (n:=n) hc e (FT vb) (r90:=r) ⟨z0,by omega⟩ n r2.1.toNat [] r2.2.at_ r2.2.seed_ (by have:=FT vb;omega) (by simp) (by omega) (h2.mk2 e)
 rw [Int.toNat_of_nonneg y0]at this
 exact this
theorem uB{n:Nat}{l:List Int}{x:Int}(h:l.length<=1048576)(hn:1048577<=n):Vs n l x=some (l.any fun y=>y==x):=by
 rw [Vs]
 refine loop (L:=fun m i (_:Unit)=>JL l x (fun i5=>(some false)) m i) l.length (fun i _=>l.any (fun y=>y==x)=(l.drop i).any (fun y=>y==x)) (fun o=>o=some (l.any fun y=>y==x)) ?_ ?_ n 0 () (by omega) (by omega) (by simp)
 ·intro m i _ hi hI
  rw [List.drop_eq_getElem_cons hi,List.any_cons]at hI
  simp only [JL.eq_2,Cj hi,cT,AU hi,Ao,wT i]
  cases c:(l[i]==x)with
  |true=>rw [cT];exact .inr (by rw [hI,c];rfl)
  |false=>rw [cF];exact .inl ⟨(),by rw [hI,c];rfl,rfl⟩
 ·intro m _ hI
  rw [List.drop_length]at hI
  simp only [JL.eq_2,DB,cF]
  rw [hI];rfl
def dA(x:AR):AR:=⟨x.To,x.From,x.Kind,x.Index⟩
def RQ(L:List AR):List AR:=L.map dA
theorem Ht(L:List AR):(RQ L).length=L.length:=List.length_map ..
theorem XQ(L:List AR)(i:Int):AM (RQ L) i=(AM L i).map dA:=by
 unfold AM RQ;split<;>simp
theorem fX{L:List AR}{lv:List Bool}{K K':Bool->Int->List Bool->Option (List Bool)}(hK:∀q i l,K q i l=K' q i l):∀(m:Nat) (q:Bool) (i:Int) (l:List Bool),Es L lv false K m q i l=Es (RQ L) lv true K' m q i l
 |0,_,_,_=>rfl
 |m+1,q,i,l=>by
  simp only [Es.eq_2,Ht,XQ,Bool.not_false,Bool.not_true,cT,cF,hK]
  cases AM L i with
  |none=>rfl
  |some x=>simp only [Option.map_some,Ao,dA,fX hK m]
theorem fT{n:Nat}{L:List AR}{lv:List Bool}:∀(m:Nat) (q:Bool) (l:List Bool),GT n L lv false (fun _ l34=>(some l34)) m q l=GT n (RQ L) lv true (fun _ l34=>(some l34)) m q l
 |0,_,_=>rfl
 |m+1,q,l=>by
  simp only [GT.eq_2]
  rw [fX (K':=fun q38 _ l40=>(GT n (RQ L) lv true (fun q33 l34=>(some l34)) m q38 l40)) fun q i l=>fT m q l]
theorem sQ{n:Nat}{L:List AR}{lv:List Bool}{N s:Nat}(hL:PU L N)(hlv:lv.length=L.length)(hl:L.length<=10000)(hN:N<=1000)(hs:s<N)(hn:1048577<=n):
 ∃out,Yv n (N:Int) L lv (s:Int) false=some out∧Qf (RQ L) lv (fun u=>u=(s:Int)) N out:=by
 have hg:∀k (h:k<(RQ L).length),(RQ L)[k]=dA (L[k]'(by rw [Ht]at h;exact h)):=fun k h=>List.getElem_map _
 have:=qM (n:=n) (L:=RQ L) (lv:=lv) (N:=N) (s:=s) ⟨fun k h=>by rw [hg k h];exact hL.to_ k (by rw [Ht]at h;exact h),fun k h=>by rw [hg k h];exact hL.from_ k (by rw [Ht]at h;exact h)⟩ (by rw [Ht];exact hlv) (by rw [Ht];exact hl) hN hs hn
 unfold Yv at this ⊢
 simp only [fT]
 exact this
theorem Hd.trans{L:List AR}{lv:List Bool}{u v:Int}{w:Int}(h1:Hd L lv (fun x=>x=u) v)(h2:Hd L lv (fun x=>x=v) w):Hd L lv (fun x=>x=u) w:=by
 induction h2 with
 |src e=>have e:_=v:=e;subst e;exact h1
 |step _ e ih=>exact .step ih e
theorem Ed.rv{L:List AR}{lv:List Bool}{u w:Int}:Ed (RQ L) lv u w↔Ed L lv w u:=by
 constructor
 ·rintro ⟨k,hk,h1,h2,h3⟩
  have hk':k<L.length:=by rw [Ht]at hk;exact hk
  have e:(RQ L)[k]=dA L[k]:=List.getElem_map _
  rw [e]at h2 h3
  exact⟨k,hk',h1,h3,h2⟩
 ·rintro ⟨k,hk,h1,h2,h3⟩
  have hk':k<(RQ L).length:=by rw [Ht];exact hk
  have e:(RQ L)[k]=dA L[k]:=List.getElem_map _
  exact⟨k,hk',h1,by rw [e];exact h3,by rw [e];exact h2⟩
theorem Hd.one{L:List AR}{lv:List Bool}{u w:Int}(e:Ed L lv u w):Hd L lv (fun x=>x=u) w:=.step (.src rfl) e
theorem Hd.rv{L:List AR}{lv:List Bool}{v w:Int}(h:Hd (RQ L) lv (fun x=>x=v) w):Hd L lv (fun x=>x=w) v:=by
 induction h with
 |src e=>have e:_=v:=e;subst e;exact .src rfl
 |step _ e ih=>exact Hd.trans (Hd.one (Ed.rv.1 e)) ih
theorem Hd.vr{L:List AR}{lv:List Bool}{v w:Int}(h:Hd L lv (fun x=>x=w) v):Hd (RQ L) lv (fun x=>x=v) w:=by
 induction h with
 |src e=>have e:_=w:=e;subst e;exact .src rfl
 |step _ e ih=>exact Hd.trans (Hd.one (Ed.rv.2 e)) ih
theorem Hd.first{L:List AR}{lv:List Bool}{u w:Int}(h:Hd L lv (fun x=>x=u) w)(ne:u≠w):∃x,Ed L lv u x∧Hd L lv (fun y=>y=x) w:=by
 induction h with
 |src e=>exact absurd (show _=u from e).symm ne
 |@step a b h1 e ih=>
  by_cases c:u=a
  ·subst c;exact⟨_,e,.src rfl⟩
  ·obtain⟨x,e1,e2⟩:=ih c
   exact⟨x,e1,.step e2 e⟩
theorem TV{L:List AR}{lv:List Bool}(hw:∀k (h:k<L.length) j (g:j<L.length),L[k].To=L[j].From->L[k].Kind=1∨L[j].Kind=1){v w:Int}(ne:v≠w)(h1:Hd L lv (fun x=>x=v) w)(h2:Hd L lv (fun x=>x=w) v):
 ∃k,∃h:k<L.length,gb lv k=true∧L[k].Kind=1∧(Hd L lv (fun x=>x=v) L[k].From∧Hd L lv (fun x=>x=L[k].From) v)∧Hd L lv (fun x=>x=v) L[k].To∧Hd L lv (fun x=>x=L[k].To) v:=by
 cases h1 with
 |src e=>exact absurd (show w=v from e).symm ne
 |@step a _ g e=>
  have e':=e
  obtain⟨k,hk,q1,q2,q3⟩:=e
  obtain⟨x,e2,g2⟩:=Hd.first h2 fun c=>ne c.symm
  have e2':=e2
  obtain⟨j,hj,r1,r2,r3⟩:=e2
  have hva:Hd L lv (fun x=>x=v) w:=.step g e'
  rcases hw k hk j hj (by rw [q3,r2])with c|c
  ·exact⟨k,hk,q1,c,by rw [q2];exact⟨g,Hd.trans (Hd.one e') h2⟩,by rw [q3];exact⟨hva,h2⟩⟩
  ·exact⟨j,hj,r1,c,by rw [r2];exact⟨hva,h2⟩,by rw [r3];exact⟨.step hva e2',g2⟩⟩
theorem rC{n:Nat}{l:List Int}(h:Wg l)(x:Int)(hn:1048577<=n):∃(i:Nat) (a b:Int),Sx n l x=some ((i:Int),a,b)∧((i<l.length∧a=1∧b=0)∨(i+1<l.length∧(1<=a∧a<=100000)∧(1<=b∧b<=100000))):=by
 have h1:=h.1
 have ci:=UW h x
 have w1:wrap .i64 ((l.length:Int)-1)=((l.length-1:Nat):Int):=by rw [Aq (by omega) (by omega)];omega
 have g0:AM l 0=some (gd l 0):=gI (l:=l) (i:=0) (by omega)
 have gL:AM l ((l.length-1:Nat):Int)=some (gd l (l.length-1)):=gI (by omega)
 rw [Sx,g0,Ao,w1,gL,Ao]
 have key:∀(m i:Nat),i<l.length->i<m->(∀k,i<k->k<l.length->Je l x<gd l k)->∃(j:Nat) (a b:Int),Kp l x (gd l 0) (gd l (l.length-1)) (fun i23=>(some (0,1,0))) m (i:Int)=some ((j:Int),a,b)∧((j<l.length∧a=1∧b=0)∨(j+1<l.length∧(1<=a∧a<=100000)∧(1<=b∧b<=100000))):=by
  intro m
  induction m with
  |zero=>intro i _ h;omega
  |succ m ih=>
   intro i hi hm hk
   have d0:decide ((i:Int)>=0)=true:=decide_eq_true (by omega)
   rw [Kp.eq_2,d0,cT,gI hi,Ao,show min (max x (gd l 0)) (gd l (l.length-1))=Je l x from rfl]
   by_cases c:Je l x=gd l i
   ·rw [show(Je l x==gd l i)=true from beq_iff_eq.2 c,cT]
    exact⟨i,1,0,rfl,.inl ⟨hi,rfl,rfl⟩⟩
   ·rw [show(Je l x==gd l i)=false from beq_eq_false_iff_ne.2 c,cF,Ao]
    have r0:=h.2.1 i hi
    by_cases c2:Je l x>gd l i
    ·have hl:i+1<l.length:=by
      apply Nat.lt_of_not_le
      intro q
      have:i=l.length-1:=by omega
      subst this;omega
     have r1:=h.2.1 (i+1) hl
     have hc:=hk (i+1) (by omega) hl
     rw [decide_eq_true c2,cT,wS (by omega),gI hl,Ao,Ao,Aq (by omega) (by omega),Aq (by omega) (by omega)]
     exact⟨i,_,_,rfl,.inr ⟨hl,by omega,by omega⟩⟩
    ·have hp:0<i:=by
      apply Nat.pos_of_ne_zero
      intro q;subst q;omega
     have wi:wrap .i64 ((i:Int)-1)=((i-1:Nat):Int):=by rw [Aq (by omega) (by omega)];omega
     rw [decide_eq_false c2,cF,wi]
     refine ih (i-1) (by omega) (by omega) fun k hk1 hk2=>?_
     by_cases q:k=i
     ·subst q;omega
     ·exact hk k (by omega) hk2
 exact key n (l.length-1) (by omega) (by omega) fun k h1 h2=>by omega
theorem jR{n:Nat}{s D mode:Int}(h:D≠0):∃r,Oz n s D mode=some r:=by
 have hz:(D==0)=false:=by rw [beq_eq_false_iff_ne];exact h
 rw [Oz,hz,cF,cF]
 cases(decide (Int.tmod s D<0))&&((mode==0))<;>cases(decide (Int.tmod s D>0))&&((mode==1))<;>exact⟨_,rfl⟩
theorem kG{t:BR}(v:VT t){i k u q:Nat}{w:Int}{U V:Int}{A:Int->Option Int}{B:Option Int}(hw:w>0->i+u<t.Slews.length∧k+q<t.Loads.length)(hU:U=(u:Int))(hV:V=(q:Int))(hq:q<=1)(hA:∀x,BH (fun _=>True) (A x))(hB:BH (fun _=>True) B):
 BH (fun _=>True) (cond (decide (w>0)) (Option.bind (AM t.Values (wrap .i64 (wrap .i64 (wrap .i64 (wrap .i64 ((i:Int)+U)*(t.Loads.length:Int))+(k:Int))+V))) A) B):=by
 have S4:=v.1.1.1.2
 have L4:=v.1.2.1.2
 have hlen:=v.2.1
 subst hU hV
 refine Af (fun c=>?_) fun _=>hB
 obtain⟨h1,h2⟩:=hw (of_decide_eq_true c)
 have hb:=sW (S:=t.Slews.length) (L:=t.Loads.length) (i:=i+u) (k:=k+q) h1 h2
 rw [tO (by omega) (by omega) (by omega) hq,gI (by omega),Ao]
 exact hA _
theorem Pe{a c:Int}(h:wrap .i64 (a*c)>0):a≠0∧c≠0:=by
 constructor
 ·intro e;subst e;rw [Int.zero_mul]at h;exact absurd h (by decide)
 ·intro e;subst e;rw [Int.mul_zero]at h;exact absurd h (by decide)
structure pA(l:List Int)(i:Nat)(a b:Int):Prop where
 lo:i<l.length
 hi:b≠0->i+1<l.length
theorem iQ{t:BR}(v:VT t){i k:Nat}{a b c d:Int}(h1:pA t.Slews i a b)(h2:pA t.Loads k c d){u:Int}(hu:u=0∨u=1){K:Int->Int->Option Int}(hK:∀s,BH (fun _=>True) (K s 2))(m:Nat)(s:Int):BH (fun _=>True) (EW t ((i:Int),a,b) ((k:Int),c,d) u K (m+3) s 0):=by
 have w01:wrap .i64 (0+1)=1:=rfl
 have w12:wrap .i64 (1+1)=2:=rfl
 have l02:decide ((0:Int)<2)=true:=rfl
 have l12:decide ((1:Int)<2)=true:=rfl
 have l22:decide ((2:Int)<2)=false:=rfl
 have b00:((0:Int)==0)=true:=rfl
 have b10:((1:Int)==0)=false:=rfl
 have b01:((0:Int)==1)=false:=rfl
 have b11:((1:Int)==1)=true:=rfl
 have s3:∀s,BH (fun _=>True) (EW t ((i:Int),a,b) ((k:Int),c,d) u K (m+1) s 2):=fun s=>by
  rw [EW.eq_2,l22,cF];exact hK s
 have s2:∀s,BH (fun _=>True) (EW t ((i:Int),a,b) ((k:Int),c,d) u K (m+2) s 1):=fun s=>by
  rw [EW.eq_2,l12,cT,b10,cF,cF,w12]
  rcases hu with rfl|rfl
  ·rw [b01,cF]
   exact kG v (u:=0) (q:=1) (fun h=>⟨h1.lo,h2.hi (Pe h).2⟩) rfl rfl (by omega) (fun _=>s3 _) (s3 _)
  ·rw [b11,cT]
   exact kG v (u:=1) (q:=1) (fun h=>⟨h1.hi (Pe h).1,h2.hi (Pe h).2⟩) rfl rfl (by omega) (fun _=>s3 _) (s3 _)
 rw [EW.eq_2,l02,cT,b00,cT,cT,w01]
 rcases hu with rfl|rfl
 ·rw [b01,cF]
  exact kG v (u:=0) (q:=0) (fun h=>⟨h1.lo,h2.lo⟩) rfl rfl (by omega) (fun _=>s2 _) (s2 _)
 ·rw [b11,cT]
  exact kG v (u:=1) (q:=0) (fun h=>⟨h1.hi (Pe h).1,h2.lo⟩) rfl rfl (by omega) (fun _=>s2 _) (s2 _)
theorem UG{l:List Int}{i:Nat}{a b:Int}(h:(i<l.length∧a=1∧b=0)∨(i+1<l.length∧(1<=a∧a<=100000)∧(1<=b∧b<=100000))):pA l i a b∧0<wrap .i64 (a+b)∧wrap .i64 (a+b)<=200000:=by
 have e:wrap .i64 (a+b)=a+b:=Aq (by omega) (by omega)
 rw [e]
 rcases h with ⟨h,rfl,rfl⟩|⟨h,h1,h2⟩
 ·exact⟨⟨h,fun c=>absurd rfl c⟩,by omega,by omega⟩
 ·exact⟨⟨by omega,fun _=>h⟩,by omega,by omega⟩
theorem qS{n:Nat}{t:BR}(v:VT t)(x y mode:Int)(hn:1048577<=n):BH (fun _=>True) (cW n t x y mode):=by
 obtain⟨i,a,b,e1,h1⟩:=rC (n:=n) v.1.1 x hn
 obtain⟨k,c,d,e2,h2⟩:=rC (n:=n) v.1.2 y hn
 obtain⟨o1,p1,p2⟩:=UG h1
 obtain⟨o2,q1,q2⟩:=UG h2
 obtain⟨m,rfl⟩:∃m,n=m+3:=⟨n-3,by omega⟩
 rw [cW,e1,e2,Ao,Ao]
 have w01:wrap .i64 (0+1)=1:=rfl
 have w12:wrap .i64 (1+1)=2:=rfl
 have l02:decide ((0:Int)<2)=true:=rfl
 have l12:decide ((1:Int)<2)=true:=rfl
 have l22:decide ((2:Int)<2)=false:=rfl
 rw [Lj.eq_2,l02,cT,w01]
 refine iQ v o1 o2 (.inl rfl) (fun s=>?_) m 0
 rw [Lj.eq_2,l12,cT,w12]
 refine iQ v o1 o2 (.inr rfl) (fun s=>?_) m _
 have em:=mw (a:=wrap .i64 (a+b)) (c:=wrap .i64 (c+d)) (by omega) (by omega)
 rw [Lj.eq_2,l22,cF]
 dsimp only
 rw [em]
 have:=Int.mul_pos p1 q1
 obtain⟨r,er⟩:=jR (n:=m+3) (s:=s) (D:=wrap .i64 (a+b)*wrap .i64 (c+d)) (mode:=mode) (by omega)
 rw [er]
 exact AK trivial
theorem rL{n:Nat}{b:AF}(v:Bh b){i:Nat}(hi:i<b.Wires.length)(hn:1048577<=n):BH (fun r=>r.length=b.Wires[i].Parent.length) (Sv n b (i:Int)):=by
 have vw:=v.wire i hi
 have hm:=vw.many
 rw [Sv,AU hi,Ao]
 refine BH.bind (rE v hi hn) fun ls _ hl=>?_
 refine PR (L:=fun m j s=>JD b.Wires[i] ls _ m s j) 1 ls.length (fun j s=>s.length=j) ?_ ?_ n [0] (by omega) (by omega) rfl
 ·intro m j s h1 hj hs
  have ht:=vw.tree j h1 (by omega)
  obtain⟨a,ea⟩:=Ej (t:=s) ht.1 (by omega)
  simp only [JD.eq_2,Cj hj,cT,gI (show j<b.Wires[i].Parent.length by omega),Ao,ea,gI (show j<b.Wires[i].Res.length by have:=vw.res;omega),gI hj,wT j]
  rw [BL (by simp;omega) (by omega),Ao]
  exact⟨_,by simp;omega,rfl⟩
 ·intro m s hs
  simp only [JD.eq_2,DB,cF]
  exact⟨s,rfl,by omega⟩
theorem Xu{b:AF}(v:Bh b){i:Nat}(hi:i<b.Wires.length):b.Wires[i].Sink.length<=78:=by
 have vd:=v.design
 have hl:=CB vd.short vd.few.1 vd.few.2.2
 have h:snk b.Design (i:Int)<=78:=Nat.le_trans List.countP_le_length hl
 have:=(v.wire i hi).sink
 omega
theorem sZ{n:Nat}{b:AF}(v:Bh b){i:Nat}(hi:i<b.Wires.length){mode:Int}(hn:1048577<=n):BH (fun r=>r.length=b.Wires[i].Sink.length) (WO n b (i:Int) mode):=by
 have vw:=v.wire i hi
 have hm:=vw.many
 have hf:=Xu v hi
 rw [WO]
 refine BH.bind (rL v hi hn) fun ds _ hl=>?_
 refine GI (L:=fun m j s=>Iy n b (i:Int) mode ds _ m s j) b.Wires[i].Sink.length (fun j s=>s.length=j) ?_ ?_ n [] (by omega) rfl
 ·intro m j s hj hs
  have hk:=vw.sinks j hj
  obtain⟨a,ea⟩:=Ej (t:=ds) hk.1 (by omega)
  obtain⟨r,er⟩:=jR (n:=n) (s:=a) (D:=1000) (mode:=mode) (by omega)
  simp only [Iy.eq_2,AU hi,Ao,Cj hj,cT,gI hj,ea,er,wT j]
  rw [BL (by simp;omega) (by omega),Ao]
  exact⟨_,by simp;omega,rfl⟩
 ·intro m s hs
  simp only [Iy.eq_2,AU hi,Ao,DB,cF]
  exact⟨s,rfl,hs⟩
theorem oU{n:Nat}{x mode:Int}(hn:1048577<=n):BH (fun _=>True) (WM n x mode):=by
 rw [WM]
 have key:∀(m:Nat) (i j:Int),0<=i->i<=j->j<=2000000000->j-i<2^m->BH (fun _=>True) (HZ x (fun i3 i4=>(cond (((mode==1))&&(decide (wrap .i64 (i3*i3)<x))) (some (wrap .i64 (i3+1))) (some i3))) (m+1) i j):=by
  intro m
  induction m with
  |zero=>
   intro i j h0 h1 h2 h3
   have:i=j:=by simp at h3;omega
   subst this
   rw [HZ.eq_2,decide_eq_false (by omega),cF]
   exact Af (fun _=>AK trivial) fun _=>AK trivial
  |succ m ih=>
   intro i j h0 h1 h2 h3
   rw [Int.pow_succ]at h3
   rw [HZ.eq_2]
   by_cases c:i<j
   ·have w1:wrap .i64 (i+j)=i+j:=Aq (by omega) (by omega)
    have w2:wrap .i64 (i+j+1)=i+j+1:=Aq (by omega) (by omega)
    have e:Int.tdiv (i+j+1) 2=(i+j+1)/2:=Int.tdiv_eq_ediv_of_nonneg (by omega)
    have w3:wrap .i64 ((i+j+1)/2)=(i+j+1)/2:=Aq (by omega) (by omega)
    have w4:wrap .i64 ((i+j+1)/2-1)=(i+j+1)/2-1:=Aq (by omega) (by omega)
    rw [decide_eq_true c,cT,w1,w2,e,w3,w4]
    exact Af (fun _=>ih _ _ (by omega) (by omega) h2 (by omega)) fun _=>ih _ _ h0 (by omega) (by omega) (by omega)
   ·rw [decide_eq_false c,cF]
    exact Af (fun _=>AK trivial) fun _=>AK trivial
 obtain⟨m,rfl⟩:∃m,n=m+1:=⟨n-1,by omega⟩
 refine key m 0 2000000000 (by omega) (by omega) (by omega) ?_
 have h1:(2:Int)^40<=2^m:=by
  have:=Nat.pow_le_pow_right (show 1<=2 by omega) (show 40<=m by omega)
  exact_mod_cast this
 have h2:(2:Int)^40=1099511627776:=by decide
 omega
theorem pS{n:Nat}{b:AF}(v:Bh b){i:Nat}(hi:i<b.Wires.length){k slew mode:Int}(hk:0<=k∧k<(b.Wires[i].Sink.length:Int))(hn:1048577<=n):BH (fun _=>True) (Tq n b (i:Int) k slew mode):=by
 have vw:=v.wire i hi
 rw [Tq]
 refine BH.bind (rL v hi hn) fun ds _ hl=>?_
 obtain⟨j,ej⟩:=Int.eq_ofNat_of_zero_le hk.1
 have ej:k=(j:Int):=ej
 subst ej
 have hj:j<b.Wires[i].Sink.length:=by omega
 have hs:=vw.sinks j hj
 obtain⟨a,ea⟩:=Ej (t:=ds) hs.1 (by omega)
 rw [AU hi,Ao,gI hj,Ao,ea,Ao]
 refine BH.bind (oU hn) fun r _ _=>?_
 obtain⟨q,eq⟩:=jR (n:=n) (s:=r) (D:=1000) (mode:=mode) (by omega)
 rw [eq];exact AK trivial
theorem YV{d:AX}{q:Int}:∀x∈JU d q,∃t,∃h:t<(pls d).length,x=(t:Int)∧GY q (pls d)[t]=true:=fun x hx=>
 DR (Q:=fun x=>∃t,∃h:t<(pls d).length,x=(t:Int)∧GY q (pls d)[t]=true) (pls d) 0 (fun j hj y hy=>by
  rw [Nat.zero_add]at hy
  by_cases c:GY q (pls d)[j]=true
  ·rw [if_pos c]at hy;exact⟨j,hj,List.mem_singleton.1 hy,c⟩
  ·rw [if_neg c]at hy;cases hy) x hx
structure YH(b:AF)(x:AR)(f t q j:Nat):Prop where
 kind:x.Kind=2
 from_:x.From=2*(f:Int)∨x.From=2*(f:Int)+1
 to_:x.To=2*(t:Int)∨x.To=2*(t:Int)+1
 drv:∃h:f<(pls b.Design).length,(pls b.Design)[f].drives_=true
 snk:∃h:t<(pls b.Design).length,(pls b.Design)[t].drives_=false∧(pls b.Design)[t].net_=(q:Int)
 ix:x.Index=(j:Int)
 sinks:∃h:q<b.Wires.length,j<b.Wires[q].Sink.length
theorem Ph{b:AF}(v:Bh b):∀x∈Dk b,x.Kind=1∨∃f t q j,YH b x f t q j:=by
 have vd:=v.design
 intro x hx
 simp only [Dk,List.mem_append]at hx
 rcases hx with hx|hx
 ·refine .inl ?_
  refine DR (Q:=fun x:AR=>x.Kind=1) b.Design.Instances 0 (fun i hi y hy=>?_) x hx
  rw [XA]at hy
  refine DR (Q:=fun x:AR=>x.Kind=1) _ 0 (fun j hj z hz=>?_) y hy
  obtain⟨t,ht,rfl⟩:=List.mem_map.1 hz
  rfl
 ·refine .inr ?_
  refine DR (Q:=fun x:AR=>∃f t q j,YH b x f t q j) b.Design.Nets 0 (fun q hq y hy=>?_) x hx
  rw [Nat.zero_add]at hy
  have hd:=Px vd hq
  refine DR (Q:=fun x:AR=>∃f t q j,YH b x f t q j) _ 0 (fun j hj z hz=>?_) y hy
  rw [Nat.zero_add]at hz
  obtain⟨t,ht,et,st⟩:=YV _ (List.getElem_mem hj)
  simp only [GY,Bool.and_eq_true,beq_iff_eq,Bool.not_eq_true']at st
  have hdr:((pls b.Design)[MB b.Design q]'hd.lt).drives_=true:=by have:=hd.hit;simp only [FK,Bool.and_eq_true]at this;exact this.2
  have hq2:q<b.Wires.length:=by rw [v.many];exact hq
  have hs:(JU b.Design (q:Int)).length=b.Wires[q].Sink.length:=by rw [GQ];have:=(v.wire q hq2).sink;omega
  simp only [ZI,List.mem_cons,List.not_mem_nil,or_false]at hz
  rw [et]at hz
  rcases hz with rfl|rfl
  ·exact⟨MB b.Design q,t,q,j,rfl,.inl rfl,.inl rfl,⟨hd.lt,hdr⟩,⟨ht,st.2,st.1⟩,rfl,⟨hq2,by omega⟩⟩
  ·exact⟨MB b.Design q,t,q,j,rfl,.inr rfl,.inr rfl,⟨hd.lt,hdr⟩,⟨ht,st.2,st.1⟩,rfl,⟨hq2,by omega⟩⟩
theorem eJ{n:Nat}{b:AF}(v:Bh b){x:AR}(ok:TB b x)(k:x.Kind=1)(hn:1048577<=n):∃a z,Su n b x=some (a,z)∧RO a.Delay true∧RO a.Slew true:=by
 have vd:=v.design
 obtain⟨p,y,c,a,g1,pm,g2,g3,g4,kd⟩:=ok.arc k
 have hp:=vd.net p pm
 have hW:=v.many
 obtain⟨N,hN⟩:=Int.eq_ofNat_of_zero_le hp.1
 have hN:p.net_=(N:Int):=hN
 have hNl:N<b.Wires.length:=by omega
 obtain⟨r,er,hr⟩:=rE (n:=n) v hNl hn
 have hm:=(v.wire N hNl).many
 have g1':AM ((pls b.Design).map Gj) (wrap .i64 (Int.tdiv x.To 2))=some (Gj p):=by
  obtain⟨g0,g5,g6⟩:=Eh g1
  obtain⟨M,hM⟩:=Int.eq_ofNat_of_zero_le g0
  have hM:wrap .i64 (Int.tdiv x.To 2)=(M:Int):=hM
  rw [hM]at g6 ⊢
  rw [IK,List.getElem?_map]
  rw [Int.toNat_natCast]at g6
  rw [g6];rfl
 have g2':AM b.Design.Instances (Gj p).instance_=some y:=g2
 have hN':(Gj p).net_=(N:Int):=hN
 refine⟨a,gd r 0,?_,?_⟩
 ·rw [Su,Oq vd.short vd.few.1 vd.few.2.2 hn]
  simp only [Ao,g1',g2',g3,g4,hN',er]
  have e0:AM r 0=some (gd r 0):=gI (i:=0) (by omega)
  rw [e0];rfl
 ·obtain⟨_,_,c3⟩:=Eh g3
  obtain⟨cl,ec⟩:=List.getElem?_eq_some_iff.1 c3
  obtain⟨_,_,a3⟩:=Eh g4
  obtain⟨al,ea⟩:=List.getElem?_eq_some_iff.1 a3
  have vc:=vd.lib.cells _ cl
  rw [ec]at vc
  have ar:=(vc.arcs _ al).1
  rw [ea]at ar
  unfold ND at ar
  obtain⟨_,ar⟩:=ar
  by_cases k1:a.Kind=1
  ·rw [if_pos k1]at ar;exact⟨ar.2.2.2.1,ar.2.2.2.2⟩
  ·rw [if_neg k1,if_pos (by omega)]at ar;exact⟨ar.2.2.2.1,ar.2.2.2.2⟩
theorem Uu{x:Int}(h:0<=x):0<=Int.tmod x 2∧Int.tmod x 2<2:=GD h (by omega)
theorem Yd{n:Nat}{b:AF}(v:Bh b){x:AR}{f t q j:Nat}(h:YH b x f t q j)(hn:1048577<=n):Tf n b x=some (q:Int):=by
 have vd:=v.design
 have hl:=CB vd.short vd.few.1 vd.few.2.2
 obtain⟨ht,_,hq⟩:=h.snk
 have e1:wrap .i64 (Int.tdiv x.To 2)=(t:Int):=by
  have h0:0<=x.To:=by have:=h.to_;omega
  have e:Int.tdiv x.To 2=(t:Int):=by rw [Int.tdiv_eq_ediv_of_nonneg h0];have:=h.to_;omega
  rw [e,Aq (by omega) (by omega)]
 rw [Tf,Oq vd.short vd.few.1 vd.few.2.2 hn,Ao,e1,AU (by simpa using ht),Ao,List.getElem_map]
 show some (pls b.Design)[t].net_=_
 rw [hq]
theorem qV{n:Nat}{c:Ay}{k m:Int}:BH (fun _=>True) (Td n c k m):=by
 rw [Td]
 refine Af (fun _=>Af (fun _=>AK trivial) fun _=>AK trivial) fun _=>Af (fun _=>AK trivial) fun _=>AK trivial
theorem XO{n:Nat}{b:AF}(v:Bh b){x:AR}(hx:x∈Dk b){c:Ay}{s m:Int}(hn:1048577<=n):BH (fun _=>True) (Qw n b c x s m):=by
 have ok:=Pu v x hx
 have dv:∀y:Int,BH (fun _=>True) (Option.bind (Oz n y 1000 m) fun r=>some r):=fun y=>by
  obtain⟨r,e⟩:=jR (n:=n) (s:=y) (D:=1000) (mode:=m) (by omega)
  rw [e];exact AK trivial
 rw [Qw]
 rcases Ph v x hx with k|⟨f,t,q,j,h⟩
 ·rw [beq_iff_eq.2 k,cT]
  obtain⟨a,z,e,hd,_⟩:=eJ (n:=n) v ok k hn
  rw [e,Ao]
  have pr:=Uu ok.to_.1
  exact BH.bind (BH.get pr.1 (by rw [hd.1];exact pr.2) hd.2) fun u _ hu=>BH.bind (qS hu.1 _ _ _ hn) fun _ _ _=>BH.bind qV fun _ _ _=>dv _
 ·have k:(x.Kind==1)=false:=by rw [beq_eq_false_iff_ne,h.kind];omega
  obtain⟨hq,hj⟩:=h.sinks
  rw [k,cF,Yd v h hn,Ao,h.ix]
  exact BH.bind (sZ v hq hn) fun r _ hr=>BH.bind (CU (by omega) (by omega)) fun _ _ _=>BH.bind qV fun _ _ _=>dv _
theorem YG{n:Nat}{b:AF}(v:Bh b){x:AR}(hx:x∈Dk b){s m:Int}(hn:1048577<=n):BH (fun _=>True) (QV n b x s m):=by
 have ok:=Pu v x hx
 rw [QV]
 rcases Ph v x hx with k|⟨f,t,q,j,h⟩
 ·rw [beq_iff_eq.2 k,cT]
  obtain⟨a,z,e,_,hd⟩:=eJ (n:=n) v ok k hn
  rw [e,Ao]
  have pr:=Uu ok.to_.1
  exact BH.bind (BH.get pr.1 (by rw [hd.1];exact pr.2) hd.2) fun u _ hu=>BH.bind (qS hu.1 _ _ _ hn) fun _ _ _=>AK trivial
 ·have k:(x.Kind==1)=false:=by rw [beq_eq_false_iff_ne,h.kind];omega
  obtain⟨hq,hj⟩:=h.sinks
  rw [k,cF,Yd v h hn,Ao,h.ix]
  exact BH.bind (pS v hq ⟨by omega,by omega⟩ hn) fun _ _ _=>AK trivial
theorem cS{n:Nat}{b:AF}(v:Bh b){x:AR}(hx:x∈Dk b){c:Ay}{s:Ad}(hn:1048577<=n):BH (fun _=>True) (Ot n b c x s):=by
 rw [Ot]
 exact BH.bind (XO v hx hn) fun _ _ _=>BH.bind (XO v hx hn) fun _ _ _=>BH.bind (YG v hx hn) fun _ _ _=>BH.bind (YG v hx hn) fun _ _ _=>BH.bind (XO v hx hn) fun _ _ _=>BH.bind (XO v hx hn) fun _ _ _=>BH.bind (YG v hx hn) fun _ _ _=>BH.bind (YG v hx hn) fun _ _ _=>AK trivial
theorem eM{n:Nat}{s t:Ad}:BH (fun _=>True) (SO n s t):=by rw [SO];exact AK trivial
structure Yi(N:Nat)(t:Ah):Prop where
 r:t.Reached.length=N
 a:t.Arrival.length=N
 s:t.Slew.length=N
abbrev kA:=Bool×Int×Int×Int×Int×Int
theorem mZ{n:Nat}{b:AF}(v:Bh b){c:Ay}{lv:List Bool}(hlv:lv.length=(Dk b).length){ss:List Ap}(hs:ss.length<=1048576){t:Ah}(ht:Yi (2*(pls b.Design).length) t){k:Int}(hn:1048577<=n):
 BH (fun _=>True) (bQ n b c (Dk b) lv ss t k):=by
 have hL:=FT v
 have hin:=JM v
 have hr:=ht.r;have ha:=ht.a;have hsl:=ht.s
 rw [bQ]
 refine Dc (L:=fun m i (p:kA)=>Gy ss k _ m p.1 i p.2.1 p.2.2.1 p.2.2.2.1 p.2.2.2.2.1 p.2.2.2.2.2) ss.length (fun _ _=>True) (BH fun _=>True) ?_ ?_ n 0 (false,0,0,0,0,0) (by omega) (by omega) trivial
 ·rintro m i ⟨q,i2,i3,i4,i5,i6⟩ hi _ ih
  simp only [Gy.eq_2,Cj hi,cT,AU hi,Ao,wT i]
  exact Af (fun _=>ih (true,_,_,_,_,_) trivial) fun _=>ih (q,i2,i3,i4,i5,i6) trivial
 ·rintro m ⟨q,i2,i3,i4,i5,i6⟩ _
  simp only [Gy.eq_2,DB,cF]
  refine Dc (L:=fun m i (p:kA)=>GU n b c (Dk b) lv t k _ m p.1 i p.2.1 p.2.2.1 p.2.2.2.1 p.2.2.2.2.1 p.2.2.2.2.2) (Dk b).length (fun _ _=>True) (BH fun _=>True) ?_ ?_ n 0 (q,i2,i3,i4,i5,i6) (by omega) (by omega) trivial
  ·rintro m i ⟨q,i2,i3,i4,i5,i6⟩ hi _ ih
   have hf:=hin.from_ i hi
   simp only [GU.eq_2,Cj hi,cT,AU hi,AU (show i<lv.length by omega),Ao,wT i]
   refine BH.bind (A:=fun _=>True) (Af (fun _=>AK trivial) fun _=>BH.bind (CU hf.1 (by omega)) fun _ _ _=>AK trivial) fun cc _ _=>Af (fun _=>ih (q,i2,i3,i4,i5,i6) trivial) fun _=>?_
   refine BH.bind (CU hf.1 (by omega)) fun sl _ _=>BH.bind (cS v (List.getElem_mem hi) hn) fun r _ _=>BH.bind (CU hf.1 (by omega)) fun a1 _ _=>BH.bind (CU hf.1 (by omega)) fun a2 _ _=>Af (fun _=>?_) fun _=>ih (true,_,_,_,_,_) trivial
   exact BH.bind eM fun _ _ _=>BH.bind eM fun _ _ _=>ih (true,_,_,_,_,_) trivial
  ·rintro m ⟨q,i2,i3,i4,i5,i6⟩ _
   simp only [GU.eq_2,DB,cF]
   exact AK trivial
theorem rN{n:Nat}{s:Ad}:BH (fun _=>True) (QG n s):=⟨_,kS,trivial⟩
theorem pL{n:Nat}{b:AF}(v:Bh b){c:Ay}{lv:List Bool}(hlv:lv.length=(Dk b).length){ss:List Ap}(hs:ss.length<=1048576){od:List Int}(ho:od.length<=1048576)(hr:∀x∈od,0<=x∧x<((2*(pls b.Design).length:Nat):Int))(hn:1048577<=n):
 BH (fun r=>Yi 0 r.1∨Yi (2*(pls b.Design).length) r.1) (ZQ n b c (Dk b) lv ss od):=by
 have vd:=v.design
 have hl:=CB vd.short vd.few.1 vd.few.2.2
 have wc:Bc b=((2*(pls b.Design).length:Nat):Int):=by unfold Bc;omega
 generalize hN:2*(pls b.Design).length=N at*
 rw [ZQ,MM v hn,Ao,wc,Ug]
 simp only [EA (show N<=1048576 by omega) (show 1<=268435456 by omega),EA (show N<=1048576 by omega) (show 16<=268435456 by omega),Ao]
 refine Dc (L:=fun m i (p:List Bool×List Ad×List Ad)=>HG n b c (Dk b) lv ss od _ m i p.1 p.2.1 p.2.2) od.length (fun _ p=>Yi N ⟨p.1,p.2.1,p.2.2⟩) (BH fun r=>Yi 0 r.1∨Yi N r.1) ?_ ?_ n 0 (List.replicate N false,List.replicate N ⟨0,0⟩,List.replicate N ⟨0,0⟩) (by omega) (by omega) ⟨by simp,by simp,by simp⟩
 ·rintro m i ⟨l1,l2,l3⟩ hi ⟨h1,h2,h3⟩ ih
  have h1:l1.length=N:=h1
  have h2:l2.length=N:=h2
  have h3:l3.length=N:=h3
  have hx:=hr _ (List.getElem_mem hi)
  simp only [HG.eq_2,Cj hi,cT,AU hi,Ao,wT i]
  refine BH.bind (mZ v hlv hs (t:=⟨l1,l2,l3⟩) (by rw [hN];exact⟨h1,h2,h3⟩) hn) fun r _ _=>Af (fun _=>ih (l1,l2,l3) ⟨h1,h2,h3⟩) fun _=>BH.bind rN fun q _ _=>Af (fun _=>AK (.inl ⟨rfl,rfl,rfl⟩)) fun _=>?_
  exact BH.bind (CU hx.1 (by omega)) fun _ _ _=>BH.bind (CU hx.1 (by omega)) fun _ _ _=>BH.bind (CU hx.1 (by omega)) fun _ _ _=>ih (_,_,_) ⟨by simpa using h1,by simpa using h2,by simpa using h3⟩
 ·rintro m ⟨l1,l2,l3⟩ h
  simp only [HG.eq_2,DB,cF]
  exact AK (.inr h)
theorem lQ{n:Nat}{L:List AR}{lv:List Bool}{N:Nat}(hL:PU L N)(hlv:lv.length=L.length)(hl:L.length<=10000)(hN:N<=1000)(hn:1048577<=n):
 BH (fun r=>r.1.length<=N∧∀x∈r.1,0<=x∧x<(N:Int)) (aE n (N:Int) L lv):=by
 rw [aE,EA (by omega) (by omega),Ao]
 refine QI (L:=fun m (p:List Int×List Bool)=>JR n (N:Int) L lv _ m p.1 p.2) (fun p=>N-p.1.length) (fun p=>(p.1.length<=N∧p.2.length=N)∧∀x∈p.1,0<=x∧x<(N:Int)) (BH fun r=>r.1.length<=N∧∀x∈r.1,0<=x∧x<(N:Int)) ?_ n ([],List.replicate N false) (by simp;omega) ⟨⟨by simp,by simp⟩,by simp⟩
 rintro m ⟨o,l⟩ ⟨⟨h1,h2⟩,h3⟩ ih
 have h1:o.length<=N:=h1
 have h2:l.length=N:=h2
 simp only [JR.eq_2]
 refine Af (fun c=>?_) fun _=>AK ⟨h1,h3⟩
 have c:o.length<N:=by have:=of_decide_eq_true c;omega
 rw [EA (by omega) (by omega),Ao]
 refine Dc (L:=fun m' i (w:List Bool)=>HF L lv l _ m' i w) L.length (fun _ w=>w.length=N) (BH fun r=>r.1.length<=N∧∀x∈r.1,0<=x∧x<(N:Int)) ?_ ?_ n 0 (List.replicate N false) (by omega) (by omega) (by simp)
 ·intro m' i w hi hw kk
  have hf:=hL.from_ i hi
  have ht:=hL.to_ i hi
  simp only [HF.eq_2,Cj hi,cT,AU hi,AU (show i<lv.length by omega),Ao,wT i]
  refine BH.bind (A:=fun _=>True) (Af (fun _=>BH.bind (CU hf.1 (by omega)) fun _ _ _=>AK trivial) fun _=>AK trivial) fun cc _ _=>Af (fun _=>BH.bind (CU ht.1 (by omega)) fun _ _ _=>kk _ (by simpa using hw)) fun _=>kk w hw
 ·intro m' w hw
  simp only [HF.eq_2,DB,cF]
  have fin:∀i:Nat,i<=N->BH (fun r=>r.1.length<=N∧∀x∈r.1,0<=x∧x<(N:Int)) ((cond ((i:Int)==(N:Int)) (some (([]:List Int),false)) (Option.bind (Bw o [(i:Int)] 8) fun z103=>(JR n (N:Int) L lv (fun l33 l37=>(some (l33,true))) m z103 ((l.set ((i:Int)).toNat true)))))):=fun i hi=>
   Af (fun _=>AK ⟨by simp,by simp⟩) fun q=>by
    have q:=beq_eq_false_iff_ne.1 q
    rw [BL (by simp;omega) (by omega),Ao]
    refine ih (o++[(i:Int)],_) ⟨⟨by simp;omega,by simpa using h2⟩,fun x hx=>?_⟩ (by simp;omega)
    rcases List.mem_append.1 hx with h|h
    ·exact h3 x h
    ·rw [List.mem_singleton.1 h];omega
  refine Dc (L:=fun m' i (_:Unit)=>Hv (N:Int) l w _ m' i) N (fun _ _=>True) (BH fun r=>r.1.length<=N∧∀x∈r.1,0<=x∧x<(N:Int)) ?_ ?_ n 0 () (by omega) (by omega) trivial
  ·intro m'' i _ hi _ kk
   simp only [Hv.eq_2,Cj hi,cT,AU (show i<l.length by omega),AU (show i<w.length by omega),Ao,wT i]
   refine BH.bind (A:=fun _=>True) (BH.bind (A:=fun _=>True) (Af (fun _=>AK trivial) fun _=>AK trivial) fun _ _ _=>AK trivial) fun cc _ _=>Af (fun _=>kk () trivial) fun _=>fin i (by omega)
  ·intro m'' _ _
   simp only [Hv.eq_2,DB,cF,Ao,beq_self_eq_true,cT]
   exact AK ⟨by simp,by simp⟩
theorem YS{n:Nat}{b:AF}{br:List Int}(hb:Jq b)(hbr:br.length<=1048576)(hn:1048577<=n):BH (fun r=>(r !=0)=false->Bh b) (SK n b br):=by
 obtain⟨v,e1,hv⟩:=Uj (n:=n) hb hn
 rw [SK,e1,Ao]
 refine Af (fun _=>AK fun h=>by cases h) fun q=>?_
 have vb:=hv.1 (by cases v<;>simp_all)
 have hL:=FT vb
 rw [Rq vb hn,Ao]
 obtain⟨r,e2,_⟩:=rV (n:=n) (br:=br) (N:=((Dk b).length:Int)) hbr ⟨by omega,by omega⟩ hn
 rw [e2,Ao]
 exact Af (fun _=>AK fun h=>by cases h) fun _=>AK fun _=>vb
theorem Xq{n:Nat}{b:AF}{br:List Int}(hb:Jq b)(hbr:br.length<=1048576)(hn:1048577<=n):BH (fun r=>r.1.length<=156∧((r.2 !=0)=false->Bh b∧∀x∈r.1,0<=x∧x<((2*(pls b.Design).length:Nat):Int))) (NY n b br):=by
 rw [NY]
 refine BH.bind (YS hb hbr hn) fun r _ hr=>Af (fun q=>AK ⟨by simp,fun h=>by rw [show(r !=0)=false from h]at q;cases q⟩) fun q=>?_
 have v:=hr q
 have vd:=v.design
 have hl:=CB vd.short vd.few.1 vd.few.2.2
 have hL:=FT v
 have wc:Bc b=((2*(pls b.Design).length:Nat):Int):=by unfold Bc;omega
 rw [Rq v hn,Ao,MM v hn,Ao,dP (by omega) hbr hn,Ao,wc]
 exact BH.bind (lQ (JM v) (GJ _ _ _) (by omega) (by omega) hn) fun o _ ho=>Af (fun _=>AK ⟨by simp,fun h=>by cases h⟩) fun _=>AK ⟨by have:=ho.1;show o.1.length<=156;omega,fun _=>⟨v,ho.2⟩⟩
theorem jF{n:Nat}{c:Ay}(h:c.Name.size<=1048576)(hn:1048577<=n):BH (fun _=>True) (TO n c):=by
 rw [TO]
 refine Dc (L:=fun m i (_:Unit)=>JF n c _ m i) ([c.CellEarly,c.CellLate,c.WireEarly,c.WireLate]).length (fun _ _=>True) (BH fun _=>True) ?_ ?_ n 0 () (by simp) (by simp;omega) trivial
 ·intro m i _ hi _ kk
  have hi4:i<4:=hi
  simp only [JF.eq_2,Cj hi,cT,AU hi,Ao,HI,wT i]
  exact Af (fun _=>AK trivial) fun _=>kk () trivial
 ·intro m _ _
  simp only [JF.eq_2,DB,cF,jS h hn,Ao]
  exact AK trivial
theorem mH{n:Nat}{b:AF}(v:Bh b){ss:List Ap}(hs:ss.length<=1048576)(hn:1048577<=n):BH (fun _=>True) (VY n b ss):=by
 rw [VY,MM v hn,Ao]
 refine Dc (L:=fun m i (_:Unit)=>JO n ss (Bc b) _ m i) ss.length (fun _ _=>True) (BH fun _=>True) ?_ ?_ n 0 () (by omega) (by omega) trivial
 ·intro m i _ hi _ kk
  simp only [JO.eq_2,Cj hi,cT,AU hi,Ao,HI,kS,TX,wT i]
  refine BH.bind (A:=fun _=>True) (Af (fun _=>AK trivial) fun _=>BH.bind (A:=fun _=>True) (Af (fun q=>?_) fun _=>AK trivial) fun _ _ _=>AK trivial) fun c1 _ _=>BH.bind (A:=fun _=>True) (Af (fun _=>AK trivial) fun _=>AK trivial) fun c2 _ _=>BH.bind (A:=fun _=>True) (Af (fun _=>AK trivial) fun _=>AK trivial) fun c3 _ _=>Af (fun _=>AK trivial) fun _=>kk () trivial
  have q:=of_decide_eq_true q
  have w:wrap .i64 ((i:Int)-1)=((i-1:Nat):Int):=by rw [Aq (by omega) (by omega)];omega
  rw [w,AU (show i-1<ss.length by omega)]
  exact AK trivial
 ·intro m _ _
  simp only [JO.eq_2,DB,cF]
  exact AK trivial
def ct(l:List Bool):Nat:=l.countP fun b=>b
theorem Vr:∀{l:List Bool} {i:Nat},i<l.length->gb l i=true->ct (l.set i false)+1=ct l
 |[],i,h,_=>by simp at h
 |b::l,0,_,h=>by
  have h:b=true:=h
  subst h;simp [ct]
 |b::l,i+1,hi,h=>by
  have ih:=Vr (l:=l) (i:=i) (by simpa using hi) h
  unfold ct at ih ⊢
  simp only [List.set_cons_succ,List.countP_cons];omega
theorem sV{n:Nat}{L:List AR}{lv:List Bool}{v:Int}(hlv:lv.length=L.length)(hl:L.length<=10000)(hn:1048577<=n):
 BH (fun r=>r=true->∃k,∃h:k<L.length,gb lv k=true∧L[k].From=v∧L[k].To=v) (Ua n L lv v):=by
 rw [Ua]
 refine Dc (L:=fun m i (_:Unit)=>Jc L lv v _ m i) L.length (fun _ _=>True) (BH fun r=>r=true->∃k,∃h:k<L.length,gb lv k=true∧L[k].From=v∧L[k].To=v) ?_ ?_ n 0 () (by omega) (by omega) trivial
 ·intro m i _ hi _ kk
  simp only [Jc.eq_2,Cj hi,cT,AU hi,NP (show i<lv.length by omega),Ao,Bt,wT i]
  refine Af (fun q=>AK fun _=>?_) fun _=>kk () trivial
  simp only [Bool.and_eq_true,beq_iff_eq]at q
  exact⟨i,hi,q.1.1,q.1.2,q.2⟩
 ·intro m _ _
  simp only [Jc.eq_2,DB,cF]
  exact AK fun h=>by cases h
def QU(L:List AR)(lv:List Bool)(N:Nat)(x:List Int):Prop:=x.length<=N∧∃k,∃h:k<L.length,gb lv k=true∧L[k].Kind=1∧L[k].From∈x∧L[k].To∈x
structure aL(N v i:Nat)(r1 r2:List Bool)(x:List Int):Prop where
 few:x.length<=i
 iff:∀y,y∈x↔∃w:Nat,w<i∧y=(w:Int)∧gb r1 w=true∧gb r2 w=true
 two:x.length>1->∃w:Nat,w<N∧w≠v∧gb r1 w=true∧gb r2 w=true
theorem aL.skip{N v i:Nat}{r1 r2:List Bool}{x:List Int}(h:aL N v i r1 r2 x)(c:(gb r1 i&&gb r2 i)=false):aL N v (i+1) r1 r2 x:=
 ⟨by have:=h.few;omega,fun y=>(h.iff y).trans ⟨fun⟨w,a,b⟩=>⟨w,by omega,b⟩,fun⟨w,a,b,d,e⟩=>⟨w,by
  by_cases q:w=i
  ·subst q;rw [d,e]at c;cases c
  ·omega,b,d,e⟩⟩,h.two⟩
theorem aL.add{N v i:Nat}{r1 r2:List Bool}{x:List Int}(h:aL N v i r1 r2 x)(hi:i<N)(c:(gb r1 i&&gb r2 i)=true):aL N v (i+1) r1 r2 (x++[(i:Int)]):=by
 simp only [Bool.and_eq_true]at c
 refine⟨by have:=h.few;simp;omega,fun y=>?_,fun g=>?_⟩
 ·rw [List.mem_append,List.mem_singleton,h.iff y]
  constructor
  ·rintro (⟨w,a,b⟩|e)
   ·exact⟨w,by omega,b⟩
   ·exact⟨i,by omega,e,c.1,c.2⟩
  ·rintro ⟨w,a,b,d⟩
   by_cases q:w=i
   ·subst q;exact .inr b
   ·exact .inl ⟨w,by omega,b,d⟩
 ·have g:0<x.length:=by simp at g;omega
  obtain⟨w,a,_,d,e⟩:=(h.iff x[0]).1 (List.getElem_mem g)
  by_cases q:w=v
  ·exact⟨i,hi,by omega,c.1,c.2⟩
  ·exact⟨w,by omega,q,d,e⟩
theorem tD{n:Nat}{L:List AR}{lv:List Bool}{N:Nat}(hL:PU L N)(hlv:lv.length=L.length)(hl:L.length<=10000)(hN:N<=1000)
 (hw:∀k (h:k<L.length) j (g:j<L.length),L[k].To=L[j].From->L[k].Kind=1∨L[j].Kind=1) (hn:1048577<=n):BH (fun r=>∀x∈r,QU L lv N x) (eP n (N:Int) L lv):=by
 rw [eP,EA (by omega) (by omega),Ao]
 refine Dc (L:=fun m i (p:List (List Int)×List Bool)=>Jd n (N:Int) L lv _ m p.1 i p.2) N (fun i p=>(p.1.length<=i∧∀x∈p.1,QU L lv N x)∧p.2.length=N) (BH fun r=>∀x∈r,QU L lv N x) ?_ ?_ n 0 ([],List.replicate N false) (by omega) (by omega) ⟨⟨by simp,by simp⟩,by simp⟩
 ·rintro m i ⟨o,l⟩ hi ⟨⟨h1,h2⟩,h3⟩ ih
  have h1:o.length<=i:=h1
  have h3:l.length=N:=h3
  simp only [Jd.eq_2,Cj hi,cT,AU (show i<l.length by omega),Ao,wT i]
  refine Af (fun _=>ih (o,l) ⟨⟨by show o.length<=i+1;omega,h2⟩,h3⟩) fun _=>?_
  obtain⟨r1,e1,k1⟩:=qM (n:=n) hL hlv hl hN hi hn
  obtain⟨r2,e2,k2⟩:=sQ (n:=n) hL hlv hl hN hi hn
  have l1:=k1.len;have l2:=k2.len
  rw [e1,Ao,e2,Ao]
  refine Dc (L:=fun m' j (p:List Int×List Bool)=>Kg (N:Int) r1 r2 _ m' p.1 j p.2) N (fun j p=>aL N i j r1 r2 p.1∧p.2.length=N) (BH fun r=>∀x∈r,QU L lv N x) ?_ ?_ n 0 ([],l) (by omega) (by omega) ⟨⟨Nat.le_refl _,fun y=>⟨fun h=>(by cases h),fun⟨w,h,_⟩=>absurd h (Nat.not_lt_zero w)⟩,fun h=>(by simp at h)⟩,h3⟩
  ·rintro m' j ⟨x,d⟩ hj ⟨g1,g2⟩ kk
   have g2:d.length=N:=g2
   have gf:=g1.few
   have gf:x.length<=j:=gf
   simp only [Kg.eq_2,Cj hj,cT,NP (show j<r1.length by omega),NP (show j<r2.length by omega),Ao,Bt,wT j]
   refine Af (fun c=>?_) fun c=>kk (x,d) ⟨g1.skip c,g2⟩
   rw [BL (by simp;omega) (by omega),Ao,AU (show j<d.length by omega),Ao]
   exact kk (x++[(j:Int)],_) ⟨g1.add hj c,by simpa using g2⟩
  ·rintro m' ⟨x,d⟩ ⟨g1,g2⟩
   have gf:=g1.few
   have gf:x.length<=N:=gf
   have mem:∀u:Int,0<=u∧u<(N:Int)->Hd L lv (fun y=>y=(i:Int)) u->Hd L lv (fun y=>y=u) (i:Int)->u∈x:=fun u hu a b=>by
    obtain⟨w,ew⟩:=Int.eq_ofNat_of_zero_le hu.1
    have ew:u=(w:Int):=ew
    subst ew
    exact(g1.iff _).2 ⟨w,by omega,rfl,(k1.iff w (by omega)).2 a,(k2.iff w (by omega)).2 (Hd.vr b)⟩
   simp only [Kg.eq_2,DB,cF]
   refine BH.bind (A:=fun c=>c=true->QU L lv N x) (Af (fun c=>AK fun _=>?_) fun _=>BH.bind (sV hlv hl hn) fun r _ hr=>AK fun q=>?_) fun c _ hc=>Af (fun q=>?_) fun _=>ih (o,d) ⟨⟨by show o.length<=i+1;omega,h2⟩,g2⟩
   ·have c:=of_decide_eq_true c
    obtain⟨w,wN,ne,a,b⟩:=g1.two (by show x.length>1;omega)
    obtain⟨k,hk,c1,c2,⟨c3,c4⟩,c5,c6⟩:=TV hw (v:=(i:Int)) (w:=(w:Int)) (by omega) ((k1.iff w wN).1 a) (Hd.rv ((k2.iff w wN).1 b))
    exact⟨gf,k,hk,c1,c2,mem _ (hL.from_ k hk) c3 c4,mem _ (hL.to_ k hk) c5 c6⟩
   ·obtain⟨k,hk,c1,c2,c3⟩:=hr q
    have hv:=mem (i:Int) ⟨by omega,by omega⟩ (.src rfl) (.src rfl)
    exact⟨gf,k,hk,c1,(hw k hk k hk (by rw [c2,c3])).elim id id,by rw [c2];exact hv,by rw [c3];exact hv⟩
   ·rw [BL (by simp;omega) (by omega),Ao]
    refine ih (o++[x],d) ⟨⟨by simp;omega,fun y hy=>?_⟩,g2⟩
    rcases List.mem_append.1 hy with h|h
    ·exact h2 y h
    ·rw [List.mem_singleton.1 h];exact hc q
 ·rintro m ⟨o,l⟩ ⟨⟨h1,h2⟩,h3⟩
  simp only [Jd.eq_2,DB,cF]
  exact AK h2
theorem YP{b:AF}(v:Bh b):∀k (h:k<(Dk b).length) j (g:j<(Dk b).length),(Dk b)[k].To=(Dk b)[j].From->(Dk b)[k].Kind=1∨(Dk b)[j].Kind=1:=by
 intro k hk j hj e
 rcases Ph v _ (List.getElem_mem hk)with c|⟨f,t,q,i,h⟩
 ·exact .inl c
 ·rcases Ph v _ (List.getElem_mem hj)with c|⟨f',t',q',i',h'⟩
  ·exact .inr c
  ·exfalso
   have:=h.to_;have:=h'.from_
   obtain rfl:t=f':=by omega
   obtain⟨_,a,_⟩:=h.snk
   obtain⟨_,b⟩:=h'.drv
   rw [a]at b;cases b
theorem lJ{n:Nat}{b:AF}(v:Bh b)(hn:1048577<=n):BH (fun r=>r.length<=6000) (aP n b):=by
 have vd:=v.design
 have hl:=CB vd.short vd.few.1 vd.few.2.2
 have hL:=FT v
 have hin:=JM v
 have hal:=YP v
 have wc:Bc b=((2*(pls b.Design).length:Nat):Int):=by unfold Bc;omega
 rw [aP,Rq v hn,Ao,dP (by omega) (by simp) hn,Ao,MM v hn,Ao,wc]
 generalize hX:Dk b=X at*
 have lt:ct (Ex (fun k (_:AR)=>[!(([]:List Int).any fun y=>y==(k:Int))]) 0 X)<=X.length:=by
  have:=List.countP_le_length (p:=fun b:Bool=>b) (l:=Ex (fun k (_:AR)=>[!(([]:List Int).any fun y=>y==(k:Int))]) 0 X)
  rw [GJ]at this;exact this
 refine QI (L:=fun m l=>NE n X _ _ m l) ct (fun l=>l.length=X.length) (BH fun r=>r.length<=6000) ?_ n _ (by omega) (GJ _ _ _)
 intro m l hlv ih
 simp only [NE.eq_2]
 refine BH.bind (tD hin hlv (by omega) (by omega) hal hn) fun r _ hr=>Af (fun _=>?_) fun q=>?_
 ·refine Dc (L:=fun m i s=>KC l _ m s i) l.length (fun i s=>s.length<=i) (BH fun r=>r.length<=6000) ?_ ?_ n 0 [] (by omega) (by omega) (Nat.le_refl _)
  ·intro m i s hi hs kk
   simp only [KC.eq_2,Cj hi,cT,AU hi,Ao,wT i]
   refine Af (fun _=>?_) fun _=>kk s (by omega)
   rw [BL (by simp;omega) (by omega),Ao]
   exact kk _ (by simp;omega)
  ·intro m s hs
   simp only [KC.eq_2,DB,cF]
   exact AK (by omega)
 ·have r0:0<r.length:=by have:=beq_eq_false_iff_ne.1 q;omega
  obtain⟨gl,k,hk,g1,g2,g3,g4⟩:=hr r[0] (List.getElem_mem r0)
  have e0:AM r 0=some r[0]:=AU r0
  have anyM:∀{y:Int},y∈r[0]->(r[0].any fun z=>z==y)=true:=fun h=>List.any_eq_true.2 ⟨_,h,by simp⟩
  refine Dc (L:=fun m' i (z:Int)=>Js n X l r _ m' z i) X.length (fun i z=>(∃q:Nat,z=(q:Int)∧q<X.length∧gb l q=true)∨i<=k) (BH fun r=>r.length<=6000) ?_ ?_ n 0 (-1) (by omega) (by omega) (.inr (Nat.zero_le _))
  ·intro m' i z hi hI kk
   simp only [Js.eq_2,Cj hi,cT,AU hi,NP (show i<l.length by omega),Ao,Bt,e0,jD (n:=n) (br:=r[0]) (show r[0].length<=1048576 by omega) hn,wT i]
   refine Af (fun c=>kk (i:Int) (.inl ⟨i,rfl,hi,?_⟩)) fun c=>kk z ?_
   ·simp only [Bool.and_eq_true]at c
    exact c.1.1.1
   ·rcases hI with h|h
    ·exact .inl h
    ·refine .inr ?_
     rcases Nat.lt_or_ge i k with h2|h2
     ·omega
     ·obtain rfl:i=k:=by omega
      rw [g1,g2,anyM g3,anyM g4]at c
      simp at c
  ·intro m' z hI
   simp only [Js.eq_2,DB,cF]
   rcases hI with ⟨q,rfl,h1,h2⟩|h
   ·rw [NP (show q<l.length by omega),Ao,Int.toNat_natCast]
    have:=Vr (show q<l.length by omega) h2
    exact ih _ (by simpa using hlv) (by omega)
   ·omega
theorem tS{n:Nat}{c:List Int}(hc:LD c){s:AA}(hs:Dw c s):BH (fun r=>r.1.Name.size<=1048576∧Dw c r.2) (VU n s):=by
 have e:=hs.code
 have nm:∀x∈[(ByteArray.mk #[115,108,111,119]),(ByteArray.mk #[102,97,115,116]),(ByteArray.mk #[116,121,112])],x.size<=1048576:=by
  intro x hx
  simp only [List.mem_cons,List.not_mem_nil,or_false]at hx
  rcases hx with rfl|rfl|rfl<;>decide
 rw [VU]
 refine BH.bind (Nx hc hs 3) fun r1 _ ⟨h1,z0,z1⟩=>BH.bind (BH.get z0 (by simp;omega) nm) fun x _ hx=>BH.bind (Nx hc (h1.mk2 e) 20) fun r2 _ ⟨h2,_⟩=>BH.bind (Nx hc (h2.mk2 e) 20) fun r3 _ ⟨h3,_⟩=>BH.bind (Nx hc (h3.mk2 e) 60) fun r4 _ ⟨h4,_⟩=>BH.bind (Nx hc (h4.mk2 e) 40) fun r5 _ ⟨h5,_⟩=>BH.bind (Nx hc (h5.mk2 e) 30) fun r6 _ ⟨h6,_⟩=>?_
 refine Af (fun _=>AK ⟨hx,h6.mk2 e⟩) fun _=>Af (fun _=>BH.bind (Nx hc (h6.mk2 e) 3) fun r7 _ ⟨h7,y0,y1⟩=>BH.bind (CU y0 (by simp;omega)) fun _ _ _=>AK ⟨hx,h7.mk2 e⟩) fun _=>Af (fun _=>BH.bind (Nx hc (h6.mk2 e) 2) fun r7 _ ⟨h7,_⟩=>AK ⟨hx,h7.mk2 e⟩) fun _=>Af (fun _=>AK ⟨(by decide:(ByteArray.mk #[]).size<=1048576),h6.mk2 e⟩) fun _=>AK ⟨hx,h6.mk2 e⟩
theorem rB{n:Nat}(hn:1048577<=n){c:List Int}(hc:LD c){s:AA}(hs:Dw c s){b:AF}(hb:Jq b):BH (fun r=>r.1.length<=1000∧Dw c r.2) (Wz n s b):=by
 have e:=hs.code
 obtain⟨v,e1,hv⟩:=Uj (n:=n) hb hn
 rw [Wz,e1,Ao]
 refine Af (fun _=>AK ⟨by simp,hs⟩) fun q=>?_
 have vb:=hv.1 (by cases v<;>simp_all)
 have vd:=vb.design
 have hl:=CB vd.short vd.few.1 vd.few.2.2
 rw [Oq vd.short vd.few.1 vd.few.2.2 hn,Ao]
 have hl2:((pls b.Design).map Gj).length<=78:=by simpa using hl
 generalize (pls b.Design).map Gj=ps at hl2 ⊢
 refine Dc (L:=fun m i (p:List Ap×Int×Int)=>Lt n s ps _ m p.1 i p.2.1 p.2.2) ps.length (fun i p=>p.1.length<=2*i∧Dw c (AA.mk s.code_ p.2.1 p.2.2)) (BH fun r=>r.1.length<=1000∧Dw c r.2) ?_ ?_ n 0 ([],s.at_,s.seed_) (by omega) (by omega) ⟨by simp,hs⟩
 ·rintro m i ⟨l,a,d⟩ hi ⟨h1,h2⟩ ih
  have h1:l.length<=2*i:=h1
  simp only [Lt.eq_2,Cj hi,cT,AU hi,Ao,Bt,wT i]
  generalize (decide (ps[i].instance_<0)&&ps[i].drives_)=c95
  refine Dc (L:=fun m' k (p:List Ap×Int×Int)=>Kh n s (i:Int) c95 _ m' p.1 k p.2.1 p.2.2) 2 (fun k p=>p.1.length<=2*i+k∧Dw c (AA.mk s.code_ p.2.1 p.2.2)) (BH fun r=>r.1.length<=1000∧Dw c r.2) ?_ ?_ n 0 (l,a,d) (by omega) (by omega) ⟨h1,h2⟩
  ·rintro m' k ⟨l,a,d⟩ hk ⟨g1,g2⟩ kk
   have g1:l.length<=2*i+k:=g1
   simp only [Kh.eq_2,show((2:Int))=((2:Nat):Int)from rfl,Cj hk,cT,wT k]
   refine BH.bind (A:=fun x:Bool×Int×Int=>Dw c (AA.mk s.code_ x.2.1 x.2.2)) (Af (fun _=>BH.bind (Nx hc g2 8) fun r _ ⟨q1,_⟩=>AK (q1.mk2 e)) fun _=>AK g2) fun x _ hx=>BH.bind (A:=fun x:Bool×Int×Int=>Dw c (AA.mk s.code_ x.2.1 x.2.2)) (Af (fun _=>AK hx) fun _=>BH.bind (Nx hc hx 24) fun r _ ⟨q1,_⟩=>AK (q1.mk2 e)) fun y _ hy=>Af (fun _=>?_) fun _=>kk (l,y.2.1,y.2.2) ⟨by show l.length<=_;omega,hy⟩
   refine BH.bind (Nx hc hy 200) fun r1 _ ⟨q1,_⟩=>BH.bind (Nx hc (q1.mk2 e) 30) fun r2 _ ⟨q2,_⟩=>BH.bind (Nx hc (q2.mk2 e) 40) fun r3 _ ⟨q3,_⟩=>BH.bind (Nx hc (q3.mk2 e) 12) fun r4 _ ⟨q4,_⟩=>?_
   rw [BL (by simp;omega) (by omega),Ao]
   exact kk (_,_,_) ⟨by simp;omega,q4.mk2 e⟩
  ·rintro m' ⟨l,a,d⟩ ⟨g1,g2⟩
   simp only [Kh.eq_2,show decide (((2:Nat):Int)<2)=false from rfl,cF]
   exact ih (l,a,d) ⟨g1,g2⟩
 ·rintro m ⟨l,a,d⟩ ⟨h1,h2⟩
  have h1:l.length<=2*ps.length:=h1
  simp only [Lt.eq_2,DB,cF]
  refine Af (fun g=>?_) fun _=>AK ⟨by show l.length<=1000;omega,h2⟩
  have g:=of_decide_eq_true g
  refine BH.bind (Nx hc h2 _) fun r1 _ ⟨q1,z0,z1⟩=>BH.bind (Nx hc (q1.mk2 e) 30) fun r2 _ ⟨q2,_⟩=>?_
  have z2:r1.1<(l.length:Int):=by omega
  have gg:BH (fun _=>True) (AM l r1.1):=(CU z0 z2).weaken fun _ _=>trivial
  have fin:∀x:Ap,BH (fun r=>r.1.length<=1000∧Dw c r.2) (some (l.set r1.1.toNat x,AA.mk s.code_ r2.2.at_ r2.2.seed_)):=fun x=>AK ⟨by simp;omega,q2.mk2 e⟩
  refine Af (fun _=>BH.bind (CU (Int.le_refl 0) (by omega)) fun _ _ _=>BH.bind gg fun _ _ _=>fin _) fun _=>Af (fun _=>BH.bind gg fun _ _ _=>BH.bind gg fun _ _ _=>fin _) fun _=>Af (fun _=>BH.bind gg fun _ _ _=>fin _) fun _=>Af (fun _=>BH.bind gg fun _ _ _=>fin _) fun _=>AK ⟨by show l.length<=1000;omega,q2.mk2 e⟩
structure dO(b:AF)(c:Ay)(br:List Int)(ss:List Ap):Prop where
 blk:NN b
 cor:c.Name.size<=1048576
 few:br.length<=6001
 src:ss.length<=1000
theorem kB{n:Nat}(hn:1048577<=n){c:List Int}(hc:LD c){s:AA}(hs:Dw c s){O:NB}{g:AF×Ay×List Int×List Ap×AA->Option Unit}(hg:∀b co br ss s',dO b co br ss->Dw c s'->g (b,co,br,ss,s')=some ()):Wa n O s g=some ():=by
 have e:=hs.code
 rw [Wa]
 refine qU hn hc hs fun b s' hb hs'=>LL (tS hc (hs'.mk2 e)) fun co ⟨hco,h1⟩=>LL (Nx hc (h1.mk2 e) 3) fun r ⟨h2,_⟩=>?_
 have go:∀(b:AF) (s':AA),NN b->Dw c s'->(Option.bind (Rx n ((AA.mk s.code_ s'.at_ s'.seed_)) b) fun r156=>(Option.bind (RS n b) fun r176=>(Option.bind (cond (r176&&((((r156.1.length:Int))==0))) (Option.bind (EP n ((AA.mk s.code_ r156.2.at_ r156.2.seed_)) 6) fun r187=>(some (decide (r187.1>0),r187.2.at_,r187.2.seed_))) (some (false,r156.2.at_,r156.2.seed_))) fun c187=>(cond c187.1 (Option.bind (aP n b) fun r222=>(Option.bind (Wz n ((AA.mk s.code_ c187.2.1 c187.2.2)) b) fun r232=>(g (b,co.1,r222,r232.1,(AA.mk s.code_ r232.2.at_ r232.2.seed_))))) (Option.bind (Wz n ((AA.mk s.code_ c187.2.1 c187.2.2)) b) fun r302=>(g (b,co.1,r156.1,r302.1,(AA.mk s.code_ r302.2.at_ r302.2.seed_))))))))=some ():=fun b s' hb hs'=>by
  refine LL (sD hn hc (hs'.mk2 e) hb.sm) fun br ⟨hbr,h3⟩=>?_
  obtain⟨v,e1,hv⟩:=Uj (n:=n) hb.sm hn
  rw [e1,Ao]
  refine LL (A:=fun x:Bool×Int×Int=>Dw c (AA.mk s.code_ x.2.1 x.2.2)∧(x.1=true->v=true)) (Af (fun q=>BH.bind (Nx hc (h3.mk2 e) 6) fun r _ ⟨q1,_⟩=>AK ⟨q1.mk2 e,fun _=>by cases v<;>simp_all⟩) fun _=>AK ⟨h3.mk2 e,fun h=>by cases h⟩) fun x ⟨hx,hv2⟩=>FB (fun q=>?_) fun _=>LL (rB hn hc hx hb.sm) fun ss ⟨hss,h4⟩=>hg _ _ _ _ _ ⟨hb,hco,hbr,hss⟩ (h4.mk2 e)
  exact LL (lJ (hv.1 (hv2 q)) hn) fun bk hbk=>LL (rB hn hc hx hb.sm) fun ss ⟨hss,h4⟩=>hg _ _ _ _ _ ⟨hb,hco,by omega,hss⟩ (h4.mk2 e)
 exact FB (fun _=>oE hn hc (h2.mk2 e) (by omega) fun b s' hb _ _ hs'=>go b s' hb hs') fun _=>go b r.2 hb h2
theorem Nr{b:AF}{t:Ah}(vt:KD b t){x:Int}(h0:0<=x)(h1:x<=Bc b-1):-1000000000<=(Ea t x).Early∧(Ea t x).Early<=(Ea t x).Late∧(Ea t x).Late<=1000000000:=by
 have r:=vt.reached;have a:=vt.arr;have s:=vt.slew
 obtain⟨q,rfl⟩:=Int.eq_ofNat_of_zero_le h0
 have h1:(q:Int)<=Bc b-1:=h1
 have e:=vt.each q (by omega) (by omega) (by omega)
 have ea:Ea t (q:Int)=t.Arrival[q]'(by omega):=by unfold Ea;simp [show q<t.Arrival.length by omega]
 show-1000000000<=(Ea t (q:Int)).Early∧(Ea t (q:Int)).Early<=(Ea t (q:Int)).Late∧(Ea t (q:Int)).Late<=1000000000
 rw [ea]
 simp only [QO,Oi,GA,Bool.not_eq_true',Bool.or_eq_false_iff,Bool.not_eq_false',Bool.and_eq_true,decide_eq_true_eq]at e
 omega
theorem Sa(a:Int):∃k:Int,wrap .i64 a=a+18446744073709551616*k∧ -9223372036854775808<=wrap .i64 a∧wrap .i64 a<=9223372036854775807:=by
 have e:(2:Int)^64=18446744073709551616:=by decide
 have e3:(2:Int)^63=9223372036854775808:=by decide
 unfold IntKind.wrap
 simp only [IntKind.bits,IntKind.signed,Bool.true_and,Nat.reduceSub,e,e3]
 split
 ·rename_i h
  have h:=of_decide_eq_true h
  exact⟨-(a/18446744073709551616)-1,by omega,by omega,by omega⟩
 ·rename_i h
  have h:¬a%18446744073709551616>=9223372036854775808:=fun g=>h (decide_eq_true g)
  exact⟨-(a/18446744073709551616),by omega,by omega,by omega⟩
theorem Yg{σ R:Type}{L:Nat->Int->σ->Option R}(I:Nat->σ->Prop)(Post:Option R->Prop)(hs:∀(m i:Nat) (st:σ),I (i+1) st->(∀st',I i st'->Post (L m ((i:Int)-1) st'))->Post (L (m+1) (i:Int) st))
 (he:∀(m:Nat) (st:σ),I 0 st->Post (L (m+1) (-1) st)):∀(m i:Nat) (st:σ),i<m->I i st->Post (L m ((i:Int)-1) st)
 |0,i,_,hm,_=>by omega
 |m+1,0,st,_,h=>he m st h
 |m+1,i+1,st,hm,h=>by
  rw [show((i+1:Nat):Int)-1=(i:Int) by omega]
  exact hs m i st h fun st' h'=>Yg I Post hs he m i st' (by omega) h'
theorem rS{n:Nat}(hn:1048577<=n){c:List Int}(hc:LD c){s:AA}(hs:Dw c s){b:AF}(hb:Jq b):BH (fun r=>r.1.length<=1000∧Dw c r.2) (gX n s b):=by
 have e:=hs.code
 obtain⟨v,e1,hv⟩:=Uj (n:=n) hb hn
 rw [gX,e1,Ao]
 refine Af (fun _=>AK ⟨by simp,hs⟩) fun q=>?_
 have vb:=hv.1 (by cases v<;>simp_all)
 have vd:=vb.design
 have hl:=CB vd.short vd.few.1 vd.few.2.2
 rw [Oq vd.short vd.few.1 vd.few.2.2 hn,Ao]
 have hl2:((pls b.Design).map Gj).length<=78:=by simpa using hl
 generalize (pls b.Design).map Gj=ps at hl2 ⊢
 refine Dc (L:=fun m i (p:List Al×Int×Int)=>Lb n s ps _ m p.1 i p.2.1 p.2.2) ps.length (fun i p=>p.1.length<=2*i∧Dw c (AA.mk s.code_ p.2.1 p.2.2)) (BH fun r=>r.1.length<=1000∧Dw c r.2) ?_ ?_ n 0 ([],s.at_,s.seed_) (by omega) (by omega) ⟨by simp,hs⟩
 ·rintro m i ⟨l,a,d⟩ hi ⟨h1,h2⟩ ih
  have h1:l.length<=2*i:=h1
  simp only [Lb.eq_2,Cj hi,cT,AU hi,Ao,wT i]
  refine BH.bind (A:=fun _=>True) (Af (fun _=>AK trivial) fun _=>AK trivial) fun c107 _ _=>BH.bind (A:=fun _=>True) (Af (fun _=>AK trivial) fun _=>BH.bind (A:=fun _=>True) (Af (fun _=>AK trivial) fun _=>AK trivial) fun _ _ _=>AK trivial) fun c121 _ _=>?_
  refine Dc (L:=fun m' k (p:List Al×Int×Int)=>Jz n s (i:Int) c121 _ m' p.1 k p.2.1 p.2.2) 2 (fun k p=>p.1.length<=2*i+k∧Dw c (AA.mk s.code_ p.2.1 p.2.2)) (BH fun r=>r.1.length<=1000∧Dw c r.2) ?_ ?_ n 0 (l,a,d) (by omega) (by omega) ⟨h1,h2⟩
  ·rintro m' k ⟨l,a,d⟩ hk ⟨g1,g2⟩ kk
   have g1:l.length<=2*i+k:=g1
   simp only [Jz.eq_2,show((2:Int))=((2:Nat):Int)from rfl,Cj hk,cT,wT k]
   refine BH.bind (A:=fun x:Bool×Int×Int=>Dw c (AA.mk s.code_ x.2.1 x.2.2)) (Af (fun _=>BH.bind (Nx hc g2 3) fun r _ ⟨q1,_⟩=>AK (q1.mk2 e)) fun _=>AK g2) fun x _ hx=>BH.bind (A:=fun x:Bool×Int×Int=>Dw c (AA.mk s.code_ x.2.1 x.2.2)) (Af (fun _=>AK hx) fun _=>BH.bind (Nx hc hx 24) fun r _ ⟨q1,_⟩=>AK (q1.mk2 e)) fun y _ hy=>Af (fun _=>?_) fun _=>kk (l,y.2.1,y.2.2) ⟨by show l.length<=_;omega,hy⟩
   refine BH.bind (Nx hc hy 400) fun r1 _ ⟨q1,_⟩=>BH.bind (Nx hc (q1.mk2 e) 300) fun r2 _ ⟨q2,_⟩=>?_
   rw [BL (by simp;omega) (by omega),Ao]
   exact kk (_,_,_) ⟨by simp;omega,q2.mk2 e⟩
  ·rintro m' ⟨l,a,d⟩ ⟨g1,g2⟩
   simp only [Jz.eq_2,show decide (((2:Nat):Int)<2)=false from rfl,cF]
   exact ih (l,a,d) ⟨g1,g2⟩
 ·rintro m ⟨l,a,d⟩ ⟨h1,h2⟩
  have h1:l.length<=2*ps.length:=h1
  simp only [Lb.eq_2,DB,cF]
  refine Af (fun g=>?_) fun _=>AK ⟨by show l.length<=1000;omega,h2⟩
  have g:=of_decide_eq_true g
  refine BH.bind (Nx hc h2 _) fun r1 _ ⟨q1,z0,z1⟩=>BH.bind (Nx hc (q1.mk2 e) 30) fun r2 _ ⟨q2,_⟩=>?_
  have z2:r1.1<(l.length:Int):=by omega
  have gg:BH (fun _=>True) (AM l r1.1):=(CU z0 z2).weaken fun _ _=>trivial
  refine Af (fun _=>BH.bind (CU (Int.le_refl 0) (by omega)) fun _ _ _=>BH.bind gg fun _ _ _=>AK ⟨by simp;omega,q2.mk2 e⟩) fun _=>Af (fun _=>BH.bind (Nx hc (q2.mk2 e) 4) fun r3 _ ⟨q3,y0,y1⟩=>BH.bind (CU y0 (by simp;omega)) fun _ _ _=>BH.bind gg fun _ _ _=>AK ⟨by simp;omega,q3.mk2 e⟩) fun _=>Af (fun _=>?_) fun _=>AK ⟨by show l.length<=1000;omega,q2.mk2 e⟩
  rw [MM vb hn,Ao]
  exact BH.bind gg fun _ _ _=>AK ⟨by simp;omega,q2.mk2 e⟩
theorem fP{n:Nat}{b:AF}{co:Ay}{br:List Int}{t:Ah}{tg:List Al}(hb:Jq b)(hco:co.Name.size<=1048576)(hbr:br.length<=1048576)(ht:t.Reached.length<=1048576)(htg:tg.length<=1048576)(hn:1048577<=n):
 BH (fun r=>r.1.length<=156∧((r.2 !=0)=false->(Bh b∧KD b t∧∀i (h:i<tg.length),Qi b tg i tg[i])∧NY n b br=some r)) (Uc n b co br t tg):=by
 rw [Uc]
 obtain⟨v,e1,hv⟩:=Uj (n:=n) hb hn
 rw [e1,Ao]
 refine BH.bind (A:=fun x=>x=false->v=true) (Af (fun _=>AK fun h=>by cases h) fun q=>BH.bind (jF hco hn) fun _ _ _=>AK fun _=>by cases v<;>simp_all) fun x _ hx=>BH.bind (A:=fun y=>y=false->Bh b∧KD b t) (Af (fun _=>AK fun h=>by cases h) fun q=>?_) fun y _ hy=>Af (fun _=>AK ⟨by simp,fun h=>by cases h⟩) fun q=>?_
 ·have vb:=hv.1 (hx q)
  obtain⟨p,f1,hp⟩:=kF (n:=n) (b:=b) ht hn
  rw [MM vb hn,Ao,f1,Ao]
  exact AK fun h=>⟨vb,hp.1 (by cases p<;>simp_all)⟩
 ·obtain⟨vb,vt⟩:=hy q
  obtain⟨p,f1,hp⟩:=rI (n:=n) (xs:=tg) vb htg hn
  refine BH.bind (YS hb hbr hn) fun r _ hr=>BH.bind (A:=fun z=>z=false->p=true) (Af (fun _=>AK fun h=>by cases h) fun _=>by rw [f1,Ao];exact AK fun h=>by cases p<;>simp_all) fun z _ hz=>Af (fun _=>AK ⟨by simp,fun h=>by cases h⟩) fun q2=>?_
  obtain⟨o,eo,ho⟩:=Xq (n:=n) (br:=br) hb hbr hn
  rw [eo,Ao]
  exact AK ⟨ho.1,fun _=>⟨⟨vb,vt,hp.1 (hz q2)⟩,rfl⟩⟩
theorem oX{n:Nat}{s:Ad}:Pd n s=some (GA s):=by
 simp only [Pd,HI,Ao,Bt];rfl
def Gp(x:BC)(q:Int):Bool:=x.Bound.getD q.toNat false
def EI(x:BC)(q:Int):Ad:=x.Required.getD q.toNat ⟨0,0⟩
def Nm(t:Ah)(x:BC)(q:Int):Bool:=Ew t q&&Gp x q
def Ml(t:Ah)(x:BC)(mode q:Int):Int:=cond (mode==0) ((Ea t q).Early-(EI x q).Early) ((EI x q).Late-(Ea t q).Late)
theorem ZP{x:BC}{q:Int}(h0:0<=q)(h1:q<x.Bound.length):AM x.Bound q=some (Gp x q):=by
 obtain⟨k,rfl⟩:=Int.eq_ofNat_of_zero_le h0
 rw [AU (show k<x.Bound.length by omega)];unfold Gp;simp [show k<x.Bound.length by omega]
theorem ZE{x:BC}{q:Int}(h0:0<=q)(h1:q<x.Required.length):AM x.Required q=some (EI x q):=by
 obtain⟨k,rfl⟩:=Int.eq_ofNat_of_zero_le h0
 rw [AU (show k<x.Required.length by omega)];unfold EI;simp [show k<x.Required.length by omega]
theorem Oa{b:AF}{x:BC}(vx:IV b x){q:Int}(h0:0<=q)(h1:q<=Bc b-1):(-1000000000<=(EI x q).Early∧(EI x q).Early<=1000000000)∧ -1000000000<=(EI x q).Late∧(EI x q).Late<=1000000000:=by
 have r:=vx.bound;have a:=vx.req
 obtain⟨k,rfl⟩:=Int.eq_ofNat_of_zero_le h0
 have h1:(k:Int)<=Bc b-1:=h1
 have e:=vx.each k (by omega) (by omega)
 have ea:EI x (k:Int)=x.Required[k]'(by omega):=by unfold EI;simp [show k<x.Required.length by omega]
 show(-1000000000<=(EI x (k:Int)).Early∧(EI x (k:Int)).Early<=1000000000)∧ -1000000000<=(EI x (k:Int)).Late∧(EI x (k:Int)).Late<=1000000000
 rw [ea]
 simp only [NU,GA,Bool.not_eq_true',Bool.or_eq_false_iff,Bool.not_eq_false',Bool.and_eq_true,decide_eq_true_eq]at e
 omega
theorem cQ{b:AF}{t:Ah}{x:BC}(vt:KD b t)(vx:IV b x)(mode:Int){q:Int}(h0:0<=q)(h1:q<=Bc b-1):-2000000000<=Ml t x mode q∧Ml t x mode q<=2000000000:=by
 have a:=Nr vt h0 h1;have r:=Oa vx h0 h1
 unfold Ml
 cases(mode==0)<;>simp only [cT,cF]<;>omega
theorem cJ{n:Nat}{b:AF}{t:Ah}{x:BC}(vt:KD b t)(vx:IV b x)(mode:Int){q:Int}(h0:0<=q)(h1:q<=Bc b-1):Pc n t x q mode=some (cond (Nm t x q) (Ml t x mode q,true) (0,false)):=by
 have a:=Nr vt h0 h1;have r:=Oa vx h0 h1
 have t1:=vt.reached;have t2:=vt.arr;have x1:=vx.bound;have x2:=vx.req
 simp only [Pc,ZZ h0 (show q<t.Reached.length by omega),eS h0 (show q<t.Arrival.length by omega),ZP h0 (show q<x.Bound.length by omega),ZE h0 (show q<x.Required.length by omega),Ao]
 rw [Aq (x:=(Ea t q).Early-(EI x q).Early) (by omega) (by omega),Aq (x:=(EI x q).Late-(Ea t q).Late) (by omega) (by omega)]
 unfold Nm Ml
 cases Ew t q<;>cases Gp x q<;>cases(mode==0)<;>rfl
theorem oV{n:Nat}{b:AF}{t:Ah}{x:BC}(hb:Jq b)(ht:t.Reached.length<=1048576)(hx:x.Bound.length<=1048576)(v:Bh b)(vt:KD b t)(vx:IV b x){mode:Int}(hm:(mode==0||mode==1)=true){q:Int}(h0:0<=q)(h1:q<=Bc b-1)(hn:1048577<=n):
 WZ n b t x q mode=some (cond (Nm t x q) (Ml t x mode q,0) (0,4)):=by
 have hp:=CB v.design.short v.design.few.1 v.design.few.2.2
 rw [WZ]
 rcases Zx (n:=n) hb ht hx hn with ⟨_,_,w,f2,hw⟩|⟨f1,_⟩
 ·have wN:wrap .i64 (Bc b-1)=Bc b-1:=Aq (by unfold Bc;omega) (by unfold Bc;omega)
  have d1:(decide (q>=0)&&decide (q<=Bc b-1))=true:=by simp only [Bool.and_eq_true,decide_eq_true_eq];omega
  rw [f2]
  simp only [Ao,cF,NV,bne_self_eq_false,OE,hm,Bool.not_true,Ta,Vx (r:=⟨b,w.places_,w.links_,w.loads_,w.delays_,w.extras_⟩) v hw,Jw,wN,d1,cJ (n:=n) vt vx mode h0 h1]
  cases Nm t x q<;>rfl
 ·obtain⟨c,e,hc⟩:=Uj (n:=n) hb hn
  obtain⟨p,f,hp⟩:=kF (n:=n) (b:=b) ht hn
  obtain⟨r,g,hr⟩:=oY (n:=n) (b:=b) hx hn
  obtain rfl:c=true:=hc.2 v
  obtain rfl:p=true:=hp.2 vt
  obtain rfl:r=true:=hr.2 vx
  rw [QN,e]at f1
  simp [MM v hn,f,g]at f1
structure Lk(L:List AR)(lv:List Bool)(o:List Int):Prop where
 nodup:∀i (h:i<o.length),o[i] ∉ o.take i
 pre:∀i (h:i<o.length) k (hk:k<L.length) (hv:k<lv.length),lv[k]=true->L[k].To=o[i]->L[k].From∈o.take i
theorem Lk.snoc{L:List AR}{lv:List Bool}{o:List Int}{x:Int}(h:Lk L lv o)(hx:x ∉ o)(hp:∀k (hk:k<L.length) (hv:k<lv.length),lv[k]=true->L[k].To=x->L[k].From∈o):Lk L lv (o++[x]):=by
 refine⟨fun i hi=>?_,fun i hi k hk hv hl ht=>?_⟩
 ·by_cases c:i<o.length
  ·rw [List.getElem_append_left c,List.take_append_of_le_length (by omega)];exact h.nodup i c
  ·obtain rfl:i=o.length:=by simp at hi;omega
   simpa using hx
 ·by_cases c:i<o.length
  ·rw [List.getElem_append_left c]at ht
   rw [List.take_append_of_le_length (by omega)];exact h.pre i c k hk hv hl ht
  ·obtain rfl:i=o.length:=by simp at hi;omega
   have:L[k].To=x:=by simpa using ht
   simpa using hp k hk hv hl this
theorem mN{n:Nat}{L:List AR}{lv:List Bool}{N:Nat}(hL:PU L N)(hlv:lv.length=L.length)(hl:L.length<=10000)(hN:N<=1000)(hn:1048577<=n):
 BH (fun r=>r.2=true->Lk L lv r.1) (aE n (N:Int) L lv):=by
 rw [aE,EA (by omega) (by omega),Ao]
 refine QI (L:=fun m (p:List Int×List Bool)=>JR n (N:Int) L lv _ m p.1 p.2) (fun p=>N-p.1.length) (fun p=>(p.1.length<=N∧p.2.length=N)∧Lk L lv p.1∧∀j (h:j<p.2.length),p.2[j]=true↔(j:Int)∈p.1) (BH fun r=>r.2=true->Lk L lv r.1) ?_ n ([],List.replicate N false) (by simp;omega) ⟨⟨by simp,by simp⟩,⟨fun i h=>by simp at h,fun i h=>by simp at h⟩,fun j h=>by simp⟩
 rintro m ⟨o,l⟩ ⟨⟨h1,h2⟩,h3,h4⟩ ih
 have h1:o.length<=N:=h1
 have h2:l.length=N:=h2
 have h4:∀j (h:j<l.length),l[j]=true↔(j:Int)∈o:=h4
 simp only [JR.eq_2]
 refine Af (fun c=>?_) fun _=>AK fun _=>h3
 have c:o.length<N:=by have:=of_decide_eq_true c;omega
 rw [EA (by omega) (by omega),Ao]
 refine Dc (L:=fun m' i (w:List Bool)=>HF L lv l _ m' i w) L.length (fun i w=>w.length=N∧∀k (h:k<L.length) (hv:k<lv.length),k<i->lv[k]=true->L[k].From ∉ o->w[L[k].To.toNat]? =some true) (BH fun r=>r.2=true->Lk L lv r.1) ?_ ?_ n 0 (List.replicate N false) (by omega) (by omega) ⟨by simp,fun k h hv hk=>by omega⟩
 ·rintro m' i w hi ⟨hw,hk⟩ kk
  have hf:=hL.from_ i hi
  have ht:=hL.to_ i hi
  have hiv:i<lv.length:=by omega
  obtain⟨f,ef⟩:=Int.eq_ofNat_of_zero_le hf.1
  have ef:L[i].From=(f:Int):=ef
  have hfl:f<l.length:=by omega
  simp only [HF.eq_2,Cj hi,cT,AU hi,AU hiv,Ao,wT i]
  refine BH.bind (A:=fun cc=>cc=false->¬(lv[i]=true∧L[i].From ∉ o)) (Af (fun q=>?_) fun q=>AK fun _ h=>by rw [q]at h;cases h.1) fun cc _ hcc=>Af (fun _=>BH.bind (CU ht.1 (by omega)) fun _ _ _=>kk _ ⟨by simpa using hw,?_⟩) fun q=>kk w ⟨hw,?_⟩
  ·rw [ef,AU hfl,Ao]
   exact AK fun h hh=>hh.2 ((h4 f hfl).1 (by simpa using h))
  ·intro k h hv hki hlvk hfo
   rw [List.getElem?_set]
   by_cases e:L[i].To.toNat=L[k].To.toNat
   ·rw [if_pos e,if_pos (by have:=hL.to_ i hi;omega)]
   ·rw [if_neg e]
    by_cases ek:k=i
    ·subst ek;exact absurd rfl e
    ·exact hk k h hv (by omega) hlvk hfo
  ·intro k h hv hki hlvk hfo
   by_cases ek:k=i
   ·subst ek;exact absurd ⟨hlvk,hfo⟩ (hcc q)
   ·exact hk k h hv (by omega) hlvk hfo
 ·rintro m' w ⟨hw,hk⟩
  simp only [HF.eq_2,DB,cF]
  refine Dc (L:=fun m' i (_:Unit)=>Hv (N:Int) l w _ m' i) N (fun _ _=>True) (BH fun r=>r.2=true->Lk L lv r.1) ?_ ?_ n 0 () (by omega) (by omega) trivial
  ·intro m'' i _ hi _ kk
   have hil:i<l.length:=by omega
   have hiw:i<w.length:=by omega
   simp only [Hv.eq_2,Cj hi,cT,AU hil,AU hiw,Ao,wT i]
   cases hli:l[i]with
   |true=>simp only [cT,Ao];exact kk () trivial
   |false=>
    simp only [cF,Ao]
    cases hwi:w[i]with
    |true=>simp only [cT];exact kk () trivial
    |false=>
     simp only [cF,show((i:Int)==(N:Int))=false from beq_eq_false_iff_ne.2 (by omega),Ao,Int.toNat_natCast]
     rw [BL (by simp;omega) (by omega),Ao]
     refine ih (o++[(i:Int)],l.set i true) ⟨⟨by simp;omega,by simpa using h2⟩,h3.snoc ?_ ?_,?_⟩ (by simp;omega)
     ·exact fun h=>by have:=(h4 i hil).2 h;rw [hli]at this;cases this
     ·intro k h hv hlvk hto
      by_cases hfo:L[k].From∈o
      ·exact hfo
      ·have:=hk k h hv h hlvk hfo
       rw [hto,Int.toNat_natCast,List.getElem?_eq_getElem hiw,hwi]at this;cases this
     ·intro j hj
      have hj2:j<l.length:=by simpa using hj
      have:=h4 j hj2
      show(l.set i true)[j]=true↔(j:Int)∈o++[(i:Int)]
      rw [List.getElem_set,List.mem_append,List.mem_singleton]
      by_cases e:i=j
      ·subst e;simp
      ·rw [if_neg e,this]
       exact⟨fun h=>.inl h,fun h=>h.elim id fun h=>by omega⟩
  ·intro m'' _ _
   simp only [Hv.eq_2,DB,cF,Ao,beq_self_eq_true,cT]
   exact AK fun h=>by cases h
abbrev Rb(b:AF)(br:List Int):List Bool:=Ex (fun k (_:AR)=>[!(br.any fun y=>y==(k:Int))]) 0 (Dk b)
theorem Zz{n:Nat}{b:AF}{br:List Int}(hb:Jq b)(hbr:br.length<=1048576)(hn:1048577<=n){r:List Int×Int}(e:NY n b br=some r)(q:(r.2 !=0)=false):Lk (Dk b) (Rb b br) r.1:=by
 rw [NY]at e
 obtain⟨k,ek,hk⟩:=YS (n:=n) (br:=br) hb hbr hn
 rw [ek,Ao]at e
 cases hq:(k !=0)with
 |true=>
  rw [hq,cT]at e;cases e
  have q:(k !=0)=false:=q
  rw [hq]at q;cases q
 |false=>
  have v:=hk hq
  have vd:=v.design
  have hl:=CB vd.short vd.few.1 vd.few.2.2
  have hL:=FT v
  have wc:Bc b=((2*(pls b.Design).length:Nat):Int):=by unfold Bc;omega
  obtain⟨o,eo,ho⟩:=mN (n:=n) (lv:=Rb b br) (JM v) (GJ _ _ _) (by omega) (by omega) hn
  rw [hq,cF,Rq v hn,Ao,MM v hn,Ao,dP (by omega) hbr hn,Ao,wc,eo,Ao]at e
  cases hs:o.2 with
  |false=>rw [hs]at e;cases e;cases q
  |true=>rw [hs]at e;cases e;exact ho hs
theorem PS{l:List Int}{i:Nat}{x:Int}(h:i<l.length):x∈l.take (i+1)↔x∈l.take i∨x=l[i]:=by
 have e:=List.take_succ_eq_append_getElem h
 rw [e,List.mem_append,List.mem_singleton]
def Tl(L:List AR)(lv:List Bool)(x:AR):Prop:=∃k,∃h:k<L.length,∃hv:k<lv.length,lv[k]=true∧L[k]=x
theorem Lk.lk{L:List AR}{lv:List Bool}{o:List Int}(h:Lk L lv o){i:Nat}(hi:i<=o.length){x:AR}(hx:Tl L lv x)(ht:x.To∈o.take i):x.From∈o.take i:=by
 obtain⟨k,hk,hv,hl,rfl⟩:=hx
 obtain⟨j,hj,e⟩:=List.getElem_of_mem ht
 have hj2:j<i:=by simp at hj;omega
 rw [List.getElem_take]at e
 have:=h.pre j (by omega) k hk hv hl e.symm
 rw [show o.take j=(o.take i).take j by rw [List.take_take];congr 1;omega]at this
 exact List.mem_of_mem_take this
def Oe(t:Ah)(x:Int):Ad:=t.Slew.getD x.toNat ⟨0,0⟩
theorem ZG{t:Ah}{x:Int}(h0:0<=x)(h1:x<t.Slew.length):AM t.Slew x=some (Oe t x):=by
 obtain⟨q,rfl⟩:=Int.eq_ofNat_of_zero_le h0
 rw [AU (show q<t.Slew.length by omega)];unfold Oe;simp [show q<t.Slew.length by omega]
theorem MU{α:Type}(l:List α){w x:Int}(a d:α)(h0:0<=w)(h1:w<l.length)(hx:0<=x):(l.set w.toNat a).getD x.toNat d=if x=w then a else l.getD x.toNat d:=by
 rw [List.getD_eq_getElem?_getD,List.getElem?_set]
 by_cases c:x=w
 ·subst c;rw [if_pos rfl,if_pos (by omega),if_pos rfl];rfl
 ·rw [if_neg (by omega),if_neg c,List.getD_eq_getElem?_getD]
def Nf(n:Nat)(b:AF)(c:Ay)(t:Ah)(x:AR)(q:Bool)(s:Ad):Prop:=q=true∧∃d z,Ot n b c x (Oe t x.From)=some (d,z)∧s.Early<=wrap .i64 ((Ea t x.From).Early+d.Early)∧wrap .i64 ((Ea t x.From).Late+d.Late)<=s.Late
theorem nA{n:Nat}{b:AF}(v:Bh b){c:Ay}{lv:List Bool}(hlv:lv.length=(Dk b).length){ss:List Ap}(hs:ss.length<=1048576){t:Ah}(ht:Yi (2*(pls b.Design).length) t){k:Int}(hn:1048577<=n):
 BH (fun r=>∀x,Tl (Dk b) lv x->x.To=k->Ew t x.From=true->Nf n b c t x r.1 r.2.Arrival) (bQ n b c (Dk b) lv ss t k):=by
 have hL:=FT v
 have hin:=JM v
 have hr:=ht.r;have ha:=ht.a;have hsl:=ht.s
 rw [bQ]
 refine Dc (L:=fun m i (p:kA)=>Gy ss k _ m p.1 i p.2.1 p.2.2.1 p.2.2.2.1 p.2.2.2.2.1 p.2.2.2.2.2) ss.length (fun _ _=>True) (BH _) ?_ ?_ n 0 (false,0,0,0,0,0) (by omega) (by omega) trivial
 ·rintro m i ⟨q,i2,i3,i4,i5,i6⟩ hi _ ih
  simp only [Gy.eq_2,Cj hi,cT,AU hi,Ao,wT i]
  exact Af (fun _=>ih (true,_,_,_,_,_) trivial) fun _=>ih (q,i2,i3,i4,i5,i6) trivial
 ·rintro m ⟨q,i2,i3,i4,i5,i6⟩ _
  simp only [Gy.eq_2,DB,cF]
  refine Dc (L:=fun m i (p:kA)=>GU n b c (Dk b) lv t k _ m p.1 i p.2.1 p.2.2.1 p.2.2.2.1 p.2.2.2.2.1 p.2.2.2.2.2) (Dk b).length (fun i p=>∀j (h:j<(Dk b).length) (hv:j<lv.length),j<i->lv[j]=true->(Dk b)[j].To=k->Ew t (Dk b)[j].From=true->Nf n b c t (Dk b)[j] p.1 ⟨p.2.2.1,p.2.2.2.1⟩) (BH _) ?_ ?_ n 0 (q,i2,i3,i4,i5,i6) (by omega) (by omega) (fun j _ _ h=>by omega)
  ·rintro m i ⟨q,i2,i3,i4,i5,i6⟩ hi hI ih
   have hI:∀j (h:j<(Dk b).length) (hv:j<lv.length),j<i->lv[j]=true->(Dk b)[j].To=k->Ew t (Dk b)[j].From=true->Nf n b c t (Dk b)[j] q ⟨i3,i4⟩:=hI
   have hf:=hin.from_ i hi
   simp only [GU.eq_2,Cj hi,cT,AU hi,AU (show i<lv.length by omega),Ao,ZZ hf.1 (show(Dk b)[i].From<t.Reached.length by omega),eS hf.1 (show(Dk b)[i].From<t.Arrival.length by omega),ZG hf.1 (show(Dk b)[i].From<t.Slew.length by omega),wT i]
   refine BH.bind (A:=fun cc=>cc=true->¬(lv[i]'(by omega)=true∧(Dk b)[i].To=k∧Ew t (Dk b)[i].From=true)) (Af (fun g=>AK fun _ ⟨a,b2,_⟩=>by simp [a,b2]at g) fun _=>AK fun h ⟨_,_,a⟩=>by rw [a]at h;cases h) fun cc _ hcc=>Af (fun g=>ih (q,i2,i3,i4,i5,i6) fun j hj hv hji a b2 c2=>?_) fun g=>?_
   ·by_cases e:j=i
    ·subst e;exact absurd ⟨a,b2,c2⟩ (hcc g)
    ·exact hI j hj hv (by omega) a b2 c2
   ·obtain⟨⟨d,z⟩,es,_⟩:=cS (n:=n) (c:=c) (s:=Oe t (Dk b)[i].From) v (List.getElem_mem hi) hn
    rw [es,Ao]
    refine Af (fun g2=>?_) fun g2=>ih (true,_,_,_,_,_) fun j hj hv hji a b2 c2=>?_
    ·simp only [SO,Ao]
     refine ih (true,_,_,_,_,_) fun j hj hv hji a b2 c2=>?_
     by_cases e:j=i
     ·subst e;exact⟨rfl,d,z,es,Int.min_le_left ..,Int.le_max_left ..⟩
     ·obtain⟨_,d2,z2,e2,a1,a2⟩:=hI j hj hv (by omega) a b2 c2
      exact⟨rfl,d2,z2,e2,Int.le_trans (Int.min_le_right ..) a1,Int.le_trans a2 (Int.le_max_right ..)⟩
    ·by_cases e:j=i
     ·subst e;exact⟨rfl,d,z,es,Int.le_refl _,Int.le_refl _⟩
     ·obtain⟨g3,_⟩:=hI j hj hv (by omega) a b2 c2
      rw [g2]at g3;cases g3
  ·rintro m ⟨q,i2,i3,i4,i5,i6⟩ hI
   simp only [GU.eq_2,DB,cF]
   refine AK fun x hx hk hq=>?_
   obtain⟨j,hj,hv,a,rfl⟩:=hx
   exact hI j hj hv hj a hk hq
theorem kT{l1:List Bool}{l2 l3:List Ad}{w:Int}(a s:Ad)(h0:0<=w)(h1:w<l1.length)(h2:w<l2.length)(h3:w<l3.length):
 (Ew ⟨l1.set w.toNat true,l2.set w.toNat a,l3.set w.toNat s⟩ w=true∧Ea ⟨l1.set w.toNat true,l2.set w.toNat a,l3.set w.toNat s⟩ w=a)∧∀q,0<=q->q≠w->Ew ⟨l1.set w.toNat true,l2.set w.toNat a,l3.set w.toNat s⟩ q=Ew ⟨l1,l2,l3⟩ q∧Ea ⟨l1.set w.toNat true,l2.set w.toNat a,l3.set w.toNat s⟩ q=Ea ⟨l1,l2,l3⟩ q∧Oe ⟨l1.set w.toNat true,l2.set w.toNat a,l3.set w.toNat s⟩ q=Oe ⟨l1,l2,l3⟩ q:=by
 unfold Ew Ea Oe
 refine⟨⟨by rw [MU _ _ _ h0 h1 h0,if_pos rfl],by rw [MU _ _ _ h0 h2 h0,if_pos rfl]⟩,fun q hq hne=>⟨by rw [MU _ _ _ h0 h1 hq,if_neg hne],by rw [MU _ _ _ h0 h2 hq,if_neg hne],by rw [MU _ _ _ h0 h3 hq,if_neg hne]⟩⟩
theorem mW{n:Nat}{b:AF}(v:Bh b){c:Ay}{lv:List Bool}(hlv:lv.length=(Dk b).length){ss:List Ap}(hs:ss.length<=1048576){od:List Int}(ho:od.length<=1048576)(hr:∀x∈od,0<=x∧x<((2*(pls b.Design).length:Nat):Int))(hO:Lk (Dk b) lv od)(hn:1048577<=n):
 BH (fun r=>r.2=true->∀x,Tl (Dk b) lv x->x.To∈od->Ew r.1 x.From=true->Nf n b c r.1 x (Ew r.1 x.To) (Ea r.1 x.To)) (ZQ n b c (Dk b) lv ss od):=by
 have vd:=v.design
 have hl:=CB vd.short vd.few.1 vd.few.2.2
 have hin:=JM v
 have wc:Bc b=((2*(pls b.Design).length:Nat):Int):=by unfold Bc;omega
 generalize hN:2*(pls b.Design).length=N at*
 rw [ZQ,MM v hn,Ao,wc,Ug]
 simp only [EA (show N<=1048576 by omega) (show 1<=268435456 by omega),EA (show N<=1048576 by omega) (show 16<=268435456 by omega),Ao]
 refine Dc (L:=fun m i (p:List Bool×List Ad×List Ad)=>HG n b c (Dk b) lv ss od _ m i p.1 p.2.1 p.2.2) od.length (fun i p=>Yi N ⟨p.1,p.2.1,p.2.2⟩∧∀x,Tl (Dk b) lv x->x.To∈od.take i->Ew ⟨p.1,p.2.1,p.2.2⟩ x.From=true->Nf n b c ⟨p.1,p.2.1,p.2.2⟩ x (Ew ⟨p.1,p.2.1,p.2.2⟩ x.To) (Ea ⟨p.1,p.2.1,p.2.2⟩ x.To)) (BH _) ?_ ?_ n 0 (List.replicate N false,List.replicate N ⟨0,0⟩,List.replicate N ⟨0,0⟩) (by omega) (by omega) ⟨⟨by simp,by simp,by simp⟩,fun x _ h=>by simp at h⟩
 ·rintro m i ⟨l1,l2,l3⟩ hi ⟨⟨h1,h2,h3⟩,hA⟩ ih
  have h1:l1.length=N:=h1
  have h2:l2.length=N:=h2
  have h3:l3.length=N:=h3
  have hA:∀x,Tl (Dk b) lv x->x.To∈od.take i->Ew ⟨l1,l2,l3⟩ x.From=true->Nf n b c ⟨l1,l2,l3⟩ x (Ew ⟨l1,l2,l3⟩ x.To) (Ea ⟨l1,l2,l3⟩ x.To):=hA
  have hx:=hr _ (List.getElem_mem hi)
  have nd:=hO.nodup i hi
  simp only [HG.eq_2,Cj hi,cT,AU hi,Ao,wT i]
  refine BH.bind (nA v (c:=c) hlv hs (t:=⟨l1,l2,l3⟩) (k:=od[i]) (by rw [hN];exact⟨h1,h2,h3⟩) hn) fun r _ hP=>Af (fun g=>ih (l1,l2,l3) ⟨⟨h1,h2,h3⟩,fun x hxl ht hq=>?_⟩) fun g=>BH.bind rN fun q _ _=>Af (fun _=>AK fun h=>by cases h) fun _=>?_
  ·rcases(PS hi).1 ht with ht|ht
   ·exact hA x hxl ht hq
   ·have:=(hP x hxl ht hq).1
    rw [this]at g;cases g
  ·refine BH.bind (CU hx.1 (by omega)) fun _ _ _=>BH.bind (CU hx.1 (by omega)) fun _ _ _=>BH.bind (CU hx.1 (by omega)) fun _ _ _=>ih (_,_,_) ⟨⟨by simpa using h1,by simpa using h2,by simpa using h3⟩,fun x hxl ht hq=>?_⟩
   obtain⟨⟨s1,s2⟩,s3⟩:=kT (l1:=l1) (l2:=l2) (l3:=l3) (w:=od[i]) r.2.Arrival r.2.Slew hx.1 (by omega) (by omega) (by omega)
   obtain⟨k,hk,hv,hl,rfl⟩:=id hxl
   have rf:=hin.from_ k hk
   have rt:=hin.to_ k hk
   have hfm:=hO.lk (by omega) hxl ht
   rcases(PS hi).1 ht with ht|ht
   ·have hf:=hO.lk (by omega) hxl ht
    obtain⟨f1,f2,f3⟩:=s3 _ rf.1 (fun e=>nd (e▸hf))
    obtain⟨t1,t2,t3⟩:=s3 _ rt.1 (fun e=>nd (e▸ht))
    have hq:Ew ⟨l1.set od[i].toNat true,l2.set od[i].toNat r.2.Arrival,l3.set od[i].toNat r.2.Slew⟩ (Dk b)[k].From=true:=hq
    rw [f1]at hq
    have:=hA _ hxl ht hq
    show Nf n b c ⟨l1.set od[i].toNat true,l2.set od[i].toNat r.2.Arrival,l3.set od[i].toNat r.2.Slew⟩ (Dk b)[k] (Ew ⟨l1.set od[i].toNat true,l2.set od[i].toNat r.2.Arrival,l3.set od[i].toNat r.2.Slew⟩ (Dk b)[k].To) (Ea ⟨l1.set od[i].toNat true,l2.set od[i].toNat r.2.Arrival,l3.set od[i].toNat r.2.Slew⟩ (Dk b)[k].To)
    unfold Nf at this ⊢
    rw [t1,t2,f2,f3];exact this
   ·have hf:(Dk b)[k].From∈od.take i:=hO.pre i hi k hk hv hl ht
    obtain⟨f1,f2,f3⟩:=s3 _ rf.1 (fun e=>nd (e▸hf))
    have hq:Ew ⟨l1.set od[i].toNat true,l2.set od[i].toNat r.2.Arrival,l3.set od[i].toNat r.2.Slew⟩ (Dk b)[k].From=true:=hq
    rw [f1]at hq
    have:=hP _ hxl ht hq
    show Nf n b c ⟨l1.set od[i].toNat true,l2.set od[i].toNat r.2.Arrival,l3.set od[i].toNat r.2.Slew⟩ (Dk b)[k] (Ew ⟨l1.set od[i].toNat true,l2.set od[i].toNat r.2.Arrival,l3.set od[i].toNat r.2.Slew⟩ (Dk b)[k].To) (Ea ⟨l1.set od[i].toNat true,l2.set od[i].toNat r.2.Arrival,l3.set od[i].toNat r.2.Slew⟩ (Dk b)[k].To)
    unfold Nf at this ⊢
    rw [ht,s1,s2,f2,f3]
    exact⟨rfl,this.2⟩
 ·rintro m ⟨l1,l2,l3⟩ ⟨_,hA⟩
  simp only [HG.eq_2,DB,cF]
  refine AK fun _ x hx ht hq=>?_
  exact hA x hx (by rw [List.take_length];exact ht) hq
def Wb(n:Nat)(b:AF)(c:Ay)(lv:List Bool)(t:Ah)(tg:List Al)(x:BC)(k:Int)(s:Ad):Prop:=
 (∃i,∃h:i<tg.length,tg[i].Node=k)∨((∃y,Tl (Dk b) lv y∧y.From=k∧Gp x y.To=true∧∃d z,Ot n b c y (Oe t k)=some (d,z)∧s.Early=wrap .i64 ((EI x y.To).Early-d.Early))∧(∃y,Tl (Dk b) lv y∧y.From=k∧Gp x y.To=true∧∃d z,Ot n b c y (Oe t k)=some (d,z)∧s.Late=wrap .i64 ((EI x y.To).Late-d.Late)))
theorem Wb.mono{n:Nat}{b:AF}(v:Bh b){c:Ay}{lv:List Bool}{t:Ah}{tg:List Al}{x x2:BC}{k:Int}{s:Ad}(h:Wb n b c lv t tg x k s)(hm:∀q,0<=q->Gp x q=true->Gp x2 q=true∧EI x2 q=EI x q):Wb n b c lv t tg x2 k s:=by
 have hin:=JM v
 have tp:∀y,Tl (Dk b) lv y->0<=y.To:=fun y ⟨j,hj,_,_,e⟩=>e▸(hin.to_ j hj).1
 rcases h with h|⟨⟨y,a,b2,c2,d,z,e,f⟩,⟨y2,a2,b3,c3,d2,z2,e2,f2⟩⟩
 ·exact .inl h
 ·obtain⟨m1,m2⟩:=hm _ (tp y a) c2
  obtain⟨m3,m4⟩:=hm _ (tp y2 a2) c3
  exact .inr ⟨⟨y,a,b2,m1,d,z,e,by rw [m2];exact f⟩,⟨y2,a2,b3,m3,d2,z2,e2,by rw [m4];exact f2⟩⟩
theorem pH{n:Nat}{b:AF}(v:Bh b){c:Ay}{lv:List Bool}(hlv:lv.length=(Dk b).length){tg:List Al}(htg:tg.length<=1048576){t:Ah}(ht:KD b t){x:BC}(hb:(x.Bound.length:Int)=Bc b)(hq:(x.Required.length:Int)=Bc b){k:Int}(k0:0<=k∧k<Bc b)(hn:1048577<=n):
 BH (fun r=>r.1=true->Ew t k=true∧Wb n b c lv t tg x k r.2.Required) (hZ n b c (Dk b) lv t tg x k):=by
 have hL:=FT v
 have hin:=JM v
 have hr:=ht.reached;have hsl:=ht.slew
 have wc:Bc b=((2*(pls b.Design).length:Nat):Int):=by unfold Bc;omega
 rw [hZ,ZZ k0.1 (by omega),Ao]
 refine Af (fun _=>AK fun h=>by cases h) fun g0=>?_
 have g0:Ew t k=true:=by simpa using g0
 refine Dc (L:=fun m i (p:Bool×Int×Int×Int)=>KH tg k _ m p.1 i p.2.1 p.2.2.1 p.2.2.2) tg.length (fun _ p=>p.1=true->∃i,∃h:i<tg.length,tg[i].Node=k) (BH _) ?_ ?_ n 0 (false,0,0,0) (by omega) (by omega) (fun h=>by cases h)
 ·rintro m i ⟨q,i2,i3,i4⟩ hi hI ih
  simp only [KH.eq_2,Cj hi,cT,AU hi,Ao,wT i]
  exact Af (fun g=>ih (true,_,_,_) fun _=>⟨i,hi,beq_iff_eq.1 g⟩) fun _=>ih (q,i2,i3,i4) hI
 ·rintro m ⟨q,i2,i3,i4⟩ hT
  simp only [KH.eq_2,DB,cF]
  refine Dc (L:=fun m i (p:Bool×Int×Int×Int)=>JV n b c (Dk b) lv t x k _ m p.1 i p.2.1 p.2.2.1 p.2.2.2) (Dk b).length (fun _ p=>p.1=true->Wb n b c lv t tg x k ⟨p.2.2.1,p.2.2.2⟩) (BH _) ?_ ?_ n 0 (q,i2,i3,i4) (by omega) (by omega) (fun h=>.inl (hT h))
  ·rintro m i ⟨q,i2,i3,i4⟩ hi hI ih
   have hI:q=true->Wb n b c lv t tg x k ⟨i3,i4⟩:=hI
   have hf:=hin.to_ i hi
   simp only [JV.eq_2,Cj hi,cT,AU hi,AU (show i<lv.length by omega),Ao,ZP hf.1 (show(Dk b)[i].To<x.Bound.length by omega),ZE hf.1 (show(Dk b)[i].To<x.Required.length by omega),ZG k0.1 (show k<t.Slew.length by omega),wT i]
   refine BH.bind (A:=fun cc=>cc=false->lv[i]'(by omega)=true∧(Dk b)[i].From=k∧Gp x (Dk b)[i].To=true) (Af (fun g=>AK fun h=>by cases h) fun g=>AK fun h=>?_) fun cc _ hcc=>Af (fun g=>ih (q,i2,i3,i4) hI) fun g=>?_
   ·simp only [Bool.or_eq_false_iff,Bool.not_eq_false',bne_eq_false_iff_eq]at g
    exact⟨g.1,g.2,by simpa using h⟩
   ·obtain⟨c1,c2,c3⟩:=hcc g
    obtain⟨⟨d,z⟩,es,_⟩:=cS (n:=n) (c:=c) (s:=Oe t k) v (List.getElem_mem hi) hn
    have lk:Tl (Dk b) lv (Dk b)[i]:=⟨i,hi,by omega,c1,rfl⟩
    rw [es,Ao]
    refine Af (fun g2=>ih (true,_,_,_) fun _=>?_) fun g2=>ih (true,_,_,_) fun _=>.inr ⟨⟨_,lk,c2,c3,d,z,es,rfl⟩,⟨_,lk,c2,c3,d,z,es,rfl⟩⟩
    rcases hI g2 with h|⟨h1,h2⟩
    ·exact .inl h
    ·refine .inr ⟨?_,?_⟩
     ·obtain⟨y,a,b2,e2,d2,z2,e3,f⟩:=h1
      have f:i3=_:=f
      rcases(show max (wrap .i64 ((EI x (Dk b)[i].To).Early-d.Early)) i3=wrap .i64 ((EI x (Dk b)[i].To).Early-d.Early)∨max (wrap .i64 ((EI x (Dk b)[i].To).Early-d.Early)) i3=i3 by omega)with m|m
      ·exact⟨_,lk,c2,c3,d,z,es,m⟩
      ·exact⟨y,a,b2,e2,d2,z2,e3,m.trans f⟩
     ·obtain⟨y,a,b2,e2,d2,z2,e3,f⟩:=h2
      have f:i4=_:=f
      rcases(show min (wrap .i64 ((EI x (Dk b)[i].To).Late-d.Late)) i4=wrap .i64 ((EI x (Dk b)[i].To).Late-d.Late)∨min (wrap .i64 ((EI x (Dk b)[i].To).Late-d.Late)) i4=i4 by omega)with m|m
      ·exact⟨_,lk,c2,c3,d,z,es,m⟩
      ·exact⟨y,a,b2,e2,d2,z2,e3,m.trans f⟩
  ·rintro m ⟨q,i2,i3,i4⟩ hI
   simp only [JV.eq_2,DB,cF]
   exact AK fun h=>⟨g0,hI h⟩
theorem Lk.drop{L:List AR}{lv:List Bool}{o:List Int}(h:Lk L lv o){i:Nat}(hi:i<o.length):o[i] ∉ o.drop (i+1):=fun hm=>by
 obtain⟨j,hj,e⟩:=List.getElem_of_mem hm
 have hj2:i+1+j<o.length:=by simp at hj;omega
 rw [List.getElem_drop]at e
 refine h.nodup (i+1+j) hj2 ?_
 rw [e]
 exact List.mem_take_iff_getElem.2 ⟨i,by omega,rfl⟩
theorem lR{l1:List Bool}{l2:List Ad}{w:Int}(a:Ad)(h0:0<=w)(h1:w<l1.length)(h2:w<l2.length):
 (Gp ⟨l1.set w.toNat true,l2.set w.toNat a⟩ w=true∧EI ⟨l1.set w.toNat true,l2.set w.toNat a⟩ w=a)∧∀q,0<=q->q≠w->Gp ⟨l1.set w.toNat true,l2.set w.toNat a⟩ q=Gp ⟨l1,l2⟩ q∧EI ⟨l1.set w.toNat true,l2.set w.toNat a⟩ q=EI ⟨l1,l2⟩ q:=by
 unfold Gp EI
 exact⟨⟨by rw [MU _ _ _ h0 h1 h0,if_pos rfl],by rw [MU _ _ _ h0 h2 h0,if_pos rfl]⟩,fun q hq hne=>⟨by rw [MU _ _ _ h0 h1 hq,if_neg hne],by rw [MU _ _ _ h0 h2 hq,if_neg hne]⟩⟩
theorem oJ{n:Nat}{b:AF}{co:Ay}{br:List Int}{t:Ah}{tg:List Al}(hb:Jq b)(hco:co.Name.size<=1048576)(hbr:br.length<=1048576)(ht:t.Reached.length<=1048576)(htg:tg.length<=1048576)(hn:1048577<=n):
 BH (fun r=>r.1.Bound.length<=156∧((r.2 !=0)=false->Bh b∧KD b t∧∃od,NY n b br=some od∧(od.2 !=0)=false∧∀u,0<=u->Gp r.1 u=true->u∈od.1∧Ew t u=true∧Wb n b co (Rb b br) t tg r.1 u (EI r.1 u))) (VK n b co br t tg):=by
 rw [VK]
 refine BH.bind (fP hb hco hbr ht htg hn) fun od _ ho=>Af (fun q=>AK ⟨by simp,fun h=>by rw [show(od.2 !=0)=false from h]at q;cases q⟩) fun q=>?_
 obtain⟨⟨v,vt,_⟩,eo⟩:=ho.2 q
 have hO:=Zz hb hbr hn eo q
 have vd:=v.design
 have hl:=CB vd.short vd.few.1 vd.few.2.2
 have hL:=FT v
 have wc:Bc b=((2*(pls b.Design).length:Nat):Int):=by unfold Bc;omega
 obtain⟨od',eo',ho'⟩:=Xq (n:=n) (br:=br) hb hbr hn
 have eo2:=eo
 rw [eo']at eo2
 obtain rfl:od=od':=(Option.some.inj eo2).symm
 have hr:=(ho'.2 q).2
 have hol:=ho'.1
 generalize hN:2*(pls b.Design).length=N at*
 simp only [Rq v hn,dP (show(Dk b).length<=1048576 by omega) hbr hn,MM v hn,Ao,wc,EA (show N<=1048576 by omega) (show 1<=268435456 by omega),EA (show N<=1048576 by omega) (show 16<=268435456 by omega),Aq (x:=(od.1.length:Int)-1) (by omega) (by omega)]
 refine Yg (L:=fun m i (p:List Bool×List Ad)=>Hh n b co t tg od (Dk b) (Rb b br) _ m i p.1 p.2) (fun i p=>(i<=od.1.length∧p.1.length=N∧p.2.length=N)∧∀u,0<=u->Gp ⟨p.1,p.2⟩ u=true->u∈od.1.drop i∧Ew t u=true∧Wb n b co (Rb b br) t tg ⟨p.1,p.2⟩ u (EI ⟨p.1,p.2⟩ u)) (BH _) ?_ ?_ n od.1.length (List.replicate N false,List.replicate N ⟨0,0⟩) (by omega) ⟨⟨Nat.le_refl _,by simp,by simp⟩,fun u _ h=>?_⟩
 ·rintro m i ⟨l1,l2⟩ ⟨⟨hi,h1,h2⟩,hB⟩ ih
  have h1:l1.length=N:=h1
  have h2:l2.length=N:=h2
  have hB:∀u,0<=u->Gp ⟨l1,l2⟩ u=true->u∈od.1.drop (i+1)∧Ew t u=true∧Wb n b co (Rb b br) t tg ⟨l1,l2⟩ u (EI ⟨l1,l2⟩ u):=hB
  have hi2:i<od.1.length:=by omega
  have hx:=hr _ (List.getElem_mem hi2)
  have hd:=hO.drop hi2
  have ed:=List.drop_eq_getElem_cons hi2
  have sub:∀u,u∈od.1.drop (i+1)->u∈od.1.drop i:=fun u h=>by rw [ed];exact List.mem_cons_of_mem _ h
  simp only [Hh.eq_2,show decide ((i:Int)>=0)=true from decide_eq_true (by omega),cT,AU hi2,Ao,Aq (x:=(i:Int)-1) (by omega) (by omega),oX]
  refine BH.bind (pH v (c:=co) (lv:=Rb b br) (GJ _ _ _) htg vt (x:=⟨l1,l2⟩) (k:=od.1[i]) (by rw [wc];show(l1.length:Int)=_;omega) (by rw [wc];show(l2.length:Int)=_;omega) (by rw [wc];exact hx) hn) fun r _ hR=>Af (fun _=>ih (l1,l2) ⟨⟨by omega,h1,h2⟩,fun u h0 hu=>?_⟩) fun g=>Af (fun _=>AK ⟨by simp,fun h=>by cases h⟩) fun _=>BH.bind (CU hx.1 (by omega)) fun _ _ _=>BH.bind (CU hx.1 (by omega)) fun _ _ _=>ih (_,_) ⟨⟨by omega,by simpa using h1,by simpa using h2⟩,fun u h0 hu=>?_⟩
  ·obtain⟨a,a2⟩:=hB u h0 hu
   exact⟨sub u a,a2⟩
  ·obtain⟨⟨s1,s2⟩,s3⟩:=lR (l1:=l1) (l2:=l2) (w:=od.1[i]) r.2.Required hx.1 (by omega) (by omega)
   have mono:∀q,0<=q->Gp ⟨l1,l2⟩ q=true->Gp ⟨l1.set od.1[i].toNat true,l2.set od.1[i].toNat r.2.Required⟩ q=true∧EI ⟨l1.set od.1[i].toNat true,l2.set od.1[i].toNat r.2.Required⟩ q=EI ⟨l1,l2⟩ q:=fun q q0 hq=>by
    obtain⟨a,b2⟩:=s3 q q0 fun e=>hd (e▸(hB q q0 hq).1)
    exact⟨a.trans hq,b2⟩
   have hu:Gp ⟨l1.set od.1[i].toNat true,l2.set od.1[i].toNat r.2.Required⟩ u=true:=hu
   show u∈od.1.drop i∧Ew t u=true∧Wb n b co (Rb b br) t tg ⟨l1.set od.1[i].toNat true,l2.set od.1[i].toNat r.2.Required⟩ u (EI ⟨l1.set od.1[i].toNat true,l2.set od.1[i].toNat r.2.Required⟩ u)
   by_cases e:u=od.1[i]
   ·subst e
    obtain⟨a,a2⟩:=hR (by simpa using g)
    refine⟨by rw [ed];exact List.mem_cons_self ..,a,?_⟩
    rw [s2]
    exact a2.mono v mono
   ·obtain⟨e1,e2⟩:=s3 u h0 e
    rw [e1]at hu
    obtain⟨a,a2,a3⟩:=hB u h0 hu
    refine⟨sub u a,a2,?_⟩
    rw [e2]
    exact a3.mono v mono
 ·rintro m ⟨l1,l2⟩ ⟨⟨_,h1,h2⟩,hB⟩
  simp only [Hh.eq_2,show decide ((-1:Int)>=0)=false from rfl,cF]
  have h1:l1.length=N:=h1
  exact AK ⟨by show l1.length<=156;omega,fun _=>⟨v,vt,od,eo,q,fun u h0 hu=>hB u h0 hu⟩⟩
 ·unfold Gp at h
  rw [List.getD_eq_getElem?_getD,List.getElem?_replicate]at h
  split at h<;>cases h
theorem lS{n:Nat}{b:AF}{c:Ay}{br:List Int}{ss:List Ap}(hb:Jq b)(hc:c.Name.size<=1048576)(hbr:br.length<=1048576)(hs:ss.length<=1048576)(hn:1048577<=n):
 BH (fun r=>r.1.Reached.length<=156∧((r.2 !=0)=false->Bh b∧∃od,NY n b br=some od∧(od.2 !=0)=false∧∀x,Tl (Dk b) (Rb b br) x->x.To∈od.1->Ew r.1 x.From=true->Nf n b c r.1 x (Ew r.1 x.To) (Ea r.1 x.To))) (UH n b c br ss):=by
 rw [UH]
 refine BH.bind (A:=fun r=>(r.2 !=0)=false->NY n b br=some r) ?_ fun r _ hr=>Af (fun q=>AK ⟨by simp,fun h=>by rw [show(r.2 !=0)=false from h]at q;cases q⟩) fun q=>?_
 ·rw [YT]
  obtain⟨v,e1,hv⟩:=Uj (n:=n) hb hn
  rw [e1,Ao]
  refine BH.bind (A:=fun x=>x=false->v=true) (Af (fun _=>AK fun h=>by cases h) fun q=>BH.bind (jF hc hn) fun _ _ _=>AK fun _=>by cases v<;>simp_all) fun x _ hx=>Af (fun _=>AK fun h=>by cases h) fun q=>?_
  have vb:=hv.1 (hx q)
  exact BH.bind (YS hb hbr hn) fun r _ hr=>BH.bind (A:=fun _=>True) (Af (fun _=>AK trivial) fun _=>BH.bind (mH vb hs hn) fun _ _ _=>AK trivial) fun x _ _=>Af (fun _=>AK fun h=>by cases h) fun _=>BH.bind (Xq hb hbr hn) fun o eo ho=>AK fun _=>eo
 ·have eo:=hr q
  have hO:=Zz hb hbr hn eo q
  obtain⟨od',eo',ho'⟩:=Xq (n:=n) (br:=br) hb hbr hn
  have eo2:=eo
  rw [eo']at eo2
  obtain rfl:r=od':=(Option.some.inj eo2).symm
  obtain⟨v,hrg⟩:=ho'.2 q
  have vd:=v.design
  have hl:=CB vd.short vd.few.1 vd.few.2.2
  have hL:=FT v
  have hol:=ho'.1
  rw [Rq v hn,Ao,dP (by omega) hbr hn,Ao]
  obtain⟨t1,f1,g1⟩:=pL (n:=n) (c:=c) (lv:=Rb b br) v (GJ _ _ _) hs (by omega) hrg hn
  obtain⟨t2,f2,g2⟩:=mW (n:=n) (c:=c) (lv:=Rb b br) v (GJ _ _ _) hs (by omega) hrg hO hn
  rw [f1]at f2
  obtain rfl:t1=t2:=Option.some.inj f2
  rw [show ZQ n b c (Dk b) _ ss r.1=some t1 from f1,Ao]
  refine Af (fun _=>AK ⟨by simp,fun h=>by cases h⟩) fun g=>AK ⟨?_,fun _=>⟨v,r,eo,q,g2 (by simpa using g)⟩⟩
  rcases g1 with h|h
  ·show t1.1.Reached.length<=156
   have:=h.r;omega
  ·show t1.1.Reached.length<=156
   have:=h.r;omega
theorem pU{n:Nat}{b:AF}{t:Ah}{x:BC}(vt:KD b t)(vx:IV b x)(mode:Int)(hl:t.Reached.length<=1048576)(hn:1048577<=n):
 BH (fun r=>r.2.2=false∨(r.2.2=true∧(0<=r.2.1∧r.2.1<=Bc b-1)∧Nm t x r.2.1=true∧Ml t x mode r.2.1=r.1∧∀q,0<=q->q<=Bc b-1->Nm t x q=true->r.1<=Ml t x mode q)) (Qo n t x mode):=by
 have h1:=vt.reached
 rw [Qo,Pm,Ao]
 refine Dc (L:=fun m i (s:Int×Int×Bool)=>FW n t x mode (t.Reached.length:Int) (fun i33 i34 q35 i36=>(some (i33,i34,q35))) m s.1 s.2.1 s.2.2 i) t.Reached.length
  (fun i s=>(s.2.2=false∧∀q,0<=q->q<(i:Int)->Nm t x q=false)∨(s.2.2=true∧(0<=s.2.1∧s.2.1<=Bc b-1)∧Nm t x s.2.1=true∧Ml t x mode s.2.1=s.1∧∀q,0<=q->q<(i:Int)->Nm t x q=true->s.1<=Ml t x mode q)) (BH _) ?_ ?_ n 0 (0,0,false) (by omega) (by omega) (.inl ⟨rfl,fun q a b=>by omega⟩)
 ·rintro m i ⟨s1,s2,s3⟩ hi hI ih
  simp only [FW.eq_2,Cj hi,cT,Ao,cJ (n:=n) vt vx mode (q:=(i:Int)) (by omega) (by omega),wT i]
  cases hh:Nm t x (i:Int)with
  |false=>
   simp only [cF,Bool.false_and]
   refine ih (s1,s2,s3) ?_
   rcases hI with ⟨a,b2⟩|⟨a,b2,c,d,e⟩
   ·refine .inl ⟨a,fun q q0 q1=>?_⟩
    by_cases eq:q=(i:Int)
    ·rw [eq];exact hh
    ·exact b2 q q0 (by omega)
   ·refine .inr ⟨a,b2,c,d,fun q q0 q1 hq=>?_⟩
    by_cases eq:q=(i:Int)
    ·rw [eq,hh]at hq;cases hq
    ·exact e q q0 (by omega) hq
  |true=>
   simp only [cT,Bool.true_and]
   refine Af (fun g=>ih (Ml t x mode (i:Int),(i:Int),true) ?_) fun g=>ih (s1,s2,s3) ?_
   ·refine .inr ⟨rfl,⟨by show(0:Int)<=(i:Int);omega,by show(i:Int)<=Bc b-1;omega⟩,hh,rfl,fun q q0 q1 hq=>?_⟩
    show Ml t x mode (i:Int)<=Ml t x mode q
    by_cases eq:q=(i:Int)
    ·rw [eq];exact Int.le_refl _
    ·rcases hI with ⟨a,b2⟩|⟨a,b2,c,d,e⟩
     ·have:=b2 q q0 (by omega)
      rw [hq]at this;cases this
     ·have e:=e q q0 (by omega) hq
      have a:s3=true:=a
      rw [a,Bool.not_true,Bool.false_or]at g
      have g:=of_decide_eq_true g
      have e:s1<=Ml t x mode q:=e
      omega
   ·rcases hI with ⟨a,b2⟩|⟨a,b2,c,d,e⟩
    ·have a:s3=false:=a
     rw [a]at g;cases g
    ·have a:s3=true:=a
     refine .inr ⟨a,b2,c,d,fun q q0 q1 hq=>?_⟩
     show s1<=Ml t x mode q
     rw [a,Bool.not_true,Bool.false_or]at g
     have g:=of_decide_eq_false g
     by_cases eq:q=(i:Int)
     ·rw [eq];omega
     ·exact e q q0 (by omega) hq
 ·rintro m ⟨s1,s2,s3⟩ hI
  simp only [FW.eq_2,DB,cF]
  refine AK ?_
  rcases hI with ⟨a,b2⟩|⟨a,b2,c,d,e⟩
  ·exact .inl a
  ·exact .inr ⟨a,b2,c,d,fun q q0 q1 hq=>e q q0 (by omega) hq⟩
theorem gZ{n:Nat}{b:AF}{t:Ah}{x:BC}(hb:Jq b)(ht:t.Reached.length<=1048576)(hx:x.Bound.length<=1048576)(v:Bh b)(vt:KD b t)(vx:IV b x){mode:Int}(hm:(mode==0||mode==1)=true)(most:Int)(hn:1048577<=n):
 BH (fun r=>r.2=0∧r.1.length<=1048576∧∀q,q∈r.1↔(0<=q∧q<=Bc b-1)∧Nm t x q=true∧Ml t x mode q<=most) (TN n b t x mode most):=by
 have hp:=CB v.design.short v.design.few.1 v.design.few.2.2
 have wc:Bc b=((2*(pls b.Design).length:Nat):Int):=by unfold Bc;omega
 rw [TN]
 rcases Zx (n:=n) hb ht hx hn with ⟨_,_,w,f2,hw⟩|⟨f1,_⟩
 ·rw [f2]
  simp only [Ao,cF,NV,bne_self_eq_false,OE,hm,Bool.not_true,Vx (r:=⟨b,w.places_,w.links_,w.loads_,w.delays_,w.extras_⟩) v hw]
  generalize hN:2*(pls b.Design).length=N at*
  rw [wc]
  refine Dc (L:=fun m i (l:List Int)=>Hn n t x mode most (N:Int) _ m l i) N (fun i l=>l.length<=i∧∀q,q∈l↔(0<=q∧q<(i:Int))∧Nm t x q=true∧Ml t x mode q<=most) (BH _) ?_ ?_ n 0 [] (by omega) (by omega) ⟨by simp,fun q=>⟨fun h=>(by cases h),fun h=>(by omega)⟩⟩
  ·intro m i l hi ⟨hl,hI⟩ ih
   simp only [Hn.eq_2,Cj hi,cT,Ao,cJ (n:=n) vt vx mode (q:=(i:Int)) (by omega) (by omega),wT i]
   refine Af (fun g=>?_) fun g=>ih l ⟨by omega,fun q=>?_⟩
   ·have g2:Nm t x (i:Int)=true∧Ml t x mode (i:Int)<=most:=by
     cases hh:Nm t x (i:Int)with
     |false=>rw [hh]at g;cases g
     |true=>rw [hh]at g;exact⟨rfl,of_decide_eq_true g⟩
    rw [BL (by simp;omega) (by omega),Ao]
    refine ih _ ⟨by simp;omega,fun q=>?_⟩
    rw [List.mem_append,List.mem_singleton,hI q]
    constructor
    ·rintro (⟨h1,h2⟩|rfl)
     ·exact⟨by omega,h2⟩
     ·exact⟨by omega,g2⟩
    ·rintro ⟨h1,h2⟩
     by_cases e:q=(i:Int)
     ·exact .inr e
     ·exact .inl ⟨by omega,h2⟩
   ·rw [hI q]
    constructor
    ·rintro ⟨h1,h2⟩;exact⟨by omega,h2⟩
    ·rintro ⟨h1,h2,h3⟩
     by_cases e:q=(i:Int)
     ·rw [e]at h2 h3
      rw [h2]at g
      have:=of_decide_eq_false g
      exact absurd h3 this
     ·exact⟨by omega,h2,h3⟩
  ·intro m l ⟨hl,hI⟩
   simp only [Hn.eq_2,DB,cF]
   refine AK ⟨rfl,by show l.length<=1048576;omega,fun q=>?_⟩
   rw [hI q]
   constructor
   ·rintro ⟨h1,h2⟩;exact⟨by omega,h2⟩
   ·rintro ⟨h1,h2⟩;exact⟨by omega,h2⟩
 ·obtain⟨c,e,hc⟩:=Uj (n:=n) hb hn
  obtain⟨p,f,hp⟩:=kF (n:=n) (b:=b) ht hn
  obtain⟨r,g,hr⟩:=oY (n:=n) (b:=b) hx hn
  obtain rfl:c=true:=hc.2 v
  obtain rfl:p=true:=hp.2 vt
  obtain rfl:r=true:=hr.2 vx
  rw [QN,e]at f1
  simp [MM v hn,f,g]at f1
theorem tH{n:Nat}{b:AF}{co:Ay}{br:List Int}{t:Ah}{x:BC}{tg:List Al}(v:Bh b)(vt:KD b t)(vx:IV b x){od:List Int}(hO:Lk (Dk b) (Rb b br) od)
 (hA:∀y,Tl (Dk b) (Rb b br) y->y.To∈od->Ew t y.From=true->Nf n b co t y (Ew t y.To) (Ea t y.To)) (hB:∀u,0<=u->Gp x u=true->u∈od∧Ew t u=true∧Wb n b co (Rb b br) t tg x u (EI x u)) {mode s:Int} (hs:∀q,0<=q->q<=Bc b-1->Nm t x q=true->s<=Ml t x mode q):
 ∀k p (h:p<od.length),od.length-p<=k->(0<=od[p]∧od[p]<=Bc b-1)->Nm t x od[p]=true->Ml t x mode od[p]=s->∃i,∃h:i<tg.length,Nm t x tg[i].Node=true∧Ml t x mode tg[i].Node=s:=by
 have hin:=JM v
 have wc:Bc b=((2*(pls b.Design).length:Nat):Int):=by unfold Bc;omega
 intro k
 induction k with
 |zero=>intro p h hk;omega
 |succ k ih=>
  intro p h hk hr hh he
  have hb:Gp x od[p]=true:=by unfold Nm at hh;rw [Bool.and_eq_true]at hh;exact hh.2
  obtain⟨_,hq,hN⟩:=hB _ hr.1 hb
  have go:∀y,Tl (Dk b) (Rb b br) y->y.From=od[p]->Gp x y.To=true->(∀d z,Ot n b co y (Oe t od[p])=some (d,z)->(Ea t y.To).Early<=wrap .i64 ((Ea t od[p]).Early+d.Early)->wrap .i64 ((Ea t od[p]).Late+d.Late)<=(Ea t y.To).Late->Ml t x mode y.To<=Ml t x mode od[p])->∃i,∃h:i<tg.length,Nm t x tg[i].Node=true∧Ml t x mode tg[i].Node=s:=by
   intro y hy hf hbt hle
   have hy2:=hy
   obtain⟨j,hj,hv,hl,ey⟩:=hy2
   have rt:=hin.to_ j hj
   rw [ey]at rt
   obtain⟨hto,hqt,_⟩:=hB _ rt.1 hbt
   obtain⟨h1,d,z,es,a1,a2⟩:=hA y hy hto (by rw [hf];exact hq)
   rw [hf]at es a1 a2
   obtain⟨p2,hp2,ep⟩:=List.getElem_of_mem hto
   have hfm:y.From∈od.take p2:=by rw [←ey];exact hO.pre p2 hp2 j hj hv hl (by rw [ey];exact ep.symm)
   have hlt:p<p2:=by
    refine Nat.lt_of_not_le fun hge=>hO.nodup p h ?_
    rw [hf]at hfm
    obtain⟨q,hq2,eq⟩:=List.mem_take_iff_getElem.1 hfm
    exact List.mem_take_iff_getElem.2 ⟨q,by omega,eq⟩
   have hht:Nm t x y.To=true:=by unfold Nm;rw [h1,hbt];rfl
   have hr2:0<=y.To∧y.To<=Bc b-1:=by omega
   have l1:=hle d z es a1 a2
   have l2:=hs y.To hr2.1 hr2.2 hht
   refine ih p2 hp2 (by omega) (by rw [ep];exact hr2) (by rw [ep];exact hht) (by rw [ep];omega)
  rcases hN with ⟨i,hi,e⟩|⟨⟨y,hy,hf,hbt,d,z,es,eq⟩,⟨y2,hy2,hf2,hbt2,d2,z2,es2,eq2⟩⟩
  ·exact⟨i,hi,by rw [e];exact hh,by rw [e];exact he⟩
  ·have au:=Nr vt hr.1 hr.2
   have ru:=Oa vx hr.1 hr.2
   cases hmd:(mode==0)with
   |true=>
    refine go y hy hf hbt fun d' z' es' a1 _=>?_
    rw [es]at es';cases es'
    have rt:0<=y.To∧y.To<=Bc b-1:=by
     obtain⟨j,hj,_,_,ey⟩:=hy
     have:=hin.to_ j hj
     rw [ey]at this;omega
    have aw:=Nr vt rt.1 rt.2
    have rw_:=Oa vx rt.1 rt.2
    obtain⟨k1,w1,w2,w3⟩:=Sa ((Ea t od[p]).Early+d.Early)
    obtain⟨k2,w4,w5,w6⟩:=Sa ((EI x y.To).Early-d.Early)
    simp only [Ml,hmd,cT]
    omega
   |false=>
    refine go y2 hy2 hf2 hbt2 fun d' z' es' _ a2=>?_
    rw [es2]at es';cases es'
    have rt:0<=y2.To∧y2.To<=Bc b-1:=by
     obtain⟨j,hj,_,_,ey⟩:=hy2
     have:=hin.to_ j hj
     rw [ey]at this;omega
    have aw:=Nr vt rt.1 rt.2
    have rw_:=Oa vx rt.1 rt.2
    obtain⟨k1,w1,w2,w3⟩:=Sa ((Ea t od[p]).Late+d2.Late)
    obtain⟨k2,w4,w5,w6⟩:=Sa ((EI x y2.To).Late-d2.Late)
    simp only [Ml,hmd,cF]
    omega
theorem oM{n:Nat}{b:AF}{l:List Al}(hb:Jq b)(hl:l.length<=1048576)(hn:1048577<=n):∃g,SB n b l=some g∧Ss n b l=some g∧(g=true->∀i (h:i<l.length),Qi b l i l[i]):=by
 have h1:BQ (Bh b∧∀i (h:i<l.length),Qi b l i l[i]) (SB n b l):=by
  rw [SB]
  simp only [IU]
  refine BQ.bind (Uj hb hn) (fun v=>?_) (fun v=>BN fun g=>v g.1)
  exact(rI v hl hn).iff ⟨fun g=>⟨v,g⟩,fun g=>g.2⟩
 have h2:BQ (Bh b∧∀i (h:i<l.length),Qi b l i l[i]) (Ss n b l):=by
  rw [Ss]
  simp only [IU]
  refine BQ.bind (rH hb hn) (fun v=>?_) (fun v=>BN fun g=>v g.1)
  obtain⟨w,ew,hw⟩:=qQ (n:=n) v hn
  rw [cT,ew,Ao]
  exact(tG v (r:=⟨b,w.places_,w.links_,w.loads_,w.delays_,w.extras_⟩) hw hl hn).iff ⟨fun g=>⟨v,g⟩,fun g=>g.2⟩
 obtain⟨g,e1,hg⟩:=h1
 obtain⟨g2,e2,hg2⟩:=h2
 obtain rfl:g=g2:=by rw [Bool.eq_iff_iff,hg,hg2]
 exact⟨g,e1,e2,fun h=>(hg.1 h).2⟩
theorem nQ{n:Nat}{a:AF}{t:Ah}{x:BC}{mode:Int}(hb:Jq a)(ht:t.Reached.length<=1048576)(hx:x.Bound.length<=1048576)(hm:(mode==0||mode==1)=true)(hn:1048577<=n):
 ∃g,Vd n a t x mode=some g∧UC n a t x mode=some g∧((g.2.2 !=0)=true∨(g.2.2=0∧Bh a∧KD a t∧IV a x)∧(0<=g.2.1∧g.2.1<=Bc a-1)∧Nm t x g.2.1=true∧Ml t x mode g.2.1=g.1∧∀q,0<=q->q<=Bc a-1->Nm t x q=true->g.1<=Ml t x mode q):=by
 rw [UC,Vd]
 rcases Zx (n:=n) hb ht hx hn with ⟨f1,⟨v,vt,vx⟩,w,f2,hw⟩|⟨f1,f2⟩
 ·rw [f1,f2]
  simp only [Ao,Bool.not_true,cF,NV,bne_self_eq_false,Xi,OE,hm]
  obtain⟨g,g1,g2⟩:=kK (n:=n) vt vx mode ht hn
  obtain⟨r,e,h⟩:=pU (n:=n) vt vx mode ht hn
  rw [e,Ao]at g2
  refine⟨g,by rw [e,Ao];exact g2,g1,?_⟩
  rcases h with h|⟨h0,h1⟩
  ·unfold PK at g2
   rw [h]at g2;cases g2;exact .inl rfl
  ·unfold PK at g2
   rw [h0]at g2;cases g2;exact .inr ⟨⟨rfl,v,vt,vx⟩,h1⟩
 ·rw [f1,f2]
  exact⟨_,rfl,rfl,.inl rfl⟩
theorem Wk{code:List Int}(hR:code.length<=9223372036854775807∧∀x∈code,dD .u8 x):∃n O,YX n O code (fun r=>cond r (some ()) none)=some ():=by
 obtain⟨n,hn⟩:∃n,1048577<=n:=⟨_,Nat.le_refl _⟩
 obtain⟨O⟩:=NB.is
 refine⟨n,O,?_⟩
 rw [YX,Xb,Ao]
 refine FB (fun _=>rfl) fun hbg=>?_
 have hc:=LD.of hR (of_decide_eq_false hbg)
 rw [Xw]
 refine LL (Fr hc hn) fun s hs=>kB hn hc (hs.mk2 rfl) fun b co br ss s' h _=>?_
 rw [XX]
 refine LL (Fr hc hn) fun s2 hs2=>qU hn hc (hs2.mk2 rfl) fun b2 s2' hb2 hs2'=>LL (rS hn hc (hs2'.mk2 rfl) hb2.sm) fun tg ⟨htg,_⟩=>?_
 dsimp only
 have hbr:br.length<=1048576:=by have:=h.few;omega
 have hss:ss.length<=1048576:=by have:=h.src;omega
 have htl:tg.1.length<=1048576:=by omega
 refine LL (lS (n:=n) (c:=co) h.blk.sm h.cor hbr hss hn) fun t ⟨ht,hT⟩=>?_
 have htr:t.1.Reached.length<=1048576:=by omega
 obtain⟨gt,e1,e2,hgt⟩:=oM (n:=n) (l:=tg.1) h.blk.sm htl hn
 simp only [e1,e2,Ao]
 refine LL (A:=fun x=>x=false->(t.2 !=0)=false∧gt=true) (Af (fun _=>AK fun h=>by cases h) fun q=>AK fun g=>⟨q,by simpa using g⟩) fun x hx=>FB (fun _=>?_) fun q=>?_
 ·cases gt<;>rfl
 ·obtain⟨q1,q2⟩:=hx q
  have hg:=hgt q2
  obtain⟨v,od,eo,qo,hA⟩:=hT q1
  have hO:=Zz h.blk.sm hbr hn eo qo
  refine LL (oJ (n:=n) (co:=co) h.blk.sm h.cor hbr htr htl hn) fun x ⟨hxb,hX⟩=>FB (fun _=>rfl) fun qx=>?_
  obtain⟨_,vt,od2,eo2,_,hB⟩:=hX qx
  rw [eo]at eo2
  obtain rfl:od=od2:=Option.some.inj eo2
  have hxl:x.1.Bound.length<=1048576:=by omega
  have hp:=CB v.design.short v.design.few.1 v.design.few.2.2
  refine Dc (L:=fun m i (_:Unit)=>Hg n _ (b,co,br,ss) (b2,tg.1) t x _ m i) 2 (fun _ _=>True) (fun o=>o=some ()) ?_ ?_ n 0 () (by omega) (by omega) trivial
  ·intro m i _ hi _ ih
   have hm:((i:Int)==0||(i:Int)==1)=true:=by
    rw [Bool.or_eq_true,beq_iff_eq,beq_iff_eq];omega
   obtain⟨g,g1,g2,hG⟩:=nQ (n:=n) (mode:=(i:Int)) h.blk.sm htr hxl hm hn
   simp only [Hg.eq_2,show decide ((i:Int)<=1)=true from decide_eq_true (by omega),cT,g1,g2,Ao,bne_self_eq_false,Bool.or_self,cF,wT i]
   refine FB (fun _=>ih () trivial) fun gq=>?_
   rcases hG with hG|⟨⟨_,_,_,vx⟩,gr,gh,ge,gm⟩
   ·rw [hG]at gq;cases gq
   ·have sl:=cQ vt vx (i:Int) gr.1 gr.2
    obtain⟨c1,f1,z1,l1,m1⟩:=gZ (n:=n) h.blk.sm htr hxl v vt vx hm g.1 hn
    obtain⟨c2,f2,z2,l2,m2⟩:=gZ (n:=n) h.blk.sm htr hxl v vt vx hm (wrap .i64 (g.1-1)) hn
    have wk:wrap .i64 (g.1-1)=g.1-1:=Aq (by omega) (by omega)
    have c2n:c2.1=[]:=by
     refine List.eq_nil_iff_forall_not_mem.2 fun q hq=>?_
     obtain⟨a,a2,a3⟩:=(m2 q).1 hq
     have:=gm q a.1 a.2 a2
     rw [wk]at a3;omega
    have hin:g.2.1∈c1.1:=(m1 _).2 ⟨gr,gh,by rw [ge];exact Int.le_refl _⟩
    have hany:(c1.1.any fun y=>y==g.2.1)=true:=List.any_eq_true.2 ⟨_,hin,by simp⟩
    simp only [f1,f2,Ao,z1,z2,c2n,uB l1 hn,hany,bne_self_eq_false,Bool.or_self,Bool.false_or,List.length_nil,show decide (((0:Nat):Int)>0)=false from rfl,cF,Bool.not_true]
    have hb:Gp x.1 g.2.1=true:=by unfold Nm at gh;rw [Bool.and_eq_true]at gh;exact gh.2
    obtain⟨hmem,_,_⟩:=hB _ gr.1 hb
    obtain⟨p,hp2,ep⟩:=List.getElem_of_mem hmem
    obtain⟨i0,hi0,ha,hs0⟩:=tH (n:=n) (tg:=tg.1) v vt vx hO hA hB gm od.1.length p hp2 (by omega) (by rw [ep];exact gr) (by rw [ep];exact gh) (by rw [ep];exact ge)
    refine Dc (L:=fun m i' q=>JT n (b,co,br,ss) (b2,tg.1) t x (i:Int) g _ m q i') tg.1.length (fun i' q=>i0<i'->q=true) (fun o=>o=some ()) ?_ ?_ n 0 false (by omega) (by omega) (fun h=>by omega)
    ·intro m' i' q hi' hq kk
     have hk:=(hg i' hi').node
     simp only [JT.eq_2,Cj hi',cT,AU hi',Ao,oV h.blk.sm htr hxl v vt vx hm hk.1 hk.2 hn,wS (show i'<4611686018427387904 by omega)]
     refine kk _ fun hlt=>?_
     by_cases e:i'=i0
     ·subst e;rw [ha];simp [hs0]
     ·rw [hq (by omega)];rfl
    ·intro m' q hq
     simp only [JT.eq_2,DB,cF]
     rw [hq hi0,Bool.not_true,cF]
     exact ih () trivial
  ·intro m _ _
   simp only [Hg.eq_2,show decide (((2:Nat):Int)<=1)=false from rfl,cF]
   rfl

end Go.Proofs.YthojemmmflaicadGreatDoor
