/- The plain law behind FnCheckTargets: the plain function answers true; no condition. -/
import Derived.Test.YtejmafeocaidlabGreatDoorLawFnCheckTargetsA
set_option linter.all false
set_option maxHeartbeats 4000000
namespace Go.Proofs.YtejmafeocaidlabGreatDoor
open Go Go.RowKit Go.Eng
open Go.IntKind (wrap)
theorem QT{l:List Bool}{i:Nat}(h:i<l.length):AL l (i:Int)=some (gb l i):=by rw [Ac h];simp [gb,h]
def Ed(L:List Ad)(lv:List Bool)(u w:Int):Prop:=∃k,∃h:k<L.length,gb lv k=true∧L[k].d=u∧L[k].c=w
inductive KA(L:List Ad)(lv:List Bool)(src:Int->Prop):Int->Prop
 |src {u:Int}:src u->KA L lv src u
 |step {u w:Int}:KA L lv src u->Ed L lv u w->KA L lv src w
theorem KA.closed{L:List Ad}{lv:List Bool}{s:Int->Prop}{Q:Int->Prop}(h0:∀u,s u->Q u)(h1:∀u w,Q u->Ed L lv u w->Q w){v:Int}(r:KA L lv s v):Q v:=by
 induction r with
 |src h=>exact h0 _ h
 |step _ e ih=>exact h1 _ _ ih e
structure Uh(L:List Ad)(lv:List Bool)(s:Int->Prop)(N:Nat)(out:List Bool):Prop where
 len:out.length=N
 iff:∀v:Nat,v<N->(gb out v=true↔KA L lv s (v:Int))
def cf(l:List Bool):Nat:=l.countP (fun b=>!b)
theorem qS(l:List Bool):cf l<=l.length:=Cj
theorem Yh:∀{l:List Bool} {i:Nat},i<l.length->gb l i=false->cf (l.set i true)+1=cf l
 |[],i,h,_=>by simp at h
 |b::l,0,_,h=>by
  have h:b=false:=h
  subst h;simp [cf]
 |b::l,i+1,hi,h=>by
  have ih:=Yh (l:=l) (i:=i) (by simpa using hi) h
  unfold cf at ih ⊢
  simp only [List.set_cons_succ,List.countP_cons];omega
structure UW(L:List Ad)(N:Nat):Prop where
 from_:∀k (h:k<L.length),0<=L[k].d∧L[k].d<(N:Int)
 to_:∀k (h:k<L.length),0<=L[k].c∧L[k].c<(N:Int)
theorem Rc1{n:Nat}{L:List Ad}{lv:List Bool}{N s:Nat}(hL:UW L N)(hlv:lv.length=L.length)(hl:L.length<=10000)(hN:N<=1000)(hs:s<N)(hn:1048577<=n):
 ∃out,jL n (N:Int) L lv (s:Int) true=some out∧Uh L lv (fun u=>u=(s:Int)) N out:=by
 rw [jL];(try simp only [jn]);rw [IH (by omega) (by omega),BJ,Ac (show s<(List.replicate N false).length by simpa using hs),BJ,DF]
 have key:=WZ (L:=fun m (st:Bool×List Bool)=>JE n L lv true (fun q33 l34=>(some l34)) m st.1 st.2) (fun st=>2*cf st.2+st.1.toNat)
  (fun st=>st.2.length=N∧gb st.2 s=true∧(∀v,v<N->gb st.2 v=true->KA L lv (fun u=>u=(s:Int)) (v:Int))∧(st.1=false->∀k (h:k<L.length),gb lv k=true->gb st.2 L[k].d.toNat=true->gb st.2 L[k].c.toNat=true))
  (fun o=>∃out,o=some out∧Uh L lv (fun u=>u=(s:Int)) N out) ?_ n (true,(List.replicate N false).set s true) ?_ ?_
 ·exact key
 ·rintro m ⟨q,out⟩ ⟨h1,h2,h3,h4⟩ ih
  have h1:out.length=N:=h1
  have h2:gb out s=true:=h2
  have h3:∀v,v<N->gb out v=true->KA L lv (fun u=>u=(s:Int)) (v:Int):=h3
  simp only [JE.eq_2,jn]
  cases q with
  |false=>
   have h4:=h4 rfl
   refine⟨out,rfl,h1,fun v hv=>⟨h3 v hv,fun r=>?_⟩⟩
   have:=KA.closed (Q:=fun u=>0<=u∧u<(N:Int)∧gb out u.toNat=true) (fun u e=>by subst e;exact⟨by omega,by omega,by simpa using h2⟩) (fun u w hu e=>by
    obtain⟨k,hk,e1,e2,e3⟩:=e
    subst e2 e3
    have:=hL.to_ k hk
    exact⟨this.1,this.2,h4 k hk e1 hu.2.2⟩) r
   simpa using this.2.2
  |true=>
   rw [cT]
   have inner:=Ht (L:=fun m' i (st:Bool×List Bool)=>IL L lv true (fun q38 i39 l40=>(JE n L lv true (fun q33 l34=>(some l34)) m q38 l40)) m' st.1 i st.2) L.length
    (fun i st=>st.2.length=N∧gb st.2 s=true∧(∀v,v<N->gb st.2 v=true->KA L lv (fun u=>u=(s:Int)) (v:Int))∧(∀v,gb out v=true->gb st.2 v=true)∧cf st.2<=cf out∧(st.1=true->cf st.2<cf out)∧(st.1=false->st.2=out∧∀k (h:k<L.length),k<i->gb lv k=true->gb out L[k].d.toNat=true->gb out L[k].c.toNat=true))
    (fun o=>∃out,o=some out∧Uh L lv (fun u=>u=(s:Int)) N out) ?_ ?_ n 0 (false,out) (by omega) (by omega) ⟨h1,h2,h3,fun v h=>h,BN _,fun h=>Bool.noConfusion h,fun _=>⟨rfl,fun k _ h=>absurd h (AV k)⟩⟩
   ·exact inner
   ·rintro m' i ⟨q,l⟩ hi ⟨g1,g2,g3,g4,g5,g6,g7⟩ kk
    have g1:l.length=N:=g1
    have g2:gb l s=true:=g2
    have g3:∀v,v<N->gb l v=true->KA L lv (fun u=>u=(s:Int)) (v:Int):=g3
    have g4:∀v,gb out v=true->gb l v=true:=g4
    have g5:cf l<=cf out:=g5
    have g6:q=true->cf l<cf out:=g6
    have g7:q=false->l=out∧∀k (h:k<L.length),k<i->gb lv k=true->gb out L[k].d.toNat=true->gb out L[k].c.toNat=true:=g7
    have hF:=hL.from_ i hi
    have hT:=hL.to_ i hi
    obtain⟨F,eF⟩:=Ax hF.1
    have eF:L[i].d=(F:Int):=eF
    obtain⟨T,eT⟩:=Ax hT.1
    have eT:L[i].c=(T:Int):=eT
    have lF:F<l.length:=by omega
    have lT:T<l.length:=by omega
    show∃o',IL L lv true _ (m'+1) q (i:Int) l=some o'∧_
    simp only [IL.eq_2,Ex hi,cT,Ac hi,BJ,Al,cF,QT (show i<lv.length by omega),eF,eT,QT lF,QT lT,Do,DF,wT i,jn]
    have skip:(gb lv i=true->gb l F=true->gb l T=true)->∃o',IL L lv true (fun q38 i39 l40=>(JE n L lv true (fun q33 l34=>(some l34)) m q38 l40)) m' q ((i+1:Nat):Int) l=some o'∧Uh L lv (fun u=>u=(s:Int)) N o':=fun hc=>kk (q,l) ⟨g1,g2,g3,g4,g5,g6,fun hq=>by
     obtain⟨e,h⟩:=g7 hq
     refine⟨e,fun k hk hki a b=>?_⟩
     by_cases c:k=i
     ·subst c;subst e
      rw [eT,DF]
      rw [eF,DF]at b
      exact hc a b
     ·exact h k hk (by omega) a b⟩
    cases c1:(gb lv i&&gb l F)with
    |false=>
     simp only [FU,cF]
     exact skip fun a b=>by rw [a,b]at c1;cases c1
    |true=>
     simp only [FH]
     simp only [AD]at c1
     cases c2:gb l T with
     |true=>
      simp only [Al,cF]
      exact skip fun _ _=>c2
     |false=>
      simp only [BM,cT]
      have hcf:=Yh lT c2
      refine kk (true,l.set T true) ⟨by simpa using g1,?_,?_,?_,by show cf (l.set T true)<=_;omega,fun _=>by show cf (l.set T true)<_;omega,fun h=>by cases h⟩
      ·show gb (l.set T true) s=true
       rw [Rj lT];split
       ·rfl
       ·exact g2
      ·intro v hv hg
       have hg:gb (l.set T true) v=true:=hg
       rw [Rj lT]at hg
       by_cases c:T=v
       ·subst c
        refine .step (g3 F (by omega) c1.2) ⟨i,hi,c1.1,eF,eT⟩
       ·rw [BV c]at hg;exact g3 v hv hg
      ·intro v hg
       show gb (l.set T true) v=true
       rw [Rj lT];split
       ·rfl
       ·exact g4 v hg
   ·rintro m' ⟨q,l⟩ ⟨g1,g2,g3,g4,g5,g6,g7⟩
    show∃o',IL L lv true _ (m'+1) q (L.length:Int) l=some o'∧_
    simp only [IL.eq_2,FS,cF,jn]
    refine ih (q,l) ⟨g1,g2,g3,fun hq=>?_⟩ ?_
    ·obtain⟨e,h⟩:=g7 hq
     have e:l=out:=e
     subst e
     exact fun k hk a b=>h k hk hk a b
    ·show 2*cf l+q.toNat<2*cf out+1
     cases q with
     |true=>have:=g6 rfl;have:cf l<cf out:=this;simp;omega
     |false=>have:cf l<=cf out:=g5;simp;omega
 ·have h1:=qS ((List.replicate N false).set s true)
  simp only [Ec,List.length_replicate]at h1
  show 2*cf ((List.replicate N false).set s true)+1<n
  omega
 ·have hl2:s<(List.replicate N false).length:=by simpa using hs
  refine⟨by simp,by show gb ((List.replicate N false).set s true) s=true;rw [Rj hl2,BE rfl],fun v hv hg=>?_,fun h=>by cases h⟩
  have hg:gb ((List.replicate N false).set s true) v=true:=hg
  rw [Rj hl2]at hg
  by_cases c:s=v
  ·subst c;exact .src rfl
  ·rw [BV c]at hg;simp [gb,hv]at hg
theorem Vu{b:AJ}(v:DA b):UW (QV b) (2*(pls b.b).length):=
 ⟨fun k h=>by have:=(Ts v _ (AI h)).from_;unfold Em at this;push_cast;omega,fun k h=>by have:=(Ts v _ (AI h)).to_;unfold Em at this;push_cast;omega⟩
theorem yX{n:Nat}{L:List Ad}{br:List Int}(hl:L.length<=1048576)(hb:br.length<=1048576)(hn:1048577<=n):VN n L br=some (HX (fun k (_:Ad)=>[!(br.any fun y=>y==(k:Int))]) 0 L):=by
 rw [VN]
 rw [FN (xs:=L) (L:=fun m s i=>Ly n L br (fun l19 i23=>(some l19)) m s i) (k:=fun s=>some s) (fun k (_:Ad)=>[!(br.any fun y=>y==(k:Int))]) 1 0 (fun _ _ _=>by simp) (by omega) (by
  intro m i hi s hs
  simp only [Ly.eq_2,Ex hi,cT,pA hb hn,BJ,wT i]
  rw [CC (by simp;omega) (by omega),BJ]) (by
  intro m s
  simp only [Ly.eq_2,FS,cF]) n (by omega) [] (by simp)]
 rw [CX]
theorem tO{n:Nat}{c:List Int}(hc:NG c){s0:AA}(e0:s0.c=c)(st:Int):∀(m k:Nat) (l:List Int) (x a d:Int),k<m->l.length+k<=3->Gh c (AA.mk s0.c a d)->
 CO (fun r=>r.1.length=l.length+k∧Gh c r.2) (Lo n s0 st (fun l38 i42 i43 i45 i46=>(some (l38,(AA.mk s0.c i45 i46)))) m l x (k:Int) a d)
 |0,k,l,x,a,d,hm,_,_=>by omega
 |m+1,0,l,x,a,d,hm,hl,hs=>by
  rw [Lo.eq_2]
  exact Af ⟨rfl,hs⟩
 |m+1,k+1,l,x,a,d,hm,hl,hs=>by
  have hp:decide (((k+1:Nat):Int)>0)=true:=AX (by omega)
  have w:wrap .i64 (((k+1:Nat):Int)-1)=(k:Int):=by rw [BD (by omega) (by omega)];omega
  rw [Lo.eq_2,hp,cT,CC (by simp;omega) (by omega),BJ]
  refine CO.bind (Nx hc hs st) fun r _ ⟨h1,_⟩=>?_
  rw [w]
  exact(tO hc e0 st m k (l++[x]) _ _ _ (by omega) (by simp;omega) (h1.mk2 e0)).weaken fun r ⟨q1,q2⟩=>⟨by rw [q1];simp;omega,q2⟩
theorem DAx{n:Nat}{c:List Int}(hc:NG c){s:AA}(hs:Gh c s)(st:Int)(hn:1048577<=n):CO (fun r=>(1<=r.1.length∧r.1.length<=3)∧Gh c r.2) (Xa n s st):=by
 rw [Xa]
 refine CO.bind (Nx hc hs st) fun r _ ⟨h1,_⟩=>CO.bind (Nx hc (h1.mk2 hs.code) 3) fun q _ ⟨k1,k2,k3⟩=>?_
 have w:wrap .i64 (1+q.1)=((1+q.1.toNat:Nat):Int):=by rw [BD (by omega) (by omega)];omega
 rw [w]
 exact(tO hc hs.code st n _ [] _ _ _ (by omega) (by simp;omega) (k1.mk2 hs.code)).weaken fun r ⟨q1,q2⟩=>⟨⟨by rw [q1];simp,by rw [q1];simp;omega⟩,q2⟩
theorem sC{n:Nat}{c:List Int}(hc:NG c){s0:AA}(e0:s0.c=c)(base:Int){r15 r26:List Int×AA}(h15:r15.1.length<=3)(h26:1<=r26.1.length∧r26.1.length<=3):∀(m i:Nat) (l:List Int) (a d:Int),r15.1.length*r26.1.length-i<m->i<=r15.1.length*r26.1.length->l.length=i->Gh c (AA.mk s0.c a d)->
 CO (fun r=>aJ r.1∧Gh c r.2) (LY n s0 base r15 r26 (fun l52 i56 i58 i59=>(some ((Bm.mk r15.1 r26.1 l52),(AA.mk s0.c i58 i59)))) m l (i:Int) a d)
 |0,i,l,a,d,hm,_,_,_=>by omega
 |m+1,i,l,a,d,hm,hi,hl,hs=>by
  have hprod:r15.1.length*r26.1.length<=3*3:=EQ h15 h26.2
  have wp:wrap .i64 ((r15.1.length:Int)*(r26.1.length:Int))=((r15.1.length*r26.1.length:Nat):Int):=by
   rw [←Int.natCast_mul,BD (by omega) (by omega)]
  rw [LY.eq_2];(try simp only [jn]);rw [wp]
  by_cases c0:i<r15.1.length*r26.1.length
  ·rw [Ex c0,cT]
   refine CO.bind (Nx hc hs 10) fun r _ ⟨h1,_⟩=>?_
   have hz:((r26.1.length:Int)==0)=false:=by rw [AG];omega
   have tm:Int.tmod (i:Int) (r26.1.length:Int)=((i%r26.1.length:Nat):Int):=rfl
   have go1:∀(z:Int) (s':AA),Gh c s'->CO (fun r=>aJ r.1∧Gh c r.2) (Option.bind (De l [z] 8) fun z1=>LY n s0 base r15 r26 (fun l52 i56 i58 i59=>(some ((Bm.mk r15.1 r26.1 l52),(AA.mk s0.c i58 i59)))) m z1 (wrap .i64 ((i:Int)+1)) s'.at_ s'.b):=fun z s' h'=>by
    rw [CC (by simp;omega) (by omega),BJ,wS (by omega)]
    exact sC hc e0 base h15 h26 m (i+1) _ _ _ (by omega) (by omega) (by simp;omega) (h'.mk2 e0)
   have g2:(i:Int)>=(r26.1.length:Int)->∃x,AL l (wrap .i64 ((i:Int)-(r26.1.length:Int)))=some x:=fun h=>by
    rw [BD (by omega) (by omega)]
    obtain⟨x,hx,_⟩:=Dx (xs:=l) (i:=(i:Int)-(r26.1.length:Int)) (by omega) (by omega)
    exact⟨x,hx⟩
   rw [hz,cF,tm]
   refine BU (fun q1=>?_) fun q1=>?_
   ·have q1:=CQ q1
    have hi0:0<i:=by
     rcases Nat.eq_zero_or_pos i with e|e
     ·subst e;simp at q1
     ·exact e
    have w1:wrap .i64 ((i:Int)-1)=((i-1:Nat):Int):=by rw [BD (by omega) (by omega)];omega
    rw [w1,Ac (show i-1<l.length by omega),BJ]
    refine CO.bind (Nx hc (h1.mk2 e0) 20) fun r2 _ ⟨h2,_⟩=>BU (fun q2=>?_) fun _=>go1 _ _ h2
    obtain⟨x,hx⟩:=g2 (CQ q2)
    rw [hx,BJ]
    exact CO.bind (Nx hc (h2.mk2 e0) 20) fun r3 _ ⟨h3,_⟩=>go1 _ _ h3
   ·refine BU (fun q2=>?_) fun _=>go1 _ _ h1
    obtain⟨x,hx⟩:=g2 (CQ q2)
    rw [hx,BJ]
    exact CO.bind (Nx hc (h1.mk2 e0) 20) fun r3 _ ⟨h3,_⟩=>go1 _ _ h3
  ·rw [show decide ((i:Int)<((r15.1.length*r26.1.length:Nat):Int))=false from Aa (by omega),cF]
   exact Af ⟨⟨by show r15.1.length<=_;omega,by show r26.1.length<=_;omega,by show l.length<=_;omega⟩,hs⟩
theorem DTb{n:Nat}{c:List Int}(hc:NG c){s:AA}(hs:Gh c s)(base:Int)(hn:1048577<=n):CO (fun r=>aJ r.1∧Gh c r.2) (Xe n s base):=by
 rw [Xe];try simp only [jn]
 refine CO.bind (DAx hc hs 60 hn) fun r _ ⟨h1,h2⟩=>CO.bind (DAx hc (h2.mk2 hs.code) 40 hn) fun q _ ⟨k1,k2⟩=>?_
 have:r.1.length*q.1.length<=3*3:=EQ h1.2 k1.2
 exact sC hc hs.code base h1.2 k1 n 0 [] _ _ (by omega) (by omega) rfl (k2.mk2 hs.code)
theorem wZ{n:Nat}{c:List Int}(hc:NG c){s:AA}(hs:Gh c s)(base:Int)(hn:1048577<=n):CO (fun r=>(r.1.length<=1048576∧∀t∈r.1,aJ t)∧Gh c r.2) (VM n s base):=by
 rw [VM]
 refine CO.bind (DTb hc hs base hn) fun r _ ⟨h1,h2⟩=>CO.bind (DTb hc (h2.mk2 hs.code) base hn) fun q _ ⟨k1,k2⟩=>Af ⟨⟨by simp,fun t ht=>?_⟩,k2.mk2 hs.code⟩
 rcases CS.1 ht with e|ht
 ·rw [e];exact h1
 ·rw [As.1 ht];exact k1
theorem qA{n:Nat}{c:List Int}(hc:NG c){s:AA}(hs:Gh c s)(kd f t z:Int)(hn:1048577<=n):CO (fun r=>qI r.1∧Gh c r.2) (TS n s kd f t z):=by
 rw [TS]
 refine BU (fun _=>?_) fun _=>?_
 ·exact CO.bind (Nx hc hs 10) fun r _ ⟨h1,_⟩=>CO.bind (wZ hc (h1.mk2 hs.code) _ hn) fun q _ ⟨k1,k2⟩=>Af ⟨⟨k1,by simp⟩,k2.mk2 hs.code⟩
 ·exact CO.bind (Nx hc hs 20) fun r _ ⟨h1,_⟩=>CO.bind (wZ hc (h1.mk2 hs.code) _ hn) fun q _ ⟨k1,k2⟩=>CO.bind (wZ hc (k2.mk2 hs.code) 10 hn) fun p _ ⟨p1,p2⟩=>Af ⟨⟨k1,p1⟩,p2.mk2 hs.code⟩
theorem zN:∀k:Nat,k<4->∀i:Nat,i<2^k->∀b:Nat,b<k->(cB .i64 (i:Int) (Of .i64 1 (IntKind.wrap IntKind.u64 (b:Int))) !=0)=true∨(0<=wrap .i64 ((i:Int)+(Of .i64 1 (IntKind.wrap IntKind.u64 (b:Int))))∧wrap .i64 ((i:Int)+(Of .i64 1 (IntKind.wrap IntKind.u64 (b:Int))))<((2^k:Nat):Int)):=by decide+kernel
theorem DSn{n:Nat}{cl:BL}{k b:Nat}(hk:k<4)(ht:cl.g.length=2^k)(hb:b<k)(hn:1048577<=n):CO (fun _=>True) (aA n cl (b:Int)):=by
 have h16:2^k<=2^4:=FY (by omega) (by omega)
 have wb:IntKind.wrap IntKind.u64 (b:Int)=(b:Int):=by
  have:∀b:Nat,b<4->IntKind.wrap IntKind.u64 (b:Int)=(b:Int):=by decide+kernel
  exact this b (by omega)
 rw [aA,wb,Aa (by omega),cF]
 refine loop (L:=fun m i (p:Bool×Bool)=>KG cl (b:Int) _ m p.1 p.2 i) cl.g.length (fun _ _=>True) (fun o=>CO (fun _=>True) o) ?_ ?_ n 0 (false,false) (by omega) (by omega) trivial
 ·intro m i p hi _
  have h8:=zN k hk i (by omega) b hb
  simp only [KG.eq_2,Ex hi,cT,wT i]
  rcases h8 with h8|h8
  ·simp only [h8,cT]
   exact .inl ⟨p,trivial,rfl⟩
  ·obtain⟨y,hy,_⟩:=Dx (xs:=cl.g) h8.1 (by rw [ht];exact h8.2)
   cases hx:(cB .i64 (i:Int) (Of .i64 1 (IntKind.wrap IntKind.u64 (b:Int))) !=0)with
   |true=>simp only [cT];exact .inl ⟨p,trivial,rfl⟩
   |false=>
    simp only [cF,Ac hi,hy,BJ]
    obtain⟨p1,p2⟩:=p
    cases p1<;>cases p2<;>exact .inl ⟨(_,_),trivial,rfl⟩
 ·intro m p _
  simp only [KG.eq_2,FS,cF]
  obtain⟨p1,p2⟩:=p
  cases p1<;>cases p2<;>exact Af trivial
theorem nm4{j:Nat}(h:j<4):∃x:ByteArray,AL ([(ByteArray.mk #[97]),(ByteArray.mk #[98]),(ByteArray.mk #[99]),(ByteArray.mk #[100])]) (j:Int)=some x∧x.size<=1048576:=by
 match j,h with
 |0,_=>exact⟨_,rfl,by decide⟩
 |1,_=>exact⟨_,rfl,by decide⟩
 |2,_=>exact⟨_,rfl,by decide⟩
 |3,_=>exact⟨_,rfl,by decide⟩
theorem uM{n:Nat}{c:List Int}(hc:NG c){s0:AA}(e0:s0.c=c){T:List Int}{k:Nat}(hk:k<4)(hT:T.length=2^k){Q:BL×AA->Prop}{k0:List DZ->Int->Int->Int->Option (BL×AA)}
 (h0:∀l i a d,l.length=k->mZ l->Gh c (AA.mk s0.c a d)->CO Q (k0 l i a d)):∀(m j:Nat) (l:List DZ) (a d:Int),k-j<m->j<=k->l.length=j->mZ l->Gh c (AA.mk s0.c a d)->
 CO Q (Pu n s0 T k0 m l ((2^j:Nat):Int) a d)
 |0,j,l,a,d,hm,_,_,_,_=>by omega
 |m+1,j,l,a,d,hm,hj,hl,hp,hs=>by
  rw [Pu.eq_2,hT]
  by_cases q:j<k
  ·have h2:2^j<2^k:=Nat.pow_lt_pow_right (by omega) q
   have h16:2^k<=2^4:=FY (by omega) (by omega)
   have hw:wrap .i64 (2*((2^j:Nat):Int))=((2^(j+1):Nat):Int):=by
    rw [Nat.pow_succ]
    generalize 2^j=P at h2 ⊢
    rw [BD (by omega) (by omega)];omega
   obtain⟨x,hx,hz⟩:=nm4 (j:=j) (by omega)
   rw [Ex h2,cT,hl,hx,BJ,hw]
   refine CO.bind (Nx hc hs 9) fun r _ ⟨h1,_⟩=>?_
   rw [CC (by simp;omega) (by omega),BJ]
   refine uM hc e0 hk hT h0 m (j+1) _ _ _ (by omega) (by omega) (by simp;omega) ⟨by simp;omega,fun p hp2=>?_⟩ (h1.mk2 e0)
   rcases BR.1 hp2 with h|h
   ·exact hp.2 p h
   ·rw [As.1 h];exact hz
  ·obtain rfl:j=k:=by omega
   rw [FS,cF]
   exact h0 l _ a d hl hp hs
theorem nB{n:Nat}(hn:1048577<=n){c:List Int}(hc:NG c){s0:AA}(e0:s0.c=c){T:List Int}{k:Nat}(hk:k<4)(hT:T.length=2^k){nm:ByteArray}(hnm:nm.size<=1048576){r33 r41:Int×AA}{ps z:List DZ}(hps:ps.length=k)(hz:mZ z):∀(m i:Nat) (l:List CJ) (a d:Int),k-i<m->i<=k->l.length<=i->(∀x∈l,qI x)->Gh c (AA.mk s0.c a d)->
 CO (fun r=>Xp r.1∧Gh c r.2) (Nc n s0 nm T r33 r41 ps z (fun l144 i148 i150 i151=>(some ((BL.mk nm 1 z l144 T r33.1 r41.1),(AA.mk s0.c i150 i151)))) m l (i:Int) a d)
 |0,i,l,a,d,hm,_,_,_,_=>by omega
 |m+1,i,l,a,d,hm,hi,hl,hA,hs=>by
  have h16:2^k<=2^4:=FY (by omega) (by omega)
  rw [Nc.eq_2,hps]
  by_cases q:i<k
  ·rw [Ex q,cT,wS (by omega)]
   refine CO.bind (DSn (cl:=BL.mk nm 1 z [] T r33.1 r41.1) hk hT q hn) fun sn _ _=>BU (fun _=>?_) fun _=>nB hn hc e0 hk hT hnm hps hz m (i+1) l a d (by omega) (by omega) (by omega) hA hs
   refine CO.bind (qA hc hs 1 _ _ _ hn) fun r _ ⟨h1,h2⟩=>?_
   rw [CC (by simp;omega) (by omega),BJ]
   refine nB hn hc e0 hk hT hnm hps hz m (i+1) _ _ _ (by omega) (by omega) (by simp;omega) (fun x hx=>?_) (h2.mk2 e0)
   rcases BR.1 hx with h|h
   ·exact hA x h
   ·rw [As.1 h];exact h1
  ·obtain rfl:i=k:=by omega
   rw [FS,cF]
   exact Af ⟨⟨hnm,hz,⟨by show l.length<=_;omega,hA⟩,by show T.length<=_;omega⟩,hs⟩
theorem pF{n:Nat}{c:List Int}(hc:NG c){s:AA}(hs:Gh c s){nm:ByteArray}(hnm:nm.size<=1048576){T:List Int}{k:Nat}(hk:k<4)(hT:T.length=2^k)(hn:1048577<=n):CO (fun r=>Xp r.1∧Gh c r.2) (eI n s nm T):=by
 rw [eI]
 refine CO.bind (Nx hc hs 50) fun r _ ⟨h1,_⟩=>CO.bind (Nx hc (h1.mk2 hs.code) 80) fun q _ ⟨h2,_⟩=>?_
 have:=uM (n:=n) (s0:=s) (Q:=fun r=>Xp r.1∧Gh c r.2) hc hs.code hk hT (k0:=fun l75 i79 i81 i82=>(Option.bind (De l75 ([(DZ.mk ((ByteArray.mk #[121])) 2 0 false)]) 40) fun z106=>(Nc n s nm T r q l75 z106 (fun l144 i148 i150 i151=>(some ((BL.mk nm 1 z106 l144 T r.1 q.1),(AA.mk s.c i150 i151)))) n (([]:List CJ)) 0 i81 i82))) (fun l i a d hl hp hs2=>by
  rw [CC (by simp;omega) (by omega),BJ]
  refine nB hn hc hs.code hk hT hnm hl ⟨by simp;omega,fun p hp2=>?_⟩ n 0 [] a d (by omega) (by omega) (by simp) (by simp) hs2
  rcases BR.1 hp2 with h|h
  ·exact hp.2 p h
  ·rw [As.1 h];exact(by decide:(ByteArray.mk #[121]).size<=1048576)) n 0 [] q.2.at_ q.2.b (by omega) (by omega) rfl ⟨by simp,by simp⟩ (h2.mk2 hs.code)
 exact this
theorem DFl{n:Nat}{c:List Int}(hc:NG c){s:AA}(hs:Gh c s){nm:ByteArray}(hnm:nm.size<=1048576)(kd ed:Int)(hn:1048577<=n):CO (fun r=>Xp r.1∧Gh c r.2) (Vi n s nm kd ed):=by
 have e:=hs.code
 have pins:∀x y:Int,mZ [(DZ.mk ((ByteArray.mk #[100])) 1 x false),(DZ.mk ((ByteArray.mk #[99,107])) 1 y true),(DZ.mk ((ByteArray.mk #[113])) 2 0 false)]:=fun x y=>⟨by simp,fun p hp=>by
  rcases CS.1 hp with h|hp
  ·rw [h];exact(by decide:(ByteArray.mk #[100]).size<=1048576)
  ·rcases CS.1 hp with h|hp
   ·rw [h];exact(by decide:(ByteArray.mk #[99,107]).size<=1048576)
   ·rw [As.1 hp];exact(by decide:(ByteArray.mk #[113]).size<=1048576)⟩
 rw [Vi]
 refine CO.bind (Nx hc hs 50) fun r1 _ ⟨h1,_⟩=>CO.bind (Nx hc (h1.mk2 e) 80) fun r2 _ ⟨h2,_⟩=>CO.bind (Nx hc (h2.mk2 e) 9) fun r3 _ ⟨h3,_⟩=>CO.bind (Nx hc (h3.mk2 e) 9) fun r4 _ ⟨h4,_⟩=>CO.bind (qA hc (h4.mk2 e) _ _ _ _ hn) fun r5 _ ⟨a5,h5⟩=>CO.bind (qA hc (h5.mk2 e) _ _ _ _ hn) fun r6 _ ⟨a6,h6⟩=>CO.bind (qA hc (h6.mk2 e) _ _ _ _ hn) fun r7 _ ⟨a7,h7⟩=>BU (fun _=>?_) fun _=>?_
 ·refine CO.bind (qA hc (h7.mk2 e) _ _ _ _ hn) fun r8 _ ⟨a8,h8⟩=>?_
  rw [CC (by simp) (by omega),BJ]
  refine Af ⟨⟨hnm,pins _ _,⟨by simp,fun x hx=>?_⟩,by simp⟩,h8.mk2 e⟩
  simp only [List.cons_append,CX,CS,DX,GM]at hx
  rcases hx with h|h|h|h<;>rw [h]<;>assumption
 ·refine Af ⟨⟨hnm,pins _ _,⟨by simp,fun x hx=>?_⟩,by simp⟩,h7.mk2 e⟩
  simp only [CS,DX,GM]at hx
  rcases hx with h|h|h<;>rw [h]<;>assumption
theorem Xp.re{cl:BL}(h:Xp cl){T:List Int}(hT:T.length<=1048576):Xp (BL.mk cl.f cl.b cl.d cl.c T cl.h cl.i):=⟨h.name,h.pins,h.arcs,hT⟩
theorem DLi{n:Nat}{c:List Int}(hc:NG c){s:AA}(hs:Gh c s)(hn:1048577<=n):CO (fun r=>Vt r.1∧Gh c r.2) (YL n s):=by
 have e:=hs.code
 rw [YL]
 refine CO.bind (pF hc hs (k:=1) (by decide) (by decide) (by decide) hn) fun r1 _ ⟨a1,h1⟩=>CO.bind (pF hc (h1.mk2 e) (k:=1) (by decide) (by decide) (by decide) hn) fun r2 _ ⟨a2,h2⟩=>CO.bind (pF hc (h2.mk2 e) (k:=2) (by decide) (by decide) (by decide) hn) fun r3 _ ⟨a3,h3⟩=>CO.bind (pF hc (h3.mk2 e) (k:=2) (by decide) (by decide) (by decide) hn) fun r4 _ ⟨a4,h4⟩=>CO.bind (pF hc (h4.mk2 e) (k:=3) (by decide) (by decide) (by decide) hn) fun r5 _ ⟨a5,h5⟩=>CO.bind (DFl hc (h5.mk2 e) (by decide) _ _ hn) fun r6 _ ⟨a6,h6⟩=>CO.bind (DFl hc (h6.mk2 e) (by decide) _ _ hn) fun r7 _ ⟨a7,h7⟩=>CO.bind (DFl hc (h7.mk2 e) (by decide) _ _ hn) fun r8 _ ⟨a8,h8⟩=>?_
 have b1:=a1.re (T:=[1,0]) (by decide)
 have b2:=a2.re (T:=[0,1]) (by decide)
 have b3:=a3.re (T:=[1,1,1,0]) (by decide)
 have b4:=a4.re (T:=[0,1,1,0]) (by decide)
 have b5:=a5.re (T:=[0,1,0,1,0,0,1,1]) (by decide)
 refine Af ⟨⟨by simp,fun x hx=>?_⟩,h8.mk2 e⟩
 simp only [CS,DX,GM]at hx
 rcases hx with h|h|h|h|h|h|h|h<;>rw [h]<;>assumption
theorem Pk{α:Type}{A:α->Prop}{o:Option α}{f:α->Option Unit}(h:CO A o)(k:∀v,A v->f v=some ()):Option.bind o f=some ():=by
 obtain⟨v,e,hv⟩:=h
 rw [e];exact k v hv
theorem IR{b:Bool}{x y:Option Unit}(h1:b=true->x=some ())(h2:b=false->y=some ()):(cond b x y)=some ():=by
 cases b
 ·exact h2 rfl
 ·exact h1 rfl
theorem aR{α:Type}{l y:List α}(h:II Eq l y):y=l:=by
 apply Ce
 intro i
 by_cases c:i<l.length
 ·have h1:l[i]? =some l[i]:=AH c
  have h2:y[i]? =some (y[i]'(by have:=h.1;omega)):=AH _
  rw [h1,h2,h.2 i _ _ h1 h2]
 ·rw [Ay (by have:=h.1;omega),Ay (by omega)]
theorem VH{α:Type}{r:α->α->Prop}{Q R:α->Prop}{l y:List α}(h:II r l y)(hl:∀x∈l,Q x)(hr:∀x z,r x z->Q x->R z):∀z∈y,R z:=fun z hz=>by
 obtain⟨i,hi,rfl⟩:=FV.1 hz
 have hi2:i<l.length:=by have:=h.1;omega
 exact hr l[i] y[i] (h.2 i _ _ (AH hi2) (AH hi)) (hl _ (AI hi2))
def OK(x:BI):Prop:=x.f.size<=1000∧1<=x.c.length∧x.c.length<=5
structure PP(d:Ae):Prop where
 inst:d.b.length<=6∧∀x∈d.b,OK x
 nets:(3<=d.c.length∧d.c.length<=9)∧∀x∈d.c,x.size<=1000
 ports:(3<=d.d.length∧d.d.length<=5)∧∀p∈d.d,p.f.size<=1000
theorem OK.shp{l y:List BI}(h:II JT l y)(hl:∀x∈l,OK x):∀z∈y,OK z:=
 VH h hl fun x z hr hx=>⟨by rw [←hr.1];exact hx.1,by rw [hr.2.2.1];exact hx.2.1,by rw [hr.2.2.1];exact hx.2.2⟩
theorem Qt{x y:ByteArray}(h:x.size+y.size<=1000):Qn x y=some (x++y)∧(x++y).size=x.size+y.size:=by
 refine⟨?_,ByteArray.size_append⟩
 unfold Qn
 rw [BV (by
  have:IntKind.i64.max=9223372036854775807:=rfl
  rw [this];omega)]
theorem uA{j:Nat}(h:j<12):∃(x:Int) (p:Nat),AL [0,1,2,2,3,4,5,5,5,6,7,1] (j:Int)=some x∧AL [2,2,3,3,4,3,3,3] x=some (p:Int)∧2<=p∧p<=4:=by
 match j,h with
 |0,_=>exact⟨0,2,rfl,rfl,by omega,by omega⟩
 |1,_=>exact⟨1,2,rfl,rfl,by omega,by omega⟩
 |2,_=>exact⟨2,3,rfl,rfl,by omega,by omega⟩
 |3,_=>exact⟨2,3,rfl,rfl,by omega,by omega⟩
 |4,_=>exact⟨3,3,rfl,rfl,by omega,by omega⟩
 |5,_=>exact⟨4,4,rfl,rfl,by omega,by omega⟩
 |6,_=>exact⟨5,3,rfl,rfl,by omega,by omega⟩
 |7,_=>exact⟨5,3,rfl,rfl,by omega,by omega⟩
 |8,_=>exact⟨5,3,rfl,rfl,by omega,by omega⟩
 |9,_=>exact⟨6,3,rfl,rfl,by omega,by omega⟩
 |10,_=>exact⟨7,3,rfl,rfl,by omega,by omega⟩
 |11,_=>exact⟨1,2,rfl,rfl,by omega,by omega⟩
theorem pM{n:Nat}{c:List Int}(hc:NG c){s0:AA}(e0:s0.c=c){nets:List ByteArray}{cell:Int}{p:Nat}(hp:AL [2,2,3,3,4,3,3,3] cell=some (p:Int))(hp2:2<=p∧p<=4){k2:Int->Int->Int->ByteArray->Int->List Int->Option Unit}{t:ByteArray}{i2:Int}
 (hk:∀a d l,l.length=p-1->Gh c (AA.mk s0.c a d)->k2 ((p-1:Nat):Int) a d t i2 l=some ()):∀(m i:Nat) (a d:Int) (l:List Int),p-1-i<m->i<=p-1->l.length=i->Gh c (AA.mk s0.c a d)->
 Ow n s0 nets cell k2 m (i:Int) a d t i2 l=some ()
 |0,i,a,d,l,hm,_,_,_=>by omega
 |m+1,i,a,d,l,hm,hi,hl,hs=>by
  have wp:wrap .i64 ((p:Int)-1)=((p-1:Nat):Int):=by rw [BD (by omega) (by omega)];omega
  rw [Ow.eq_2];(try simp only [jn]);rw [hp,BJ,wp]
  by_cases q:i<p-1
  ·have go1:∀(x:Int) (s':AA),Gh c s'->(Option.bind (De (([]:List Int)) l 8) fun z=>(Option.bind (De z [x] 8) fun z2=>(Ow n s0 nets cell k2 m (wrap .i64 ((i:Int)+1)) s'.at_ s'.b t i2 z2)))=some ():=fun x s' h'=>by
    rw [CC (by simp;omega) (by omega),BJ,CX,CC (by simp;omega) (by omega),BJ,wS (by omega)]
    exact pM hc e0 hp hp2 hk m (i+1) _ _ _ (by omega) (by omega) (by simp;omega) (h'.mk2 e0)
   rw [Ex q,cT]
   exact Pk (Nx hc hs _) fun r1 ⟨h1,_⟩=>Pk (Nx hc (h1.mk2 e0) 3) fun r2 ⟨h2,_⟩=>IR (fun _=>IR (fun _=>go1 _ _ h2) fun _=>go1 _ _ h2) fun _=>IR (fun _=>go1 _ _ h2) fun _=>go1 _ _ h2
  ·obtain rfl:i=p-1:=by omega
   rw [FS,cF]
   exact hk a d l hl hs
theorem rB{n:Nat}(hn:1048577<=n){c:List Int}(hc:NG c){s0:AA}(e0:s0.c=c){k0:List BI->List ByteArray->Int->Int->Int->Option Unit}
 (hk:∀l nets i a d,l.length<=6->nets.length=3+l.length->(∀x∈l,OK x)->(∀x∈nets,ByteArray.size x<=1000)->Gh c (AA.mk s0.c a d)->k0 l nets i a d=some ()):∀(m k:Nat) (l:List BI) (nets:List ByteArray) (a d:Int),k<m->l.length+k<=6->nets.length=3+l.length->(∀x∈l,OK x)->(∀x∈nets,ByteArray.size x<=1000)->Gh c (AA.mk s0.c a d)->
 PF n s0 k0 m l nets (k:Int) a d=some ()
 |0,k,l,nets,a,d,hm,_,_,_,_,_=>by omega
 |m+1,0,l,nets,a,d,hm,hl,hnl,hI,hN,hs=>by
  rw [PF.eq_2];try simp only [jn]
  exact hk l nets _ a d (by omega) hnl hI hN hs
 |m+1,k+1,l,nets,a,d,hm,hl,hnl,hI,hN,hs=>by
  have hp:decide (((k+1:Nat):Int)>0)=true:=AX (by omega)
  have w:wrap .i64 (((k+1:Nat):Int)-1)=(k:Int):=by rw [BD (by omega) (by omega)];omega
  rw [PF.eq_2];(try simp only [jn]);rw [hp,cT]
  refine Pk (Nx hc hs 12) fun r ⟨h1,r0,r1⟩=>?_
  obtain⟨x,p,ex,ep,p2,p4⟩:=uA (j:=r.1.toNat) (by omega)
  rw [Int.toNat_of_nonneg r0]at ex
  rw [ex,BJ]
  refine Pk (Nb2 (n:=n) (k:=l.length) (by omega) hn) fun t ht=>?_
  obtain⟨c1,c2⟩:=Qt (x:=ByteArray.mk #[117]) (y:=t) (by have:(ByteArray.mk #[117]).size=1:=rfl;omega)
  have z1:(ByteArray.mk #[117]).size=1:=rfl
  have z2:(ByteArray.mk #[110]).size=1:=rfl
  rw [c1,BJ]
  refine pM hc e0 ep ⟨p2,p4⟩ (fun a2 d2 l2 hl2 hs2=>?_) n 0 _ _ [] (by omega) (by omega) rfl (h1.mk2 e0)
  rw [CC (by simp;omega) (by omega),BJ,CX,CC (by simp;omega) (by omega),BJ]
  refine Pk (Nb2 (n:=n) (k:=nets.length) (by omega) hn) fun t2 ht2=>?_
  obtain⟨c3,c4⟩:=Qt (x:=ByteArray.mk #[110]) (y:=t2) (by omega)
  rw [c3,BJ,CC (by simp;omega) (by omega),BJ,CC (by simp;omega) (by omega),BJ,w]
  refine rB hn hc e0 hk m k _ _ _ _ (by omega) (by simp;omega) (by simp;omega) (fun y hy=>?_) (fun y hy=>?_) hs2
  ·rcases BR.1 hy with h|h
   ·exact hI y h
   ·rw [As.1 h]
    exact⟨by show(_:ByteArray).size<=1000;rw [c2];omega,by simp,by simp;omega⟩
  ·rcases BR.1 hy with h|h
   ·exact hN y h
   ·rw [As.1 h,c4];omega
theorem jO{n:Nat}{c:List Int}(hc:NG c){s0:AA}(e0:s0.c=c){O:Pt}{wild:Bool}{L:Nat}(hL:L<=6){nets ps:List ByteArray}{k4:Int->Int->Int->List BI->List ByteArray->List ByteArray->Option Unit}
 (hk:∀i a d l,l.length=L->(∀x∈l,OK x)->Gh c (AA.mk s0.c a d)->k4 i a d l nets ps=some ()):∀(m i:Nat) (a d:Int) (l:List BI),L-i<m->i<=L->l.length=L->(∀x∈l,OK x)->Gh c (AA.mk s0.c a d)->
 Ov n s0 wild O k4 m (i:Int) a d l nets ps=some ()
 |0,i,a,d,l,hm,_,_,_,_=>by omega
 |m+1,i,a,d,l,hm,hi,hl,hI,hs=>by
  rw [Ov.eq_2];try simp only [jn]
  by_cases q:i<l.length
  ·have hx:=hI _ (AI q)
   rw [Ex q,cT,wS (by omega)]
   refine Pk (Nx hc hs 4) fun r ⟨h1,_⟩=>Pk (A:=fun _=>True) (BU (fun _=>?_) fun _=>Af trivial) fun b _=>IR (fun _=>?_) fun _=>jO hc e0 hL hk m (i+1) _ _ l (by omega) (by omega) hl hI (h1.mk2 e0)
   ·rw [Ac q,BJ]
    exact CO.bind (A:=fun _=>True) (BU (fun _=>Af trivial) fun _=>Af trivial) fun _ _ _=>Af trivial
   ·rw [Ac q,BJ]
    refine Pk (Nx hc (h1.mk2 e0) _) fun r2 ⟨h2,_⟩=>?_
    rw [show(0:Int)=((0:Nat):Int)from rfl,Ac (show 0<l[i].c.length by have:=hx.2.1;omega),BJ]
    refine O.inn fun y hy=>O.inn fun y2 hy2=>O.inn fun y3 hy3=>?_
    obtain rfl:=aR hy2
    obtain rfl:=aR hy3
    exact jO hc e0 hL hk m (i+1) _ _ y (by omega) (by omega) (by rw [hy.1];exact hl) (OK.shp hy hI) (h2.mk2 e0)
  ·obtain rfl:i=l.length:=by omega
   rw [FS,cF]
   exact hk _ a d l hl hI hs
theorem D05{n:Nat}(hn:1048577<=n){c:List Int}(hc:NG c){s:AA}(hs:Gh c s){O:Pt}{most:Int}(hm:2<=most∧most<=6){wild:Bool}{g:Ae×AA->Option Unit}(hg:∀d s',PP d->Gh c s'->g (d,s')=some ()):pH n O s most wild g=some ():=by
 have e:=hs.code
 have wm:wrap .i64 (most-1)=most-1:=BD (by omega) (by omega)
 have n3:∀x∈[(ByteArray.mk #[110,99,107]),(ByteArray.mk #[110,97]),(ByteArray.mk #[110,98])],ByteArray.size x<=1000:=by decide
 rw [pH];(try simp only [jn]);rw [CC (by simp) (by omega),BJ,CX,wm]
 refine Pk (Nx hc hs _) fun r ⟨h1,r0,r1⟩=>?_
 have wr:wrap .i64 (2+r.1)=((2+r.1.toNat:Nat):Int):=by rw [BD (by omega) (by omega)];omega
 rw [wr]
 refine rB hn hc e (fun l nets i a d hl hnl hI hN hs2=>?_) n _ [] _ _ _ (by omega) (by simp;omega) rfl (by simp) n3 (h1.mk2 e)
 have p3:∀x:Int,∀p∈[(DK.mk ((ByteArray.mk #[99,107])) 1 0),(DK.mk ((ByteArray.mk #[97])) 1 1),(DK.mk ((ByteArray.mk #[98])) 1 2),(DK.mk ((ByteArray.mk #[121])) 2 x)],p.f.size<=1000:=fun x p hp=>by
  simp only [CS,DX,GM]at hp
  rcases hp with h|h|h|h
  ·rw [h];exact(by decide:(ByteArray.mk #[99,107]).size<=1000)
  ·rw [h];exact(by decide:(ByteArray.mk #[97]).size<=1000)
  ·rw [h];exact(by decide:(ByteArray.mk #[98]).size<=1000)
  ·rw [h];exact(by decide:(ByteArray.mk #[121]).size<=1000)
 refine jO hc e hl (fun i a d l2 hl2 hI2 hs3=>?_) n 0 a d l (by omega) (by omega) rfl hI hs2
 rw [CC (by simp) (by omega),BJ,CX,CC (by simp) (by omega),BJ]
 refine Pk (Nx hc hs3 2) fun q ⟨k1,_⟩=>IR (fun _=>Pk (Nx hc (k1.mk2 e) _) fun q2 ⟨k2,_⟩=>?_) fun _=>hg _ _ ⟨⟨by show l2.length<=6;omega,hI2⟩,⟨⟨by show 3<=nets.length;omega,by show nets.length<=9;omega⟩,hN⟩,⟨⟨by simp,by simp⟩,p3 _⟩⟩ (k1.mk2 e)
 rw [CC (by simp) (by omega),BJ]
 refine hg _ _ ⟨⟨by show l2.length<=6;omega,hI2⟩,⟨⟨by show 3<=nets.length;omega,by show nets.length<=9;omega⟩,hN⟩,⟨⟨by simp,by simp⟩,fun p hp=>?_⟩⟩ (k2.mk2 e)
 rcases BR.1 hp with h|h
 ·exact p3 _ p h
 ·rw [As.1 h];exact(by decide:(ByteArray.mk #[122]).size<=1000)
theorem PP.short{d:Ae}(h:PP d):∀x∈d.b,x.c.length<=5:=fun x hx=>(h.inst.2 x hx).2.2
theorem PP.pls{d:Ae}(h:PP d):(pls d).length<=78:=Dy h.short (by have:=h.inst.1;omega) (by have:=h.ports.1.2;omega)
theorem wJ{n:Nat}{d:Ae}(h:PP d)(hn:1048577<=n):XQ n d=some ((pls d).map Je):=Tn h.short (by have:=h.inst.1;omega) (by have:=h.ports.1.2;omega) hn
theorem vW{n:Nat}{d:Ae}(h:PP d)(q:Int)(hn:1048577<=n):∃r,dF n d q=some r∧r.length<=78:=by
 have hl:=h.pls
 rw [dF,wJ h hn,BJ]
 have e:((pls d).map Je).length=(pls d).length:=by simp
 refine loop (L:=fun m i s=>Jh q ((pls d).map Je) (fun l38 i42=>some l38) m s i) ((pls d).map Je).length (fun i s=>s.length<=i) (fun o=>∃r,o=some r∧r.length<=78) ?_ ?_ n 0 [] (by omega) (by omega) (BN _)
 ·intro m i s hi hs
  refine .inl ?_
  simp only [Jh.eq_2,Ex hi,cT,Ac hi,BJ,Do,wT i]
  cases c:(((pls d).map Je)[i].b==q&& !((pls d).map Je)[i].d)with
  |true=>rw [cT,CC (by simp;omega) (by omega),BJ];exact⟨_,by simp;omega,rfl⟩
  |false=>rw [cF];exact⟨s,by omega,rfl⟩
 ·intro m s hs
  simp only [Jh.eq_2,FS,cF]
  exact⟨s,rfl,by omega⟩
def OO(w:CW):Prop:=(1<=w.b.length∧w.b.length<=4)∧(1<=w.f.length∧w.f.length<=4)∧(1<=w.c.length∧w.c.length<=4)∧w.d.length<=200
theorem OO.shp{l y:List CW}(h:II Jm l y)(hl:∀x∈l,OO x):∀z∈y,OO z:=
 VH h hl fun x z hr hx=>by
  have h1:=hr.1.1;have h2:=hr.2.1.1;have h3:=hr.2.2.1.1;have h4:=hr.2.2.2.1
  obtain⟨⟨a1,a2⟩,⟨b1,b2⟩,⟨c1,c2⟩,d1⟩:=hx
  exact⟨⟨by omega,by omega⟩,⟨by omega,by omega⟩,⟨by omega,by omega⟩,by omega⟩
theorem WP{n:Nat}{l:List Int}(h:l.length<=1000):SQ n l=some l:=by
 rw [SQ,CC (by simp;omega) (by omega)];rfl
theorem uS{n:Nat}{c:List Int}(hc:NG c){s0:AA}(e0:s0.c=c){Q:CW×AA->Prop}{k0:Int->Int->Int->List Int->List Int->List Int->Option (CW×AA)}
 (hk:∀i a d (l1 l2 l3:List Int),(1<=l1.length∧l1.length<=4)->l2.length=l1.length->l3.length=l1.length->Gh c (AA.mk s0.c a d)->CO Q (k0 i a d l1 l2 l3)):∀(m k:Nat) (a d:Int) (l1 l2 l3:List Int),k<m->1<=l1.length->l1.length+k<=4->l2.length=l1.length->l3.length=l1.length->Gh c (AA.mk s0.c a d)->
 CO Q (Lu n s0 k0 m (k:Int) a d l1 l2 l3)
 |0,k,a,d,l1,l2,l3,hm,_,_,_,_,_=>by omega
 |m+1,0,a,d,l1,l2,l3,hm,h1,h2,h3,h4,hs=>by
  rw [Lu.eq_2]
  exact hk _ a d l1 l2 l3 ⟨h1,by omega⟩ h3 h4 hs
 |m+1,k+1,a,d,l1,l2,l3,hm,h1,h2,h3,h4,hs=>by
  have hp:decide (((k+1:Nat):Int)>0)=true:=AX (by omega)
  have w:wrap .i64 (((k+1:Nat):Int)-1)=(k:Int):=by rw [BD (by omega) (by omega)];omega
  rw [Lu.eq_2,hp,cT,WP (show l1.length<=1000 by omega),BJ]
  refine CO.bind (Nx hc hs _) fun r1 _ ⟨q1,_⟩=>?_
  rw [CC (by simp;omega) (by omega),BJ,WP (show l2.length<=1000 by omega),BJ]
  refine CO.bind (Nx hc (q1.mk2 e0) _) fun r2 _ ⟨q2,_⟩=>?_
  rw [CC (by simp;omega) (by omega),BJ,WP (show l3.length<=1000 by omega),BJ]
  refine CO.bind (Nx hc (q2.mk2 e0) _) fun r3 _ ⟨q3,_⟩=>?_
  rw [CC (by simp;omega) (by omega),BJ,w]
  exact uS hc e0 hk m k _ _ _ _ _ (by omega) (by simp) (by simp;omega) (by simp;omega) (by simp;omega) (q3.mk2 e0)
theorem sE{n:Nat}{c:List Int}(hc:NG c){s0:AA}(e0:s0.c=c){l1 l2 l3:List Int}(h1:1<=l1.length∧l1.length<=4)(h2:l2.length=l1.length)(h3:l3.length=l1.length){L:Nat}(hL:L<=100):∀(m i:Nat) (a d:Int) (l:List Int),L-i<m->i<=L->l.length=L->Gh c (AA.mk s0.c a d)->
 CO (fun r=>(OO r.1∧r.1.d.length<=100)∧Gh c r.2) (Lm n s0 l1 (fun i115 i117 i118 l124=>(some ((CW.mk l1 l2 l3 l124),(AA.mk s0.c i117 i118)))) m (i:Int) a d l)
 |0,i,a,d,l,hm,_,_,_=>by omega
 |m+1,i,a,d,l,hm,hi,hl,hs=>by
  rw [Lm.eq_2]
  by_cases q:i<l.length
  ·rw [Ex q,cT]
   refine CO.bind (Nx hc hs _) fun r _ ⟨q1,_⟩=>?_
   rw [Ac q,BJ,wS (by omega)]
   exact sE hc e0 h1 h2 h3 hL m (i+1) _ _ _ (by omega) (by omega) (by rw [Ec];exact hl) (q1.mk2 e0)
  ·obtain rfl:i=l.length:=by omega
   rw [FS,cF]
   exact Af ⟨⟨⟨h1,⟨by show 1<=l2.length;omega,by show l2.length<=4;omega⟩,⟨by show 1<=l3.length;omega,by show l3.length<=4;omega⟩,by show l.length<=200;omega⟩,by show l.length<=100;omega⟩,hs⟩
theorem DWr{n:Nat}(hn:1048577<=n){c:List Int}(hc:NG c){s:AA}(hs:Gh c s){q:Nat}(hq:q<=100):CO (fun r=>(OO r.1∧r.1.d.length<=100)∧Gh c r.2) (Yi n s (q:Int)):=by
 have e:=hs.code
 rw [Yi]
 refine CO.bind (Nx hc hs 6) fun r _ ⟨h1,_⟩=>?_
 rw [dS,IH (by omega) (by omega),BJ,BJ]
 refine CO.bind (Nx hc (h1.mk2 e) 4) fun r2 _ ⟨h2,z0,z1⟩=>?_
 have:=uS (n:=n) (s0:=s) (Q:=fun r=>(OO r.1∧r.1.d.length<=100)∧Gh c r.2) hc e (k0:=fun i75 i77 i78 l80 l84 l88=>(Lm n s l80 (fun i115 i117 i118 l124=>(some ((CW.mk l80 l84 l88 l124),(AA.mk s.c i117 i118)))) n 0 i77 i78 (List.replicate q 0))) (fun i a d l1 l2 l3 k1 k2 k3 hs2=>
  sE hc e k1 k2 k3 hq n 0 a d _ (by omega) (by omega) (by simp) hs2) n r2.1.toNat r2.2.at_ r2.2.b [(-1)] [0] [r.1] (by omega) (by simp) (by simp;omega) rfl rfl (h2.mk2 e)
 rw [Int.toNat_of_nonneg z0]at this
 exact this
structure Pp(b:AJ):Prop where
 lib:Vt b.d
 dsg:PP b.b
 wires:b.c.length<=9∧∀w∈b.c,OO w
theorem Pp.sm{b:AJ}(h:Pp b):Tj b:=
 ⟨h.lib,⟨⟨by have:=h.dsg.inst.1;omega,fun x hx=>⟨by have:=(h.dsg.inst.2 x hx).1;omega,by have:=(h.dsg.inst.2 x hx).2.2;omega⟩⟩,⟨by have:=h.dsg.nets.1;omega,fun x hx=>by have:=h.dsg.nets.2 x hx;omega⟩,⟨by have:=h.dsg.ports.1;omega,fun p hp=>by have:=h.dsg.ports.2 p hp;omega⟩⟩,
  ⟨by have:=h.wires.1;omega,fun w hw=>by obtain⟨⟨_,a⟩,⟨_,b⟩,⟨_,c⟩,d⟩:=h.wires.2 w hw;exact⟨⟨⟨by omega,by omega⟩,by omega⟩,by omega⟩⟩⟩
theorem sZ{n:Nat}(hn:1048577<=n){c:List Int}(hc:NG c){s0:AA}(e0:s0.c=c){r38:Ae×AA}(hd:PP r38.1){k0:List CW->Int->Int->Int->Option Unit}
 (hk:∀l i a d,l.length=r38.1.c.length->(∀w∈l,OO w∧w.d.length<=100)->Gh c (AA.mk s0.c a d)->k0 l i a d=some ()):∀(m i:Nat) (l:List CW) (a d:Int),r38.1.c.length-i<m->i<=r38.1.c.length->l.length=i->(∀w∈l,OO w∧w.d.length<=100)->Gh c (AA.mk s0.c a d)->
 Nw n s0 r38 k0 m l (i:Int) a d=some ()
 |0,i,l,a,d,hm,_,_,_,_=>by omega
 |m+1,i,l,a,d,hm,hi,hl,hw,hs=>by
  have hb:=hd.nets.1
  rw [Nw.eq_2]
  by_cases q:i<r38.1.c.length
  ·obtain⟨r,f,hr⟩:=vW (n:=n) hd (i:Int) hn
   rw [Ex q,cT,f,BJ]
   refine Pk (DWr hn hc hs (by omega)) fun r2 ⟨h1,h2⟩=>?_
   rw [CC (by simp;omega) (by omega),BJ,wS (by omega)]
   refine sZ hn hc e0 hd hk m (i+1) _ _ _ (by omega) (by omega) (by simp;omega) (fun w h=>?_) (h2.mk2 e0)
   rcases BR.1 h with h|h
   ·exact hw w h
   ·rw [As.1 h];exact h1
  ·obtain rfl:i=r38.1.c.length:=by omega
   rw [FS,cF]
   exact hk l _ a d hl hw hs
theorem yR{n:Nat}(hn:1048577<=n){c:List Int}(hc:NG c){s:AA}(hs:Gh c s){O:Pt}{most:Int}(hm:2<=most∧most<=6){wild:Bool}{g:AJ×AA->Option Unit}(hg:∀b s',Pp b->b.c.length=b.b.c.length->(∀w∈b.c,w.d.length<=100)->Gh c s'->g (b,s')=some ()):UF n O s most wild g=some ():=by
 have e:=hs.code
 rw [UF]
 refine Pk (DLi hc hs hn) fun r ⟨h1,h2⟩=>D05 hn hc (h2.mk2 e) hm fun d s' hd hs'=>?_
 have hb:=hd.nets.1
 exact sZ (r38:=(d,s')) hn hc e hd (fun l i a d2 hl hw hs2=>hg _ _ ⟨h1,hd,by show l.length<=9;rw [hl];exact hb.2,fun w h=>(hw w h).1⟩ hl (fun w h=>(hw w h).2) hs2) n 0 [] _ _ (by show d.c.length-0<n;omega) (by omega) rfl (by simp) (hs'.mk2 e)
theorem AaD{n:Nat}(hn:1048577<=n){c:List Int}(hc:NG c){s:AA}(hs:Gh c s){O:Pt}{g:AJ×AA->Option Unit}(hg:∀b s',Pp b->Gh c s'->g (b,s')=some ()):ZZ n O s g=some ():=by
 have e:=hs.code
 rw [ZZ];try simp only [jn]
 refine Pk (Nx hc hs 3) fun r ⟨h1,_⟩=>yR hn hc (h1.mk2 e) (by omega) fun b s' hb hw hk hs'=>Pk (Nx hc (hs'.mk2 e) _) fun r2 ⟨h2,z0,z1⟩=>Pk (Nx hc (h2.mk2 e) 20) fun r3 ⟨h3,_⟩=>?_
 have wl:=hb.wires.1
 have nl:=hb.dsg.nets.1
 have z1:r2.1<(b.c.length:Int):=by
  have z1:r2.1<(b.c.length:Int)∨r2.1=0∧(b.c.length:Int)<=1:=z1
  omega
 obtain⟨k,ek⟩:=Ax z0
 have ek:r2.1=(k:Int):=ek
 have kl:k<b.c.length:=by omega
 have gk:AL b.c r2.1=some b.c[k]:=by rw [ek];exact Ac kl
 have wk:=hb.wires.2 _ (AI kl)
 have fin:=fun(y:List CW) (hy:II Jm b.c y)=>(⟨hb.lib,hb.dsg,⟨by show y.length<=9;rw [hy.1];exact wl,OO.shp hy hb.wires.2⟩⟩:Pp (AJ.mk b.d b.b y))
 refine IR (fun _=>?_) fun _=>IR (fun _=>?_) fun _=>IR (fun _=>?_) fun _=>IR (fun _=>?_) fun _=>IR (fun _=>?_) fun _=>IR (fun _=>?_) fun _=>hg _ _ hb (h3.mk2 e)
 ·rw [show LQ b.c 1 (b.c.length:Int)=some ((b.c.take (b.c.length:Int).toNat).drop (1:Int).toNat)from BE ⟨by omega,by omega,by omega⟩,BJ]
  exact hg _ _ ⟨hb.lib,hb.dsg,⟨by simp;omega,fun w hw2=>hb.wires.2 w (List.mem_of_mem_take (List.mem_of_mem_drop hw2))⟩⟩ (h3.mk2 e)
 ·have sl:=wk.2.2.2
  simp only [gk,BJ,WP (n:=n) (show b.c[k].d.length<=1000 by omega),CC (show b.c[k].d.length+[(0:Int)].length<=16777216 by simp;omega) (show 8<=1048576 by omega)]
  refine hg _ _ ⟨hb.lib,hb.dsg,⟨by rw [Ec];exact wl,fun w hw2=>?_⟩⟩ (h3.mk2 e)
  have hk1:=hk _ (AI kl)
  rcases List.mem_or_eq_of_mem_set hw2 with h|h
  ·exact hb.wires.2 w h
  ·rw [h];exact⟨wk.1,wk.2.1,wk.2.2.1,by rw [Bk];simp;omega⟩
 ·obtain⟨⟨p1,p2⟩,⟨r1,r2'⟩,⟨c1,c2⟩,s1⟩:=wk
  rw [gk,BJ,show(0:Int)=((0:Nat):Int)from rfl,Ac (show 0<b.c[k].f.length by omega),BJ]
  exact O.inn fun y hy=>hg _ _ (fin y hy) (h3.mk2 e)
 ·obtain⟨⟨p1,p2⟩,⟨r1,r2'⟩,⟨c1,c2⟩,s1⟩:=wk
  rw [gk,BJ]
  refine Pk (Nx hc (h3.mk2 e) 3) fun r4 ⟨h4,y0,y1⟩=>?_
  obtain⟨v,hv,_⟩:=Dx (xs:=[(-1:Int),500,501]) y0 (by simp;omega)
  rw [hv,BJ,show(0:Int)=((0:Nat):Int)from rfl,Ac (show 0<b.c[k].c.length by omega),BJ]
  exact O.inn fun y hy=>hg _ _ (fin y hy) (h4.mk2 e)
 ·obtain⟨⟨p1,p2⟩,⟨r1,r2'⟩,⟨c1,c2⟩,s1⟩:=wk
  rw [gk,BJ,BJ]
  refine Pk (Nx hc (h3.mk2 e) 5) fun r4 ⟨h4,_⟩=>?_
  have w1:wrap .i64 ((b.c[k].b.length:Int)-1)=((b.c[k].b.length-1:Nat):Int):=by rw [BD (by omega) (by omega)];omega
  rw [w1,Ac (show b.c[k].b.length-1<b.c[k].b.length by omega),BJ]
  exact O.inn fun y hy=>hg _ _ (fin y hy) (h4.mk2 e)
 ·rw [show(0:Int)=((0:Nat):Int)from rfl,Ac (show 0<b.b.d.length by have:=hb.dsg.ports.1;omega),BJ]
  refine O.inn fun y1 hy1=>O.inn fun y2 hy2=>O.inn fun y3 hy3=>?_
  obtain rfl:=aR hy2
  exact hg _ _ ⟨hb.lib,⟨⟨by show y1.length<=6;rw [hy1.1];exact hb.dsg.inst.1,OK.shp hy1 hb.dsg.inst.2⟩,hb.dsg.nets,⟨by show 3<=y3.length∧y3.length<=5;rw [hy3.1];exact hb.dsg.ports.1,VH hy3 hb.dsg.ports.2 fun x z hr hx=>by rw [←hr.1];exact hx⟩⟩,hb.wires⟩ (h3.mk2 e)
theorem D09{n:Nat}(hn:1048577<=n){c:List Int}(hc:NG c){s:AA}(hs:Gh c s){O:Pt}{g:AJ×AA->Option Unit}(hg:∀b s',Pp b->Gh c s'->g (b,s')=some ()):aC n O s g=some ():=by
 have e:=hs.code
 rw [aC];try simp only [jn]
 refine Pk (Nx hc hs 12) fun r ⟨h1,_⟩=>IR (fun _=>AaD hn hc (h1.mk2 e) fun b s' hb hs'=>hg _ _ hb (hs'.mk2 e)) fun _=>IR (fun _=>IR (fun _=>?_) fun _=>?_) fun _=>IR (fun _=>?_) fun _=>?_
 all_goals exact yR hn hc (h1.mk2 e) (by omega) fun b s' hb _ _ hs'=>hg _ _ hb (hs'.mk2 e)
theorem tZ{n:Nat}{c:List Int}(hc:NG c){s0:AA}(e0:s0.c=c){lk:List Ad}(hlk:lk.length<=5128){r90:Int×AA}(h90:0<=r90.1∧r90.1<8):∀(m i:Nat) (l:List Int) (a d:Int),lk.length-i<m->l.length<=i->i<=6000->Gh c (AA.mk s0.c a d)->
 CO (fun r=>r.1.length<=6001∧Gh c r.2) (Nm n s0 lk r90 (fun l110 i114 i116 i117=>(Option.bind (HA n ((AA.mk s0.c i116 i117)) 12) fun r121=>(cond (r121.1==0) (Option.bind (HA n ((AA.mk s0.c r121.2.at_ r121.2.b)) 2) fun r129=>(Option.bind (De l110 ([wrap .i64 (((lk.length:Int))*r129.1)]) 8) fun z149=>(some (z149,(AA.mk s0.c r129.2.at_ r129.2.b))))) (some (l110,(AA.mk s0.c r121.2.at_ r121.2.b)))))) m l (i:Int) a d)
 |0,i,l,a,d,hm,_,_,_=>by omega
 |m+1,i,l,a,d,hm,hl,hi,hs=>by
  rw [Nm.eq_2]
  by_cases q:i<lk.length
  ·have w9:wrap .i64 (1+r90.1)=1+r90.1:=BD (by omega) (by omega)
   rw [Ex q,cT,CC (by simp;omega) (by omega),BJ,w9]
   refine CO.bind (Nx hc hs _) fun r _ ⟨h1,z0,z1⟩=>?_
   have z2:r.1<=8:=by omega
   have wi:wrap .i64 ((i:Int)+(wrap .i64 (1+r.1)))=((i+1+r.1.toNat:Nat):Int):=by
    rw [BD (x:=1+r.1) (by omega) (by omega),BD (by omega) (by omega)];omega
   rw [wi]
   exact tZ hc e0 hlk h90 m _ _ _ _ (by omega) (by simp;omega) (by omega) (h1.mk2 e0)
  ·rw [show decide ((i:Int)<(lk.length:Int))=false from Aa (by omega),cF]
   refine CO.bind (Nx hc hs 12) fun r _ ⟨h1,_⟩=>BU (fun _=>?_) fun _=>Af ⟨by show l.length<=6001;omega,h1.mk2 e0⟩
   refine CO.bind (Nx hc (h1.mk2 e0) 2) fun r2 _ ⟨h2,_⟩=>?_
   rw [CC (by simp;omega) (by omega),BJ]
   exact Af ⟨by simp;omega,h2.mk2 e0⟩
theorem DBr{n:Nat}(hn:1048577<=n){c:List Int}(hc:NG c){s:AA}(hs:Gh c s){b:AJ}(hb:Tj b):CO (fun r=>r.1.length<=6001∧Gh c r.2) (XB n s b):=by
 have e:=hs.code
 obtain⟨v,e1,hv⟩:=nU (n:=n) hb hn
 rw [XB,e1,BJ]
 refine CO.bind (A:=fun x=>Gh c (AA.mk s.c x.2.1 x.2.2)∧(x.1=false->v=true)) (BU (fun _=>Af ⟨hs,fun h=>by cases h⟩) fun q=>CO.bind (Nx hc hs 3) fun r _ ⟨h1,_⟩=>Af ⟨h1.mk2 e,fun _=>by cases v<;>simp_all⟩) fun x _ ⟨hx,hv2⟩=>BU (fun _=>Af ⟨by simp,hx⟩) fun q=>?_
 have vb:=hv.1 (hv2 q)
 rw [Yx vb hn,BJ]
 refine CO.bind (Nx hc hx 8) fun r _ ⟨h1,z0,z1⟩=>CO.bind (Nx hc (h1.mk2 e) _) fun r2 _ ⟨h2,y0,y1⟩=>?_
 have w9:wrap .i64 (1+r.1)=1+r.1:=BD (by omega) (by omega)
 rw [w9]at y1
 have:=tZ (n:=n) hc e (MI vb) (r90:=r) ⟨z0,by omega⟩ n r2.1.toNat [] r2.2.at_ r2.2.b (by have:=MI vb;omega) (by simp) (by omega) (h2.mk2 e)
 rw [Int.toNat_of_nonneg y0]at this
 exact this
def oK(x:Ad):Ad:=⟨x.c,x.d,x.b,x.f⟩
def VA(L:List Ad):List Ad:=L.map oK
theorem Ju(L:List Ad):(VA L).length=L.length:=CH ..
theorem iB(L:List Ad)(i:Int):AL (VA L) i=(AL L i).map oK:=by
 unfold AL VA;split<;>simp
theorem qH{L:List Ad}{lv:List Bool}{K K':Bool->Int->List Bool->Option (List Bool)}(hK:∀q i l,K q i l=K' q i l):∀(m:Nat) (q:Bool) (i:Int) (l:List Bool),IL L lv false K m q i l=IL (VA L) lv true K' m q i l
 |0,_,_,_=>rfl
 |m+1,q,i,l=>by
  simp only [IL.eq_2,Ju,iB,BM,Al,cT,cF,hK,jn]
  cases AL L i with
  |none=>rfl
  |some x=>simp only [Option.map_some,BJ,oK,qH hK m]
theorem uN{n:Nat}{L:List Ad}{lv:List Bool}:∀(m:Nat) (q:Bool) (l:List Bool),JE n L lv false (fun _ l34=>(some l34)) m q l=JE n (VA L) lv true (fun _ l34=>(some l34)) m q l
 |0,_,_=>rfl
 |m+1,q,l=>by
  simp only [JE.eq_2,jn]
  rw [qH (K':=fun q38 _ l40=>(JE n (VA L) lv true (fun q33 l34=>(some l34)) m q38 l40)) fun q i l=>uN m q l]
theorem RcB{n:Nat}{L:List Ad}{lv:List Bool}{N s:Nat}(hL:UW L N)(hlv:lv.length=L.length)(hl:L.length<=10000)(hN:N<=1000)(hs:s<N)(hn:1048577<=n):
 ∃out,jL n (N:Int) L lv (s:Int) false=some out∧Uh (VA L) lv (fun u=>u=(s:Int)) N out:=by
 have hg:∀k (h:k<(VA L).length),(VA L)[k]=oK (L[k]'(by rw [Ju]at h;exact h)):=fun k h=>EP _
 have:=Rc1 (n:=n) (L:=VA L) (lv:=lv) (N:=N) (s:=s) ⟨fun k h=>by rw [hg k h];exact hL.to_ k (by rw [Ju]at h;exact h),fun k h=>by rw [hg k h];exact hL.from_ k (by rw [Ju]at h;exact h)⟩ (by rw [Ju];exact hlv) (by rw [Ju];exact hl) hN hs hn
 unfold jL at this ⊢
 simp only [uN]
 exact this
theorem KA.trans{L:List Ad}{lv:List Bool}{u v:Int}{w:Int}(h1:KA L lv (fun x=>x=u) v)(h2:KA L lv (fun x=>x=v) w):KA L lv (fun x=>x=u) w:=by
 induction h2 with
 |src e=>have e:_=v:=e;subst e;exact h1
 |step _ e ih=>exact .step ih e
theorem Ed.rv{L:List Ad}{lv:List Bool}{u w:Int}:Ed (VA L) lv u w↔Ed L lv w u:=by
 constructor
 ·rintro ⟨k,hk,h1,h2,h3⟩
  have hk':k<L.length:=by rw [Ju]at hk;exact hk
  have e:(VA L)[k]=oK L[k]:=EP _
  rw [e]at h2 h3
  exact⟨k,hk',h1,h3,h2⟩
 ·rintro ⟨k,hk,h1,h2,h3⟩
  have hk':k<(VA L).length:=by rw [Ju];exact hk
  have e:(VA L)[k]=oK L[k]:=EP _
  exact⟨k,hk',h1,by rw [e];exact h3,by rw [e];exact h2⟩
theorem KA.one{L:List Ad}{lv:List Bool}{u w:Int}(e:Ed L lv u w):KA L lv (fun x=>x=u) w:=.step (.src rfl) e
theorem KA.rv{L:List Ad}{lv:List Bool}{v w:Int}(h:KA (VA L) lv (fun x=>x=v) w):KA L lv (fun x=>x=w) v:=by
 induction h with
 |src e=>have e:_=v:=e;subst e;exact .src rfl
 |step _ e ih=>exact KA.trans (KA.one (Ed.rv.1 e)) ih
theorem KA.vr{L:List Ad}{lv:List Bool}{v w:Int}(h:KA L lv (fun x=>x=w) v):KA (VA L) lv (fun x=>x=v) w:=by
 induction h with
 |src e=>have e:_=w:=e;subst e;exact .src rfl
 |step _ e ih=>exact KA.trans (KA.one (Ed.rv.2 e)) ih
theorem KA.first{L:List Ad}{lv:List Bool}{u w:Int}(h:KA L lv (fun x=>x=u) w)(ne:u≠w):∃x,Ed L lv u x∧KA L lv (fun y=>y=x) w:=by
 induction h with
 |src e=>exact absurd (show _=u from e).symm ne
 |@step a b h1 e ih=>
  by_cases c:u=a
  ·subst c;exact⟨_,e,.src rfl⟩
  ·obtain⟨x,e1,e2⟩:=ih c
   exact⟨x,e1,.step e2 e⟩
theorem Xf{L:List Ad}{lv:List Bool}(hw:∀k (h:k<L.length) j (g:j<L.length),L[k].c=L[j].d->L[k].b=1∨L[j].b=1){v w:Int}(ne:v≠w)(h1:KA L lv (fun x=>x=v) w)(h2:KA L lv (fun x=>x=w) v):
 ∃k,∃h:k<L.length,gb lv k=true∧L[k].b=1∧(KA L lv (fun x=>x=v) L[k].d∧KA L lv (fun x=>x=L[k].d) v)∧KA L lv (fun x=>x=v) L[k].c∧KA L lv (fun x=>x=L[k].c) v:=by
 cases h1 with
 |src e=>exact absurd (show w=v from e).symm ne
 |@step a _ g e=>
  have e':=e
  obtain⟨k,hk,q1,q2,q3⟩:=e
  obtain⟨x,e2,g2⟩:=KA.first h2 fun c=>ne c.symm
  have e2':=e2
  obtain⟨j,hj,r1,r2,r3⟩:=e2
  have hva:KA L lv (fun x=>x=v) w:=.step g e'
  rcases hw k hk j hj (by rw [q3,r2])with c|c
  ·exact⟨k,hk,q1,c,by rw [q2];exact⟨g,KA.trans (KA.one e') h2⟩,by rw [q3];exact⟨hva,h2⟩⟩
  ·exact⟨j,hj,r1,c,by rw [r2];exact⟨hva,h2⟩,by rw [r3];exact⟨.step hva e2',g2⟩⟩
theorem WtT{n:Nat}{l:List Int}(h:WX l)(x:Int)(hn:1048577<=n):∃(i:Nat) (a b:Int),eH n l x=some ((i:Int),a,b)∧((i<l.length∧a=1∧b=0)∨(i+1<l.length∧(1<=a∧a<=100000)∧(1<=b∧b<=100000))):=by
 have h1:=h.1
 have ci:=UL h x
 have w1:wrap .i64 ((l.length:Int)-1)=((l.length-1:Nat):Int):=by rw [BD (by omega) (by omega)];omega
 have g0:AL l 0=some (gd l 0):=gI (l:=l) (i:=0) (by omega)
 have gL:AL l ((l.length-1:Nat):Int)=some (gd l (l.length-1)):=gI (by omega)
 rw [eH,g0,BJ,w1,gL,BJ]
 have key:∀(m i:Nat),i<l.length->i<m->(∀k,i<k->k<l.length->EH l x<gd l k)->∃(j:Nat) (a b:Int),JF l x (gd l 0) (gd l (l.length-1)) (fun i23=>(some (0,1,0))) m (i:Int)=some ((j:Int),a,b)∧((j<l.length∧a=1∧b=0)∨(j+1<l.length∧(1<=a∧a<=100000)∧(1<=b∧b<=100000))):=by
  intro m
  induction m with
  |zero=>intro i _ h;omega
  |succ m ih=>
   intro i hi hm hk
   have d0:decide ((i:Int)>=0)=true:=AX (by omega)
   rw [JF.eq_2,d0,cT,gI hi,BJ,show min (max x (gd l 0)) (gd l (l.length-1))=EH l x from rfl]
   by_cases c:EH l x=gd l i
   ·rw [show(EH l x==gd l i)=true from Ai.2 c,cT]
    exact⟨i,1,0,rfl,.inl ⟨hi,rfl,rfl⟩⟩
   ·rw [show(EH l x==gd l i)=false from AG.2 c,cF,BJ]
    have r0:=h.2.1 i hi
    by_cases c2:EH l x>gd l i
    ·have hl:i+1<l.length:=by
      apply Nat.lt_of_not_le
      intro q
      have:i=l.length-1:=by omega
      subst this;omega
     have r1:=h.2.1 (i+1) hl
     have hc:=hk (i+1) (by omega) hl
     rw [AX c2,cT,wS (by omega),gI hl,BJ,BJ,BD (by omega) (by omega),BD (by omega) (by omega)]
     exact⟨i,_,_,rfl,.inr ⟨hl,by omega,by omega⟩⟩
    ·have hp:0<i:=by
      apply Nat.pos_of_ne_zero
      intro q;subst q;omega
     have wi:wrap .i64 ((i:Int)-1)=((i-1:Nat):Int):=by rw [BD (by omega) (by omega)];omega
     rw [Aa c2,cF,wi]
     refine ih (i-1) (by omega) (by omega) fun k hk1 hk2=>?_
     by_cases q:k=i
     ·subst q;omega
     ·exact hk k (by omega) hk2
 exact key n (l.length-1) (by omega) (by omega) fun k h1 h2=>by omega
theorem uZ{n:Nat}{s D mode:Int}(h:D≠0):∃r,Px n s D mode=some r:=by
 have hz:(D==0)=false:=by rw [AG];exact h
 rw [Px,hz,cF,cF]
 cases(decide (Int.tmod s D<0))&&((mode==0))<;>cases(decide (Int.tmod s D>0))&&((mode==1))<;>exact⟨_,rfl⟩
theorem vG{t:Bm}(v:VT t){i k u q:Nat}{w:Int}{U V:Int}{A:Int->Option Int}{B:Option Int}(hw:w>0->i+u<t.d.length∧k+q<t.c.length)(hU:U=(u:Int))(hV:V=(q:Int))(hq:q<=1)(hA:∀x,CO (fun _=>True) (A x))(hB:CO (fun _=>True) B):
 CO (fun _=>True) (cond (decide (w>0)) (Option.bind (AL t.b (wrap .i64 (wrap .i64 (wrap .i64 (wrap .i64 ((i:Int)+U)*(t.c.length:Int))+(k:Int))+V))) A) B):=by
 have S4:=v.1.1.1.2
 have L4:=v.1.2.1.2
 have hlen:=v.2.1
 subst hU hV
 refine BU (fun c=>?_) fun _=>hB
 obtain⟨h1,h2⟩:=hw (CQ c)
 have hb:=dH (S:=t.d.length) (L:=t.c.length) (i:=i+u) (k:=k+q) h1 h2
 rw [pQ (by omega) (by omega) (by omega) hq,gI (by omega),BJ]
 exact hA _
theorem Td{a c:Int}(h:wrap .i64 (a*c)>0):a≠0∧c≠0:=by
 constructor
 ·intro e;subst e;rw [Int.zero_mul]at h;exact absurd h (by decide)
 ·intro e;subst e;rw [Int.mul_zero]at h;exact absurd h (by decide)
structure WtO(l:List Int)(i:Nat)(a b:Int):Prop where
 lo:i<l.length
 hi:b≠0->i+1<l.length
theorem rO{t:Bm}(v:VT t){i k:Nat}{a b c d:Int}(h1:WtO t.d i a b)(h2:WtO t.c k c d){u:Int}(hu:u=0∨u=1){K:Int->Int->Option Int}(hK:∀s,CO (fun _=>True) (K s 2))(m:Nat)(s:Int):CO (fun _=>True) (Hn t ((i:Int),a,b) ((k:Int),c,d) u K (m+3) s 0):=by
 have w01:wrap .i64 (0+1)=1:=rfl
 have w12:wrap .i64 (1+1)=2:=rfl
 have l02:decide ((0:Int)<2)=true:=rfl
 have l12:decide ((1:Int)<2)=true:=rfl
 have l22:decide ((2:Int)<2)=false:=rfl
 have b00:((0:Int)==0)=true:=rfl
 have b10:((1:Int)==0)=false:=rfl
 have b01:((0:Int)==1)=false:=rfl
 have b11:((1:Int)==1)=true:=rfl
 have s3:∀s,CO (fun _=>True) (Hn t ((i:Int),a,b) ((k:Int),c,d) u K (m+1) s 2):=fun s=>by
  rw [Hn.eq_2];(try simp only [jn]);rw [l22,cF];exact hK s
 have s2:∀s,CO (fun _=>True) (Hn t ((i:Int),a,b) ((k:Int),c,d) u K (m+2) s 1):=fun s=>by
  rw [Hn.eq_2];(try simp only [jn]);rw [l12,cT,b10,cF,cF,w12]
  rcases hu with rfl|rfl
  ·rw [b01,cF]
   exact vG v (u:=0) (q:=1) (fun h=>⟨h1.lo,h2.hi (Td h).2⟩) rfl rfl (by omega) (fun _=>s3 _) (s3 _)
  ·rw [b11,cT]
   exact vG v (u:=1) (q:=1) (fun h=>⟨h1.hi (Td h).1,h2.hi (Td h).2⟩) rfl rfl (by omega) (fun _=>s3 _) (s3 _)
 rw [Hn.eq_2];(try simp only [jn]);rw [l02,cT,b00,cT,cT,w01]
 rcases hu with rfl|rfl
 ·rw [b01,cF]
  exact vG v (u:=0) (q:=0) (fun h=>⟨h1.lo,h2.lo⟩) rfl rfl (by omega) (fun _=>s2 _) (s2 _)
 ·rw [b11,cT]
  exact vG v (u:=1) (q:=0) (fun h=>⟨h1.hi (Td h).1,h2.lo⟩) rfl rfl (by omega) (fun _=>s2 _) (s2 _)
theorem bO{l:List Int}{i:Nat}{a b:Int}(h:(i<l.length∧a=1∧b=0)∨(i+1<l.length∧(1<=a∧a<=100000)∧(1<=b∧b<=100000))):WtO l i a b∧0<wrap .i64 (a+b)∧wrap .i64 (a+b)<=200000:=by
 have e:wrap .i64 (a+b)=a+b:=BD (by omega) (by omega)
 rw [e]
 rcases h with ⟨h,rfl,rfl⟩|⟨h,h1,h2⟩
 ·exact⟨⟨h,fun c=>absurd rfl c⟩,by omega,by omega⟩
 ·exact⟨⟨by omega,fun _=>h⟩,by omega,by omega⟩
theorem LkT{n:Nat}{t:Bm}(v:VT t)(x y mode:Int)(hn:1048577<=n):CO (fun _=>True) (eK n t x y mode):=by
 obtain⟨i,a,b,e1,h1⟩:=WtT (n:=n) v.1.1 x hn
 obtain⟨k,c,d,e2,h2⟩:=WtT (n:=n) v.1.2 y hn
 obtain⟨o1,p1,p2⟩:=bO h1
 obtain⟨o2,q1,q2⟩:=bO h2
 obtain⟨m,rfl⟩:∃m,n=m+3:=⟨n-3,by omega⟩
 rw [eK];(try simp only [jn]);rw [e1,e2,BJ,BJ]
 have w01:wrap .i64 (0+1)=1:=rfl
 have w12:wrap .i64 (1+1)=2:=rfl
 have l02:decide ((0:Int)<2)=true:=rfl
 have l12:decide ((1:Int)<2)=true:=rfl
 have l22:decide ((2:Int)<2)=false:=rfl
 rw [Ji.eq_2];(try simp only [jn]);rw [l02,cT,w01]
 refine rO v o1 o2 (.inl rfl) (fun s=>?_) m 0
 rw [Ji.eq_2];(try simp only [jn]);rw [l12,cT,w12]
 refine rO v o1 o2 (.inr rfl) (fun s=>?_) m _
 have em:=mw (a:=wrap .i64 (a+b)) (c:=wrap .i64 (c+d)) (by omega) (by omega)
 rw [Ji.eq_2];(try simp only [jn]);rw [l22,cF]
 try dsimp only
 rw [em]
 have:=Int.mul_pos p1 q1
 obtain⟨r,er⟩:=uZ (n:=m+3) (s:=s) (D:=wrap .i64 (a+b)*wrap .i64 (c+d)) (mode:=mode) (by omega)
 rw [er]
 exact Af trivial
theorem Dl1{n:Nat}{b:AJ}(v:DA b){i:Nat}(hi:i<b.c.length)(hn:1048577<=n):CO (fun r=>r.length=b.c[i].b.length) (Xi n b (i:Int)):=by
 have vw:=v.wire i hi
 have hm:=vw.many
 rw [Xi,Ac hi,BJ]
 refine CO.bind (Ld1 v hi hn) fun ls _ hl=>?_
 refine Sl (L:=fun m j s=>MN b.c[i] ls _ m s j) 1 ls.length (fun j s=>s.length=j) ?_ ?_ n [0] (by omega) (by omega) rfl
 ·intro m j s h1 hj hs
  have ht:=vw.tree j h1 (by omega)
  obtain⟨a,ea⟩:=HR (t:=s) ht.1 (by omega)
  simp only [MN.eq_2,Ex hj,cT,gI (show j<b.c[i].b.length by omega),BJ,ea,gI (show j<b.c[i].f.length by have:=vw.res;omega),gI hj,wT j]
  rw [CC (by simp;omega) (by omega),BJ]
  exact⟨_,by simp;omega,rfl⟩
 ·intro m s hs
  simp only [MN.eq_2,FS,cF]
  exact⟨s,rfl,by omega⟩
theorem eY{b:AJ}(v:DA b){i:Nat}(hi:i<b.c.length):b.c[i].d.length<=78:=by
 have vd:=v.design
 have hl:=Dy vd.short vd.few.1 vd.few.2.2
 have h:snk b.b (i:Int)<=78:=Ar Cj hl
 have:=(v.wire i hi).sink
 omega
theorem Sd1{n:Nat}{b:AJ}(v:DA b){i:Nat}(hi:i<b.c.length){mode:Int}(hn:1048577<=n):CO (fun r=>r.length=b.c[i].d.length) (ZW n b (i:Int) mode):=by
 have vw:=v.wire i hi
 have hm:=vw.many
 have hf:=eY v hi
 rw [ZW]
 refine CO.bind (Dl1 v hi hn) fun ds _ hl=>?_
 refine Ii (L:=fun m j s=>LX n b (i:Int) mode ds _ m s j) b.c[i].d.length (fun j s=>s.length=j) ?_ ?_ n [] (by omega) rfl
 ·intro m j s hj hs
  have hk:=vw.sinks j hj
  obtain⟨a,ea⟩:=HR (t:=ds) hk.1 (by omega)
  obtain⟨r,er⟩:=uZ (n:=n) (s:=a) (D:=1000) (mode:=mode) (by omega)
  simp only [LX.eq_2,Ac hi,BJ,Ex hj,cT,gI hj,ea,er,wT j]
  rw [CC (by simp;omega) (by omega),BJ]
  exact⟨_,by simp;omega,rfl⟩
 ·intro m s hs
  simp only [LX.eq_2,Ac hi,BJ,FS,cF]
  exact⟨s,rfl,hs⟩
theorem AaE{n:Nat}{x mode:Int}(hn:1048577<=n):CO (fun _=>True) (Yv n x mode):=by
 rw [Yv]
 have key:∀(m:Nat) (i j:Int),0<=i->i<=j->j<=2000000000->j-i<2^m->CO (fun _=>True) (KI x (fun i3 i4=>(cond (((mode==1))&&(decide (wrap .i64 (i3*i3)<x))) (some (wrap .i64 (i3+1))) (some i3))) (m+1) i j):=by
  intro m
  induction m with
  |zero=>
   intro i j h0 h1 h2 h3
   have:i=j:=by simp at h3;omega
   subst this
   rw [KI.eq_2,Aa (by omega),cF]
   exact BU (fun _=>Af trivial) fun _=>Af trivial
  |succ m ih=>
   intro i j h0 h1 h2 h3
   rw [Int.pow_succ]at h3
   rw [KI.eq_2]
   by_cases c:i<j
   ·have w1:wrap .i64 (i+j)=i+j:=BD (by omega) (by omega)
    have w2:wrap .i64 (i+j+1)=i+j+1:=BD (by omega) (by omega)
    have e:Int.tdiv (i+j+1) 2=(i+j+1)/2:=ES (by omega)
    have w3:wrap .i64 ((i+j+1)/2)=(i+j+1)/2:=BD (by omega) (by omega)
    have w4:wrap .i64 ((i+j+1)/2-1)=(i+j+1)/2-1:=BD (by omega) (by omega)
    rw [AX c,cT,w1,w2,e,w3,w4]
    exact BU (fun _=>ih _ _ (by omega) (by omega) h2 (by omega)) fun _=>ih _ _ h0 (by omega) (by omega) (by omega)
   ·rw [Aa c,cF]
    exact BU (fun _=>Af trivial) fun _=>Af trivial
 obtain⟨m,rfl⟩:∃m,n=m+1:=⟨n-1,by omega⟩
 refine key m 0 2000000000 (by omega) (by omega) (by omega) ?_
 have h1:(2:Int)^40<=2^m:=by
  have:=FY (show 1<=2 by omega) (show 40<=m by omega)
  exact_mod_cast this
 have h2:(2:Int)^40=1099511627776:=by decide
 omega
theorem zI{n:Nat}{b:AJ}(v:DA b){i:Nat}(hi:i<b.c.length){k slew mode:Int}(hk:0<=k∧k<(b.c[i].d.length:Int))(hn:1048577<=n):CO (fun _=>True) (Zz n b (i:Int) k slew mode):=by
 have vw:=v.wire i hi
 rw [Zz]
 refine CO.bind (Dl1 v hi hn) fun ds _ hl=>?_
 obtain⟨j,ej⟩:=Ax hk.1
 have ej:k=(j:Int):=ej
 subst ej
 have hj:j<b.c[i].d.length:=by omega
 have hs:=vw.sinks j hj
 obtain⟨a,ea⟩:=HR (t:=ds) hs.1 (by omega)
 rw [Ac hi,BJ,gI hj,BJ,ea,BJ]
 refine CO.bind (AaE hn) fun r _ _=>?_
 obtain⟨q,eq⟩:=uZ (n:=n) (s:=r) (D:=1000) (mode:=mode) (by omega)
 rw [eq];exact Af trivial
theorem fL{d:Ae}{q:Int}:∀x∈LL d q,∃t,∃h:t<(pls d).length,x=(t:Int)∧JO q (pls d)[t]=true:=fun x hx=>
 FK (Q:=fun x=>∃t,∃h:t<(pls d).length,x=(t:Int)∧JO q (pls d)[t]=true) (pls d) 0 (fun j hj y hy=>by
  rw [Bu]at hy
  by_cases c:JO q (pls d)[j]=true
  ·rw [BE c]at hy;exact⟨j,hj,As.1 hy,c⟩
  ·rw [BV c]at hy;cases hy) x hx
structure iD(b:AJ)(x:Ad)(f t q j:Nat):Prop where
 kind:x.b=2
 from_:x.d=2*(f:Int)∨x.d=2*(f:Int)+1
 to_:x.c=2*(t:Int)∨x.c=2*(t:Int)+1
 drv:∃h:f<(pls b.b).length,(pls b.b)[f].d=true
 snk:∃h:t<(pls b.b).length,(pls b.b)[t].d=false∧(pls b.b)[t].b=(q:Int)
 ix:x.f=(j:Int)
 sinks:∃h:q<b.c.length,j<b.c[q].d.length
theorem Ti{b:AJ}(v:DA b):∀x∈QV b,x.b=1∨∃f t q j,iD b x f t q j:=by
 have vd:=v.design
 intro x hx
 simp only [QV,BR]at hx
 rcases hx with hx|hx
 ·refine .inl ?_
  refine FK (Q:=fun x:Ad=>x.b=1) b.b.b 0 (fun i hi y hy=>?_) x hx
  rw [cY]at hy
  refine FK (Q:=fun x:Ad=>x.b=1) _ 0 (fun j hj z hz=>?_) y hy
  obtain⟨t,ht,rfl⟩:=Dm.1 hz
  rfl
 ·refine .inr ?_
  refine FK (Q:=fun x:Ad=>∃f t q j,iD b x f t q j) b.b.c 0 (fun q hq y hy=>?_) x hx
  rw [Bu]at hy
  have hd:=Tb vd hq
  refine FK (Q:=fun x:Ad=>∃f t q j,iD b x f t q j) _ 0 (fun j hj z hz=>?_) y hy
  rw [Bu]at hz
  obtain⟨t,ht,et,st⟩:=fL _ (AI hj)
  simp only [JO,AD,Ai,BY]at st
  have hdr:((pls b.b)[Oi b.b q]'hd.lt).d=true:=by have:=hd.hit;simp only [Hv,AD]at this;exact this.2
  have hq2:q<b.c.length:=by rw [v.many];exact hq
  have hs:(LL b.b (q:Int)).length=b.c[q].d.length:=by rw [Iu];have:=(v.wire q hq2).sink;omega
  simp only [jG,CS,DX,GM]at hz
  rw [et]at hz
  rcases hz with rfl|rfl
  ·exact⟨Oi b.b q,t,q,j,rfl,.inl rfl,.inl rfl,⟨hd.lt,hdr⟩,⟨ht,st.2,st.1⟩,rfl,⟨hq2,by omega⟩⟩
  ·exact⟨Oi b.b q,t,q,j,rfl,.inr rfl,.inr rfl,⟨hd.lt,hdr⟩,⟨ht,st.2,st.1⟩,rfl,⟨hq2,by omega⟩⟩
theorem tU{n:Nat}{b:AJ}(v:DA b){x:Ad}(ok:XL b x)(k:x.b=1)(hn:1048577<=n):∃a z,XJ n b x=some (a,z)∧Uz a.h true∧Uz a.f true:=by
 have vd:=v.design
 obtain⟨p,y,c,a,g1,pm,g2,g3,g4,kd⟩:=ok.arc k
 have hp:=vd.net p pm
 have hW:=v.many
 obtain⟨N,hN⟩:=Ax hp.1
 have hN:p.b=(N:Int):=hN
 have hNl:N<b.c.length:=by omega
 obtain⟨r,er,hr⟩:=Ld1 (n:=n) v hNl hn
 have hm:=(v.wire N hNl).many
 have g1':AL ((pls b.b).map Je) (wrap .i64 (Int.tdiv x.c 2))=some (Je p):=by
  obtain⟨g0,g5,g6⟩:=HH g1
  obtain⟨M,hM⟩:=Ax g0
  have hM:wrap .i64 (Int.tdiv x.c 2)=(M:Int):=hM
  rw [hM]at g6 ⊢
  rw [IK,FO]
  rw [DF]at g6
  rw [g6];rfl
 have g2':AL b.b.b (Je p).c=some y:=g2
 have hN':(Je p).b=(N:Int):=hN
 refine⟨a,gd r 0,?_,?_⟩
 ·rw [XJ,Tn vd.short vd.few.1 vd.few.2.2 hn]
  simp only [BJ,g1',g2',g3,g4,hN',er]
  have e0:AL r 0=some (gd r 0):=gI (i:=0) (by omega)
  rw [e0];rfl
 ·obtain⟨_,_,c3⟩:=HH g3
  obtain⟨cl,ec⟩:=AK.1 c3
  obtain⟨_,_,a3⟩:=HH g4
  obtain⟨al,ea⟩:=AK.1 a3
  have vc:=vd.lib.cells _ cl
  rw [ec]at vc
  have ar:=(vc.arcs _ al).1
  rw [ea]at ar
  unfold OS at ar
  obtain⟨_,ar⟩:=ar
  by_cases k1:a.b=1
  ·rw [BE k1]at ar;exact⟨ar.2.2.2.1,ar.2.2.2.2⟩
  ·rw [BV k1,BE (by omega)]at ar;exact⟨ar.2.2.2.1,ar.2.2.2.2⟩
theorem bS{x:Int}(h:0<=x):0<=Int.tmod x 2∧Int.tmod x 2<2:=Ib h (by omega)
theorem jC{n:Nat}{b:AJ}(v:DA b){x:Ad}{f t q j:Nat}(h:iD b x f t q j)(hn:1048577<=n):XG n b x=some (q:Int):=by
 have vd:=v.design
 have hl:=Dy vd.short vd.few.1 vd.few.2.2
 obtain⟨ht,_,hq⟩:=h.snk
 have e1:wrap .i64 (Int.tdiv x.c 2)=(t:Int):=by
  have h0:0<=x.c:=by have:=h.to_;omega
  have e:Int.tdiv x.c 2=(t:Int):=by rw [ES h0];have:=h.to_;omega
  rw [e,BD (by omega) (by omega)]
 rw [XG,Tn vd.short vd.few.1 vd.few.2.2 hn,BJ,e1,Ac (by simpa using ht),BJ,EP]
 show some (pls b.b)[t].b=_
 rw [hq]
theorem Fac{n:Nat}{c:Ca}{k m:Int}:CO (fun _=>True) (XA n c k m):=by
 rw [XA]
 refine BU (fun _=>BU (fun _=>Af trivial) fun _=>Af trivial) fun _=>BU (fun _=>Af trivial) fun _=>Af trivial
theorem gZ{n:Nat}{b:AJ}(v:DA b){x:Ad}(hx:x∈QV b){c:Ca}{s m:Int}(hn:1048577<=n):CO (fun _=>True) (UJ n b c x s m):=by
 have ok:=Ts v x hx
 have dv:∀y:Int,CO (fun _=>True) (Option.bind (Px n y 1000 m) fun r=>some r):=fun y=>by
  obtain⟨r,e⟩:=uZ (n:=n) (s:=y) (D:=1000) (mode:=m) (by omega)
  rw [e];exact Af trivial
 rw [UJ]
 rcases Ti v x hx with k|⟨f,t,q,j,h⟩
 ·rw [Ai.2 k,cT]
  obtain⟨a,z,e,hd,_⟩:=tU (n:=n) v ok k hn
  rw [e,BJ]
  have pr:=bS ok.to_.1
  exact CO.bind (CO.get pr.1 (by rw [hd.1];exact pr.2) hd.2) fun u _ hu=>CO.bind (LkT hu.1 _ _ _ hn) fun _ _ _=>CO.bind Fac fun _ _ _=>dv _
 ·have k:(x.b==1)=false:=by rw [AG,h.kind];omega
  obtain⟨hq,hj⟩:=h.sinks
  rw [k,cF,jC v h hn,BJ,h.ix]
  exact CO.bind (Sd1 v hq hn) fun r _ hr=>CO.bind (EV (by omega) (by omega)) fun _ _ _=>CO.bind Fac fun _ _ _=>dv _
theorem gQ{n:Nat}{b:AJ}(v:DA b){x:Ad}(hx:x∈QV b){s m:Int}(hn:1048577<=n):CO (fun _=>True) (UY n b x s m):=by
 have ok:=Ts v x hx
 rw [UY]
 rcases Ti v x hx with k|⟨f,t,q,j,h⟩
 ·rw [Ai.2 k,cT]
  obtain⟨a,z,e,_,hd⟩:=tU (n:=n) v ok k hn
  rw [e,BJ]
  have pr:=bS ok.to_.1
  exact CO.bind (CO.get pr.1 (by rw [hd.1];exact pr.2) hd.2) fun u _ hu=>CO.bind (LkT hu.1 _ _ _ hn) fun _ _ _=>Af trivial
 ·have k:(x.b==1)=false:=by rw [AG,h.kind];omega
  obtain⟨hq,hj⟩:=h.sinks
  rw [k,cF,jC v h hn,BJ,h.ix]
  exact CO.bind (zI v hq ⟨by omega,by omega⟩ hn) fun _ _ _=>Af trivial
theorem AcG{n:Nat}{b:AJ}(v:DA b){x:Ad}(hx:x∈QV b){c:Ca}{s:BF}(hn:1048577<=n):CO (fun _=>True) (bJ n b c x s):=by
 rw [bJ]
 exact CO.bind (gZ v hx hn) fun _ _ _=>CO.bind (gZ v hx hn) fun _ _ _=>CO.bind (gQ v hx hn) fun _ _ _=>CO.bind (gQ v hx hn) fun _ _ _=>CO.bind (gZ v hx hn) fun _ _ _=>CO.bind (gZ v hx hn) fun _ _ _=>CO.bind (gQ v hx hn) fun _ _ _=>CO.bind (gQ v hx hn) fun _ _ _=>Af trivial
theorem pW{n:Nat}{s t:BF}:CO (fun _=>True) (Xb n s t):=by rw [Xb];exact Af trivial
structure iT(N:Nat)(t:Au):Prop where
 r:t.c.length=N
 a:t.b.length=N
 s:t.f.length=N
abbrev St7:=Bool×Int×Int×Int×Int×Int
theorem AcA{n:Nat}{b:AJ}(v:DA b){c:Ca}{lv:List Bool}(hlv:lv.length=(QV b).length){ss:List BW}(hs:ss.length<=1048576){t:Au}(ht:iT (2*(pls b.b).length) t){k:Int}(hn:1048577<=n):
 CO (fun _=>True) (sU n b c (QV b) lv ss t k):=by
 have hL:=MI v
 have hin:=Vu v
 have hr:=ht.r;have ha:=ht.a;have hsl:=ht.s
 rw [sU]
 refine Ht (L:=fun m i (p:St7)=>Ma ss k _ m p.1 i p.2.1 p.2.2.1 p.2.2.2.1 p.2.2.2.2.1 p.2.2.2.2.2) ss.length (fun _ _=>True) (CO fun _=>True) ?_ ?_ n 0 (false,0,0,0,0,0) (by omega) (by omega) trivial
 ·rintro m i ⟨q,i2,i3,i4,i5,i6⟩ hi _ ih
  simp only [Ma.eq_2,Ex hi,cT,Ac hi,BJ,wT i]
  exact BU (fun _=>ih (true,_,_,_,_,_) trivial) fun _=>ih (q,i2,i3,i4,i5,i6) trivial
 ·rintro m ⟨q,i2,i3,i4,i5,i6⟩ _
  simp only [Ma.eq_2,FS,cF]
  refine Ht (L:=fun m i (p:St7)=>Lx n b c (QV b) lv t k _ m p.1 i p.2.1 p.2.2.1 p.2.2.2.1 p.2.2.2.2.1 p.2.2.2.2.2) (QV b).length (fun _ _=>True) (CO fun _=>True) ?_ ?_ n 0 (q,i2,i3,i4,i5,i6) (by omega) (by omega) trivial
  ·rintro m i ⟨q,i2,i3,i4,i5,i6⟩ hi _ ih
   have hf:=hin.from_ i hi
   simp only [Lx.eq_2,Ex hi,cT,Ac hi,Ac (show i<lv.length by omega),BJ,wT i]
   refine CO.bind (A:=fun _=>True) (BU (fun _=>Af trivial) fun _=>CO.bind (EV hf.1 (by omega)) fun _ _ _=>Af trivial) fun cc _ _=>BU (fun _=>ih (q,i2,i3,i4,i5,i6) trivial) fun _=>?_
   refine CO.bind (EV hf.1 (by omega)) fun sl _ _=>CO.bind (AcG v (AI hi) hn) fun r _ _=>CO.bind (EV hf.1 (by omega)) fun a1 _ _=>CO.bind (EV hf.1 (by omega)) fun a2 _ _=>BU (fun _=>?_) fun _=>ih (true,_,_,_,_,_) trivial
   exact CO.bind pW fun _ _ _=>CO.bind pW fun _ _ _=>ih (true,_,_,_,_,_) trivial
  ·rintro m ⟨q,i2,i3,i4,i5,i6⟩ _
   simp only [Lx.eq_2,FS,cF]
   exact Af trivial
theorem SpI{n:Nat}{s:BF}:CO (fun _=>True) (UP n s):=⟨_,yN,trivial⟩
theorem wU{n:Nat}{b:AJ}(v:DA b){c:Ca}{lv:List Bool}(hlv:lv.length=(QV b).length){ss:List BW}(hs:ss.length<=1048576){od:List Int}(ho:od.length<=1048576)(hr:∀x∈od,0<=x∧x<((2*(pls b.b).length:Nat):Int))(hn:1048577<=n):
 CO (fun r=>iT 0 r.1∨iT (2*(pls b.b).length) r.1) (ZS n b c (QV b) lv ss od):=by
 have vd:=v.design
 have hl:=Dy vd.short vd.few.1 vd.few.2.2
 have wc:Em b=((2*(pls b.b).length:Nat):Int):=by unfold Em;omega
 generalize hN:2*(pls b.b).length=N at*
 rw [ZS,US v hn,BJ,wc,gS]
 simp only [IH (show N<=1048576 by omega) (show 1<=268435456 by omega),IH (show N<=1048576 by omega) (show 16<=268435456 by omega),BJ]
 refine Ht (L:=fun m i (p:List Bool×List BF×List BF)=>KU n b c (QV b) lv ss od _ m i p.1 p.2.1 p.2.2) od.length (fun _ p=>iT N ⟨p.1,p.2.1,p.2.2⟩) (CO fun r=>iT 0 r.1∨iT N r.1) ?_ ?_ n 0 (List.replicate N false,List.replicate N ⟨0,0⟩,List.replicate N ⟨0,0⟩) (by omega) (by omega) ⟨by simp,by simp,by simp⟩
 ·rintro m i ⟨l1,l2,l3⟩ hi ⟨h1,h2,h3⟩ ih
  have h1:l1.length=N:=h1
  have h2:l2.length=N:=h2
  have h3:l3.length=N:=h3
  have hx:=hr _ (AI hi)
  simp only [KU.eq_2,Ex hi,cT,Ac hi,BJ,wT i]
  refine CO.bind (AcA v hlv hs (t:=⟨l1,l2,l3⟩) (by rw [hN];exact⟨h1,h2,h3⟩) hn) fun r _ _=>BU (fun _=>ih (l1,l2,l3) ⟨h1,h2,h3⟩) fun _=>CO.bind SpI fun q _ _=>BU (fun _=>Af (.inl ⟨rfl,rfl,rfl⟩)) fun _=>?_
  exact CO.bind (EV hx.1 (by omega)) fun _ _ _=>CO.bind (EV hx.1 (by omega)) fun _ _ _=>CO.bind (EV hx.1 (by omega)) fun _ _ _=>ih (_,_,_) ⟨by simpa using h1,by simpa using h2,by simpa using h3⟩
 ·rintro m ⟨l1,l2,l3⟩ h
  simp only [KU.eq_2,FS,cF]
  exact Af (.inr h)
theorem AcL{n:Nat}{L:List Ad}{lv:List Bool}{N:Nat}(hL:UW L N)(hlv:lv.length=L.length)(hl:L.length<=10000)(hN:N<=1000)(hn:1048577<=n):
 CO (fun r=>r.1.length<=N∧∀x∈r.1,0<=x∧x<(N:Int)) (pP n (N:Int) L lv):=by
 rw [pP,IH (by omega) (by omega),BJ]
 refine WZ (L:=fun m (p:List Int×List Bool)=>Oc n (N:Int) L lv _ m p.1 p.2) (fun p=>N-p.1.length) (fun p=>(p.1.length<=N∧p.2.length=N)∧∀x∈p.1,0<=x∧x<(N:Int)) (CO fun r=>r.1.length<=N∧∀x∈r.1,0<=x∧x<(N:Int)) ?_ n ([],List.replicate N false) (by simp;omega) ⟨⟨by simp,by simp⟩,by simp⟩
 rintro m ⟨o,l⟩ ⟨⟨h1,h2⟩,h3⟩ ih
 have h1:o.length<=N:=h1
 have h2:l.length=N:=h2
 simp only [Oc.eq_2]
 refine BU (fun c=>?_) fun _=>Af ⟨h1,h3⟩
 have c:o.length<N:=by have:=CQ c;omega
 rw [IH (by omega) (by omega),BJ]
 refine Ht (L:=fun m' i (w:List Bool)=>MZ L lv l _ m' i w) L.length (fun _ w=>w.length=N) (CO fun r=>r.1.length<=N∧∀x∈r.1,0<=x∧x<(N:Int)) ?_ ?_ n 0 (List.replicate N false) (by omega) (by omega) (by simp)
 ·intro m' i w hi hw kk
  have hf:=hL.from_ i hi
  have ht:=hL.to_ i hi
  simp only [MZ.eq_2,Ex hi,cT,Ac hi,Ac (show i<lv.length by omega),BJ,wT i]
  refine CO.bind (A:=fun _=>True) (BU (fun _=>CO.bind (EV hf.1 (by omega)) fun _ _ _=>Af trivial) fun _=>Af trivial) fun cc _ _=>BU (fun _=>CO.bind (EV ht.1 (by omega)) fun _ _ _=>kk _ (by simpa using hw)) fun _=>kk w hw
 ·intro m' w hw
  simp only [MZ.eq_2,FS,cF]
  have fin:∀i:Nat,i<=N->CO (fun r=>r.1.length<=N∧∀x∈r.1,0<=x∧x<(N:Int)) ((cond ((i:Int)==(N:Int)) (some (([]:List Int),false)) (Option.bind (De o [(i:Int)] 8) fun z103=>(Oc n (N:Int) L lv (fun l33 l37=>(some (l33,true))) m z103 ((l.set ((i:Int)).toNat true)))))):=fun i hi=>
   BU (fun _=>Af ⟨by simp,by simp⟩) fun q=>by
    have q:=AG.1 q
    rw [CC (by simp;omega) (by omega),BJ]
    refine ih (o++[(i:Int)],_) ⟨⟨by simp;omega,by simpa using h2⟩,fun x hx=>?_⟩ (by simp;omega)
    rcases BR.1 hx with h|h
    ·exact h3 x h
    ·rw [As.1 h];omega
  refine Ht (L:=fun m' i (_:Unit)=>PC (N:Int) l w _ m' i) N (fun _ _=>True) (CO fun r=>r.1.length<=N∧∀x∈r.1,0<=x∧x<(N:Int)) ?_ ?_ n 0 () (by omega) (by omega) trivial
  ·intro m'' i _ hi _ kk
   simp only [PC.eq_2,Ex hi,cT,Ac (show i<l.length by omega),Ac (show i<w.length by omega),BJ,wT i]
   refine CO.bind (A:=fun _=>True) (CO.bind (A:=fun _=>True) (BU (fun _=>Af trivial) fun _=>Af trivial) fun _ _ _=>Af trivial) fun cc _ _=>BU (fun _=>kk () trivial) fun _=>fin i (by omega)
  ·intro m'' _ _
   simp only [PC.eq_2,FS,cF,BJ,Fh,cT]
   exact Af ⟨by simp,by simp⟩
theorem sW{n:Nat}{b:AJ}{br:List Int}(hb:Tj b)(hbr:br.length<=1048576)(hn:1048577<=n):CO (fun r=>(r !=0)=false->DA b) (XS n b br):=by
 obtain⟨v,e1,hv⟩:=nU (n:=n) hb hn
 rw [XS,e1,BJ]
 refine BU (fun _=>Af fun h=>by cases h) fun q=>?_
 have vb:=hv.1 (by cases v<;>simp_all)
 have hL:=MI vb
 rw [Yx vb hn,BJ]
 obtain⟨r,e2,_⟩:=Rs1 (n:=n) (br:=br) (N:=((QV b).length:Int)) hbr ⟨by omega,by omega⟩ hn
 rw [e2,BJ]
 exact BU (fun _=>Af fun h=>by cases h) fun _=>Af fun _=>vb
theorem zX{n:Nat}{b:AJ}{br:List Int}(hb:Tj b)(hbr:br.length<=1048576)(hn:1048577<=n):CO (fun r=>r.1.length<=156∧((r.2 !=0)=false->DA b∧∀x∈r.1,0<=x∧x<((2*(pls b.b).length:Nat):Int))) (bQ n b br):=by
 rw [bQ]
 refine CO.bind (sW hb hbr hn) fun r _ hr=>BU (fun q=>Af ⟨by simp,fun h=>by rw [show(r !=0)=false from h]at q;cases q⟩) fun q=>?_
 have v:=hr q
 have vd:=v.design
 have hl:=Dy vd.short vd.few.1 vd.few.2.2
 have hL:=MI v
 have wc:Em b=((2*(pls b.b).length:Nat):Int):=by unfold Em;omega
 rw [Yx v hn,BJ,US v hn,BJ,yX (by omega) hbr hn,BJ,wc]
 exact CO.bind (AcL (Vu v) (NN _ _ _) (by omega) (by omega) hn) fun o _ ho=>BU (fun _=>Af ⟨by simp,fun h=>by cases h⟩) fun _=>Af ⟨by have:=ho.1;show o.1.length<=156;omega,fun _=>⟨v,ho.2⟩⟩
theorem AaY{n:Nat}{c:Ca}(h:c.f.size<=1048576)(hn:1048577<=n):CO (fun _=>True) (bI n c):=by
 rw [bI]
 refine Ht (L:=fun m i (_:Unit)=>MJ n c _ m i) ([c.b,c.c,c.d,c.g]).length (fun _ _=>True) (CO fun _=>True) ?_ ?_ n 0 () (by simp) (by simp;omega) trivial
 ·intro m i _ hi _ kk
  have hi4:i<4:=hi
  simp only [MJ.eq_2,Ex hi,cT,Ac hi,BJ,JA,wT i]
  exact BU (fun _=>Af trivial) fun _=>kk () trivial
 ·intro m _ _
  simp only [MJ.eq_2,FS,cF,vI h hn,BJ]
  exact Af trivial
theorem xL{n:Nat}{b:AJ}(v:DA b){ss:List BW}(hs:ss.length<=1048576)(hn:1048577<=n):CO (fun _=>True) (YN n b ss):=by
 rw [YN,US v hn,BJ]
 refine Ht (L:=fun m i (_:Unit)=>Le n ss (Em b) _ m i) ss.length (fun _ _=>True) (CO fun _=>True) ?_ ?_ n 0 () (by omega) (by omega) trivial
 ·intro m i _ hi _ kk
  simp only [Le.eq_2,Ex hi,cT,Ac hi,BJ,JA,yN,Xj,wT i]
  refine CO.bind (A:=fun _=>True) (BU (fun _=>Af trivial) fun _=>CO.bind (A:=fun _=>True) (BU (fun q=>?_) fun _=>Af trivial) fun _ _ _=>Af trivial) fun c1 _ _=>CO.bind (A:=fun _=>True) (BU (fun _=>Af trivial) fun _=>Af trivial) fun c2 _ _=>CO.bind (A:=fun _=>True) (BU (fun _=>Af trivial) fun _=>Af trivial) fun c3 _ _=>BU (fun _=>Af trivial) fun _=>kk () trivial
  have q:=CQ q
  have w:wrap .i64 ((i:Int)-1)=((i-1:Nat):Int):=by rw [BD (by omega) (by omega)];omega
  rw [w,Ac (show i-1<ss.length by omega)]
  exact Af trivial
 ·intro m _ _
  simp only [Le.eq_2,FS,cF]
  exact Af trivial
theorem PTm{n:Nat}{b:AJ}{c:Ca}{br:List Int}{ss:List BW}(hb:Tj b)(hc:c.f.size<=1048576)(hbr:br.length<=1048576)(hs:ss.length<=1048576)(hn:1048577<=n):CO (fun r=>∃N,N<=156∧iT N r.1) (bV n b c br ss):=by
 have no:∃N,N<=156∧iT N (Au.mk [] [] []):=⟨0,by omega,rfl,rfl,rfl⟩
 rw [bV]
 refine CO.bind (A:=fun r=>r.1.length<=156∧((r.2 !=0)=false->DA b∧∀x∈r.1,0<=x∧x<((2*(pls b.b).length:Nat):Int))) ?_ fun r _ hr=>BU (fun _=>Af no) fun q=>?_
 ·rw [dL]
  obtain⟨v,e1,hv⟩:=nU (n:=n) hb hn
  rw [e1,BJ]
  refine CO.bind (A:=fun x=>x=false->v=true) (BU (fun _=>Af fun h=>by cases h) fun q=>CO.bind (AaY hc hn) fun _ _ _=>Af fun _=>by cases v<;>simp_all) fun x _ hx=>BU (fun _=>Af ⟨by simp,fun h=>by cases h⟩) fun q=>?_
  have vb:=hv.1 (hx q)
  refine CO.bind (sW hb hbr hn) fun r _ hr=>CO.bind (A:=fun _=>True) (BU (fun _=>Af trivial) fun _=>CO.bind (xL vb hs hn) fun _ _ _=>Af trivial) fun x _ _=>BU (fun _=>Af ⟨by simp,fun h=>by cases h⟩) fun _=>CO.bind (zX hb hbr hn) fun o _ ho=>Af ho
 ·obtain⟨v,ho⟩:=hr.2 q
  have vd:=v.design
  have hl:=Dy vd.short vd.few.1 vd.few.2.2
  have hL:=MI v
  rw [Yx v hn,BJ,yX (by omega) hbr hn,BJ]
  refine CO.bind (wU v (NN _ _ _) hs (by have:=hr.1;omega) ho hn) fun t _ ht=>BU (fun _=>Af no) fun _=>Af ?_
  rcases ht with h|h
  ·exact⟨0,by omega,h⟩
  ·exact⟨_,by omega,h⟩
def ct(l:List Bool):Nat:=l.countP fun b=>b
theorem bP:∀{l:List Bool} {i:Nat},i<l.length->gb l i=true->ct (l.set i false)+1=ct l
 |[],i,h,_=>by simp at h
 |b::l,0,_,h=>by
  have h:b=true:=h
  subst h;simp [ct]
 |b::l,i+1,hi,h=>by
  have ih:=bP (l:=l) (i:=i) (by simpa using hi) h
  unfold ct at ih ⊢
  simp only [List.set_cons_succ,List.countP_cons];omega
theorem Slf{n:Nat}{L:List Ad}{lv:List Bool}{v:Int}(hlv:lv.length=L.length)(hl:L.length<=10000)(hn:1048577<=n):
 CO (fun r=>r=true->∃k,∃h:k<L.length,gb lv k=true∧L[k].d=v∧L[k].c=v) (bY n L lv v):=by
 rw [bY]
 refine Ht (L:=fun m i (_:Unit)=>Lz L lv v _ m i) L.length (fun _ _=>True) (CO fun r=>r=true->∃k,∃h:k<L.length,gb lv k=true∧L[k].d=v∧L[k].c=v) ?_ ?_ n 0 () (by omega) (by omega) trivial
 ·intro m i _ hi _ kk
  simp only [Lz.eq_2,Ex hi,cT,Ac hi,QT (show i<lv.length by omega),BJ,Do,wT i]
  refine BU (fun q=>Af fun _=>?_) fun _=>kk () trivial
  simp only [AD,Ai]at q
  exact⟨i,hi,q.1.1,q.1.2,q.2⟩
 ·intro m _ _
  simp only [Lz.eq_2,FS,cF]
  exact Af fun h=>by cases h
def Ua(L:List Ad)(lv:List Bool)(N:Nat)(x:List Int):Prop:=x.length<=N∧∃k,∃h:k<L.length,gb lv k=true∧L[k].b=1∧L[k].d∈x∧L[k].c∈x
structure lP(N v i:Nat)(r1 r2:List Bool)(x:List Int):Prop where
 few:x.length<=i
 iff:∀y,y∈x↔∃w:Nat,w<i∧y=(w:Int)∧gb r1 w=true∧gb r2 w=true
 two:x.length>1->∃w:Nat,w<N∧w≠v∧gb r1 w=true∧gb r2 w=true
theorem lP.skip{N v i:Nat}{r1 r2:List Bool}{x:List Int}(h:lP N v i r1 r2 x)(c:(gb r1 i&&gb r2 i)=false):lP N v (i+1) r1 r2 x:=
 ⟨by have:=h.few;omega,fun y=>(h.iff y).trans ⟨fun⟨w,a,b⟩=>⟨w,by omega,b⟩,fun⟨w,a,b,d,e⟩=>⟨w,by
  by_cases q:w=i
  ·subst q;rw [d,e]at c;cases c
  ·omega,b,d,e⟩⟩,h.two⟩
theorem lP.add{N v i:Nat}{r1 r2:List Bool}{x:List Int}(h:lP N v i r1 r2 x)(hi:i<N)(c:(gb r1 i&&gb r2 i)=true):lP N v (i+1) r1 r2 (x++[(i:Int)]):=by
 simp only [AD]at c
 refine⟨by have:=h.few;simp;omega,fun y=>?_,fun g=>?_⟩
 ·rw [BR,As,h.iff y]
  constructor
  ·rintro (⟨w,a,b⟩|e)
   ·exact⟨w,by omega,b⟩
   ·exact⟨i,by omega,e,c.1,c.2⟩
  ·rintro ⟨w,a,b,d⟩
   by_cases q:w=i
   ·subst q;exact .inr b
   ·exact .inl ⟨w,by omega,b,d⟩
 ·have g:0<x.length:=by simp at g;omega
  obtain⟨w,a,_,d,e⟩:=(h.iff x[0]).1 (AI g)
  by_cases q:w=v
  ·exact⟨i,hi,by omega,c.1,c.2⟩
  ·exact⟨w,by omega,q,d,e⟩
theorem Lps{n:Nat}{L:List Ad}{lv:List Bool}{N:Nat}(hL:UW L N)(hlv:lv.length=L.length)(hl:L.length<=10000)(hN:N<=1000)
 (hw:∀k (h:k<L.length) j (g:j<L.length),L[k].c=L[j].d->L[k].b=1∨L[j].b=1) (hn:1048577<=n):CO (fun r=>∀x∈r,Ua L lv N x) (uE n (N:Int) L lv):=by
 rw [uE,IH (by omega) (by omega),BJ]
 refine Ht (L:=fun m i (p:List (List Int)×List Bool)=>Lt n (N:Int) L lv _ m p.1 i p.2) N (fun i p=>(p.1.length<=i∧∀x∈p.1,Ua L lv N x)∧p.2.length=N) (CO fun r=>∀x∈r,Ua L lv N x) ?_ ?_ n 0 ([],List.replicate N false) (by omega) (by omega) ⟨⟨by simp,by simp⟩,by simp⟩
 ·rintro m i ⟨o,l⟩ hi ⟨⟨h1,h2⟩,h3⟩ ih
  have h1:o.length<=i:=h1
  have h3:l.length=N:=h3
  simp only [Lt.eq_2,Ex hi,cT,Ac (show i<l.length by omega),BJ,wT i]
  refine BU (fun _=>ih (o,l) ⟨⟨by show o.length<=i+1;omega,h2⟩,h3⟩) fun _=>?_
  obtain⟨r1,e1,k1⟩:=Rc1 (n:=n) hL hlv hl hN hi hn
  obtain⟨r2,e2,k2⟩:=RcB (n:=n) hL hlv hl hN hi hn
  have l1:=k1.len;have l2:=k2.len
  rw [e1,BJ,e2,BJ]
  refine Ht (L:=fun m' j (p:List Int×List Bool)=>NI (N:Int) r1 r2 _ m' p.1 j p.2) N (fun j p=>lP N i j r1 r2 p.1∧p.2.length=N) (CO fun r=>∀x∈r,Ua L lv N x) ?_ ?_ n 0 ([],l) (by omega) (by omega) ⟨⟨BN _,fun y=>⟨fun h=>(by cases h),fun⟨w,h,_⟩=>absurd h (AV w)⟩,fun h=>(by simp at h)⟩,h3⟩
  ·rintro m' j ⟨x,d⟩ hj ⟨g1,g2⟩ kk
   have g2:d.length=N:=g2
   have gf:=g1.few
   have gf:x.length<=j:=gf
   simp only [NI.eq_2,Ex hj,cT,QT (show j<r1.length by omega),QT (show j<r2.length by omega),BJ,Do,wT j]
   refine BU (fun c=>?_) fun c=>kk (x,d) ⟨g1.skip c,g2⟩
   rw [CC (by simp;omega) (by omega),BJ,Ac (show j<d.length by omega),BJ]
   exact kk (x++[(j:Int)],_) ⟨g1.add hj c,by simpa using g2⟩
  ·rintro m' ⟨x,d⟩ ⟨g1,g2⟩
   have gf:=g1.few
   have gf:x.length<=N:=gf
   have mem:∀u:Int,0<=u∧u<(N:Int)->KA L lv (fun y=>y=(i:Int)) u->KA L lv (fun y=>y=u) (i:Int)->u∈x:=fun u hu a b=>by
    obtain⟨w,ew⟩:=Ax hu.1
    have ew:u=(w:Int):=ew
    subst ew
    exact(g1.iff _).2 ⟨w,by omega,rfl,(k1.iff w (by omega)).2 a,(k2.iff w (by omega)).2 (KA.vr b)⟩
   simp only [NI.eq_2,FS,cF]
   refine CO.bind (A:=fun c=>c=true->Ua L lv N x) (BU (fun c=>Af fun _=>?_) fun _=>CO.bind (Slf hlv hl hn) fun r _ hr=>Af fun q=>?_) fun c _ hc=>BU (fun q=>?_) fun _=>ih (o,d) ⟨⟨by show o.length<=i+1;omega,h2⟩,g2⟩
   ·have c:=CQ c
    obtain⟨w,wN,ne,a,b⟩:=g1.two (by show x.length>1;omega)
    obtain⟨k,hk,c1,c2,⟨c3,c4⟩,c5,c6⟩:=Xf hw (v:=(i:Int)) (w:=(w:Int)) (by omega) ((k1.iff w wN).1 a) (KA.rv ((k2.iff w wN).1 b))
    exact⟨gf,k,hk,c1,c2,mem _ (hL.from_ k hk) c3 c4,mem _ (hL.to_ k hk) c5 c6⟩
   ·obtain⟨k,hk,c1,c2,c3⟩:=hr q
    have hv:=mem (i:Int) ⟨by omega,by omega⟩ (.src rfl) (.src rfl)
    exact⟨gf,k,hk,c1,(hw k hk k hk (by rw [c2,c3])).elim id id,by rw [c2];exact hv,by rw [c3];exact hv⟩
   ·rw [CC (by simp;omega) (by omega),BJ]
    refine ih (o++[x],d) ⟨⟨by simp;omega,fun y hy=>?_⟩,g2⟩
    rcases BR.1 hy with h|h
    ·exact h2 y h
    ·rw [As.1 h];exact hc q
 ·rintro m ⟨o,l⟩ ⟨⟨h1,h2⟩,h3⟩
  simp only [Lt.eq_2,FS,cF]
  exact Af h2
theorem eJ{b:AJ}(v:DA b):∀k (h:k<(QV b).length) j (g:j<(QV b).length),(QV b)[k].c=(QV b)[j].d->(QV b)[k].b=1∨(QV b)[j].b=1:=by
 intro k hk j hj e
 rcases Ti v _ (AI hk)with c|⟨f,t,q,i,h⟩
 ·exact .inl c
 ·rcases Ti v _ (AI hj)with c|⟨f',t',q',i',h'⟩
  ·exact .inr c
  ·exfalso
   have:=h.to_;have:=h'.from_
   obtain rfl:t=f':=by omega
   obtain⟨_,a,_⟩:=h.snk
   obtain⟨_,b⟩:=h'.drv
   rw [a]at b;cases b
theorem vZ{n:Nat}{b:AJ}(v:DA b)(hn:1048577<=n):CO (fun r=>r.length<=6000) (oN n b):=by
 have vd:=v.design
 have hl:=Dy vd.short vd.few.1 vd.few.2.2
 have hL:=MI v
 have hin:=Vu v
 have hal:=eJ v
 have wc:Em b=((2*(pls b.b).length:Nat):Int):=by unfold Em;omega
 rw [oN,Yx v hn,BJ,yX (by omega) (by simp) hn,BJ,US v hn,BJ,wc]
 generalize hX:QV b=X at*
 have lt:ct (HX (fun k (_:Ad)=>[!(([]:List Int).any fun y=>y==(k:Int))]) 0 X)<=X.length:=by
  have:=Cj (p:=fun b:Bool=>b) (l:=HX (fun k (_:Ad)=>[!(([]:List Int).any fun y=>y==(k:Int))]) 0 X)
  rw [NN]at this;exact this
 refine WZ (L:=fun m l=>QB n X _ _ m l) ct (fun l=>l.length=X.length) (CO fun r=>r.length<=6000) ?_ n _ (by omega) (NN _ _ _)
 intro m l hlv ih
 simp only [QB.eq_2]
 refine CO.bind (Lps hin hlv (by omega) (by omega) hal hn) fun r _ hr=>BU (fun _=>?_) fun q=>?_
 ·refine Ht (L:=fun m i s=>NJ l _ m s i) l.length (fun i s=>s.length<=i) (CO fun r=>r.length<=6000) ?_ ?_ n 0 [] (by omega) (by omega) (BN _)
  ·intro m i s hi hs kk
   simp only [NJ.eq_2,Ex hi,cT,Ac hi,BJ,wT i]
   refine BU (fun _=>?_) fun _=>kk s (by omega)
   rw [CC (by simp;omega) (by omega),BJ]
   exact kk _ (by simp;omega)
  ·intro m s hs
   simp only [NJ.eq_2,FS,cF]
   exact Af (by omega)
 ·have r0:0<r.length:=by have:=AG.1 q;omega
  obtain⟨gl,k,hk,g1,g2,g3,g4⟩:=hr r[0] (AI r0)
  have e0:AL r 0=some r[0]:=Ac r0
  have anyM:∀{y:Int},y∈r[0]->(r[0].any fun z=>z==y)=true:=fun h=>List.any_eq_true.2 ⟨_,h,by simp⟩
  refine Ht (L:=fun m' i (z:Int)=>MY n X l r _ m' z i) X.length (fun i z=>(∃q:Nat,z=(q:Int)∧q<X.length∧gb l q=true)∨i<=k) (CO fun r=>r.length<=6000) ?_ ?_ n 0 (-1) (by omega) (by omega) (.inr (Nat.zero_le _))
  ·intro m' i z hi hI kk
   simp only [MY.eq_2,Ex hi,cT,Ac hi,QT (show i<l.length by omega),BJ,Do,e0,pA (n:=n) (br:=r[0]) (show r[0].length<=1048576 by omega) hn,wT i]
   refine BU (fun c=>kk (i:Int) (.inl ⟨i,rfl,hi,?_⟩)) fun c=>kk z ?_
   ·simp only [AD]at c
    exact c.1.1.1
   ·rcases hI with h|h
    ·exact .inl h
    ·refine .inr ?_
     rcases Nat.lt_or_ge i k with h2|h2
     ·omega
     ·obtain rfl:i=k:=by omega
      rw [g1,g2,anyM g3,anyM g4]at c
      simp at c
  ·intro m' z hI
   simp only [MY.eq_2,FS,cF]
   rcases hI with ⟨q,rfl,h1,h2⟩|h
   ·rw [QT (show q<l.length by omega),BJ,DF]
    have:=bP (show q<l.length by omega) h2
    exact ih _ (by simpa using hlv) (by omega)
   ·omega
theorem DCo{n:Nat}{c:List Int}(hc:NG c){s:AA}(hs:Gh c s):CO (fun r=>r.1.f.size<=1048576∧Gh c r.2) (YI n s):=by
 have e:=hs.code
 have nm:∀x∈[(ByteArray.mk #[115,108,111,119]),(ByteArray.mk #[102,97,115,116]),(ByteArray.mk #[116,121,112])],x.size<=1048576:=by
  intro x hx
  simp only [CS,DX,GM]at hx
  rcases hx with rfl|rfl|rfl<;>decide
 rw [YI]
 refine CO.bind (Nx hc hs 3) fun r1 _ ⟨h1,z0,z1⟩=>CO.bind (CO.get z0 (by simp;omega) nm) fun x _ hx=>CO.bind (Nx hc (h1.mk2 e) 20) fun r2 _ ⟨h2,_⟩=>CO.bind (Nx hc (h2.mk2 e) 20) fun r3 _ ⟨h3,_⟩=>CO.bind (Nx hc (h3.mk2 e) 60) fun r4 _ ⟨h4,_⟩=>CO.bind (Nx hc (h4.mk2 e) 40) fun r5 _ ⟨h5,_⟩=>CO.bind (Nx hc (h5.mk2 e) 30) fun r6 _ ⟨h6,_⟩=>?_
 refine BU (fun _=>Af ⟨hx,h6.mk2 e⟩) fun _=>BU (fun _=>CO.bind (Nx hc (h6.mk2 e) 3) fun r7 _ ⟨h7,y0,y1⟩=>CO.bind (EV y0 (by simp;omega)) fun _ _ _=>Af ⟨hx,h7.mk2 e⟩) fun _=>BU (fun _=>CO.bind (Nx hc (h6.mk2 e) 2) fun r7 _ ⟨h7,_⟩=>Af ⟨hx,h7.mk2 e⟩) fun _=>BU (fun _=>Af ⟨(by decide:(ByteArray.mk #[]).size<=1048576),h6.mk2 e⟩) fun _=>Af ⟨hx,h6.mk2 e⟩
theorem DSr{n:Nat}(hn:1048577<=n){c:List Int}(hc:NG c){s:AA}(hs:Gh c s){b:AJ}(hb:Tj b):CO (fun r=>r.1.length<=1000∧Gh c r.2) (kK n s b):=by
 have e:=hs.code
 obtain⟨v,e1,hv⟩:=nU (n:=n) hb hn
 rw [kK,e1,BJ]
 refine BU (fun _=>Af ⟨by simp,hs⟩) fun q=>?_
 have vb:=hv.1 (by cases v<;>simp_all)
 have vd:=vb.design
 have hl:=Dy vd.short vd.few.1 vd.few.2.2
 rw [Tn vd.short vd.few.1 vd.few.2.2 hn,BJ]
 have hl2:((pls b.b).map Je).length<=78:=by simpa using hl
 generalize (pls b.b).map Je=ps at hl2 ⊢
 refine Ht (L:=fun m i (p:List BW×Int×Int)=>Oq n s ps _ m p.1 i p.2.1 p.2.2) ps.length (fun i p=>p.1.length<=2*i∧Gh c (AA.mk s.c p.2.1 p.2.2)) (CO fun r=>r.1.length<=1000∧Gh c r.2) ?_ ?_ n 0 ([],s.at_,s.b) (by omega) (by omega) ⟨by simp,hs⟩
 ·rintro m i ⟨l,a,d⟩ hi ⟨h1,h2⟩ ih
  have h1:l.length<=2*i:=h1
  simp only [Oq.eq_2,Ex hi,cT,Ac hi,BJ,Do,wT i]
  generalize (decide (ps[i].c<0)&&ps[i].d)=c95
  refine Ht (L:=fun m' k (p:List BW×Int×Int)=>NZ n s (i:Int) c95 _ m' p.1 k p.2.1 p.2.2) 2 (fun k p=>p.1.length<=2*i+k∧Gh c (AA.mk s.c p.2.1 p.2.2)) (CO fun r=>r.1.length<=1000∧Gh c r.2) ?_ ?_ n 0 (l,a,d) (by omega) (by omega) ⟨h1,h2⟩
  ·rintro m' k ⟨l,a,d⟩ hk ⟨g1,g2⟩ kk
   have g1:l.length<=2*i+k:=g1
   simp only [NZ.eq_2,show((2:Int))=((2:Nat):Int)from rfl,Ex hk,cT,wT k]
   refine CO.bind (A:=fun x:Bool×Int×Int=>Gh c (AA.mk s.c x.2.1 x.2.2)) (BU (fun _=>CO.bind (Nx hc g2 8) fun r _ ⟨q1,_⟩=>Af (q1.mk2 e)) fun _=>Af g2) fun x _ hx=>CO.bind (A:=fun x:Bool×Int×Int=>Gh c (AA.mk s.c x.2.1 x.2.2)) (BU (fun _=>Af hx) fun _=>CO.bind (Nx hc hx 24) fun r _ ⟨q1,_⟩=>Af (q1.mk2 e)) fun y _ hy=>BU (fun _=>?_) fun _=>kk (l,y.2.1,y.2.2) ⟨by show l.length<=_;omega,hy⟩
   refine CO.bind (Nx hc hy 200) fun r1 _ ⟨q1,_⟩=>CO.bind (Nx hc (q1.mk2 e) 30) fun r2 _ ⟨q2,_⟩=>CO.bind (Nx hc (q2.mk2 e) 40) fun r3 _ ⟨q3,_⟩=>CO.bind (Nx hc (q3.mk2 e) 12) fun r4 _ ⟨q4,_⟩=>?_
   rw [CC (by simp;omega) (by omega),BJ]
   exact kk (_,_,_) ⟨by simp;omega,q4.mk2 e⟩
  ·rintro m' ⟨l,a,d⟩ ⟨g1,g2⟩
   simp only [NZ.eq_2,show decide (((2:Nat):Int)<2)=false from rfl,cF]
   exact ih (l,a,d) ⟨g1,g2⟩
 ·rintro m ⟨l,a,d⟩ ⟨h1,h2⟩
  have h1:l.length<=2*ps.length:=h1
  simp only [Oq.eq_2,FS,cF]
  refine BU (fun g=>?_) fun _=>Af ⟨by show l.length<=1000;omega,h2⟩
  have g:=CQ g
  refine CO.bind (Nx hc h2 _) fun r1 _ ⟨q1,z0,z1⟩=>CO.bind (Nx hc (q1.mk2 e) 30) fun r2 _ ⟨q2,_⟩=>?_
  have z2:r1.1<(l.length:Int):=by omega
  have gg:CO (fun _=>True) (AL l r1.1):=(EV z0 z2).weaken fun _ _=>trivial
  have fin:∀x:BW,CO (fun r=>r.1.length<=1000∧Gh c r.2) (some (l.set r1.1.toNat x,AA.mk s.c r2.2.at_ r2.2.b)):=fun x=>Af ⟨by simp;omega,q2.mk2 e⟩
  refine BU (fun _=>CO.bind (EV (ED 0) (by omega)) fun _ _ _=>CO.bind gg fun _ _ _=>fin _) fun _=>BU (fun _=>CO.bind gg fun _ _ _=>CO.bind gg fun _ _ _=>fin _) fun _=>BU (fun _=>CO.bind gg fun _ _ _=>fin _) fun _=>BU (fun _=>CO.bind gg fun _ _ _=>fin _) fun _=>Af ⟨by show l.length<=1000;omega,q2.mk2 e⟩
structure jD(b:AJ)(c:Ca)(br:List Int)(ss:List BW):Prop where
 blk:Pp b
 cor:c.f.size<=1048576
 few:br.length<=6001
 src:ss.length<=1000
theorem D12{n:Nat}(hn:1048577<=n){c:List Int}(hc:NG c){s:AA}(hs:Gh c s){O:Pt}{g:AJ×Ca×List Int×List BW×AA->Option Unit}(hg:∀b co br ss s',jD b co br ss->Gh c s'->g (b,co,br,ss,s')=some ()):Yq n O s g=some ():=by
 have e:=hs.code
 rw [Yq];try simp only [jn]
 refine D09 hn hc hs fun b s' hb hs'=>Pk (DCo hc (hs'.mk2 e)) fun co ⟨hco,h1⟩=>Pk (Nx hc (h1.mk2 e) 3) fun r ⟨h2,_⟩=>?_
 have go:∀(b:AJ) (s':AA),Pp b->Gh c s'->(Option.bind (XB n ((AA.mk s.c s'.at_ s'.b)) b) fun r156=>(Option.bind (Xq n b) fun r176=>(Option.bind (cond (r176&&((((r156.1.length:Int))==0))) (Option.bind (HA n ((AA.mk s.c r156.2.at_ r156.2.b)) 6) fun r187=>(some (decide (r187.1>0),r187.2.at_,r187.2.b))) (some (false,r156.2.at_,r156.2.b))) fun c187=>(cond c187.1 (Option.bind (oN n b) fun r222=>(Option.bind (kK n ((AA.mk s.c c187.2.1 c187.2.2)) b) fun r232=>(g (b,co.1,r222,r232.1,(AA.mk s.c r232.2.at_ r232.2.b))))) (Option.bind (kK n ((AA.mk s.c c187.2.1 c187.2.2)) b) fun r302=>(g (b,co.1,r156.1,r302.1,(AA.mk s.c r302.2.at_ r302.2.b))))))))=some ():=fun b s' hb hs'=>by
  refine Pk (DBr hn hc (hs'.mk2 e) hb.sm) fun br ⟨hbr,h3⟩=>?_
  obtain⟨v,e1,hv⟩:=nU (n:=n) hb.sm hn
  rw [e1,BJ]
  refine Pk (A:=fun x:Bool×Int×Int=>Gh c (AA.mk s.c x.2.1 x.2.2)∧(x.1=true->v=true)) (BU (fun q=>CO.bind (Nx hc (h3.mk2 e) 6) fun r _ ⟨q1,_⟩=>Af ⟨q1.mk2 e,fun _=>by cases v<;>simp_all⟩) fun _=>Af ⟨h3.mk2 e,fun h=>by cases h⟩) fun x ⟨hx,hv2⟩=>IR (fun q=>?_) fun _=>Pk (DSr hn hc hx hb.sm) fun ss ⟨hss,h4⟩=>hg _ _ _ _ _ ⟨hb,hco,hbr,hss⟩ (h4.mk2 e)
  exact Pk (vZ (hv.1 (hv2 q)) hn) fun bk hbk=>Pk (DSr hn hc hx hb.sm) fun ss ⟨hss,h4⟩=>hg _ _ _ _ _ ⟨hb,hco,by omega,hss⟩ (h4.mk2 e)
 exact IR (fun _=>yR hn hc (h2.mk2 e) (by omega) fun b s' hb _ _ hs'=>go b s' hb hs') fun _=>go b r.2 hb h2
structure TmW(t:Au):Prop where
 r:t.c.length<=156
 a:t.b.length<=156
 s:t.f.length<=156
theorem DTm{n:Nat}(hn:1048577<=n){c:List Int}(hc:NG c){s:AA}(hs:Gh c s){b:AJ}{co:Ca}{br:List Int}{ss:List BW}(h:jD b co br ss):CO (fun r=>TmW r.1∧Gh c r.2) (Ym n s b co br ss):=by
 have e:=hs.code
 rw [Ym]
 refine CO.bind (PTm (c:=co) h.blk.sm h.cor (by have:=h.few;omega) (by have:=h.src;omega) hn) fun t _ ⟨N,hN,t1,t2,t3⟩=>?_
 have tw:TmW t.1:=⟨by omega,by omega,by omega⟩
 refine CO.bind (A:=fun x:Bool×Int×Int=>Gh c (AA.mk s.c x.2.1 x.2.2)∧(x.1=false->0<N)) (BU (fun _=>Af ⟨hs,fun h=>by cases h⟩) fun q=>CO.bind (Nx hc hs 8) fun r _ ⟨q1,_⟩=>Af ⟨q1.mk2 e,fun _=>by have:=AG.1 q;omega⟩) fun x _ ⟨hx,h0⟩=>BU (fun _=>Af ⟨tw,hx⟩) fun q=>?_
 have h0:=h0 q
 refine CO.bind (Nx hc hx _) fun r1 _ ⟨q1,z0,z1⟩=>CO.bind (Nx hc (q1.mk2 e) 4) fun r2 _ ⟨q2,_⟩=>?_
 have z2:r1.1<(N:Int):=by omega
 refine BU (fun _=>CO.bind (EV z0 (by omega)) fun _ _ _=>CO.bind (EV z0 (by omega)) fun _ _ _=>Af ⟨⟨by show(t.1.c.set _ _).length<=156;simp;omega,tw.a,tw.s⟩,q2.mk2 e⟩) fun _=>BU (fun _=>CO.bind (EV z0 (by omega)) fun _ _ _=>CO.bind (EV z0 (by omega)) fun _ _ _=>Af ⟨⟨tw.r,by show(t.1.b.set _ _).length<=156;simp;omega,tw.s⟩,q2.mk2 e⟩) fun _=>BU (fun _=>CO.bind (EV z0 (by omega)) fun _ _ _=>CO.bind (EV z0 (by omega)) fun _ _ _=>Af ⟨⟨tw.r,tw.a,by show(t.1.f.set _ _).length<=156;simp;omega⟩,q2.mk2 e⟩) fun _=>?_
 rw [show LQ t.1.f 0 r1.1=some ((t.1.f.take r1.1.toNat).drop (0:Int).toNat)from BE ⟨by omega,by omega,by omega⟩,BJ]
 exact Af ⟨⟨tw.r,tw.a,by simp;omega⟩,q2.mk2 e⟩
theorem DRl{n:Nat}{c:List Int}(hc:NG c){s:AA}(hs:Gh c s):CO (fun r=>r.1.b<=12∧Gh c r.2) (Yy n s):=by
 have e:=hs.code
 rw [Yy]
 refine CO.bind (Nx hc hs 300) fun r1 _ ⟨h1,_⟩=>CO.bind (Nx hc (h1.mk2 e) 60) fun r2 _ ⟨h2,_⟩=>CO.bind (Nx hc (h2.mk2 e) 12) fun r3 _ ⟨h3,_,u⟩=>CO.bind (Nx hc (h3.mk2 e) 30) fun r4 _ ⟨h4,_⟩=>?_
 have u:r3.1<=12:=by omega
 exact BU (fun _=>CO.bind (Nx hc (h4.mk2 e) 3) fun r5 _ ⟨h5,y0,y1⟩=>CO.bind (EV y0 (by simp;omega)) fun _ _ _=>Af ⟨u,h5.mk2 e⟩) fun _=>BU (fun _=>CO.bind (Nx hc (h4.mk2 e) 2) fun r5 _ ⟨h5,y0,y1⟩=>CO.bind (EV y0 (by simp;omega)) fun _ _ _=>Af ⟨u,h5.mk2 e⟩) fun _=>BU (fun _=>Af ⟨by show(-1:Int)<=12;omega,h4.mk2 e⟩) fun _=>Af ⟨u,h4.mk2 e⟩
theorem D16{n:Nat}(hn:1048577<=n){c:List Int}(hc:NG c){s:AA}(hs:Gh c s){O:Pt}{g:AJ×Au×BS×AA->Option Unit}(hg:∀b t rel s',Pp b->TmW t->rel.b<=12->Gh c s'->g (b,t,rel,s')=some ()):ZA n O s g=some ():=by
 have e:=hs.code
 rw [ZA]
 exact D12 hn hc hs fun b co br ss s' h hs'=>Pk (DTm hn hc (hs'.mk2 e) h) fun t ⟨ht,h1⟩=>Pk (DRl hc (h1.mk2 e)) fun r ⟨hr,h2⟩=>hg _ _ _ _ h.blk ht hr (h2.mk2 e)
theorem Wi(a:Int):∃k:Int,wrap .i64 a=a+18446744073709551616*k∧ -9223372036854775808<=wrap .i64 a∧wrap .i64 a<=9223372036854775807:=by
 have e:(2:Int)^64=18446744073709551616:=by decide
 have e3:(2:Int)^63=9223372036854775808:=by decide
 unfold IntKind.wrap
 simp only [IntKind.bits,IntKind.signed,FH,Nat.reduceSub,e,e3]
 split
 ·rename_i h
  have h:=CQ h
  exact⟨-(a/18446744073709551616)-1,by omega,by omega,by omega⟩
 ·rename_i h
  have h:¬a%18446744073709551616>=9223372036854775808:=fun g=>h (AX g)
  exact⟨-(a/18446744073709551616),by omega,by omega,by omega⟩
def bB(rel:BS)(k:Bool)(R:Int)(D C:BF):Int:=cond k (wrap .i64 (wrap .i64 (wrap .i64 (wrap .i64 (rel.c+C.c)-R)-rel.b)-D.b)) (wrap .i64 (D.c-wrap .i64 (wrap .i64 (wrap .i64 (rel.d+C.b)+R)+rel.b)))
structure iM where
 p:Int×Int×Int
 k:Bool
 R:Int
 D:BF
 C:BF
def iM.at_(x:iM)(rel:BS):BP:=⟨x.p.1,x.p.2.1,x.p.2.2,bB rel x.k x.R x.D x.C⟩
theorem SlC{n:Nat}{b:AJ}{t:Au}(v:DA b)(vt:Tl b t)(hn:1048577<=n){p:Int×Int×Int}(hp:p∈Dt b):
 ∃a:CJ,RU n b p.1 p.2.1=some (a,true)∧(a.b=4∨a.b=5)∧(p.2.2=0∨p.2.2=1)∧((∀(r:Cu) rel s,r.b=b->QO n r t rel ⟨p.1,p.2.1,p.2.2,s⟩=some (0,false))∨∃R D C,∀(r:Cu) rel s,r.b=b->QO n r t rel ⟨p.1,p.2.1,p.2.2,s⟩=some (bB rel (a.b==4) R D C,true)):=by
 obtain⟨htr,a,i',j',c,ck⟩:=Og v _ hp
 obtain⟨inst,arc,tr⟩:=p
 have htr:tr=0∨tr=1:=htr
 have ck:OL b inst arc a i' j' c:=ck
 have ca:=Tf (n:=n) v ck
 refine⟨a,ca,ck.kind,htr,?_⟩
 obtain⟨tb,q1,vtb⟩:=UI ck htr
 have z1:=vt.reached;have z2:=vt.arr;have z3:=vt.slew
 obtain⟨D0,C0,m1,_⟩:=NB (n:=n) (r:=⟨b,[],[],[],[],[]⟩) (s:=0) v rfl ck htr hn
 have nn:∀(r:Cu) s,r.b=b->SP n r ⟨inst,arc,tr,s⟩=some ((D0:Int),(C0:Int))∧(D0:Int)<Em b∧(C0:Int)<Em b:=fun r s hr=>by
  obtain⟨D,C,n1,n2,hD,hC⟩:=NB (n:=n) (r:=r) (s:=s) v hr ck htr hn
  rw [m1]at n1
  simp only [DE,DI]at n1
  exact⟨by rw [n2,n1.1,n1.2],by omega,by omega⟩
 obtain⟨_,hD,hC⟩:=nn ⟨b,[],[],[],[],[]⟩ 0 rfl
 obtain⟨r1,k1,_⟩:=Dx (xs:=t.c) (i:=(D0:Int)) (by omega) (by omega)
 obtain⟨r2,k2,_⟩:=Dx (xs:=t.c) (i:=(C0:Int)) (by omega) (by omega)
 obtain⟨y1,k3,_⟩:=Dx (xs:=t.b) (i:=(D0:Int)) (by omega) (by omega)
 obtain⟨y2,k4,_⟩:=Dx (xs:=t.b) (i:=(C0:Int)) (by omega) (by omega)
 obtain⟨s1,k5,_⟩:=Dx (xs:=t.f) (i:=(D0:Int)) (by omega) (by omega)
 obtain⟨s2,k6,_⟩:=Dx (xs:=t.f) (i:=(C0:Int)) (by omega) (by omega)
 obtain⟨R,k7,k8⟩:=Lk (n:=n) vtb s1.b s2.b 1 hn
 cases r1 with
 |false=>
  refine .inl fun r rel s hr=>?_
  rw [QO]
  simp only [(nn r s hr).1,BJ,k1,k2,BM,cT]
 |true=>
  cases r2 with
  |false=>
   refine .inl fun r rel s hr=>?_
   rw [QO]
   simp only [(nn r s hr).1,BJ,k1,k2,BM,Al,cT,cF]
  |true=>
   refine .inr ⟨R,y1,y2,fun r rel s hr=>?_⟩
   rw [QO]
   simp only [(nn r s hr).1,hr,ca,BJ,k1,k2,k3,k4,k5,k6,q1,k8,Al,cF]
   unfold bB
   cases(a.b==4)<;>rfl
structure fY(n:Nat)(b:AJ)(t:Au)(x:iM):Prop where
 arc:∃a:CJ,RU n b x.p.1 x.p.2.1=some (a,true)∧(a.b=4∧x.k=true∨a.b=5∧x.k=false)
 tr:x.p.2.2=0∨x.p.2.2=1
 sl:∀(r:Cu) rel s,r.b=b->QO n r t rel ⟨x.p.1,x.p.2.1,x.p.2.2,s⟩=some (bB rel x.k x.R x.D x.C,true)
theorem yO{n:Nat}{b:AJ}{t:Au}(v:DA b)(vt:Tl b t)(hn:1048577<=n):
 ∃L:List iM,L.length<=224∧(∀x∈L,fY n b t x)∧∀(r:Cu) rel,r.b=b->UT n r t rel=some (L.map fun x=>x.at_ rel):=by
 have hl:=Rs v
 have key:∀ps:List (Int×Int×Int),(∀p∈ps,p∈Dt b)->∃L:List iM,L.length<=ps.length∧(∀x∈L,fY n b t x)∧∀(r:Cu) rel,r.b=b->∀(pre:List (Int×Int×Int)) (m:Nat) (s:List BP),pre.length+ps.length<=224->ps.length<m->s.length<=pre.length->Hj n r t rel ((pre++ps).map TD) (fun l57 i61=>(some l57)) m s (pre.length:Int)=some (s++L.map fun x=>x.at_ rel):=by
  intro ps
  induction ps with
  |nil=>
   intro _
   refine⟨[],by simp,by simp,fun r rel hr pre m s h1 hm hs=>?_⟩
   obtain⟨m,rfl⟩:∃k,m=k+1:=⟨m-1,by omega⟩
   have dm:decide ((pre.length:Int)<((pre.map TD).length:Int))=false:=Aa (by simp)
   simp only [Hj.eq_2,dm,cF,List.map_nil,Eb]
  |cons p ps ih=>
   intro hp
   obtain⟨L,hL,hin,hrun⟩:=ih fun q hq=>hp q (Cd _ hq)
   obtain⟨a,ca,kd,htr,sl⟩:=SlC (n:=n) v vt hn (hp p (Bg ..))
   have nxu:∀(pre:List (Int×Int×Int)),(pre++p::ps)=(pre++[p])++ps:=fun pre=>by simp
   have el:∀(pre:List (Int×Int×Int)),AL ((pre++p::ps).map TD) (pre.length:Int)=some (TD p):=fun pre=>by
    rw [Ac (by simp)];simp
   rcases sl with sl|⟨R,D,C,sl⟩
   ·refine⟨L,by simp;omega,hin,fun r rel hr pre m s h1 hm hs=>?_⟩
    simp only [CM]at h1 hm
    obtain⟨m,rfl⟩:∃k,m=k+1:=⟨m-1,by omega⟩
    have dm:decide ((pre.length:Int)<(((pre++p::ps).map TD).length:Int))=true:=AX (by simp;omega)
    have es:QO n r t rel (TD p)=some (0,false):=sl r rel 0 hr
    simp only [Hj.eq_2,dm,cT,el,BJ,es,cF,wS (show pre.length<4611686018427387904 by omega)]
    have:=hrun r rel hr (pre++[p]) m s (by simp;omega) (by omega) (by simp;omega)
    rw [nxu pre]
    simpa using this
   ·refine⟨⟨p,a.b==4,R,D,C⟩::L,by simp;omega,fun x hx=>?_,fun r rel hr pre m s h1 hm hs=>?_⟩
    ·rcases CS.1 hx with rfl|hx
     ·exact⟨⟨a,ca,by rcases kd with h|h<;>rw [h]<;>simp⟩,htr,sl⟩
     ·exact hin x hx
    ·simp only [CM]at h1 hm
     obtain⟨m,rfl⟩:∃k,m=k+1:=⟨m-1,by omega⟩
     have dm:decide ((pre.length:Int)<(((pre++p::ps).map TD).length:Int))=true:=AX (by simp;omega)
     have es:QO n r t rel (TD p)=some (bB rel (a.b==4) R D C,true):=sl r rel 0 hr
     simp only [Hj.eq_2,dm,cT,el,BJ,es,wS (show pre.length<4611686018427387904 by omega)]
     rw [CC (by simp;omega) (by omega),BJ]
     have:=hrun r rel hr (pre++[p]) m (s++[⟨p.1,p.2.1,p.2.2,bB rel (a.b==4) R D C⟩]) (by simp;omega) (by omega) (by simp;omega)
     rw [nxu pre]
     simpa [iM.at_,TD] using this
 obtain⟨L,h1,h2,h3⟩:=key (Dt b) fun _ h=>h
 refine⟨L,by omega,h2,fun r rel hr=>?_⟩
 have:=h3 r rel hr [] n [] (by simpa using hl) (by omega) (by simp)
 rw [UT,hr,Zi v hn,BJ]
 simpa using this
theorem uW{i j:Nat}(h:i+j<=4611686018427387904):wrap .i64 (Nz .u64 (IntKind.wrap IntKind.u64 (wrap .i64 ((i:Int)+(j:Int)))) 1)=(((i+j)/2:Nat):Int):=by
 rw [BD (show-9223372036854775808<=(i:Int)+(j:Int) by omega) (by omega)]
 have h1:IntKind.wrap IntKind.u64 ((i:Int)+(j:Int))=(i:Int)+(j:Int):=by
  simp [IntKind.wrap,IntKind.signed,IntKind.bits]
  omega
 rw [h1]
 have h2:Nz .u64 ((i:Int)+(j:Int)) 1=(((i+j)/2:Nat):Int):=by
  have:(2:Int)^(min (1:Int).toNat IntKind.u64.bits)=2:=by decide
  unfold Nz
  rw [this,Int.fdiv_eq_ediv_of_nonneg _ (by omega)]
  omega
 rw [h2,BD (by omega) (by omega)]
structure MU where
 D:Nat
 q:Bool
 v:Int
def LH(v:Int):Bool:=decide (v>= -1000000000)&&decide (v<=1000000000)
def Pb(s:BF)(c:MU):BF:=cond c.q ⟨s.c,min s.b c.v⟩ ⟨max s.c c.v,s.b⟩
def Hb(k:Nat)(s:BF)(c:MU):BF:=cond (c.D==k) (Pb s c) s
def UC:BF:=⟨-1000000000,1000000000⟩
def FF(cs:List MU)(k:Nat):BF:=cs.foldl (Hb k) UC
def Su(cs:List MU)(k:Nat):Bool:=cs.any fun c=>c.D==k
def Hz(cs:List MU)(k:Nat):List Aj:=cond (Su cs k) [⟨(k:Int),FF cs k⟩] []
def Ic(f:Nat->List Aj):Nat->Nat->List Aj
 |_,0=>[]
 |lo,n+1=>f lo++Ic f (lo+1) n
theorem SB(f:Nat->List Aj):∀(m lo n:Nat),Ic f lo (m+n)=Ic f lo m++Ic f (lo+m) n
 |0,lo,n=>by simp [Ic]
 |m+1,lo,n=>by
  rw [show m+1+n=(m+n)+1 by omega,Ic,Ic,SB f m (lo+1) n,Bl,show lo+1+m=lo+(m+1) by omega]
theorem OU{f g:Nat->List Aj}:∀(n lo:Nat),(∀k,lo<=k->k<lo+n->f k=g k)->Ic f lo n=Ic g lo n
 |0,_,_=>rfl
 |n+1,lo,h=>by
  rw [Ic,Ic,h lo (BN _) (by omega),OU n (lo+1) fun k h1 h2=>h k (by omega) (by omega)]
theorem PU{f:Nat->List Aj}(h:∀k,(f k).length<=1):∀(n lo:Nat),(Ic f lo n).length<=n
 |0,_=>BN _
 |n+1,lo=>by
  have h1:=h lo
  have h2:=PU h n (lo+1)
  rw [Ic,Bk];omega
theorem PZ{f:Nat->List Aj}{x:Aj}:∀{n lo:Nat},x∈Ic f lo n->∃k,lo<=k∧k<lo+n∧x∈f k
 |0,_,h=>by cases h
 |n+1,lo,h=>by
  rw [Ic]at h
  rcases BR.1 h with h|h
  ·exact⟨lo,BN _,by omega,h⟩
  ·obtain⟨k,h1,h2,h3⟩:=PZ h
   exact⟨k,by omega,by omega,h3⟩
theorem TM(cs:List MU)(k:Nat):(Hz cs k).length<=1:=by
 unfold Hz;cases Su cs k<;>simp
theorem Rm{cs:List MU}{k:Nat}{x:Aj}(h:x∈Hz cs k):x.c=(k:Int):=by
 unfold Hz at h
 cases hu:Su cs k with
 |true=>rw [hu]at h;obtain rfl:=As.1 h;rfl
 |false=>rw [hu]at h;cases h
theorem Nl{cs:List MU}{lo n:Nat}{x:Aj}(h:x∈Ic (Hz cs) lo n):(lo:Int)<=x.c∧x.c<((lo+n:Nat):Int):=by
 obtain⟨k,h1,h2,h3⟩:=PZ h
 have:=Rm h3
 omega
theorem NK(cs:List MU)(c:MU)(k:Nat):Su (cs++[c]) k=(Su cs k||c.D==k):=by simp [Su]
theorem Hq(cs:List MU)(c:MU)(k:Nat):FF (cs++[c]) k=Hb k (FF cs k) c:=by simp [FF]
theorem nD{cs:List MU}{k:Nat}(h:Su cs k=false):FF cs k=UC:=by
 have:∀(l:List MU) (s:BF),(l.any fun c=>c.D==k)=false->l.foldl (Hb k) s=s:=by
  intro l
  induction l with
  |nil=>intro s _;rfl
  |cons c l ih=>
   intro s h
   simp only [List.any_cons,BB]at h
   rw [EE,show Hb k s c=s by unfold Hb;rw [h.1];rfl]
   exact ih s h.2
 exact this cs UC h
theorem kD(cs:List MU)(k:Nat):-1000000000<=(FF cs k).c∧(FF cs k).b<=1000000000:=by
 have:∀(l:List MU) (s:BF),-1000000000<=s.c∧s.b<=1000000000-> -1000000000<=(l.foldl (Hb k) s).c∧(l.foldl (Hb k) s).b<=1000000000:=by
  intro l
  induction l with
  |nil=>intro s h;exact h
  |cons c l ih=>
   intro s h
   rw [EE]
   refine ih _ ?_
   unfold Hb Pb
   cases c.D==k with
   |false=>exact h
   |true=>
    cases c.q with
    |false=>exact⟨by show-1000000000<=max s.c c.v;omega,h.2⟩
    |true=>exact⟨h.1,by show min s.b c.v<=1000000000;omega⟩
 exact this cs UC ⟨by decide,by decide⟩
theorem Sa{cs:List MU}{c:MU}{k:Nat}(h:k≠c.D):Hz (cs++[c]) k=Hz cs k:=by
 have e:(c.D==k)=false:=by rw [AG];exact fun e=>h e.symm
 unfold Hz
 rw [NK,Hq,e,Bool.or_false]
 unfold Hb
 rw [e];rfl
theorem Xy(cs:List MU)(c:MU):Hz (cs++[c]) c.D=[⟨(c.D:Int),Pb (FF cs c.D) c⟩]:=by
 unfold Hz
 rw [NK,Hq,Fh,Bool.or_true,cT]
 unfold Hb
 rw [Fh];rfl
theorem PE(cs:List MU){N D:Nat}(h:D<N):Ic (Hz cs) 0 N=Ic (Hz cs) 0 D++(Hz cs D++Ic (Hz cs) (D+1) (N-D-1)):=by
 have:=SB (Hz cs) D 0 ((N-D-1)+1)
 rw [show D+((N-D-1)+1)=N by omega,Ic,Bu]at this
 exact this
theorem XU(cs:List MU)(c:MU){N:Nat}(h:c.D<N):Ic (Hz (cs++[c])) 0 N=Ic (Hz cs) 0 c.D++(⟨(c.D:Int),Pb (FF cs c.D) c⟩::Ic (Hz cs) (c.D+1) (N-c.D-1)):=by
 rw [PE _ h,Xy,OU (f:=Hz (cs++[c])) (g:=Hz cs) c.D 0 fun k _ h2=>Sa (by omega),OU (f:=Hz (cs++[c])) (g:=Hz cs) (N-c.D-1) (c.D+1) fun k h1 _=>Sa (by omega)]
 rfl
theorem oG{n:Nat}{x:Aj}{d:Int}:∃r,Wr n x d=some r∧decide (r<0)=decide (x.c<d)∧(r==0)=(x.c==d):=by
 simp only [Wr,fV,UD,BJ,CP,cF]
 by_cases h:x.c<d
 ·rw [AX h,cT]
  exact⟨_,rfl,rfl,by rw [show((-1:Int)==0)=false from rfl];exact(AG.2 (by omega)).symm⟩
 ·rw [Aa h,cF]
  by_cases g:x.c>d
  ·rw [AX g,cT]
   exact⟨_,rfl,rfl,by rw [show((1:Int)==0)=false from rfl];exact(AG.2 (by omega)).symm⟩
  ·rw [Aa g,cF]
   exact⟨_,rfl,rfl,by rw [show((0:Int)==0)=true from rfl];exact(Ai.2 (by omega)).symm⟩
theorem oH{n:Nat}{l:List Aj}{d:Int}{p:Nat}{K:Int->Int->Option (Int×Bool)}(hl:l.length<=1048576)(hp:p<=l.length)(h1:∀k (h:k<l.length),k<p->l[k].c<d)(h2:∀k (h:k<l.length),p<=k->d<=l[k].c):∀(m i j:Nat),i<=p->p<=j->j<=l.length->j-i<m->
 LJ n l d K m (i:Int) (j:Int)=K (p:Int) (p:Int)
 |0,i,j,_,_,_,hm=>by omega
 |m+1,i,j,hi,hj,hj2,hm=>by
  rw [LJ.eq_2]
  by_cases c0:i<j
  ·have hq:(i+j)/2<l.length:=by omega
   obtain⟨r,e,e1,_⟩:=oG (n:=n) (x:=l[(i+j)/2]) (d:=d)
   simp only [AX (show(i:Int)<(j:Int) by omega),cT,uW (show i+j<=4611686018427387904 by omega),Ac hq,BJ,e,e1]
   by_cases c1:(i+j)/2<p
   ·rw [AX (h1 _ hq c1),cT,wS (show(i+j)/2<4611686018427387904 by omega)]
    exact oH hl hp h1 h2 m _ j (by omega) hj hj2 (by omega)
   ·have:=h2 _ hq (by omega)
    rw [Aa (show¬l[(i+j)/2].c<d by omega),cF]
    exact oH hl hp h1 h2 m i _ hi (by omega) (by omega) (by omega)
  ·obtain rfl:i=p:=by omega
   obtain rfl:i=j:=by omega
   rw [Aa (show¬((i:Int)<(i:Int)) by omega),cF]
theorem BSF{n:Nat}{A M B:List Aj}{d:Int}(hl:(A++(M++B)).length<=1048576)(hA:∀x∈A,x.c<d)(hM:∀x∈M,x.c=d)(hB:∀x∈B,d<x.c)(hn:1048577<=n):
 bA n (A++(M++B)) d=some ((A.length:Int),!M.isEmpty):=by
 rw [bA]
 rw [show(0:Int)=((0:Nat):Int)from rfl,oH (p:=A.length) hl (by simp) (fun k h hk=>?_) (fun k h hk=>?_) n 0 _ (by omega) (by simp) (BN _) (by omega)]
 ·cases M with
  |nil=>
   cases B with
   |nil=>rw [Aa (by simp)];rfl
   |cons y B=>
    have hy:=hB y Bg
    obtain⟨r,e,_,e2⟩:=oG (n:=n) (x:=y) (d:=d)
    rw [AX (by simp;omega),cT,IK,show(A++([]++y::B))[A.length]? =some y by simp,BJ,e,BJ];show some (_,(r==0))=_;rw [e2,AG.2 (by omega)];rfl
  |cons y M=>
   have hy:=hM y Bg
   obtain⟨r,e,_,e2⟩:=oG (n:=n) (x:=y) (d:=d)
   rw [AX (by simp;omega),cT,IK,show(A++(y::M++B))[A.length]? =some y by simp,BJ,e,BJ];show some (_,(r==0))=_;rw [e2,Ai.2 hy];rfl
 ·rw [List.getElem_append_left hk];exact hA _ (AI _)
 ·rw [List.getElem_append_right hk]
  rcases BR.1 (AI (show k-A.length<(M++B).length by simp at h ⊢;omega))with g|g
  ·rw [hM _ g];exact ED _
  ·have:=hB _ g;omega
structure Cv(n:Nat)(b:AJ)(t:Au)(x:BP)(c:MU):Prop where
 spec:∃z,Ty n b [x.c,x.d,x.f]=some ((c.D:Int),z)
 impl:∀r:Cu,r.b=b->∃z,SP n r x=some ((c.D:Int),z)
 arc:∃a:CJ,(∃z,Wu n b x.c x.d=some (a,z))∧RU n b x.c x.d=some (a,true)∧(a.b==4)=c.q
 lt:(c.D:Int)<Em b
 val:∃y,AL t.b (c.D:Int)=some y∧c.v=cond c.q (wrap .i64 (y.b+x.b)) (wrap .i64 (y.c-x.b))
theorem CvE{n:Nat}{b:AJ}{t:Au}(v:DA b)(vt:Tl b t)(hn:1048577<=n){x:BP}(hx:(x.c,x.d,x.f)∈Dt b):∃c,Cv n b t x c:=by
 obtain⟨htr,a,i',j',c,ck⟩:=Og v _ hx
 obtain⟨inst,arc,tr,sl⟩:=x
 have htr:tr=0∨tr=1:=htr
 have ck:OL b inst arc a i' j' c:=ck
 have ca:=Tf (n:=n) v ck
 obtain⟨D,C,m1,_,hD,_⟩:=NB (n:=n) (r:=⟨b,[],[],[],[],[]⟩) (s:=0) v rfl ck htr hn
 have z2:=vt.arr
 obtain⟨y,k3,_⟩:=Dx (xs:=t.b) (i:=(D:Int)) (by omega) (by omega)
 obtain⟨z,e1,e2,_⟩:=tA (n:=n) v inst arc
 rw [ca]at e2
 refine⟨⟨D,a.b==4,cond (a.b==4) (wrap .i64 (y.b+sl)) (wrap .i64 (y.c-sl))⟩,⟨_,m1⟩,fun r hr=>?_,⟨a,⟨true,e1.trans e2.symm⟩,ca,rfl⟩,hD,y,k3,rfl⟩
 obtain⟨D',C',n1,n2,_⟩:=NB (n:=n) (r:=r) (s:=sl) v hr ck htr hn
 rw [m1]at n1
 simp only [DE,DI]at n1
 exact⟨_,by rw [n2,n1.1]⟩
theorem CvL{n:Nat}{b:AJ}{t:Au}(v:DA b)(vt:Tl b t)(hn:1048577<=n):∀g:List BP,(∀x∈g,(x.c,x.d,x.f)∈Dt b)->∃cs:List MU,cs.length=g.length∧∀i (h:i<g.length) (h2:i<cs.length),Cv n b t g[i] cs[i]
 |[],_=>⟨[],rfl,fun i h=>absurd h (AV _)⟩
 |x::g,h=>by
  obtain⟨c,hc⟩:=CvE v vt hn (h x Bg)
  obtain⟨cs,h1,h2⟩:=CvL v vt hn g fun y hy=>h y (Cd _ hy)
  refine⟨c::cs,by simp [h1],fun i hi hi2=>?_⟩
  cases i with
  |zero=>exact hc
  |succ i=>exact h2 i (by simpa using hi) (by simpa using hi2)
theorem Sr{α:Type}{l:List α}{i:Nat}(h:i<l.length):l.take (i+1)=l.take i++[l[i]]:=Bf h
theorem sJ{n:Nat}{b:AJ}{t:Au}{g:List BP}{cs:List MU}(hl:cs.length=g.length)(hg:g.length<=1048576)(hC:∀i (h:i<g.length) (h2:i<cs.length),Cv n b t g[i] cs[i])(k:Nat){K:Bool->Int->Int->Int->Int->Option ((List Aj)×Int)}(hn:1048577<=n):
 (∃c∈cs,c.D=k∧LH c.v=false)∧Ka n b t g (k:Int) K n false 0 (k:Int) (-1000000000) 1000000000=some ([],3)∨
 (∀c∈cs,c.D=k->LH c.v=true)∧∃z,Ka n b t g (k:Int) K n false 0 (k:Int) (-1000000000) 1000000000=K (Su cs k) z (k:Int) (FF cs k).c (FF cs k).b:=by
 refine Ht (L:=fun m i (p:Bool×Int×Int)=>Ka n b t g (k:Int) K m p.1 i (k:Int) p.2.1 p.2.2) g.length (fun i p=>(∀c∈cs.take i,c.D=k->LH c.v=true)∧p.1=Su (cs.take i) k∧p.2.1=(FF (cs.take i) k).c∧p.2.2=(FF (cs.take i) k).b)
  (fun o=>(∃c∈cs,c.D=k∧LH c.v=false)∧o=some ([],3)∨(∀c∈cs,c.D=k->LH c.v=true)∧∃z,o=K (Su cs k) z (k:Int) (FF cs k).c (FF cs k).b) ?_ ?_ n 0 (false,-1000000000,1000000000) (by omega) (by omega) ⟨fun c h=>(by simp at h),by simp [Su],rfl,rfl⟩
 ·rintro m i ⟨q,e,l⟩ hi ⟨hI,hq,he,hl'⟩ ih
  have hq:q=Su (cs.take i) k:=hq
  have he:e=(FF (cs.take i) k).c:=he
  have hl':l=(FF (cs.take i) k).b:=hl'
  have hic:i<cs.length:=by omega
  have ts:=Sr hic
  have cv:=hC i hi hic
  obtain⟨z,f1⟩:=cv.spec
  obtain⟨a,⟨z2,f2⟩,_,f4⟩:=cv.arc
  obtain⟨y,f5,f6⟩:=cv.val
  have sp:=kD (cs.take i) k
  have hm:=AI hic
  rw [ts]at ih
  generalize cs[i]=c at cv f1 f4 f5 f6 hm ih
  simp only [Ka.eq_2,Ex hi,cT,Ac hi,BJ,f1,f2,wT i,jn]
  cases hd:((c.D:Int) !=(k:Int))with
  |true=>
   have hne:c.D≠k:=fun e=>by rw [e,CP]at hd;cases hd
   have hb:(c.D==k)=false:=AG.2 hne
   rw [cT]
   refine ih (q,e,l) ⟨fun c' h hk=>?_,?_,?_,?_⟩
   ·rcases BR.1 h with h|h
    ·exact hI c' h hk
    ·obtain rfl:=As.1 h;exact absurd hk hne
   ·rw [NK,hb,Bool.or_false];exact hq
   ·rw [Hq];unfold Hb;rw [hb];exact he
   ·rw [Hq];unfold Hb;rw [hb];exact hl'
  |false=>
   obtain rfl:c.D=k:=by have:=BG.1 hd;omega
   have hb:(c.D==c.D)=true:=Fh _
   rw [cF,f5]
   simp only [BJ,f4,JA]
   have good:LH c.v=true->∀c'∈cs.take i++[c],c'.D=c.D->LH c'.v=true:=fun ht c' h hk=>by
    rcases BR.1 h with h|h
    ·exact hI c' h hk
    ·obtain rfl:=As.1 h;exact ht
   cases hcq:c.q with
   |true=>
    rw [hcq,cT]at f6
    rw [cT,←f6,show(!(decide ((-1000000000:Int)>= -1000000000)&&decide ((-1000000000:Int)<=1000000000)))=false from rfl,cF,BJ]
    show(_∨_)
    cases ht:LH c.v with
    |false=>
     refine .inl ⟨⟨c,hm,rfl,ht⟩,?_⟩
     unfold LH at ht;rw [ht];rfl
    |true=>
     have ht2:=ht
     unfold LH at ht;rw [ht]
     refine ih (true,max e (-1000000000),min l c.v) ⟨good ht2,by rw [NK,hb,Bool.or_true],?_,?_⟩
     ·rw [Hq];unfold Hb Pb;rw [hb,hcq];show max e (-1000000000)=(FF (cs.take i) c.D).c;omega
     ·rw [Hq];unfold Hb Pb;rw [hb,hcq];show min l c.v=min (FF (cs.take i) c.D).b c.v;rw [hl']
   |false=>
    rw [hcq,cF]at f6
    rw [cF,←f6]
    show(_∨_)
    cases ht:LH c.v with
    |false=>
     refine .inl ⟨⟨c,hm,rfl,ht⟩,?_⟩
     unfold LH at ht;rw [ht];rfl
    |true=>
     have ht2:=ht
     unfold LH at ht;rw [ht]
     refine ih (true,max e c.v,min l 1000000000) ⟨good ht2,by rw [NK,hb,Bool.or_true],?_,?_⟩
     ·rw [Hq];unfold Hb Pb;rw [hb,hcq];show max e c.v=max (FF (cs.take i) c.D).c c.v;rw [he]
     ·rw [Hq];unfold Hb Pb;rw [hb,hcq];show min l 1000000000=(FF (cs.take i) c.D).b;omega
 ·rintro m ⟨q,e,l⟩ ⟨hI,hq,he,hl'⟩
  rw [←hl,CY]at hI hq he hl'
  simp only [Ka.eq_2,FS,cF,jn]
  have hq:q=Su cs k:=hq
  have he:e=(FF cs k).c:=he
  have hl':l=(FF cs k).b:=hl'
  exact .inr ⟨hI,_,by rw [hq,he,hl']⟩
theorem wO{n:Nat}{b:AJ}{t:Au}{g:List BP}{cs:List MU}(v:DA b)(hl:cs.length=g.length)(hg:g.length<=1048576)(hC:∀i (h:i<g.length) (h2:i<cs.length),Cv n b t g[i] cs[i])(hn:1048577<=n):
 (∃c∈cs,LH c.v=false)∧JG n b t g (fun l79 i83=>(some (l79,0))) n [] 0=some ([],3)∨
 (∀c∈cs,LH c.v=true)∧JG n b t g (fun l79 i83=>(some (l79,0))) n [] 0=some (Ic (Hz cs) 0 (2*(pls b.b).length),0):=by
 have vd:=v.design
 have hp:=Dy vd.short vd.few.1 vd.few.2.2
 have wc:Em b=((2*(pls b.b).length:Nat):Int):=by unfold Em;omega
 have hN:2*(pls b.b).length<=1000:=by omega
 generalize 2*(pls b.b).length=N at*
 refine Ht (L:=fun m i l=>JG n b t g (fun l79 i83=>(some (l79,0))) m l i) N (fun i l=>(∀c∈cs,c.D<i->LH c.v=true)∧l=Ic (Hz cs) 0 i)
  (fun o=>(∃c∈cs,LH c.v=false)∧o=some ([],3)∨(∀c∈cs,LH c.v=true)∧o=some (Ic (Hz cs) 0 N,0)) ?_ ?_ n 0 [] (by omega) (by omega) ⟨fun c _ h=>absurd h (AV _),rfl⟩
 ·rintro m i l hi ⟨hI,rfl⟩ ih
  have e1:Ic (Hz cs) 0 (i+1)=Ic (Hz cs) 0 i++Hz cs i:=by
   have:=SB (Hz cs) i 0 1
   rw [Bu]at this
   rw [this];simp [Ic]
  have hlen:=PU (TM cs) i 0
  simp only [JG.eq_2,US v hn,BJ,AX (show(i:Int)<Em b by omega),cT,wT i,jn]
  rcases sJ (K:=fun q111 i112 i116 i117 i118=>(cond q111 (Option.bind (De (Ic (Hz cs) 0 i) ([(Aj.mk i116 ((BF.mk i117 i118)))]) 24) fun z134=>(JG n b t g (fun l79 i83=>(some (l79,0))) m z134 ((i+1:Nat):Int))) (JG n b t g (fun l79 i83=>(some (l79,0))) m (Ic (Hz cs) 0 i) ((i+1:Nat):Int)))) hl hg hC i hn with ⟨⟨c,hc,_,hb⟩,e⟩|⟨hgd,z,e⟩
  ·rw [e];exact .inl ⟨⟨c,hc,hb⟩,rfl⟩
  ·rw [e]
   have hI2:∀c∈cs,c.D<i+1->LH c.v=true:=fun c hc h=>by
    by_cases ed:c.D=i
    ·exact hgd c hc ed
    ·exact hI c hc (by omega)
   unfold Hz at e1
   cases hu:Su cs i with
   |false=>
    rw [hu,cF,Eb]at e1
    rw [cF]
    exact ih _ ⟨hI2,e1.symm⟩
   |true=>
    rw [hu,cT]at e1
    rw [cT,CC (by simp;omega) (by omega),BJ]
    exact ih _ ⟨hI2,e1.symm⟩
 ·rintro m l ⟨hI,rfl⟩
  simp only [JG.eq_2,US v hn,BJ,wc,Aa (show¬((N:Nat):Int)<((N:Nat):Int) by omega),cF,jn]
  refine .inr ⟨fun c hc=>?_,by trivial⟩
  obtain⟨i,hi,rfl⟩:=Bs hc
  have:=(hC i (by omega) hi).lt
  exact hI _ hc (by omega)
theorem fH{A B:List Aj}{x:Aj}(h:(A++B).length<=1048576):bK 24 (A++B) (A.length:Int) [x]=some (A++x::B):=by
 unfold bK
 dsimp only
 rw [BE ⟨by omega,by simp;omega,by omega,by omega⟩]
 simp
theorem aS{A B:List Aj}{x y:Aj}:(A++x::B).set ((A.length:Int)).toNat y=A++y::B:=by simp
theorem WF{A B:List Aj}{x:Aj}:AL (A++x::B) (A.length:Int)=some x:=by rw [IK];simp
theorem TgO{n:Nat}{b:AJ}{t:Au}{w:Cu}{g:List BP}{cs:List MU}(v:DA b)(hw:w.b=b)(hl:cs.length=g.length)(hg:g.length<=1048576)(hC:∀i (h:i<g.length) (h2:i<cs.length),Cv n b t g[i] cs[i])(hn:1048577<=n):
 (∃c∈cs,LH c.v=false)∧Ih n w t g (fun l56 i60=>(some (l56,true))) n [] 0=some ([],false)∨
 (∀c∈cs,LH c.v=true)∧Ih n w t g (fun l56 i60=>(some (l56,true))) n [] 0=some (Ic (Hz cs) 0 (2*(pls b.b).length),true):=by
 have vd:=v.design
 have hp:=Dy vd.short vd.few.1 vd.few.2.2
 have wc:Em b=((2*(pls b.b).length:Nat):Int):=by unfold Em;omega
 have hN:2*(pls b.b).length<=1000:=by omega
 generalize 2*(pls b.b).length=N at*
 have z0:Ic (Hz []) 0 N=[]:=by
  have:∀n lo,Ic (Hz []) lo n=[]:=by
   intro n
   induction n with
   |zero=>intro lo;rfl
   |succ n ih=>intro lo;rw [Ic,ih];rfl
  exact this N 0
 refine Ht (L:=fun m i l=>Ih n w t g (fun l56 i60=>(some (l56,true))) m l i) g.length (fun i l=>(∀c∈cs.take i,LH c.v=true)∧l=Ic (Hz (cs.take i)) 0 N)
  (fun o=>(∃c∈cs,LH c.v=false)∧o=some ([],false)∨(∀c∈cs,LH c.v=true)∧o=some (Ic (Hz cs) 0 N,true)) ?_ ?_ n 0 [] (by omega) (by omega) ⟨fun c h=>(by simp at h),by rw [List.take_zero,z0]⟩
 ·rintro m i l hi ⟨hI,rfl⟩ ih
  have hic:i<cs.length:=by omega
  have ts:=Sr hic
  have cv:=hC i hi hic
  obtain⟨z,f1⟩:=cv.impl w hw
  obtain⟨a,_,f3,f4⟩:=cv.arc
  obtain⟨y,f5,f6⟩:=cv.val
  have hlt:=cv.lt
  have hm:=AI hic
  rw [ts]at ih
  generalize cs[i]=c at cv f1 f4 f5 f6 hm ih hlt
  have hD:c.D<N:=by omega
  have good:LH c.v=true->∀c'∈cs.take i++[c],LH c'.v=true:=fun ht c' h=>by
   rcases BR.1 h with h|h
   ·exact hI c' h
   ·obtain rfl:=As.1 h;exact ht
  have nx:=XU (cs.take i) c hD
  have sp:=PE (cs.take i) hD
  have hln:=PU (TM (cs.take i)) N 0
  rw [sp]at hln
  have hA:∀x∈Ic (Hz (cs.take i)) 0 c.D,x.c<(c.D:Int):=fun x hx=>by have:=Nl hx;omega
  have hM:∀x∈Hz (cs.take i) c.D,x.c=(c.D:Int):=fun x hx=>Rm hx
  have hB:∀x∈Ic (Hz (cs.take i)) (c.D+1) (N-c.D-1),(c.D:Int)<x.c:=fun x hx=>by have:=Nl hx;omega
  have bs:=BSF (n:=n) (show _<=1048576 by omega) hA hM hB hn
  rw [sp]
  generalize Ic (Hz (cs.take i)) 0 c.D=A at*
  generalize Ic (Hz (cs.take i)) (c.D+1) (N-c.D-1)=B at*
  simp only [Ih.eq_2,Ex hi,cT,Ac hi,BJ,f1,bs,hw,wT i,jn]
  unfold Hz at hln ⊢
  cases hu:Su (cs.take i) c.D with
  |false=>
   rw [hu,cF,CX]at hln
   have e0:=nD hu
   simp only [cF,CX,List.isEmpty_nil,Al,BM,cT,kO,fH (show(A++B).length<=1048576 by omega),BJ,WF,aS,f5,f3,f4,Qj,Ld]
   rw [e0]at nx
   cases hcq:c.q with
   |true=>
    rw [hcq,cT]at f6
    unfold Pb at nx;rw [hcq,cT]at nx
    rw [cT,←f6]
    cases ht:LH c.v with
    |false=>refine .inl ⟨⟨c,hm,ht⟩,?_⟩;unfold LH at ht;rw [ht];rfl
    |true=>have ht2:=ht;unfold LH at ht;rw [ht];exact ih _ ⟨good ht2,nx.symm⟩
   |false=>
    rw [hcq,cF]at f6
    unfold Pb at nx;rw [hcq,cF]at nx
    rw [cF,←f6]
    cases ht:LH c.v with
    |false=>refine .inl ⟨⟨c,hm,ht⟩,?_⟩;unfold LH at ht;rw [ht];rfl
    |true=>have ht2:=ht;unfold LH at ht;rw [ht];exact ih _ ⟨good ht2,nx.symm⟩
  |true=>
   simp only [cT,List.singleton_append,List.isEmpty_cons,BM,Al,cF,WF,aS,BJ,f5,f3,f4,Qj,Ld]
   cases hcq:c.q with
   |true=>
    rw [hcq,cT]at f6
    unfold Pb at nx;rw [hcq,cT]at nx
    rw [cT,←f6]
    cases ht:LH c.v with
    |false=>refine .inl ⟨⟨c,hm,ht⟩,?_⟩;unfold LH at ht;rw [ht];rfl
    |true=>have ht2:=ht;unfold LH at ht;rw [ht];exact ih _ ⟨good ht2,nx.symm⟩
   |false=>
    rw [hcq,cF]at f6
    unfold Pb at nx;rw [hcq,cF]at nx
    rw [cF,←f6]
    cases ht:LH c.v with
    |false=>refine .inl ⟨⟨c,hm,ht⟩,?_⟩;unfold LH at ht;rw [ht];rfl
    |true=>have ht2:=ht;unfold LH at ht;rw [ht];exact ih _ ⟨good ht2,nx.symm⟩
 ·rintro m l ⟨hI,rfl⟩
  rw [←hl,CY]at hI ⊢
  simp only [Ih.eq_2,hl,FS,cF,jn]
  exact .inr ⟨hI,by trivial⟩
theorem Vx(k:Nat):∀(cs:List MU) (s:BF),((cs.foldl (Hb k) s).b=s.b∨∃c∈cs,c.D=k∧c.q=true∧(cs.foldl (Hb k) s).b=c.v)∧(cs.foldl (Hb k) s).b<=s.b∧∀c∈cs,c.D=k->c.q=true->(cs.foldl (Hb k) s).b<=c.v
 |[],s=>⟨.inl rfl,ED _,fun c h=>by cases h⟩
 |c::cs,s=>by
  obtain⟨h1,h2,h3⟩:=Vx k cs (Hb k s c)
  rw [EE]
  have hs:(c.D=k∧c.q=true∧(Hb k s c).b=min s.b c.v)∨(¬(c.D=k∧c.q=true)∧(Hb k s c).b=s.b):=by
   unfold Hb Pb
   by_cases e:c.D=k
   ·rw [Ai.2 e,cT]
    cases q:c.q with
    |true=>exact .inl ⟨e,rfl,rfl⟩
    |false=>exact .inr ⟨fun h=>(by cases h.2),rfl⟩
   ·rw [AG.2 e];exact .inr ⟨fun h=>e h.1,rfl⟩
  refine⟨?_,?_,fun x hx e1 e2=>?_⟩
  ·rcases h1 with h1|⟨x,hx,h⟩
   ·rcases hs with ⟨a,b,e⟩|⟨a,e⟩
    ·by_cases q:s.b<=c.v
     ·exact .inl (by omega)
     ·exact .inr ⟨c,Bg,a,b,by omega⟩
    ·exact .inl (by omega)
   ·exact .inr ⟨x,Cd _ hx,h⟩
  ·rcases hs with ⟨_,_,e⟩|⟨_,e⟩<;>omega
  ·rcases CS.1 hx with rfl|hx
   ·rcases hs with ⟨_,_,e⟩|⟨a,_⟩
    ·omega
    ·exact absurd ⟨e1,e2⟩ a
   ·exact h3 x hx e1 e2
theorem Vk(k:Nat):∀(cs:List MU) (s:BF),((cs.foldl (Hb k) s).c=s.c∨∃c∈cs,c.D=k∧c.q=false∧(cs.foldl (Hb k) s).c=c.v)∧s.c<=(cs.foldl (Hb k) s).c∧∀c∈cs,c.D=k->c.q=false->c.v<=(cs.foldl (Hb k) s).c
 |[],s=>⟨.inl rfl,ED _,fun c h=>by cases h⟩
 |c::cs,s=>by
  obtain⟨h1,h2,h3⟩:=Vk k cs (Hb k s c)
  rw [EE]
  have hs:(c.D=k∧c.q=false∧(Hb k s c).c=max s.c c.v)∨(¬(c.D=k∧c.q=false)∧(Hb k s c).c=s.c):=by
   unfold Hb Pb
   by_cases e:c.D=k
   ·rw [Ai.2 e,cT]
    cases q:c.q with
    |false=>exact .inl ⟨e,rfl,rfl⟩
    |true=>exact .inr ⟨fun h=>(by cases h.2),rfl⟩
   ·rw [AG.2 e];exact .inr ⟨fun h=>e h.1,rfl⟩
  refine⟨?_,?_,fun x hx e1 e2=>?_⟩
  ·rcases h1 with h1|⟨x,hx,h⟩
   ·rcases hs with ⟨a,b,e⟩|⟨a,e⟩
    ·by_cases q:c.v<=s.c
     ·exact .inl (by omega)
     ·exact .inr ⟨c,Bg,a,b,by omega⟩
    ·exact .inl (by omega)
   ·exact .inr ⟨x,Cd _ hx,h⟩
  ·rcases hs with ⟨_,_,e⟩|⟨_,e⟩<;>omega
  ·rcases CS.1 hx with rfl|hx
   ·rcases hs with ⟨_,_,e⟩|⟨a,_⟩
    ·omega
    ·exact absurd ⟨e1,e2⟩ a
   ·exact h3 x hx e1 e2
theorem WL{cs:List MU}:∀(n lo:Nat),List.Pairwise (fun x y:Aj=>x.c<y.c) (Ic (Hz cs) lo n)
 |0,_=>List.Pairwise.nil
 |n+1,lo=>by
  rw [Ic]
  refine List.pairwise_append.2 ⟨?_,WL n (lo+1),fun x hx y hy=>?_⟩
  ·unfold Hz;cases Su cs lo<;>simp
  ·have h1:=Rm hx;have h2:=(Nl hy).1;omega
theorem dN{cs:List MU}{k N:Nat}(h:Su cs k=true)(hk:k<N):(⟨(k:Int),FF cs k⟩:Aj)∈Ic (Hz cs) 0 N:=by
 rw [PE cs hk]
 have:Hz cs k=[⟨(k:Int),FF cs k⟩]:=by unfold Hz;rw [h];rfl
 rw [this];simp
theorem Xv{cs:List MU}{k:Nat}:Su cs k=true↔∃c∈cs,c.D=k:=by
 unfold Su;rw [List.any_eq_true]
 exact⟨fun⟨c,h,e⟩=>⟨c,h,Ai.1 e⟩,fun⟨c,h,e⟩=>⟨c,h,Ai.2 e⟩⟩
structure Wc(t:Au)(s:Int)(c:MU):Prop where
 y:∃y,AL t.b (c.D:Int)=some y∧(-1000000000<=y.c∧y.c<=1000000000∧ -1000000000<=y.b∧y.b<=1000000000)∧(c.q=true->s=c.v-y.b)∧(c.q=false->s=y.c-c.v)
 r:AL t.c (c.D:Int)=some true
 v:-1000000000<=c.v∧c.v<=1000000000
structure Tx(t:Au)(W:Int)(x:Aj):Prop where
 y:∃y,AL t.b x.c=some y∧wrap .i64 (x.b.b-y.b)=x.b.b-y.b∧wrap .i64 (y.c-x.b.c)=y.c-x.b.c∧(x.b.b≠1000000000->W<=x.b.b-y.b)∧(x.b.c≠ -1000000000->W<=y.c-x.b.c)
 r:AL t.c x.c=some true
 early:-1000000000<=x.b.c∧x.b.c<=1000000000
 late:-1000000000<=x.b.b∧x.b.b<=1000000000
theorem TxA{t:Au}{W:Int}{cs:List MU}{N:Nat}(h:∀c∈cs,∃s,Wc t s c∧W<=s){x:Aj}(hx:x∈Ic (Hz cs) 0 N):Tx t W x:=by
 obtain⟨k,_,hk,hx⟩:=PZ hx
 unfold Hz at hx
 cases hu:Su cs k with
 |false=>rw [hu]at hx;cases hx
 |true=>
  rw [hu]at hx
  obtain rfl:=As.1 hx
  obtain⟨c0,hc0,rfl⟩:=Xv.1 hu
  obtain⟨s0,w0,_⟩:=h c0 hc0
  obtain⟨y,ey,hy,_⟩:=w0.y
  obtain⟨a1,a2,_⟩:=Vx c0.D cs UC
  obtain⟨b1,b2,_⟩:=Vk c0.D cs UC
  change (FF cs c0.D).b=1000000000∨_ at a1
  change (FF cs c0.D).c= -1000000000∨_ at b1
  change (FF cs c0.D).b<=1000000000 at a2
  change-1000000000<=(FF cs c0.D).c at b2
  have la:-1000000000<=(FF cs c0.D).b∧((FF cs c0.D).b≠1000000000->W<=(FF cs c0.D).b-y.b):=by
   rcases a1 with a1|⟨c,hc,e1,e2,e3⟩
   ·exact⟨by omega,fun q=>absurd a1 q⟩
   ·have e3:(FF cs c0.D).b=c.v:=e3
    obtain⟨s,w,hw⟩:=h c hc
    obtain⟨y2,ey2,_,q1,_⟩:=w.y
    rw [e1,ey]at ey2
    obtain rfl:=AM ey2
    have:=q1 e2;have:=w.v
    exact⟨by omega,fun _=>by omega⟩
  have ea:(FF cs c0.D).c<=1000000000∧((FF cs c0.D).c≠ -1000000000->W<=y.c-(FF cs c0.D).c):=by
   rcases b1 with b1|⟨c,hc,e1,e2,e3⟩
   ·exact⟨by omega,fun q=>absurd b1 q⟩
   ·have e3:(FF cs c0.D).c=c.v:=e3
    obtain⟨s,w,hw⟩:=h c hc
    obtain⟨y2,ey2,_,_,q1⟩:=w.y
    rw [e1,ey]at ey2
    obtain rfl:=AM ey2
    have:=q1 e2;have:=w.v
    exact⟨by omega,fun _=>by omega⟩
  exact⟨⟨y,ey,BD (by show _<=(FF cs c0.D).b-y.b;omega) (by show(FF cs c0.D).b-y.b<=_;omega),BD (by show _<=y.c-(FF cs c0.D).c;omega) (by show y.c-(FF cs c0.D).c<=_;omega),la.2,ea.2⟩,w0.r,⟨b2,ea.1⟩,⟨la.1,a2⟩⟩
theorem TxB{t:Au}{W:Int}{cs:List MU}{N:Nat}{c:MU}(hc:c∈cs)(hD:c.D<N)(w:Wc t W c):∃x∈Ic (Hz cs) 0 N,∀y,AL t.b x.c=some y->(x.b.b≠1000000000∧x.b.b-y.b<=W)∨(x.b.b=1000000000∧x.b.b-y.b=W)∨(x.b.c≠ -1000000000∧y.c-x.b.c<=W)∨(x.b.c= -1000000000∧y.c-x.b.c=W):=by
 refine⟨_,dN (Xv.2 ⟨c,hc,rfl⟩) hD,fun y ey=>?_⟩
 obtain⟨y2,ey2,_,q1,q2⟩:=w.y
 have ey:AL t.b (c.D:Int)=some y:=ey
 rw [ey]at ey2
 obtain rfl:=AM ey2
 have hv:=w.v
 obtain⟨_,a2,a3⟩:=Vx c.D cs UC
 obtain⟨_,b2,b3⟩:=Vk c.D cs UC
 change (FF cs c.D).b<=1000000000 at a2
 change-1000000000<=(FF cs c.D).c at b2
 show((FF cs c.D).b≠1000000000∧(FF cs c.D).b-y.b<=W)∨((FF cs c.D).b=1000000000∧(FF cs c.D).b-y.b=W)∨((FF cs c.D).c≠ -1000000000∧y.c-(FF cs c.D).c<=W)∨((FF cs c.D).c= -1000000000∧y.c-(FF cs c.D).c=W)
 cases q:c.q with
 |true=>
  have e1:(FF cs c.D).b<=c.v:=a3 c hc rfl q
  have e2:=q1 q
  by_cases e:(FF cs c.D).b=1000000000
  ·exact .inr (.inl ⟨e,by omega⟩)
  ·exact .inl ⟨e,by omega⟩
 |false=>
  have e1:c.v<=(FF cs c.D).c:=b3 c hc rfl q
  have e2:=q2 q
  by_cases e:(FF cs c.D).c= -1000000000
  ·exact .inr (.inr (.inr ⟨e,by omega⟩))
  ·exact .inr (.inr (.inl ⟨e,by omega⟩))
theorem orS{q:Bool}{o:Option BP}{y:BP}(h:o=some y){v:Int}:(cond q (some true) (Option.bind o fun x=>some (v==x.b)))=some (q||(v==y.b)):=by
 subst h;cases q<;>rfl
theorem TgL{n:Nat}{b:AJ}{t:Au}{rel:BS}{T:List Aj}{g:List BP}{j:Nat}{Y:BP}(hn:1048577<=n)(hT:T.length<=1048576)(hY:AL g (j:Int)=some Y)(hx:∀x∈T,Tx t Y.b x)(hW:Y.b<=4000000000)
 (hb:∃x∈T,∀y,AL t.b x.c=some y->(x.b.b≠1000000000∧x.b.b-y.b<=Y.b)∨(x.b.b=1000000000∧x.b.b-y.b=Y.b)∨(x.b.c≠ -1000000000∧y.c-x.b.c<=Y.b)∨(x.b.c= -1000000000∧y.c-x.b.c=Y.b)):
 ID (fun r=>cond r (some ()) none) (b,t,rel) (T,0) (T,0) (g,0) (j:Int) (fun i147 q148 i149=>(Option.bind (AL g (j:Int)) fun x158=>(Option.bind (cond (i147==x158.b) (some true) (Option.bind (cond q148 (Option.bind (AL g (j:Int)) fun x165=>(some (decide (i147>=x165.b)))) (some false)) fun c165=>(some c165))) fun c165=>(cond c165 (some ()) none)))) n 4000000000 false 0=some ():=by
 obtain⟨x0,hm,hb⟩:=hb
 obtain⟨i0,hi0,rfl⟩:=Bs hm
 refine loop (σ:=Int×Bool) (L:=fun m i st=>ID (fun r=>cond r (some ()) none) (b,t,rel) (T,0) (T,0) (g,0) (j:Int) _ m st.1 st.2 i) T.length (fun i st=>Y.b<=st.1∧(i0<i->st.1=Y.b∨st.2=true)) (fun z=>z=some ()) ?_ ?_ n 0 (4000000000,false) (by omega) (by omega) ⟨hW,fun h=>by omega⟩
 ·rintro m i ⟨l,s⟩ hi ⟨h1,h2⟩
  refine .inl ?_
  have k:=hx _ (AI hi)
  obtain⟨y,ey,w1,w2,w3,w4⟩:=k.y
  have hz:=fun e:i=i0=>by have h:=hb y;simp only [←e]at h;exact h ey
  simp only [ID.eq_2,Ex hi,cT,Ac hi,BJ,Fh,Bool.and_self,Al,cF,k.r,ey,w1,w2,orS hY,wT i]
  have nx:i0<i+1->i0<i∨i=i0:=fun h=>by omega
  by_cases c1:T[i].b.b=1000000000
  ·rw [BG.2 c1,cF]
   by_cases c2:T[i].b.c= -1000000000
   ·rw [BG.2 c2,cF]
    refine⟨(l,(s||(T[i].b.b-y.b==Y.b))||(y.c-T[i].b.c==Y.b)),⟨h1,fun h=>?_⟩,rfl⟩
    rcases nx h with h|h
    ·rcases h2 h with h|h
     ·exact .inl h
     ·have h:s=true:=h
      exact .inr (by simp [h])
    ·rcases hz h with h|h|h|h
     ·exact absurd c1 h.1
     ·exact .inr (by simp [h.2])
     ·exact absurd c2 h.1
     ·exact .inr (by simp [h.2])
   ·rw [Cp.2 c2,cT]
    have w4:=w4 c2
    refine⟨(min l (y.c-T[i].b.c),s||(T[i].b.b-y.b==Y.b)),⟨by show Y.b<=min _ _;omega,fun h=>?_⟩,rfl⟩
    show min l (y.c-T[i].b.c)=Y.b∨_
    have h1:Y.b<=l:=h1
    rcases nx h with h|h
    ·rcases h2 h with h|h
     ·have h:l=Y.b:=h
      exact .inl (by omega)
     ·have h:s=true:=h
      exact .inr (by simp [h])
    ·rcases hz h with h|h|h|h
     ·exact absurd c1 h.1
     ·exact .inr (by simp [h.2])
     ·exact .inl (by omega)
     ·exact absurd h.1 c2
  ·rw [Cp.2 c1,cT]
   have w3:=w3 c1
   have h1:Y.b<=l:=h1
   by_cases c2:T[i].b.c= -1000000000
   ·rw [BG.2 c2,cF]
    refine⟨(min l (T[i].b.b-y.b),s||(y.c-T[i].b.c==Y.b)),⟨by show Y.b<=min _ _;omega,fun h=>?_⟩,rfl⟩
    show min l (T[i].b.b-y.b)=Y.b∨_
    rcases nx h with h|h
    ·rcases h2 h with h|h
     ·have h:l=Y.b:=h
      exact .inl (by omega)
     ·have h:s=true:=h
      exact .inr (by simp [h])
    ·rcases hz h with h|h|h|h
     ·exact .inl (by omega)
     ·exact absurd h.1 c1
     ·exact absurd c2 h.1
     ·exact .inr (by simp [h.2])
   ·rw [Cp.2 c2,cT]
    have w4:=w4 c2
    refine⟨(min (min l (T[i].b.b-y.b)) (y.c-T[i].b.c),s),⟨by show Y.b<=min (min _ _) _;omega,fun h=>?_⟩,rfl⟩
    show min (min l (T[i].b.b-y.b)) (y.c-T[i].b.c)=Y.b∨_
    rcases nx h with h|h
    ·rcases h2 h with h|h
     ·have h:l=Y.b:=h
      exact .inl (by omega)
     ·exact .inr h
    ·rcases hz h with h|h|h|h
     ·exact .inl (by omega)
     ·exact absurd h.1 c1
     ·exact .inl (by omega)
     ·exact absurd h.1 c2
 ·rintro m ⟨l,s⟩ ⟨h1,h2⟩
  have h1:Y.b<=l:=h1
  simp only [ID.eq_2,FS,cF,hY,BJ]
  rcases h2 hi0 with h|h
  ·have h:l=Y.b:=h
   rw [Ai.2 h];rfl
  ·have h:s=true:=h
   subst h
   rw [cT,AX h1]
   cases(l==Y.b)<;>rfl
def pT(L:List BP)(j:Nat):Int:=((L[j]?).map fun x:BP=>x.b).getD 0
theorem Rw{L:List BP}{j:Nat}(h:j<L.length):pT L j=L[j].b:=by
 unfold pT;rw [AH h];rfl
theorem zO{n:Nat}{L:List BP}(hl:L.length<=1048576)(hn:1048577<=n):∃j:Int,cG n L=some j∧(L=[]∧j= -1∨∃k:Nat,j=(k:Int)∧k<L.length∧∀i (h:i<L.length),pT L k<=L[i].b):=by
 rw [cG]
 refine loop (L:=fun m i (j:Int)=>KT L (fun i5 i6=>(some i5)) m j i) L.length (fun i j=>i=0∧j= -1∨∃k:Nat,j=(k:Int)∧k<i∧∀t (h:t<L.length),t<i->pT L k<=L[t].b) (fun o=>∃j:Int,o=some j∧(L=[]∧j= -1∨∃k:Nat,j=(k:Int)∧k<L.length∧∀i (h:i<L.length),pT L k<=L[i].b)) ?_ ?_ n 0 (-1) (by omega) (by omega) (.inl ⟨rfl,rfl⟩)
 ·intro m i j hi hI
  refine .inl ?_
  simp only [KT.eq_2,Ex hi,cT,Ac hi,BJ,wT i]
  rcases hI with ⟨rfl,rfl⟩|⟨k,rfl,hk,k2⟩
  ·refine⟨0,.inr ⟨0,rfl,by omega,fun t h h2=>?_⟩,rfl⟩
   obtain rfl:t=0:=by omega
   rw [Rw h];exact ED _
  ·have hn:decide ((k:Int)<0)=false:=Aa (by omega)
   have hkl:k<L.length:=by omega
   simp only [hn,cF,Ac hkl,BJ]
   rw [Rw hkl]at k2
   by_cases c:L[i].b<L[k].b
   ·rw [AX c,cT]
    refine⟨(i:Int),.inr ⟨i,rfl,by omega,fun t h ht=>?_⟩,rfl⟩
    rw [Rw hi]
    by_cases q:t=i
    ·subst q;exact ED _
    ·have:=k2 t h (by omega);omega
   ·rw [Aa c,cF]
    refine⟨(k:Int),.inr ⟨k,rfl,by omega,fun t h h2=>?_⟩,rfl⟩
    rw [Rw hkl]
    by_cases q:t=i
    ·subst q;omega
    ·exact k2 t h (by omega)
 ·intro m j hI
  simp only [KT.eq_2,FS,cF]
  refine⟨j,rfl,?_⟩
  rcases hI with ⟨h0,rfl⟩|⟨k,rfl,hk,k2⟩
  ·exact .inl ⟨BX h0,rfl⟩
  ·exact .inr ⟨k,rfl,hk,fun i h=>k2 i h h⟩
theorem Yw(rel:BS)(k:Bool)(R:Int)(D C:BF):-9223372036854775808<=bB rel k R D C∧bB rel k R D C<=9223372036854775807:=by
 unfold bB
 cases k
 ·rw [cF];obtain⟨_,_,h⟩:=Wi (D.c-(wrap .i64 ((wrap .i64 ((wrap .i64 (rel.d+C.b))+R))+rel.b)));exact h
 ·rw [cT];obtain⟨_,_,h⟩:=Wi (wrap .i64 (wrap .i64 (wrap .i64 (rel.c+C.c)-R)-rel.b)-D.b);exact h
theorem vU{n:Nat}{b:AJ}{t:Au}{rel:BS}{x:iM}{D:Nat}(h:fY n b t x){z:Int}(e:SP n ⟨b,[],[],[],[],[]⟩ (x.at_ rel)=some ((D:Int),z))(hD:(D:Int)<t.c.length):AL t.c (D:Int)=some true:=by
 obtain⟨r1,k1,_⟩:=Dx (xs:=t.c) (i:=(D:Int)) (by omega) hD
 cases r1 with
 |true=>exact k1
 |false=>
  have h:=h.sl ⟨b,[],[],[],[],[]⟩ rel (bB rel x.k x.R x.D x.C) rfl
  have e:SP n ⟨b,[],[],[],[],[]⟩ ⟨x.p.1,x.p.2.1,x.p.2.2,bB rel x.k x.R x.D x.C⟩=some ((D:Int),z):=e
  rw [QO]at h
  simp only [e,BJ,k1,BM,cT]at h
  simp at h
theorem WcO{n:Nat}{b:AJ}{t:Au}{rel:BS}{x:iM}{c:MU}(vt:Tl b t)(h:fY n b t x)(hc:Cv n b t (x.at_ rel) c)(hv:LH c.v=true):Wc t (x.at_ rel).b c:=by
 have hlt:=hc.lt
 have z1:=vt.reached;have z2:=vt.arr;have z3:=vt.slew
 obtain⟨z,e⟩:=hc.impl ⟨b,[],[],[],[],[]⟩ rfl
 obtain⟨y,ey,hy⟩:=hc.val
 have hv2:-1000000000<=c.v∧c.v<=1000000000:=by
  simp only [LH,AD,AP]at hv;exact hv
 have hd:c.D<t.c.length:=by omega
 have hd2:c.D<t.b.length:=by omega
 have ht:=vt.each c.D hd hd2 (by omega)
 rw [Ac hd2]at ey
 have ey:=AM ey
 rw [ey]at ht
 have yb:-1000000000<=y.c∧y.c<=1000000000∧ -1000000000<=y.b∧y.b<=1000000000:=by
  have:PT y=true:=by
   unfold UQ at ht
   cases q:PT y with
   |true=>rfl
   |false=>rw [q]at ht;simp at ht
  simp only [PT,Tk,AD,AP]at this
  omega
 have hs:-9223372036854775808<=(x.at_ rel).b∧(x.at_ rel).b<=9223372036854775807:=Yw _ _ _ _ _
 refine⟨⟨y,by rw [Ac hd2,ey],yb,fun q=>?_,fun q=>?_⟩,vU h e (by omega),hv2⟩
 ·rw [q,cT]at hy
  obtain⟨k,e1,e2,e3⟩:=Wi (y.b+(x.at_ rel).b)
  omega
 ·rw [q,cF]at hy
  obtain⟨k,e1,e2,e3⟩:=Wi (y.c-(x.at_ rel).b)
  omega
theorem Xo{code:List Int}(hR:code.length<=9223372036854775807∧∀x∈code,oM .u8 x):∃n O,fT n O code (fun r=>cond r (some ()) none)=some ():=by
 obtain⟨n,hn⟩:∃n,1048577<=n:=⟨_,BN _⟩
 obtain⟨O⟩:=Pt.is
 refine⟨n,O,?_⟩
 rw [fT,eR,BJ]
 refine IR (fun _=>rfl) fun hbg=>?_
 have hc:=NG.of hR (Fy hbg)
 rw [gC]
 refine Pk (Fr hc hn) fun s hs=>D16 hn hc (hs.mk2 rfl) fun b t rel s' hb ht hu hs'=>?_
 have htr:t.c.length<=1048576:=by have:=ht.r;omega
 rcases lY (n:=n) (rel:=rel) hb.sm htr hn with ⟨f1,⟨v,vt⟩,w,f2⟩|⟨c,hc0,f1,f2⟩
 ·obtain⟨L,l1,l2,l3⟩:=yO (n:=n) v vt hn
  obtain⟨g,k0,kq,k1,k2⟩:=yV (n:=n) (rel:=rel) (w:=w) v vt hn
  have k3:=l3 ⟨b,w.c,w.d,w.f,w.g,w.h⟩ rel rfl
  rw [k2]at k3
  have k3:=AM k3
  obtain⟨cs,hl,hC⟩:=CvL v vt hn g kq
  have vd:=v.design
  have hp:=Dy vd.short vd.few.1 vd.few.2.2
  have s0:YV n b t rel=Option.bind (YV n b t rel) some:=by simp
  have a1:YQ n b t rel=some (g,0):=by
   rw [YQ,f2]
   simp only [BJ,OQ,CP,cF,k2]
  rcases wO (t:=t) v hl k0 hC hn with ⟨⟨c,hc1,hb1⟩,e1⟩|⟨hg1,e1⟩
  ·rcases TgO (t:=t) (w:=⟨b,w.c,w.d,w.f,w.g,w.h⟩) v rfl hl k0 hC hn with ⟨_,e2⟩|⟨hg2,e2⟩
   ·have u1:YV n b t rel=some ([],3):=by
     rw [YV];(try simp only [jn]);rw [f1]
     simp only [BJ,CP,cF,k1];exact e1
    have u2:Qi n b t rel=some ([],3):=by
     rw [Qi,f2]
     simp only [BJ,OQ,CP,cF,Zw,k2,e2,jn];rfl
    show(Option.bind (Qi n b t rel) _)=some ()
    simp only [u1,u2,BJ,CP,Fa,cF,show((3:Int) !=0)=true from rfl,cT]
   ·rw [hg2 c hc1]at hb1;cases hb1
  ·rcases TgO (t:=t) (w:=⟨b,w.c,w.d,w.f,w.g,w.h⟩) v rfl hl k0 hC hn with ⟨⟨c,hc1,hb1⟩,_⟩|⟨hg2,e2⟩
   ·rw [hg1 c hc1]at hb1;cases hb1
   have b1:YV n b t rel=some (Ic (Hz cs) 0 (2*(pls b.b).length),0):=by
    rw [YV];(try simp only [jn]);rw [f1]
    simp only [BJ,CP,cF,k1];exact e1
   have b2:Qi n b t rel=some (Ic (Hz cs) 0 (2*(pls b.b).length),0):=by
    rw [Qi,f2]
    simp only [BJ,OQ,CP,cF,Zw,k2,e2,jn];rfl
   have pl:=PU (TM cs) (2*(pls b.b).length) 0
   have wcs:∀i (h:i<cs.length) (h2:i<g.length),Wc t g[i].b cs[i]:=fun i h h2=>by
    have h3:i<L.length:=by rw [k3,CH]at h2;exact h2
    have e:g[i]=L[i].at_ rel:=by simp only [k3,EP]
    have hc:=hC i h2 h
    rw [e]at hc ⊢
    exact WcO vt (l2 _ (AI h3)) hc (hg2 _ (AI h))
   obtain⟨j,w1,hw⟩:=zO (n:=n) (L:=g) k0 hn
   show(Option.bind (Qi n b t rel) _)=some ()
   simp only [b1,b2,BJ,CP,Fa,cF,a1,w1]
   have TxAll:∀(W:Int),(∀i (h:i<g.length),W<=g[i].b)->∀x∈Ic (Hz cs) 0 (2*(pls b.b).length),Tx t W x:=fun W hW x hx=>TxA (fun c hc=>by
    obtain⟨i,hi,rfl⟩:=Bs hc
    exact⟨_,wcs i hi (by omega),hW i (by omega)⟩) hx
   have hTg:Yj n b (Ic (Hz cs) 0 (2*(pls b.b).length))=some true:=by
    obtain⟨q,q1,hq⟩:=nU (n:=n) hb.sm hn
    obtain rfl:q=true:=hq.2 v
    obtain⟨p,p1,hp1⟩:=Tg1 (n:=n) (xs:=Ic (Hz cs) 0 (2*(pls b.b).length)) v (by omega) hn
    obtain rfl:p=true:=hp1.2 fun i hi=>by
     have k:=TxAll (-9223372036854775808) (fun i h=>by
      have h3:i<L.length:=by rw [k3,CH]at h;exact h
      have e:g[i]=L[i].at_ rel:=by simp only [k3,EP]
      rw [e];exact(Yw _ _ _ _ _).1) _ (AI hi)
     have k4:=Nl (AI hi)
     refine⟨⟨by omega,by unfold Em;omega⟩,fun⟨c1,c2⟩=>?_,k.early,k.late⟩
     rw [WW (by omega)]at c2
     have:=List.pairwise_iff_getElem.1 (WL (cs:=cs) (2*(pls b.b).length) 0) (i-1) i (by omega) hi (by omega)
     omega
    rw [Yj,q1,BJ,cT,p1];rfl
   simp only [hTg,BJ,Al,cF]
   rcases hw with ⟨hg0,rfl⟩|⟨k,rfl,hk,hmin⟩
   ·subst hg0
    obtain rfl:cs=[]:=BX (by simpa using hl)
    have z0:Ic (Hz []) 0 (2*(pls b.b).length)=[]:=by
     rcases e:Ic (Hz []) 0 (2*(pls b.b).length)with _|⟨x,_⟩
     ·rfl
     ·obtain⟨k,_,_,h⟩:=PZ (x:=x) (by rw [e];exact Bg)
      cases h
    rw [z0];rfl
   ·have hkc:k<cs.length:=by omega
    have hY:AL g (k:Int)=some g[k]:=Ac hk
    rw [Rw hk]at hmin
    have wk:=wcs k hkc hk
    have hlt:cs[k].D<2*(pls b.b).length:=by have:=(hC k hk hkc).lt;unfold Em at this;omega
    have tb:=TxB (AI hkc) hlt wk
    have ne:((((Ic (Hz cs) 0 (2*(pls b.b).length)).length:Int))==0)=false:=by
     obtain⟨x,hx,_⟩:=tb
     have:=List.length_pos_of_mem hx
     exact AG.2 (by omega)
    have hW:g[k].b<=4000000000:=by
     obtain⟨y,_,yb,q1,q2⟩:=wk.y
     have:=wk.v
     cases q:cs[k].q with
     |true=>have:=q1 q;omega
     |false=>have:=q2 q;omega
    simp only [Aa (show¬((k:Int)<0) by omega),Aa (show¬((k:Int)>=(g.length:Int)) by omega),ne,Fa,cF]
    exact TgL hn (by omega) hY (TxAll _ hmin) hW tb
 ·have u1:YV n b t rel=some ([],c):=by
   rw [YV];(try simp only [jn]);rw [f1];simp only [BJ,hc0,cT]
  have u2:Qi n b t rel=some ([],c):=by
   rw [Qi,f2];simp only [BJ,OQ,hc0,cT]
  show(Option.bind (Qi n b t rel) _)=some ()
  simp only [u1,u2,BJ,CP,Fa,cF,hc0,cT]

end Go.Proofs.YtejmafeocaidlabGreatDoor
