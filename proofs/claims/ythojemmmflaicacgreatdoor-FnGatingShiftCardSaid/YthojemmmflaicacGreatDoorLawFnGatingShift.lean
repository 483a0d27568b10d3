/- The plain law behind FnGatingShift: the plain function answers true; no condition. -/
import Derived.Test.YthojemmmflaicacGreatDoorLawFnGatingShiftA
set_option linter.all false
set_option maxHeartbeats 4000000
namespace Go.Proofs.YthojemmmflaicacGreatDoor
open Go Go.RowKit Go.Eng
open Go.IntKind (wrap)
theorem kX{n:Nat}{b:AI}(v:By b){x:AS}(ok:Rv b x)(k:x.Kind=1)(hn:1048577<=n):∃a z,Pn n b x=some (a,z)∧(a.Kind==1)= !RE b x:=by
 have vd:=v.design
 obtain⟨p,y,c,a,g1,pm,g2,g3,g4,kd⟩:=ok.arc k
 have hp:=vd.net p pm
 have hW:=v.many
 obtain⟨N,hN⟩:=Int.eq_ofNat_of_zero_le hp.1
 have hN:p.net_=(N:Int):=hN
 have hNl:N<b.Wires.length:=by omega
 obtain⟨r,er,hr⟩:=mY (n:=n) v hNl hn
 have hm:=(v.wire N hNl).many
 have g1':AL ((pls b.Design).map GZ) (wrap .i64 (Int.tdiv x.To 2))=some (GZ p):=by
  obtain⟨g0,g5,g6⟩:=EM g1
  obtain⟨M,hM⟩:=Int.eq_ofNat_of_zero_le g0
  have hM:wrap .i64 (Int.tdiv x.To 2)=(M:Int):=hM
  rw [hM]at g6 ⊢
  rw [HP,List.getElem?_map]
  rw [Int.toNat_natCast]at g6
  rw [g6];rfl
 have g2':AL b.Design.Instances (GZ p).instance_=some y:=g2
 have hN':(GZ p).net_=(N:Int):=hN
 refine⟨a,gd r 0,?_,?_⟩
 ·rw [Pn,NM vd.short vd.few.1 vd.few.2.2 hn]
  simp only [As,g1',g2',g3,g4,hN',er,gI (i:=0) (show 0<r.length by omega)]
  have e0:AL r 0=some (gd r 0):=gI (i:=0) (by omega)
  rw [e0];rfl
 ·have e2:(x.Kind==1)=true:=by rw [beq_iff_eq];exact k
  have ea:WA b x=some a:=by simp only [WA,g1,g2,g3,g4,As]
  unfold RE
  rw [e2,ea,Bool.true_and]
  show(a.Kind==1)= !(a.Kind==2||a.Kind==3)
  rcases kd with h|h|h<;>rw [h]<;>rfl
theorem HO{l:List Bool}{i:Nat}(h:i<l.length):AL l (i:Int)=some (gb l i):=by rw [AY h];simp [gb,h]
def Ed(L:List AS)(lv:List Bool)(u w:Int):Prop:=∃k,∃h:k<L.length,gb lv k=true∧L[k].From=u∧L[k].To=w
inductive GX(L:List AS)(lv:List Bool)(src:Int->Prop):Int->Prop
 |src {u:Int}:src u->GX L lv src u
 |step {u w:Int}:GX L lv src u->Ed L lv u w->GX L lv src w
theorem GX.mono{L:List AS}{lv:List Bool}{s t:Int->Prop}(h:∀u,s u->t u){v:Int}(r:GX L lv s v):GX L lv t v:=by
 induction r with
 |src h1=>exact .src (h _ h1)
 |step _ e ih=>exact .step ih e
theorem GX.or{L:List AS}{lv:List Bool}{s t:Int->Prop}{v:Int}(r:GX L lv (fun u=>s u∨t u) v):GX L lv s v∨GX L lv t v:=by
 induction r with
 |src h=>exact h.elim (fun h=>.inl (.src h)) (fun h=>.inr (.src h))
 |step _ e ih=>exact ih.elim (fun h=>.inl (.step h e)) (fun h=>.inr (.step h e))
theorem GX.closed{L:List AS}{lv:List Bool}{s:Int->Prop}{Q:Int->Prop}(h0:∀u,s u->Q u)(h1:∀u w,Q u->Ed L lv u w->Q w){v:Int}(r:GX L lv s v):Q v:=by
 induction r with
 |src h=>exact h0 _ h
 |step _ e ih=>exact h1 _ _ ih e
structure Ow(L:List AS)(lv:List Bool)(s:Int->Prop)(N:Nat)(out:List Bool):Prop where
 len:out.length=N
 iff:∀v:Nat,v<N->(gb out v=true↔GX L lv s (v:Int))
def cf(l:List Bool):Nat:=l.countP (fun b=>!b)
theorem dK(l:List Bool):cf l<=l.length:=List.countP_le_length
theorem VN:∀{l:List Bool} {i:Nat},i<l.length->gb l i=false->cf (l.set i true)+1=cf l
 |[],i,h,_=>by simp at h
 |b::l,0,_,h=>by
  have h:b=false:=h
  subst h;simp [cf]
 |b::l,i+1,hi,h=>by
  have ih:=VN (l:=l) (i:=i) (by simpa using hi) h
  unfold cf at ih ⊢
  simp only [List.set_cons_succ,List.countP_cons];omega
structure Qg(L:List AS)(N:Nat):Prop where
 from_:∀k (h:k<L.length),0<=L[k].From∧L[k].From<(N:Int)
 to_:∀k (h:k<L.length),0<=L[k].To∧L[k].To<(N:Int)
theorem jW{n:Nat}{L:List AS}{lv:List Bool}{N s:Nat}(hL:Qg L N)(hlv:lv.length=L.length)(hl:L.length<=10000)(hN:N<=1000)(hs:s<N)(hn:1048577<=n):
 ∃out,Wr n (N:Int) L lv (s:Int) true=some out∧Ow L lv (fun u=>u=(s:Int)) N out:=by
 rw [Wr,Fi (by omega) (by omega),As,AY (show s<(List.replicate N false).length by simpa using hs),As,Int.toNat_natCast]
 have key:=SH (L:=fun m (st:Bool×List Bool)=>Gh n L lv true (fun q33 l34=>(some l34)) m st.1 st.2) (fun st=>2*cf st.2+st.1.toNat)
  (fun st=>st.2.length=N∧gb st.2 s=true∧(∀v,v<N->gb st.2 v=true->GX L lv (fun u=>u=(s:Int)) (v:Int))∧(st.1=false->∀k (h:k<L.length),gb lv k=true->gb st.2 L[k].From.toNat=true->gb st.2 L[k].To.toNat=true))
  (fun o=>∃out,o=some out∧Ow L lv (fun u=>u=(s:Int)) N out) ?_ n (true,(List.replicate N false).set s true) ?_ ?_
 ·exact key
 ·rintro m ⟨q,out⟩ ⟨h1,h2,h3,h4⟩ ih
  have h1:out.length=N:=h1
  have h2:gb out s=true:=h2
  have h3:∀v,v<N->gb out v=true->GX L lv (fun u=>u=(s:Int)) (v:Int):=h3
  simp only [Gh.eq_2]
  cases q with
  |false=>
   have h4:=h4 rfl
   refine⟨out,rfl,h1,fun v hv=>⟨h3 v hv,fun r=>?_⟩⟩
   have:=GX.closed (Q:=fun u=>0<=u∧u<(N:Int)∧gb out u.toNat=true) (fun u e=>by subst e;exact⟨by omega,by omega,by simpa using h2⟩) (fun u w hu e=>by
    obtain⟨k,hk,e1,e2,e3⟩:=e
    subst e2 e3
    have:=hL.to_ k hk
    exact⟨this.1,this.2,h4 k hk e1 hu.2.2⟩) r
   simpa using this.2.2
  |true=>
   rw [cT]
   have inner:=Fp (L:=fun m' i (st:Bool×List Bool)=>Ev L lv true (fun q38 i39 l40=>(Gh n L lv true (fun q33 l34=>(some l34)) m q38 l40)) m' st.1 i st.2) L.length
    (fun i st=>st.2.length=N∧gb st.2 s=true∧(∀v,v<N->gb st.2 v=true->GX L lv (fun u=>u=(s:Int)) (v:Int))∧(∀v,gb out v=true->gb st.2 v=true)∧cf st.2<=cf out∧(st.1=true->cf st.2<cf out)∧(st.1=false->st.2=out∧∀k (h:k<L.length),k<i->gb lv k=true->gb out L[k].From.toNat=true->gb out L[k].To.toNat=true))
    (fun o=>∃out,o=some out∧Ow L lv (fun u=>u=(s:Int)) N out) ?_ ?_ n 0 (false,out) (by omega) (by omega) ⟨h1,h2,h3,fun v h=>h,Nat.le_refl _,fun h=>Bool.noConfusion h,fun _=>⟨rfl,fun k _ h=>absurd h (Nat.not_lt_zero k)⟩⟩
   ·exact inner
   ·rintro m' i ⟨q,l⟩ hi ⟨g1,g2,g3,g4,g5,g6,g7⟩ kk
    have g1:l.length=N:=g1
    have g2:gb l s=true:=g2
    have g3:∀v,v<N->gb l v=true->GX L lv (fun u=>u=(s:Int)) (v:Int):=g3
    have g4:∀v,gb out v=true->gb l v=true:=g4
    have g5:cf l<=cf out:=g5
    have g6:q=true->cf l<cf out:=g6
    have g7:q=false->l=out∧∀k (h:k<L.length),k<i->gb lv k=true->gb out L[k].From.toNat=true->gb out L[k].To.toNat=true:=g7
    have hF:=hL.from_ i hi
    have hT:=hL.to_ i hi
    obtain⟨F,eF⟩:=Int.eq_ofNat_of_zero_le hF.1
    have eF:L[i].From=(F:Int):=eF
    obtain⟨T,eT⟩:=Int.eq_ofNat_of_zero_le hT.1
    have eT:L[i].To=(T:Int):=eT
    have lF:F<l.length:=by omega
    have lT:T<l.length:=by omega
    show∃o',Ev L lv true _ (m'+1) q (i:Int) l=some o'∧_
    simp only [Ev.eq_2,DH hi,cT,AY hi,As,Bool.not_true,cF,HO (show i<lv.length by omega),eF,eT,HO lF,HO lT,Bn,Int.toNat_natCast,wT i]
    have skip:(gb lv i=true->gb l F=true->gb l T=true)->∃o',Ev L lv true (fun q38 i39 l40=>(Gh n L lv true (fun q33 l34=>(some l34)) m q38 l40)) m' q ((i+1:Nat):Int) l=some o'∧Ow L lv (fun u=>u=(s:Int)) N o':=fun hc=>kk (q,l) ⟨g1,g2,g3,g4,g5,g6,fun hq=>by
     obtain⟨e,h⟩:=g7 hq
     refine⟨e,fun k hk hki a b=>?_⟩
     by_cases c:k=i
     ·subst c;subst e
      rw [eT,Int.toNat_natCast]
      rw [eF,Int.toNat_natCast]at b
      exact hc a b
     ·exact h k hk (by omega) a b⟩
    cases c1:(gb lv i&&gb l F)with
    |false=>
     simp only [Bool.false_and,cF]
     exact skip fun a b=>by rw [a,b]at c1;cases c1
    |true=>
     simp only [Bool.true_and]
     simp only [Bool.and_eq_true]at c1
     cases c2:gb l T with
     |true=>
      simp only [Bool.not_true,cF]
      exact skip fun _ _=>c2
     |false=>
      simp only [Bool.not_false,cT]
      have hcf:=VN lT c2
      refine kk (true,l.set T true) ⟨by simpa using g1,?_,?_,?_,by show cf (l.set T true)<=_;omega,fun _=>by show cf (l.set T true)<_;omega,fun h=>by cases h⟩
      ·show gb (l.set T true) s=true
       rw [MA lT];split
       ·rfl
       ·exact g2
      ·intro v hv hg
       have hg:gb (l.set T true) v=true:=hg
       rw [MA lT]at hg
       by_cases c:T=v
       ·subst c
        refine .step (g3 F (by omega) c1.2) ⟨i,hi,c1.1,eF,eT⟩
       ·rw [if_neg c]at hg;exact g3 v hv hg
      ·intro v hg
       show gb (l.set T true) v=true
       rw [MA lT];split
       ·rfl
       ·exact g4 v hg
   ·rintro m' ⟨q,l⟩ ⟨g1,g2,g3,g4,g5,g6,g7⟩
    show∃o',Ev L lv true _ (m'+1) q (L.length:Int) l=some o'∧_
    simp only [Ev.eq_2,DQ,cF]
    refine ih (q,l) ⟨g1,g2,g3,fun hq=>?_⟩ ?_
    ·obtain⟨e,h⟩:=g7 hq
     have e:l=out:=e
     subst e
     exact fun k hk a b=>h k hk hk a b
    ·show 2*cf l+q.toNat<2*cf out+1
     cases q with
     |true=>have:=g6 rfl;have:cf l<cf out:=this;simp;omega
     |false=>have:cf l<=cf out:=g5;simp;omega
 ·have h1:=dK ((List.replicate N false).set s true)
  simp only [List.length_set,List.length_replicate]at h1
  show 2*cf ((List.replicate N false).set s true)+1<n
  omega
 ·have hl2:s<(List.replicate N false).length:=by simpa using hs
  refine⟨by simp,by show gb ((List.replicate N false).set s true) s=true;rw [MA hl2,if_pos rfl],fun v hv hg=>?_,fun h=>by cases h⟩
  have hg:gb ((List.replicate N false).set s true) v=true:=hg
  rw [MA hl2]at hg
  by_cases c:s=v
  ·subst c;exact .src rfl
  ·rw [if_neg c]at hg;simp [gb,hv]at hg
def Th(b:AI)(br:List Int):List Bool:=Eh (fun k x=>[!(br.any fun y=>y==(k:Int))&& !(RE b x)]) 0 (IC b)
theorem OA(b:AI)(br:List Int):(Th b br).length=(IC b).length:=HA _ _ _
theorem QE{b:AI}{br:List Int}{k:Nat}(h:k<(IC b).length):gb (Th b br) k=(!(br.any fun y=>y==(k:Int))&& !(RE b (IC b)[k])):=by
 have:=MV (fun k x=>(!(br.any fun y=>y==((k:Nat):Int))&& !(RE b x))) (IC b) 0 k
 rw [List.getElem?_eq_getElem h,Nat.zero_add]at this
 unfold gb Th
 rw [List.getD_eq_getElem?_getD,this];rfl
theorem Ps{b:AI}(v:By b):Qg (IC b) (2*(pls b.Design).length):=
 ⟨fun k h=>by have:=(Nh v _ (List.getElem_mem h)).from_;unfold EN at this;push_cast;omega,fun k h=>by have:=(Nh v _ (List.getElem_mem h)).to_;unfold EN at this;push_cast;omega⟩
theorem kB{n:Nat}{L:List AS}{br:List Int}(hl:L.length<=1048576)(hb:br.length<=1048576)(hn:1048577<=n):Qo n L br=some (Eh (fun k (_:AS)=>[!(br.any fun y=>y==(k:Int))]) 0 L):=by
 rw [Qo]
 rw [DW (xs:=L) (L:=fun m s i=>JA n L br (fun l19 i23=>(some l19)) m s i) (k:=fun s=>some s) (fun k (_:AS)=>[!(br.any fun y=>y==(k:Int))]) 1 0 (fun _ _ _=>by simp) (by omega) (by
  intro m i hi s hs
  simp only [JA.eq_2,DH hi,cT,gS hb hn,As,wT i]
  rw [BN (by simp;omega) (by omega),As]) (by
  intro m s
  simp only [JA.eq_2,DQ,cF]) n (by omega) [] (by simp)]
 rw [List.nil_append]
def aI(b:AI)(br:List Int)(p:Nat)(out:List Bool):Prop:=Ow (IC b) (Th b br) (fun u=>u=((2*p:Nat):Int)∨u=((2*p+1:Nat):Int)) (2*(pls b.Design).length) out
theorem Zb{n:Nat}{b:AI}{br:List Int}{p:Nat}(v:By b)(hb:br.length<=1048576)(hp:p<(pls b.Design).length)(hn:1048577<=n):∃out,dB n b br (p:Int)=some out∧aI b br p out:=by
 have vd:=v.design
 have hl:=CS vd.short vd.few.1 vd.few.2.2
 have hL:=Gv v
 have hin:=Ps v
 rw [dB,RQ v hn,As,kB (by omega) hb hn,As]
 have w1:wrap .i64 (2*(p:Int))=((2*p:Nat):Int):=by rw [Af (by omega) (by omega)];omega
 have w2:wrap .i64 (((2*p:Nat):Int)+1)=((2*p+1:Nat):Int):=by rw [Af (by omega) (by omega)];omega
 have wc:Ma n b=some ((2*(pls b.Design).length:Nat):Int):=by
  rw [Ma,NM vd.short vd.few.1 vd.few.2.2 hn,As,List.length_map,Af (by omega) (by omega)]
  exact congrArg some (by omega)
 refine loop (L:=fun m i l=>Jh n b (IC b) _ m i l) (IC b).length (fun i l=>l.length=(IC b).length∧∀k (h:k<(IC b).length),gb l k=if k<i then gb (Th b br) k else !(br.any fun y=>y==(k:Int))) (fun o=>∃out,o=some out∧aI b br p out) ?_ ?_ n 0 _ (by omega) (by omega) ⟨HA _ _ _,fun k h=>?_⟩
 ·intro m i l hi ⟨h1,h2⟩
  refine .inl ?_
  have ok:=Nh v _ (List.getElem_mem hi)
  have h2i:=h2 i hi
  rw [if_neg (Nat.lt_irrefl i)]at h2i
  simp only [Jh.eq_2,DH hi,cT,AY hi,As,wT i]
  by_cases c:(IC b)[i].Kind=1
  ·have e1:((IC b)[i].Kind==1)=true:=by rw [beq_iff_eq];exact c
   obtain⟨a,z,ea,ek⟩:=kX (n:=n) v ok c hn
   simp only [e1,cT,ea,As,HO (show i<l.length by omega),Int.toNat_natCast,ek]
   refine⟨_,⟨by simpa using h1,fun k hk=>?_⟩,rfl⟩
   rw [MA (by omega)]
   by_cases e:i=k
   ·subst e
    rw [if_pos rfl,if_pos (by omega),QE hk,h2i]
   ·rw [if_neg e,h2 k hk]
    by_cases q:k<i
    ·rw [if_pos q,if_pos (by omega)]
    ·rw [if_neg q,if_neg (by omega)]
  ·have e1:((IC b)[i].Kind==1)=false:=by rw [beq_eq_false_iff_ne];exact c
   simp only [e1,cF]
   refine⟨l,⟨h1,fun k hk=>?_⟩,rfl⟩
   rw [h2 k hk]
   by_cases e:i=k
   ·subst e
    rw [if_neg (Nat.lt_irrefl i),if_pos (by omega),QE hk]
    have:RE b (IC b)[i]=false:=by unfold RE;rw [e1,Bool.false_and]
    rw [this];simp
   ·by_cases q:k<i
    ·rw [if_pos q,if_pos (by omega)]
    ·rw [if_neg q,if_neg (by omega)]
 ·intro m l ⟨h1,h2⟩
  have el:l=Th b br:=bU (h1.trans (OA b br).symm) fun j hj=>by rw [h2 j (by omega),if_pos (by omega)]
  subst el
  obtain⟨o1,f1,r1⟩:=jW (n:=n) (s:=2*p) hin (OA b br) (by omega) (by omega) (by omega) hn
  obtain⟨o2,f2,r2⟩:=jW (n:=n) (s:=2*p+1) hin (OA b br) (by omega) (by omega) (by omega) hn
  simp only [Jh.eq_2,DQ,cF,wc,As,w1,w2,f1,f2]
  refine loop (L:=fun m i l=>LU ((2*(pls b.Design).length:Nat):Int) o2 (fun i75 l76=>(some l76)) m i l) (2*(pls b.Design).length) (fun i l=>l.length=2*(pls b.Design).length∧∀k,k<2*(pls b.Design).length->gb l k=if k<i then(gb o1 k||gb o2 k)else gb o1 k) (fun o=>∃out,o=some out∧aI b br p out) ?_ ?_ n 0 o1 (by omega) (by omega) ⟨r1.len,fun k _=>by rw [if_neg (Nat.not_lt_zero k)]⟩
  ·intro m i l hi ⟨g1,g2⟩
   refine .inl ?_
   have g2i:=g2 i hi
   rw [if_neg (Nat.lt_irrefl i)]at g2i
   simp only [LU.eq_2,DH hi,cT,HO (show i<l.length by omega),HO (show i<o2.length by have:=r2.len;omega),As,EY,Int.toNat_natCast,wT i]
   refine⟨_,⟨by simpa using g1,fun k hk=>?_⟩,rfl⟩
   rw [MA (by omega)]
   by_cases e:i=k
   ·subst e;rw [if_pos rfl,if_pos (by omega),g2i]
   ·rw [if_neg e,g2 k hk]
    by_cases q:k<i
    ·rw [if_pos q,if_pos (by omega)]
    ·rw [if_neg q,if_neg (by omega)]
  ·intro m l ⟨g1,g2⟩
   simp only [LU.eq_2,DQ,cF]
   refine⟨l,rfl,g1,fun k hk=>?_⟩
   rw [g2 k hk,if_pos hk,Bool.or_eq_true,r1.iff k hk,r2.iff k hk]
   exact⟨fun h=>h.elim (fun h=>h.mono fun _ e=>.inl e) (fun h=>h.mono fun _ e=>.inr e),GX.or⟩
 ·rw [if_neg (Nat.not_lt_zero k)]
  have:=MV (fun k (_:AS)=>!(br.any fun y=>y==((k:Nat):Int))) (IC b) 0 k
  rw [List.getElem?_eq_getElem h,Nat.zero_add]at this
  unfold gb
  rw [List.getD_eq_getElem?_getD,this];rfl
def RD(n:Nat)(c:Al)(p q:Nat):Int:=(Tj n c p q).getD 0
theorem UV{n:Nat}{c:Al}(v:NB c)(g:c.Kind=1){p q:Nat}(hp:p<c.Pins.length-1)(hq:q<c.Pins.length-1)(hpq:p≠q)(hn:1048577<=n):Tj n c p q=some (RD n c p q):=by
 have few:=v.pins.few
 have ht:c.Truth.length=2^(c.Pins.length-1):=by
  rcases v.kind with k|k|k
  ·exact k.2.2.1
  ·omega
  ·omega
 obtain⟨x0,f0,_⟩:=rS (n:=n) (c:=c) (p:=p) (q:=q) (l:=0) (k:=c.Pins.length-1) (by omega) ht hp hq hpq hn
 obtain⟨x1,f1,_⟩:=rS (n:=n) (c:=c) (p:=p) (q:=q) (l:=1) (k:=c.Pins.length-1) (by omega) ht hp hq hpq hn
 have f0:Qi n c p q 0=some x0:=f0
 have f1:Qi n c p q 1=some x1:=f1
 unfold RD
 simp only [Tj,f0,f1,As]
 cases x0<;>cases x1<;>rfl
def nX(out:List Bool)(o p:Nat):Bool:=gb out (2*(o+p))||gb out (2*(o+p)+1)
def Xz(n:Nat)(c:Al)(o:Nat)(out:List Bool)(p q:Nat):Bool:=(nX out o p&& !(nX out o q))&&(RD n c p q==0||RD n c p q==1)
def RP(n:Nat)(c:Al)(i o:Nat)(out:List Bool)(p q:Nat):List Bf:=if c.Kind=1∧p<c.Pins.length-1∧q<c.Pins.length-1∧p≠q then(if Xz n c o out p q=true then [⟨(i:Int),(p:Int),(q:Int),RD n c p q⟩]else [])else []
theorem Qt(n:Nat)(c:Al)(i o:Nat)(out:List Bool)(p q:Nat):(RP n c i o out p q).length<=1:=by
 unfold RP;split
 ·split<;>simp
 ·simp
def St(n:Nat)(c:Al)(i o:Nat)(out:List Bool)(p:Nat):List Bf:=Eh (fun q (_:Bt)=>RP n c i o out p q) 0 c.Pins
def RU(n:Nat)(b:AI)(out:List Bool)(i:Nat)(x:Aq):List Bf:=match AL b.Library.Cells x.Cell with
 |some c=>Eh (fun p (_:Bt)=>St n c i (FQ b.Design i) out p) 0 c.Pins
 |none=>[]
def kH(n:Nat)(b:AI)(out:List Bool):List Bf:=Eh (RU n b out) 0 b.Design.Instances
theorem QF(n:Nat)(c:Al)(i o:Nat)(out:List Bool)(p:Nat)(h:c.Pins.length<=5):(St n c i o out p).length<=5:=by
 have:=EG (c:=1) (g:=fun q (_:Bt)=>RP n c i o out p q) c.Pins 0 fun j _ _=>Qt _ _ _ _ _ _ _
 unfold St;omega
theorem QH{n:Nat}{b:AI}{out:List Bool}(v:By b)(i:Nat){x:Aq}(hx:x∈b.Design.Instances):(RU n b out i x).length<=25:=by
 obtain⟨j,hj,rfl⟩:=List.getElem_of_mem hx
 obtain⟨k,hk,_,gc,_,vc⟩:=v.design.inst_at hj
 have few:=vc.pins.few
 have:=EG (c:=5) (g:=fun p (_:Bt)=>St n b.Library.Cells[k] i (FQ b.Design i) out p) b.Library.Cells[k].Pins 0 fun j _ _=>QF _ _ _ _ _ _ (by omega)
 unfold RU
 rw [gc]
 simp only
 omega
theorem Xu{n:Nat}{b:AI}{out:List Bool}(v:By b):(kH n b out).length<=350:=by
 have:=EG (c:=25) (g:=RU n b out) b.Design.Instances 0 fun j x hx=>QH v j hx
 have:=v.design.few
 unfold kH;omega
theorem oK{n:Nat}{b:AI}{out:List Bool}(v:By b)(ho:out.length=2*(pls b.Design).length)(hn:1048577<=n):Ib n b out (fun l50 i54=>(some (l50,0))) n ([]:List Bf) 0=some (kH n b out,0):=by
 have vd:=v.design
 have hl:=CS vd.short vd.few.1 vd.few.2.2
 have f1:=vd.few.1
 rw [DW (xs:=b.Design.Instances) (L:=fun m s i=>Ib n b out (fun l50 i54=>(some (l50,0))) m s i) (k:=fun s=>some (s,(0:Int))) (RU n b out) 25 0 (fun j x hx=>QH v j hx) (by omega) (by
  intro m i hi s hs
  obtain⟨k,hk,_,gc,hnl,vc⟩:=v.design.inst_at hi
  have few:=vc.pins.few
  simp only [Ib.eq_2,DH hi,cT,AY hi,gc,As,wT i]
  have eh:RU n b out i b.Design.Instances[i]=Eh (fun p (_:Bt)=>St n b.Library.Cells[k] i (FQ b.Design i) out p) 0 b.Library.Cells[k].Pins:=by unfold RU;rw [gc]
  rw [eh]
  refine DW (xs:=b.Library.Cells[k].Pins) (L:=fun m s p=>KF n b out (i:Int) b.Library.Cells[k] _ m s p) (k:=fun s=>Ib n b out (fun l50 i54=>(some (l50,0))) m s ((i+1:Nat):Int)) (fun p (_:Bt)=>St n b.Library.Cells[k] i (FQ b.Design i) out p) 5 s.length (fun j _ _=>QF _ _ _ _ _ _ (by omega)) (by omega) ?_ ?_ n (by omega) s (by omega)
  ·intro m p hp s2 hs2
   simp only [KF.eq_2,DH hp,cT,wT p]
   refine DW (xs:=b.Library.Cells[k].Pins) (L:=fun m s q=>Ia n b out (i:Int) b.Library.Cells[k] (p:Int) _ m s q) (k:=fun s=>KF n b out (i:Int) b.Library.Cells[k] _ m s ((p+1:Nat):Int)) (fun q (_:Bt)=>RP n b.Library.Cells[k] i (FQ b.Design i) out p q) 1 s2.length (fun j _ _=>Qt _ _ _ _ _ _ _) (by omega) ?_ ?_ n (by omega) s2 (by omega)
   ·intro m q hq s3 hs3
    have w3:wrap .i64 ((b.Library.Cells[k].Pins.length:Int)-2)=(b.Library.Cells[k].Pins.length:Int)-2:=Af (by omega) (by omega)
    simp only [Ia.eq_2,DH hq,cT,RG,Fk,As,Bn,w3,wT q]
    by_cases c:b.Library.Cells[k].Kind=1∧p<b.Library.Cells[k].Pins.length-1∧q<b.Library.Cells[k].Pins.length-1∧p≠q
    ·obtain⟨c1,c2,c3,c4⟩:=c
     have d1:(decide ((p:Int)>=0)&&decide ((p:Int)<=(b.Library.Cells[k].Pins.length:Int)-2))=true:=Ln.2 (by omega)
     have d2:(decide ((q:Int)>=0)&&decide ((q:Int)<=(b.Library.Cells[k].Pins.length:Int)-2))=true:=Ln.2 (by omega)
     have d3:(b.Library.Cells[k].Kind==1)=true:=by rw [beq_iff_eq];exact c1
     have d5:((p:Int) !=(q:Int))=true:=by rw [bne_iff_ne];omega
     have p1:=Sx (n:=n) vd (q:=p) hi (by omega) hn
     have p2:=Sx (n:=n) vd (q:=q) hi (by omega) hn
     have b1:=(Em (d:=b.Design) (q:=p) hi (by omega)).lt
     have b2:=(Em (d:=b.Design) (q:=q) hi (by omega)).lt
     have lv:=UV (n:=n) vc c1 c2 c3 c4 hn
     obtain⟨O,hO⟩:∃O:Nat,O=FQ b.Design i:=⟨_,rfl⟩
     rw [←hO]at p1 p2 b1 b2
     have x1:wrap .i64 (2*((O+p:Nat):Int))=((2*(O+p):Nat):Int):=by rw [Af (by omega) (by omega)];omega
     have x2:wrap .i64 (2*((O+q:Nat):Int))=((2*(O+q):Nat):Int):=by rw [Af (by omega) (by omega)];omega
     have x3:wrap .i64 (((2*(O+p):Nat):Int)+1)=((2*(O+p)+1:Nat):Int):=by rw [Af (by omega) (by omega)];omega
     have x4:wrap .i64 (((2*(O+q):Nat):Int)+1)=((2*(O+q)+1:Nat):Int):=by rw [Af (by omega) (by omega)];omega
     simp only [d1,d2,d3,d5,Bool.and_self,Bool.not_true,cF,p1,p2,lv,As,x1,x2,x3,x4,HO (show 2*(O+p)<out.length by omega),HO (show 2*(O+p)+1<out.length by omega),HO (show 2*(O+q)<out.length by omega),HO (show 2*(O+q)+1<out.length by omega),EY,Bn]
     have eB:((((gb out (2*(O+p))||gb out (2*(O+p)+1))&& !gb out (2*(O+q)))&& !gb out (2*(O+q)+1))&&(RD n b.Library.Cells[k] p q==0||RD n b.Library.Cells[k] p q==1))=Xz n b.Library.Cells[k] O out p q:=by
      unfold Xz nX
      rw [Bool.not_or,←Bool.and_assoc]
     rw [eB]
     unfold RP
     rw [if_pos ⟨c1,c2,c3,c4⟩,←hO]
     cases hh:Xz n b.Library.Cells[k] O out p q with
     |true=>rw [cT,if_pos rfl,BN (by simp;omega) (by omega),As]
     |false=>rw [cF,if_neg (by simp),List.append_nil]
    ·have eF:(((b.Library.Cells[k].Kind==1&&(decide ((p:Int)>=0)&&decide ((p:Int)<=(b.Library.Cells[k].Pins.length:Int)-2)))&&(decide ((q:Int)>=0)&&decide ((q:Int)<=(b.Library.Cells[k].Pins.length:Int)-2)))&&((p:Int) !=(q:Int)))=false:=by
      cases hh:(((b.Library.Cells[k].Kind==1&&(decide ((p:Int)>=0)&&decide ((p:Int)<=(b.Library.Cells[k].Pins.length:Int)-2)))&&(decide ((q:Int)>=0)&&decide ((q:Int)<=(b.Library.Cells[k].Pins.length:Int)-2)))&&((p:Int) !=(q:Int)))with
      |false=>rfl
      |true=>
       simp only [Bool.and_eq_true,beq_iff_eq,decide_eq_true_eq,bne_iff_ne]at hh
       exact absurd ⟨hh.1.1.1,by omega,by omega,by omega⟩ c
     rw [eF]
     simp only [Bool.not_false,cT]
     unfold RP
     rw [if_neg c,List.append_nil]
   ·intro m s
    simp only [Ia.eq_2,DQ,cF]
  ·intro m s
   simp only [KF.eq_2,DQ,cF]) (by
  intro m s
  simp only [Ib.eq_2,DQ,cF]) n (by omega) [] (by simp)]
 rw [List.nil_append];rfl
theorem rZ{n:Nat}{b:AI}{br:List Int}{p:Int}(hb:NO b)(hbr:br.length<=1048576)(hn:1048577<=n):BK (fun r=>r.1.length<=1048576) (iU n b br p):=by
 rw [iU,YX,QS]
 obtain⟨c,e1,hc⟩:=ZD (n:=n) hb hn
 rw [e1]
 simp only [As]
 cases c with
 |false=>exact AP (by simp)
 |true=>
  have v:=hc.1 rfl
  have vd:=v.design
  have hl:=CS vd.short vd.few.1 vd.few.2.2
  have hL:=Gv v
  obtain⟨r,f1,hr⟩:=rW (n:=n) (br:=br) (N:=((IC b).length:Int)) hbr (by omega) hn
  simp only [Bool.not_true,cF,RQ v hn,As,f1]
  cases r with
  |false=>exact AP (by simp)
  |true=>
   have wx:wrap .i64 (((pls b.Design).length:Int)-1)=((pls b.Design).length:Int)-1:=Af (by omega) (by omega)
   simp only [Bool.not_true,cF,As,bne_self_eq_false,NM vd.short vd.few.1 vd.few.2.2 hn,List.length_map,Fk,wx]
   cases q:(decide (p>=0)&&decide (p<=((pls b.Design).length:Int)-1))with
   |false=>exact AP (by simp)
   |true=>
    have:=Ln.1 q
    obtain⟨P,rfl⟩:=Int.eq_ofNat_of_zero_le this.1
    have hP:P<(pls b.Design).length:=by omega
    obtain⟨o1,g1,r1⟩:=Zb (n:=n) v hbr hP hn
    have g2:dB n b br (Int.ofNat P)=some o1:=g1
    have ol:=r1.len
    have ll:=Xu (n:=n) (out:=o1) v
    simp only [Bool.not_true,cF,As,bne_self_eq_false,g1,g2,oK v ol hn]
    exact AP (by show(kH n b o1).length<=1048576;omega)
theorem iO{n:Nat}{c:List Int}(hc:IV c){s0:AA}(e0:s0.code_=c)(st:Int):∀(m k:Nat) (l:List Int) (x a d:Int),k<m->l.length+k<=3->Do c (AA.mk s0.code_ a d)->
 BK (fun r=>r.1.length=l.length+k∧Do c r.2) (JJ n s0 st (fun l38 i42 i43 i45 i46=>(some (l38,(AA.mk s0.code_ i45 i46)))) m l x (k:Int) a d)
 |0,k,l,x,a,d,hm,_,_=>by omega
 |m+1,0,l,x,a,d,hm,hl,hs=>by
  rw [JJ.eq_2]
  exact AP ⟨rfl,hs⟩
 |m+1,k+1,l,x,a,d,hm,hl,hs=>by
  have hp:decide (((k+1:Nat):Int)>0)=true:=decide_eq_true (by omega)
  have w:wrap .i64 (((k+1:Nat):Int)-1)=(k:Int):=by rw [Af (by omega) (by omega)];omega
  rw [JJ.eq_2,hp,cT,BN (by simp;omega) (by omega),As]
  refine BK.bind (Nx hc hs st) fun r _ ⟨h1,_⟩=>?_
  rw [w]
  exact(iO hc e0 st m k (l++[x]) _ _ _ (by omega) (by simp;omega) (h1.mk2 e0)).weaken fun r ⟨q1,q2⟩=>⟨by rw [q1];simp;omega,q2⟩
theorem qW{n:Nat}{c:List Int}(hc:IV c){s:AA}(hs:Do c s)(st:Int)(hn:1048577<=n):BK (fun r=>(1<=r.1.length∧r.1.length<=3)∧Do c r.2) (TO n s st):=by
 rw [TO]
 refine BK.bind (Nx hc hs st) fun r _ ⟨h1,_⟩=>BK.bind (Nx hc (h1.mk2 hs.code) 3) fun q _ ⟨k1,k2,k3⟩=>?_
 have w:wrap .i64 (1+q.1)=((1+q.1.toNat:Nat):Int):=by rw [Af (by omega) (by omega)];omega
 rw [w]
 exact(iO hc hs.code st n _ [] _ _ _ (by omega) (by simp;omega) (k1.mk2 hs.code)).weaken fun r ⟨q1,q2⟩=>⟨⟨by rw [q1];simp,by rw [q1];simp;omega⟩,q2⟩
theorem jJ{n:Nat}{c:List Int}(hc:IV c){s0:AA}(e0:s0.code_=c)(base:Int){r15 r26:List Int×AA}(h15:r15.1.length<=3)(h26:1<=r26.1.length∧r26.1.length<=3):∀(m i:Nat) (l:List Int) (a d:Int),r15.1.length*r26.1.length-i<m->i<=r15.1.length*r26.1.length->l.length=i->Do c (AA.mk s0.code_ a d)->
 BK (fun r=>WG r.1∧Do c r.2) (GK n s0 base r15 r26 (fun l52 i56 i58 i59=>(some ((BR.mk r15.1 r26.1 l52),(AA.mk s0.code_ i58 i59)))) m l (i:Int) a d)
 |0,i,l,a,d,hm,_,_,_=>by omega
 |m+1,i,l,a,d,hm,hi,hl,hs=>by
  have hprod:r15.1.length*r26.1.length<=3*3:=Nat.mul_le_mul h15 h26.2
  have wp:wrap .i64 ((r15.1.length:Int)*(r26.1.length:Int))=((r15.1.length*r26.1.length:Nat):Int):=by
   rw [←Int.natCast_mul,Af (by omega) (by omega)]
  rw [GK.eq_2,wp]
  by_cases c0:i<r15.1.length*r26.1.length
  ·rw [DH c0,cT]
   refine BK.bind (Nx hc hs 10) fun r _ ⟨h1,_⟩=>?_
   have hz:((r26.1.length:Int)==0)=false:=by rw [beq_eq_false_iff_ne];omega
   have tm:Int.tmod (i:Int) (r26.1.length:Int)=((i%r26.1.length:Nat):Int):=rfl
   have go1:∀(z:Int) (s':AA),Do c s'->BK (fun r=>WG r.1∧Do c r.2) (Option.bind (CA l [z] 8) fun z1=>GK n s0 base r15 r26 (fun l52 i56 i58 i59=>(some ((BR.mk r15.1 r26.1 l52),(AA.mk s0.code_ i58 i59)))) m z1 (wrap .i64 ((i:Int)+1)) s'.at_ s'.seed_):=fun z s' h'=>by
    rw [BN (by simp;omega) (by omega),As,wS (by omega)]
    exact jJ hc e0 base h15 h26 m (i+1) _ _ _ (by omega) (by omega) (by simp;omega) (h'.mk2 e0)
   have g2:(i:Int)>=(r26.1.length:Int)->∃x,AL l (wrap .i64 ((i:Int)-(r26.1.length:Int)))=some x:=fun h=>by
    rw [Af (by omega) (by omega)]
    obtain⟨x,hx,_⟩:=Ei (xs:=l) (i:=(i:Int)-(r26.1.length:Int)) (by omega) (by omega)
    exact⟨x,hx⟩
   rw [hz,cF,tm]
   refine Ap (fun q1=>?_) fun q1=>?_
   ·have q1:=of_decide_eq_true q1
    have hi0:0<i:=by
     rcases Nat.eq_zero_or_pos i with e|e
     ·subst e;simp at q1
     ·exact e
    have w1:wrap .i64 ((i:Int)-1)=((i-1:Nat):Int):=by rw [Af (by omega) (by omega)];omega
    rw [w1,AY (show i-1<l.length by omega),As]
    refine BK.bind (Nx hc (h1.mk2 e0) 20) fun r2 _ ⟨h2,_⟩=>Ap (fun q2=>?_) fun _=>go1 _ _ h2
    obtain⟨x,hx⟩:=g2 (of_decide_eq_true q2)
    rw [hx,As]
    exact BK.bind (Nx hc (h2.mk2 e0) 20) fun r3 _ ⟨h3,_⟩=>go1 _ _ h3
   ·refine Ap (fun q2=>?_) fun _=>go1 _ _ h1
    obtain⟨x,hx⟩:=g2 (of_decide_eq_true q2)
    rw [hx,As]
    exact BK.bind (Nx hc (h1.mk2 e0) 20) fun r3 _ ⟨h3,_⟩=>go1 _ _ h3
  ·rw [show decide ((i:Int)<((r15.1.length*r26.1.length:Nat):Int))=false from decide_eq_false (by omega),cF]
   exact AP ⟨⟨by show r15.1.length<=_;omega,by show r26.1.length<=_;omega,by show l.length<=_;omega⟩,hs⟩
theorem rA{n:Nat}{c:List Int}(hc:IV c){s:AA}(hs:Do c s)(base:Int)(hn:1048577<=n):BK (fun r=>WG r.1∧Do c r.2) (TP n s base):=by
 rw [TP]
 refine BK.bind (qW hc hs 60 hn) fun r _ ⟨h1,h2⟩=>BK.bind (qW hc (h2.mk2 hs.code) 40 hn) fun q _ ⟨k1,k2⟩=>?_
 have:r.1.length*q.1.length<=3*3:=Nat.mul_le_mul h1.2 k1.2
 exact jJ hc hs.code base h1.2 k1 n 0 [] _ _ (by omega) (by omega) rfl (k2.mk2 hs.code)
theorem nB{n:Nat}{c:List Int}(hc:IV c){s:AA}(hs:Do c s)(base:Int)(hn:1048577<=n):BK (fun r=>(r.1.length<=1048576∧∀t∈r.1,WG t)∧Do c r.2) (Rz n s base):=by
 rw [Rz]
 refine BK.bind (rA hc hs base hn) fun r _ ⟨h1,h2⟩=>BK.bind (rA hc (h2.mk2 hs.code) base hn) fun q _ ⟨k1,k2⟩=>AP ⟨⟨by simp,fun t ht=>?_⟩,k2.mk2 hs.code⟩
 rcases List.mem_cons.1 ht with e|ht
 ·rw [e];exact h1
 ·rw [List.mem_singleton.1 ht];exact k1
theorem gX{n:Nat}{c:List Int}(hc:IV c){s:AA}(hs:Do c s)(kd f t z:Int)(hn:1048577<=n):BK (fun r=>iK r.1∧Do c r.2) (Po n s kd f t z):=by
 rw [Po]
 refine Ap (fun _=>?_) fun _=>?_
 ·exact BK.bind (Nx hc hs 10) fun r _ ⟨h1,_⟩=>BK.bind (nB hc (h1.mk2 hs.code) _ hn) fun q _ ⟨k1,k2⟩=>AP ⟨⟨k1,by simp⟩,k2.mk2 hs.code⟩
 ·exact BK.bind (Nx hc hs 20) fun r _ ⟨h1,_⟩=>BK.bind (nB hc (h1.mk2 hs.code) _ hn) fun q _ ⟨k1,k2⟩=>BK.bind (nB hc (k2.mk2 hs.code) 10 hn) fun p _ ⟨p1,p2⟩=>AP ⟨⟨k1,p1⟩,p2.mk2 hs.code⟩
theorem mN:∀k:Nat,k<4->∀i:Nat,i<2^k->∀b:Nat,b<k->(Lx .i64 (i:Int) (Je .i64 1 (IntKind.wrap IntKind.u64 (b:Int))) !=0)=true∨(0<=wrap .i64 ((i:Int)+(Je .i64 1 (IntKind.wrap IntKind.u64 (b:Int))))∧wrap .i64 ((i:Int)+(Je .i64 1 (IntKind.wrap IntKind.u64 (b:Int))))<((2^k:Nat):Int)):=by decide+kernel
theorem uB{n:Nat}{cl:Al}{k b:Nat}(hk:k<4)(ht:cl.Truth.length=2^k)(hb:b<k)(hn:1048577<=n):BK (fun _=>True) (UQ n cl (b:Int)):=by
 have h16:2^k<=2^4:=Nat.pow_le_pow_right (by omega) (by omega)
 have wb:IntKind.wrap IntKind.u64 (b:Int)=(b:Int):=by
  have:∀b:Nat,b<4->IntKind.wrap IntKind.u64 (b:Int)=(b:Int):=by decide+kernel
  exact this b (by omega)
 rw [UQ,wb,decide_eq_false (by omega),cF]
 refine loop (L:=fun m i (p:Bool×Bool)=>Hj cl (b:Int) _ m p.1 p.2 i) cl.Truth.length (fun _ _=>True) (fun o=>BK (fun _=>True) o) ?_ ?_ n 0 (false,false) (by omega) (by omega) trivial
 ·intro m i p hi _
  have h8:=mN k hk i (by omega) b hb
  simp only [Hj.eq_2,DH hi,cT,wT i]
  rcases h8 with h8|h8
  ·simp only [h8,cT]
   exact .inl ⟨p,trivial,rfl⟩
  ·obtain⟨y,hy,_⟩:=Ei (xs:=cl.Truth) h8.1 (by rw [ht];exact h8.2)
   cases hx:(Lx .i64 (i:Int) (Je .i64 1 (IntKind.wrap IntKind.u64 (b:Int))) !=0)with
   |true=>simp only [cT];exact .inl ⟨p,trivial,rfl⟩
   |false=>
    simp only [cF,AY hi,hy,As]
    obtain⟨p1,p2⟩:=p
    cases p1<;>cases p2<;>exact .inl ⟨(_,_),trivial,rfl⟩
 ·intro m p _
  simp only [Hj.eq_2,DQ,cF]
  obtain⟨p1,p2⟩:=p
  cases p1<;>cases p2<;>exact AP trivial
theorem uO{j:Nat}(h:j<4):∃x:ByteArray,AL ([(ByteArray.mk #[97]),(ByteArray.mk #[98]),(ByteArray.mk #[99]),(ByteArray.mk #[100])]) (j:Int)=some x∧x.size<=1048576:=by
 match j,h with
 |0,_=>exact⟨_,rfl,by decide⟩
 |1,_=>exact⟨_,rfl,by decide⟩
 |2,_=>exact⟨_,rfl,by decide⟩
 |3,_=>exact⟨_,rfl,by decide⟩
theorem hG{n:Nat}{c:List Int}(hc:IV c){s0:AA}(e0:s0.code_=c){T:List Int}{k:Nat}(hk:k<4)(hT:T.length=2^k){Q:Al×AA->Prop}{k0:List Bt->Int->Int->Int->Option (Al×AA)}
 (h0:∀l i a d,l.length=k->Zh l->Do c (AA.mk s0.code_ a d)->BK Q (k0 l i a d)):∀(m j:Nat) (l:List Bt) (a d:Int),k-j<m->j<=k->l.length=j->Zh l->Do c (AA.mk s0.code_ a d)->
 BK Q (NA n s0 T k0 m l ((2^j:Nat):Int) a d)
 |0,j,l,a,d,hm,_,_,_,_=>by omega
 |m+1,j,l,a,d,hm,hj,hl,hp,hs=>by
  rw [NA.eq_2,hT]
  by_cases q:j<k
  ·have h2:2^j<2^k:=Nat.pow_lt_pow_right (by omega) q
   have h16:2^k<=2^4:=Nat.pow_le_pow_right (by omega) (by omega)
   have hw:wrap .i64 (2*((2^j:Nat):Int))=((2^(j+1):Nat):Int):=by
    rw [Nat.pow_succ]
    generalize 2^j=P at h2 ⊢
    rw [Af (by omega) (by omega)];omega
   obtain⟨x,hx,hz⟩:=uO (j:=j) (by omega)
   rw [DH h2,cT,hl,hx,As,hw]
   refine BK.bind (Nx hc hs 9) fun r _ ⟨h1,_⟩=>?_
   rw [BN (by simp;omega) (by omega),As]
   refine hG hc e0 hk hT h0 m (j+1) _ _ _ (by omega) (by omega) (by simp;omega) ⟨by simp;omega,fun p hp2=>?_⟩ (h1.mk2 e0)
   rcases List.mem_append.1 hp2 with h|h
   ·exact hp.2 p h
   ·rw [List.mem_singleton.1 h];exact hz
  ·obtain rfl:j=k:=by omega
   rw [DQ,cF]
   exact h0 l _ a d hl hp hs
theorem aL{n:Nat}(hn:1048577<=n){c:List Int}(hc:IV c){s0:AA}(e0:s0.code_=c){T:List Int}{k:Nat}(hk:k<4)(hT:T.length=2^k){nm:ByteArray}(hnm:nm.size<=1048576){r33 r41:Int×AA}{ps z:List Bt}(hps:ps.length=k)(hz:Zh z):∀(m i:Nat) (l:List Bg) (a d:Int),k-i<m->i<=k->l.length<=i->(∀x∈l,iK x)->Do c (AA.mk s0.code_ a d)->
 BK (fun r=>Tp r.1∧Do c r.2) (KE n s0 nm T r33 r41 ps z (fun l144 i148 i150 i151=>(some ((Al.mk nm 1 z l144 T r33.1 r41.1),(AA.mk s0.code_ i150 i151)))) m l (i:Int) a d)
 |0,i,l,a,d,hm,_,_,_,_=>by omega
 |m+1,i,l,a,d,hm,hi,hl,hA,hs=>by
  have h16:2^k<=2^4:=Nat.pow_le_pow_right (by omega) (by omega)
  rw [KE.eq_2,hps]
  by_cases q:i<k
  ·rw [DH q,cT,wS (by omega)]
   refine BK.bind (uB (cl:=Al.mk nm 1 z [] T r33.1 r41.1) hk hT q hn) fun sn _ _=>Ap (fun _=>?_) fun _=>aL hn hc e0 hk hT hnm hps hz m (i+1) l a d (by omega) (by omega) (by omega) hA hs
   refine BK.bind (gX hc hs 1 _ _ _ hn) fun r _ ⟨h1,h2⟩=>?_
   rw [BN (by simp;omega) (by omega),As]
   refine aL hn hc e0 hk hT hnm hps hz m (i+1) _ _ _ (by omega) (by omega) (by simp;omega) (fun x hx=>?_) (h2.mk2 e0)
   rcases List.mem_append.1 hx with h|h
   ·exact hA x h
   ·rw [List.mem_singleton.1 h];exact h1
  ·obtain rfl:i=k:=by omega
   rw [DQ,cF]
   exact AP ⟨⟨hnm,hz,⟨by show l.length<=_;omega,hA⟩,by show T.length<=_;omega⟩,hs⟩
theorem iZ{n:Nat}{c:List Int}(hc:IV c){s:AA}(hs:Do c s){nm:ByteArray}(hnm:nm.size<=1048576){T:List Int}{k:Nat}(hk:k<4)(hT:T.length=2^k)(hn:1048577<=n):BK (fun r=>Tp r.1∧Do c r.2) (Ya n s nm T):=by
 rw [Ya]
 refine BK.bind (Nx hc hs 50) fun r _ ⟨h1,_⟩=>BK.bind (Nx hc (h1.mk2 hs.code) 80) fun q _ ⟨h2,_⟩=>?_
 have:=hG (n:=n) (s0:=s) (Q:=fun r=>Tp r.1∧Do c r.2) hc hs.code hk hT (k0:=fun l75 i79 i81 i82=>(Option.bind (CA l75 ([(Bt.mk ((ByteArray.mk #[121])) 2 0 false)]) 40) fun z106=>(KE n s nm T r q l75 z106 (fun l144 i148 i150 i151=>(some ((Al.mk nm 1 z106 l144 T r.1 q.1),(AA.mk s.code_ i150 i151)))) n (([]:List Bg)) 0 i81 i82))) (fun l i a d hl hp hs2=>by
  rw [BN (by simp;omega) (by omega),As]
  refine aL hn hc hs.code hk hT hnm hl ⟨by simp;omega,fun p hp2=>?_⟩ n 0 [] a d (by omega) (by omega) (by simp) (by simp) hs2
  rcases List.mem_append.1 hp2 with h|h
  ·exact hp.2 p h
  ·rw [List.mem_singleton.1 h];exact(by decide:(ByteArray.mk #[121]).size<=1048576)) n 0 [] q.2.at_ q.2.seed_ (by omega) (by omega) rfl ⟨by simp,by simp⟩ (h2.mk2 hs.code)
 exact this
theorem kO{n:Nat}{c:List Int}(hc:IV c){s:AA}(hs:Do c s){nm:ByteArray}(hnm:nm.size<=1048576)(kd ed:Int)(hn:1048577<=n):BK (fun r=>Tp r.1∧Do c r.2) (Rl n s nm kd ed):=by
 have e:=hs.code
 have pins:∀x y:Int,Zh [(Bt.mk ((ByteArray.mk #[100])) 1 x false),(Bt.mk ((ByteArray.mk #[99,107])) 1 y true),(Bt.mk ((ByteArray.mk #[113])) 2 0 false)]:=fun x y=>⟨by simp,fun p hp=>by
  rcases List.mem_cons.1 hp with h|hp
  ·rw [h];exact(by decide:(ByteArray.mk #[100]).size<=1048576)
  ·rcases List.mem_cons.1 hp with h|hp
   ·rw [h];exact(by decide:(ByteArray.mk #[99,107]).size<=1048576)
   ·rw [List.mem_singleton.1 hp];exact(by decide:(ByteArray.mk #[113]).size<=1048576)⟩
 rw [Rl]
 refine BK.bind (Nx hc hs 50) fun r1 _ ⟨h1,_⟩=>BK.bind (Nx hc (h1.mk2 e) 80) fun r2 _ ⟨h2,_⟩=>BK.bind (Nx hc (h2.mk2 e) 9) fun r3 _ ⟨h3,_⟩=>BK.bind (Nx hc (h3.mk2 e) 9) fun r4 _ ⟨h4,_⟩=>BK.bind (gX hc (h4.mk2 e) _ _ _ _ hn) fun r5 _ ⟨a5,h5⟩=>BK.bind (gX hc (h5.mk2 e) _ _ _ _ hn) fun r6 _ ⟨a6,h6⟩=>BK.bind (gX hc (h6.mk2 e) _ _ _ _ hn) fun r7 _ ⟨a7,h7⟩=>Ap (fun _=>?_) fun _=>?_
 ·refine BK.bind (gX hc (h7.mk2 e) _ _ _ _ hn) fun r8 _ ⟨a8,h8⟩=>?_
  rw [BN (by simp) (by omega),As]
  refine AP ⟨⟨hnm,pins _ _,⟨by simp,fun x hx=>?_⟩,by simp⟩,h8.mk2 e⟩
  simp only [List.cons_append,List.nil_append,List.mem_cons,List.not_mem_nil,or_false]at hx
  rcases hx with h|h|h|h<;>rw [h]<;>assumption
 ·refine AP ⟨⟨hnm,pins _ _,⟨by simp,fun x hx=>?_⟩,by simp⟩,h7.mk2 e⟩
  simp only [List.mem_cons,List.not_mem_nil,or_false]at hx
  rcases hx with h|h|h<;>rw [h]<;>assumption
theorem Tp.re{cl:Al}(h:Tp cl){T:List Int}(hT:T.length<=1048576):Tp (Al.mk cl.Name cl.Kind cl.Pins cl.Arcs T cl.Leak cl.Energy):=⟨h.name,h.pins,h.arcs,hT⟩
theorem uE{n:Nat}{c:List Int}(hc:IV c){s:AA}(hs:Do c s)(hn:1048577<=n):BK (fun r=>Ry r.1∧Do c r.2) (UW n s):=by
 have e:=hs.code
 rw [UW]
 refine BK.bind (iZ hc hs (k:=1) (by decide) (by decide) (by decide) hn) fun r1 _ ⟨a1,h1⟩=>BK.bind (iZ hc (h1.mk2 e) (k:=1) (by decide) (by decide) (by decide) hn) fun r2 _ ⟨a2,h2⟩=>BK.bind (iZ hc (h2.mk2 e) (k:=2) (by decide) (by decide) (by decide) hn) fun r3 _ ⟨a3,h3⟩=>BK.bind (iZ hc (h3.mk2 e) (k:=2) (by decide) (by decide) (by decide) hn) fun r4 _ ⟨a4,h4⟩=>BK.bind (iZ hc (h4.mk2 e) (k:=3) (by decide) (by decide) (by decide) hn) fun r5 _ ⟨a5,h5⟩=>BK.bind (kO hc (h5.mk2 e) (by decide) _ _ hn) fun r6 _ ⟨a6,h6⟩=>BK.bind (kO hc (h6.mk2 e) (by decide) _ _ hn) fun r7 _ ⟨a7,h7⟩=>BK.bind (kO hc (h7.mk2 e) (by decide) _ _ hn) fun r8 _ ⟨a8,h8⟩=>?_
 have b1:=a1.re (T:=[1,0]) (by decide)
 have b2:=a2.re (T:=[0,1]) (by decide)
 have b3:=a3.re (T:=[1,1,1,0]) (by decide)
 have b4:=a4.re (T:=[0,1,1,0]) (by decide)
 have b5:=a5.re (T:=[0,1,0,1,0,0,1,1]) (by decide)
 refine AP ⟨⟨by simp,fun x hx=>?_⟩,h8.mk2 e⟩
 simp only [List.mem_cons,List.not_mem_nil,or_false]at hx
 rcases hx with h|h|h|h|h|h|h|h<;>rw [h]<;>assumption
theorem Hy{α:Type}{A:α->Prop}{o:Option α}{f:α->Option Unit}(h:BK A o)(k:∀v,A v->f v=some ()):Option.bind o f=some ():=by
 obtain⟨v,e,hv⟩:=h
 rw [e];exact k v hv
theorem ED{b:Bool}{x y:Option Unit}(h1:b=true->x=some ())(h2:b=false->y=some ()):(cond b x y)=some ():=by
 cases b
 ·exact h2 rfl
 ·exact h1 rfl
theorem WH{α:Type}{l y:List α}(h:Fb Eq l y):y=l:=by
 apply List.ext_getElem?
 intro i
 by_cases c:i<l.length
 ·have h1:l[i]? =some l[i]:=List.getElem?_eq_getElem c
  have h2:y[i]? =some (y[i]'(by have:=h.1;omega)):=List.getElem?_eq_getElem _
  rw [h1,h2,h.2 i _ _ h1 h2]
 ·rw [List.getElem?_eq_none (by have:=h.1;omega),List.getElem?_eq_none (by omega)]
theorem Rp{α:Type}{r:α->α->Prop}{Q R:α->Prop}{l y:List α}(h:Fb r l y)(hl:∀x∈l,Q x)(hr:∀x z,r x z->Q x->R z):∀z∈y,R z:=fun z hz=>by
 obtain⟨i,hi,rfl⟩:=List.mem_iff_getElem.1 hz
 have hi2:i<l.length:=by have:=h.1;omega
 exact hr l[i] y[i] (h.2 i _ _ (List.getElem?_eq_getElem hi2) (List.getElem?_eq_getElem hi)) (hl _ (List.getElem_mem hi2))
def LN(x:Aq):Prop:=x.Name.size<=1000∧1<=x.Nets.length∧x.Nets.length<=5
structure LH(d:AV):Prop where
 inst:d.Instances.length<=6∧∀x∈d.Instances,LN x
 nets:(3<=d.Nets.length∧d.Nets.length<=9)∧∀x∈d.Nets,x.size<=1000
 ports:(3<=d.Ports.length∧d.Ports.length<=5)∧∀p∈d.Ports,p.Name.size<=1000
theorem LN.shp{l y:List Aq}(h:Fb Gm l y)(hl:∀x∈l,LN x):∀z∈y,LN z:=
 Rp h hl fun x z hr hx=>⟨by rw [←hr.1];exact hx.1,by rw [hr.2.2.1];exact hx.2.1,by rw [hr.2.2.1];exact hx.2.2⟩
theorem Na{x y:ByteArray}(h:x.size+y.size<=1000):NL x y=some (x++y)∧(x++y).size=x.size+y.size:=by
 refine⟨?_,ByteArray.size_append⟩
 unfold NL
 rw [if_neg (by
  have:IntKind.i64.max=9223372036854775807:=rfl
  rw [this];omega)]
theorem gK{j:Nat}(h:j<12):∃(x:Int) (p:Nat),AL [0,1,2,2,3,4,5,5,5,6,7,1] (j:Int)=some x∧AL [2,2,3,3,4,3,3,3] x=some (p:Int)∧2<=p∧p<=4:=by
 match j,h with
 |0,_=>exact⟨0,2,rfl,rfl,by omega,by omega⟩
 |1,_=>exact⟨1,2,rfl,rfl,by omega,by omega⟩
 |2,_=>exact⟨2,3,rfl,rfl,by omega,by omega⟩
 |3,_=>exact⟨2,3,rfl,rfl,by omega,by omega⟩
 |4,_=>exact⟨3,3,rfl,rfl,by omega,by omega⟩
 |5,_=>exact⟨4,4,rfl,rfl,by omega,by omega⟩
 |6,_=>exact⟨5,3,rfl,rfl,by omega,by omega⟩
 |7,_=>exact⟨5,3,rfl,rfl,by omega,by omega⟩
 |8,_=>exact⟨5,3,rfl,rfl,by omega,by omega⟩
 |9,_=>exact⟨6,3,rfl,rfl,by omega,by omega⟩
 |10,_=>exact⟨7,3,rfl,rfl,by omega,by omega⟩
 |11,_=>exact⟨1,2,rfl,rfl,by omega,by omega⟩
theorem iN{n:Nat}{c:List Int}(hc:IV c){s0:AA}(e0:s0.code_=c){nets:List ByteArray}{cell:Int}{p:Nat}(hp:AL [2,2,3,3,4,3,3,3] cell=some (p:Int))(hp2:2<=p∧p<=4){k2:Int->Int->Int->ByteArray->Int->List Int->Option Unit}{t:ByteArray}{i2:Int}
 (hk:∀a d l,l.length=p-1->Do c (AA.mk s0.code_ a d)->k2 ((p-1:Nat):Int) a d t i2 l=some ()):∀(m i:Nat) (a d:Int) (l:List Int),p-1-i<m->i<=p-1->l.length=i->Do c (AA.mk s0.code_ a d)->
 Hv n s0 nets cell k2 m (i:Int) a d t i2 l=some ()
 |0,i,a,d,l,hm,_,_,_=>by omega
 |m+1,i,a,d,l,hm,hi,hl,hs=>by
  have wp:wrap .i64 ((p:Int)-1)=((p-1:Nat):Int):=by rw [Af (by omega) (by omega)];omega
  rw [Hv.eq_2,hp,As,wp]
  by_cases q:i<p-1
  ·have go1:∀(x:Int) (s':AA),Do c s'->(Option.bind (CA (([]:List Int)) l 8) fun z=>(Option.bind (CA z [x] 8) fun z2=>(Hv n s0 nets cell k2 m (wrap .i64 ((i:Int)+1)) s'.at_ s'.seed_ t i2 z2)))=some ():=fun x s' h'=>by
    rw [BN (by simp;omega) (by omega),As,List.nil_append,BN (by simp;omega) (by omega),As,wS (by omega)]
    exact iN hc e0 hp hp2 hk m (i+1) _ _ _ (by omega) (by omega) (by simp;omega) (h'.mk2 e0)
   rw [DH q,cT]
   exact Hy (Nx hc hs _) fun r1 ⟨h1,_⟩=>Hy (Nx hc (h1.mk2 e0) 3) fun r2 ⟨h2,_⟩=>ED (fun _=>ED (fun _=>go1 _ _ h2) fun _=>go1 _ _ h2) fun _=>ED (fun _=>go1 _ _ h2) fun _=>go1 _ _ h2
  ·obtain rfl:i=p-1:=by omega
   rw [DQ,cF]
   exact hk a d l hl hs
theorem fD{n:Nat}(hn:1048577<=n){c:List Int}(hc:IV c){s0:AA}(e0:s0.code_=c){k0:List Aq->List ByteArray->Int->Int->Int->Option Unit}
 (hk:∀l nets i a d,l.length<=6->nets.length=3+l.length->(∀x∈l,LN x)->(∀x∈nets,ByteArray.size x<=1000)->Do c (AA.mk s0.code_ a d)->k0 l nets i a d=some ()):∀(m k:Nat) (l:List Aq) (nets:List ByteArray) (a d:Int),k<m->l.length+k<=6->nets.length=3+l.length->(∀x∈l,LN x)->(∀x∈nets,ByteArray.size x<=1000)->Do c (AA.mk s0.code_ a d)->
 Li n s0 k0 m l nets (k:Int) a d=some ()
 |0,k,l,nets,a,d,hm,_,_,_,_,_=>by omega
 |m+1,0,l,nets,a,d,hm,hl,hnl,hI,hN,hs=>by
  rw [Li.eq_2]
  exact hk l nets _ a d (by omega) hnl hI hN hs
 |m+1,k+1,l,nets,a,d,hm,hl,hnl,hI,hN,hs=>by
  have hp:decide (((k+1:Nat):Int)>0)=true:=decide_eq_true (by omega)
  have w:wrap .i64 (((k+1:Nat):Int)-1)=(k:Int):=by rw [Af (by omega) (by omega)];omega
  rw [Li.eq_2,hp,cT]
  refine Hy (Nx hc hs 12) fun r ⟨h1,r0,r1⟩=>?_
  obtain⟨x,p,ex,ep,p2,p4⟩:=gK (j:=r.1.toNat) (by omega)
  rw [Int.toNat_of_nonneg r0]at ex
  rw [ex,As]
  refine Hy (rU (n:=n) (k:=l.length) (by omega) hn) fun t ht=>?_
  obtain⟨c1,c2⟩:=Na (x:=ByteArray.mk #[117]) (y:=t) (by have:(ByteArray.mk #[117]).size=1:=rfl;omega)
  have z1:(ByteArray.mk #[117]).size=1:=rfl
  have z2:(ByteArray.mk #[110]).size=1:=rfl
  rw [c1,As]
  refine iN hc e0 ep ⟨p2,p4⟩ (fun a2 d2 l2 hl2 hs2=>?_) n 0 _ _ [] (by omega) (by omega) rfl (h1.mk2 e0)
  rw [BN (by simp;omega) (by omega),As,List.nil_append,BN (by simp;omega) (by omega),As]
  refine Hy (rU (n:=n) (k:=nets.length) (by omega) hn) fun t2 ht2=>?_
  obtain⟨c3,c4⟩:=Na (x:=ByteArray.mk #[110]) (y:=t2) (by omega)
  rw [c3,As,BN (by simp;omega) (by omega),As,BN (by simp;omega) (by omega),As,w]
  refine fD hn hc e0 hk m k _ _ _ _ (by omega) (by simp;omega) (by simp;omega) (fun y hy=>?_) (fun y hy=>?_) hs2
  ·rcases List.mem_append.1 hy with h|h
   ·exact hI y h
   ·rw [List.mem_singleton.1 h]
    exact⟨by show(_:ByteArray).size<=1000;rw [c2];omega,by simp,by simp;omega⟩
  ·rcases List.mem_append.1 hy with h|h
   ·exact hN y h
   ·rw [List.mem_singleton.1 h,c4];omega
theorem ZR{n:Nat}{c:List Int}(hc:IV c){s0:AA}(e0:s0.code_=c){O:MW}{wild:Bool}{L:Nat}(hL:L<=6){nets ps:List ByteArray}{k4:Int->Int->Int->List Aq->List ByteArray->List ByteArray->Option Unit}
 (hk:∀i a d l,l.length=L->(∀x∈l,LN x)->Do c (AA.mk s0.code_ a d)->k4 i a d l nets ps=some ()):∀(m i:Nat) (a d:Int) (l:List Aq),L-i<m->i<=L->l.length=L->(∀x∈l,LN x)->Do c (AA.mk s0.code_ a d)->
 Lw n s0 wild O k4 m (i:Int) a d l nets ps=some ()
 |0,i,a,d,l,hm,_,_,_,_=>by omega
 |m+1,i,a,d,l,hm,hi,hl,hI,hs=>by
  rw [Lw.eq_2]
  by_cases q:i<l.length
  ·have hx:=hI _ (List.getElem_mem q)
   rw [DH q,cT,wS (by omega)]
   refine Hy (Nx hc hs 4) fun r ⟨h1,_⟩=>Hy (A:=fun _=>True) (Ap (fun _=>?_) fun _=>AP trivial) fun b _=>ED (fun _=>?_) fun _=>ZR hc e0 hL hk m (i+1) _ _ l (by omega) (by omega) hl hI (h1.mk2 e0)
   ·rw [AY q,As]
    exact BK.bind (A:=fun _=>True) (Ap (fun _=>AP trivial) fun _=>AP trivial) fun _ _ _=>AP trivial
   ·rw [AY q,As]
    refine Hy (Nx hc (h1.mk2 e0) _) fun r2 ⟨h2,_⟩=>?_
    rw [show(0:Int)=((0:Nat):Int)from rfl,AY (show 0<l[i].Nets.length by have:=hx.2.1;omega),As]
    refine O.inn fun y hy=>O.inn fun y2 hy2=>O.inn fun y3 hy3=>?_
    obtain rfl:=WH hy2
    obtain rfl:=WH hy3
    exact ZR hc e0 hL hk m (i+1) _ _ y (by omega) (by omega) (by rw [hy.1];exact hl) (LN.shp hy hI) (h2.mk2 e0)
  ·obtain rfl:i=l.length:=by omega
   rw [DQ,cF]
   exact hk _ a d l hl hI hs
theorem uM{n:Nat}(hn:1048577<=n){c:List Int}(hc:IV c){s:AA}(hs:Do c s){O:MW}{most:Int}(hm:2<=most∧most<=6){wild:Bool}{g:AV×AA->Option Unit}(hg:∀d s',LH d->Do c s'->g (d,s')=some ()):fE n O s most wild g=some ():=by
 have e:=hs.code
 have wm:wrap .i64 (most-1)=most-1:=Af (by omega) (by omega)
 have n3:∀x∈[(ByteArray.mk #[110,99,107]),(ByteArray.mk #[110,97]),(ByteArray.mk #[110,98])],ByteArray.size x<=1000:=by decide
 rw [fE,BN (by simp) (by omega),As,List.nil_append,wm]
 refine Hy (Nx hc hs _) fun r ⟨h1,r0,r1⟩=>?_
 have wr:wrap .i64 (2+r.1)=((2+r.1.toNat:Nat):Int):=by rw [Af (by omega) (by omega)];omega
 rw [wr]
 refine fD hn hc e (fun l nets i a d hl hnl hI hN hs2=>?_) n _ [] _ _ _ (by omega) (by simp;omega) rfl (by simp) n3 (h1.mk2 e)
 have p3:∀x:Int,∀p∈[(CJ.mk ((ByteArray.mk #[99,107])) 1 0),(CJ.mk ((ByteArray.mk #[97])) 1 1),(CJ.mk ((ByteArray.mk #[98])) 1 2),(CJ.mk ((ByteArray.mk #[121])) 2 x)],p.Name.size<=1000:=fun x p hp=>by
  simp only [List.mem_cons,List.not_mem_nil,or_false]at hp
  rcases hp with h|h|h|h
  ·rw [h];exact(by decide:(ByteArray.mk #[99,107]).size<=1000)
  ·rw [h];exact(by decide:(ByteArray.mk #[97]).size<=1000)
  ·rw [h];exact(by decide:(ByteArray.mk #[98]).size<=1000)
  ·rw [h];exact(by decide:(ByteArray.mk #[121]).size<=1000)
 refine ZR hc e hl (fun i a d l2 hl2 hI2 hs3=>?_) n 0 a d l (by omega) (by omega) rfl hI hs2
 rw [BN (by simp) (by omega),As,List.nil_append,BN (by simp) (by omega),As]
 refine Hy (Nx hc hs3 2) fun q ⟨k1,_⟩=>ED (fun _=>Hy (Nx hc (k1.mk2 e) _) fun q2 ⟨k2,_⟩=>?_) fun _=>hg _ _ ⟨⟨by show l2.length<=6;omega,hI2⟩,⟨⟨by show 3<=nets.length;omega,by show nets.length<=9;omega⟩,hN⟩,⟨⟨by simp,by simp⟩,p3 _⟩⟩ (k1.mk2 e)
 rw [BN (by simp) (by omega),As]
 refine hg _ _ ⟨⟨by show l2.length<=6;omega,hI2⟩,⟨⟨by show 3<=nets.length;omega,by show nets.length<=9;omega⟩,hN⟩,⟨⟨by simp,by simp⟩,fun p hp=>?_⟩⟩ (k2.mk2 e)
 rcases List.mem_append.1 hp with h|h
 ·exact p3 _ p h
 ·rw [List.mem_singleton.1 h];exact(by decide:(ByteArray.mk #[122]).size<=1000)
theorem LH.short{d:AV}(h:LH d):∀x∈d.Instances,x.Nets.length<=5:=fun x hx=>(h.inst.2 x hx).2.2
theorem LH.pls{d:AV}(h:LH d):(pls d).length<=78:=CS h.short (by have:=h.inst.1;omega) (by have:=h.ports.1.2;omega)
theorem fR{n:Nat}{d:AV}(h:LH d)(hn:1048577<=n):Rg n d=some ((pls d).map GZ):=NM h.short (by have:=h.inst.1;omega) (by have:=h.ports.1.2;omega) hn
theorem kT{n:Nat}{d:AV}(h:LH d)(q:Int)(hn:1048577<=n):∃r,Wx n d q=some r∧r.length<=78:=by
 have hl:=h.pls
 rw [Wx,fR h hn,As]
 have e:((pls d).map GZ).length=(pls d).length:=by simp
 refine loop (L:=fun m i s=>HK q ((pls d).map GZ) (fun l38 i42=>some l38) m s i) ((pls d).map GZ).length (fun i s=>s.length<=i) (fun o=>∃r,o=some r∧r.length<=78) ?_ ?_ n 0 [] (by omega) (by omega) (Nat.le_refl _)
 ·intro m i s hi hs
  refine .inl ?_
  simp only [HK.eq_2,DH hi,cT,AY hi,As,Bn,wT i]
  cases c:(((pls d).map GZ)[i].net_==q&& !((pls d).map GZ)[i].drives_)with
  |true=>rw [cT,BN (by simp;omega) (by omega),As];exact⟨_,by simp;omega,rfl⟩
  |false=>rw [cF];exact⟨s,by omega,rfl⟩
 ·intro m s hs
  simp only [HK.eq_2,DQ,cF]
  exact⟨s,rfl,by omega⟩
def LK(w:BY):Prop:=(1<=w.Parent.length∧w.Parent.length<=4)∧(1<=w.Res.length∧w.Res.length<=4)∧(1<=w.Cap.length∧w.Cap.length<=4)∧w.Sink.length<=200
theorem LK.shp{l y:List BY}(h:Fb HE l y)(hl:∀x∈l,LK x):∀z∈y,LK z:=
 Rp h hl fun x z hr hx=>by
  have h1:=hr.1.1;have h2:=hr.2.1.1;have h3:=hr.2.2.1.1;have h4:=hr.2.2.2.1
  obtain⟨⟨a1,a2⟩,⟨b1,b2⟩,⟨c1,c2⟩,d1⟩:=hx
  exact⟨⟨by omega,by omega⟩,⟨by omega,by omega⟩,⟨by omega,by omega⟩,by omega⟩
theorem SE{n:Nat}{l:List Int}(h:l.length<=1000):On n l=some l:=by
 rw [On,BN (by simp;omega) (by omega)];rfl
theorem gA{n:Nat}{c:List Int}(hc:IV c){s0:AA}(e0:s0.code_=c){Q:BY×AA->Prop}{k0:Int->Int->Int->List Int->List Int->List Int->Option (BY×AA)}
 (hk:∀i a d (l1 l2 l3:List Int),(1<=l1.length∧l1.length<=4)->l2.length=l1.length->l3.length=l1.length->Do c (AA.mk s0.code_ a d)->BK Q (k0 i a d l1 l2 l3)):∀(m k:Nat) (a d:Int) (l1 l2 l3:List Int),k<m->1<=l1.length->l1.length+k<=4->l2.length=l1.length->l3.length=l1.length->Do c (AA.mk s0.code_ a d)->
 BK Q (Is n s0 k0 m (k:Int) a d l1 l2 l3)
 |0,k,a,d,l1,l2,l3,hm,_,_,_,_,_=>by omega
 |m+1,0,a,d,l1,l2,l3,hm,h1,h2,h3,h4,hs=>by
  rw [Is.eq_2]
  exact hk _ a d l1 l2 l3 ⟨h1,by omega⟩ h3 h4 hs
 |m+1,k+1,a,d,l1,l2,l3,hm,h1,h2,h3,h4,hs=>by
  have hp:decide (((k+1:Nat):Int)>0)=true:=decide_eq_true (by omega)
  have w:wrap .i64 (((k+1:Nat):Int)-1)=(k:Int):=by rw [Af (by omega) (by omega)];omega
  rw [Is.eq_2,hp,cT,SE (show l1.length<=1000 by omega),As]
  refine BK.bind (Nx hc hs _) fun r1 _ ⟨q1,_⟩=>?_
  rw [BN (by simp;omega) (by omega),As,SE (show l2.length<=1000 by omega),As]
  refine BK.bind (Nx hc (q1.mk2 e0) _) fun r2 _ ⟨q2,_⟩=>?_
  rw [BN (by simp;omega) (by omega),As,SE (show l3.length<=1000 by omega),As]
  refine BK.bind (Nx hc (q2.mk2 e0) _) fun r3 _ ⟨q3,_⟩=>?_
  rw [BN (by simp;omega) (by omega),As,w]
  exact gA hc e0 hk m k _ _ _ _ _ (by omega) (by simp) (by simp;omega) (by simp;omega) (by simp;omega) (q3.mk2 e0)
theorem iX{n:Nat}{c:List Int}(hc:IV c){s0:AA}(e0:s0.code_=c){l1 l2 l3:List Int}(h1:1<=l1.length∧l1.length<=4)(h2:l2.length=l1.length)(h3:l3.length=l1.length){L:Nat}(hL:L<=100):∀(m i:Nat) (a d:Int) (l:List Int),L-i<m->i<=L->l.length=L->Do c (AA.mk s0.code_ a d)->
 BK (fun r=>(LK r.1∧r.1.Sink.length<=100)∧Do c r.2) (Ic n s0 l1 (fun i115 i117 i118 l124=>(some ((BY.mk l1 l2 l3 l124),(AA.mk s0.code_ i117 i118)))) m (i:Int) a d l)
 |0,i,a,d,l,hm,_,_,_=>by omega
 |m+1,i,a,d,l,hm,hi,hl,hs=>by
  rw [Ic.eq_2]
  by_cases q:i<l.length
  ·rw [DH q,cT]
   refine BK.bind (Nx hc hs _) fun r _ ⟨q1,_⟩=>?_
   rw [AY q,As,wS (by omega)]
   exact iX hc e0 h1 h2 h3 hL m (i+1) _ _ _ (by omega) (by omega) (by rw [List.length_set];exact hl) (q1.mk2 e0)
  ·obtain rfl:i=l.length:=by omega
   rw [DQ,cF]
   exact AP ⟨⟨⟨h1,⟨by show 1<=l2.length;omega,by show l2.length<=4;omega⟩,⟨by show 1<=l3.length;omega,by show l3.length<=4;omega⟩,by show l.length<=200;omega⟩,by show l.length<=100;omega⟩,hs⟩
theorem tF{n:Nat}(hn:1048577<=n){c:List Int}(hc:IV c){s:AA}(hs:Do c s){q:Nat}(hq:q<=100):BK (fun r=>(LK r.1∧r.1.Sink.length<=100)∧Do c r.2) (Tw n s (q:Int)):=by
 have e:=hs.code
 rw [Tw]
 refine BK.bind (Nx hc hs 6) fun r _ ⟨h1,_⟩=>?_
 rw [Xq,Fi (by omega) (by omega),As,As]
 refine BK.bind (Nx hc (h1.mk2 e) 4) fun r2 _ ⟨h2,z0,z1⟩=>?_
 have:=gA (n:=n) (s0:=s) (Q:=fun r=>(LK r.1∧r.1.Sink.length<=100)∧Do c r.2) hc e (k0:=fun i75 i77 i78 l80 l84 l88=>(Ic n s l80 (fun i115 i117 i118 l124=>(some ((BY.mk l80 l84 l88 l124),(AA.mk s.code_ i117 i118)))) n 0 i77 i78 (List.replicate q 0))) (fun i a d l1 l2 l3 k1 k2 k3 hs2=>
  iX hc e k1 k2 k3 hq n 0 a d _ (by omega) (by omega) (by simp) hs2) n r2.1.toNat r2.2.at_ r2.2.seed_ [(-1)] [0] [r.1] (by omega) (by simp) (by simp;omega) rfl rfl (h2.mk2 e)
 rw [Int.toNat_of_nonneg z0]at this
 exact this
structure LF(b:AI):Prop where
 lib:Ry b.Library
 dsg:LH b.Design
 wires:b.Wires.length<=9∧∀w∈b.Wires,LK w
theorem LF.sm{b:AI}(h:LF b):NO b:=
 ⟨h.lib,⟨⟨by have:=h.dsg.inst.1;omega,fun x hx=>⟨by have:=(h.dsg.inst.2 x hx).1;omega,by have:=(h.dsg.inst.2 x hx).2.2;omega⟩⟩,⟨by have:=h.dsg.nets.1;omega,fun x hx=>by have:=h.dsg.nets.2 x hx;omega⟩,⟨by have:=h.dsg.ports.1;omega,fun p hp=>by have:=h.dsg.ports.2 p hp;omega⟩⟩,
  ⟨by have:=h.wires.1;omega,fun w hw=>by obtain⟨⟨_,a⟩,⟨_,b⟩,⟨_,c⟩,d⟩:=h.wires.2 w hw;exact⟨⟨⟨by omega,by omega⟩,by omega⟩,by omega⟩⟩⟩
theorem jR{n:Nat}(hn:1048577<=n){c:List Int}(hc:IV c){s0:AA}(e0:s0.code_=c){r38:AV×AA}(hd:LH r38.1){k0:List BY->Int->Int->Int->Option Unit}
 (hk:∀l i a d,l.length=r38.1.Nets.length->(∀w∈l,LK w∧w.Sink.length<=100)->Do c (AA.mk s0.code_ a d)->k0 l i a d=some ()):∀(m i:Nat) (l:List BY) (a d:Int),r38.1.Nets.length-i<m->i<=r38.1.Nets.length->l.length=i->(∀w∈l,LK w∧w.Sink.length<=100)->Do c (AA.mk s0.code_ a d)->
 MZ n s0 r38 k0 m l (i:Int) a d=some ()
 |0,i,l,a,d,hm,_,_,_,_=>by omega
 |m+1,i,l,a,d,hm,hi,hl,hw,hs=>by
  have hb:=hd.nets.1
  rw [MZ.eq_2]
  by_cases q:i<r38.1.Nets.length
  ·obtain⟨r,f,hr⟩:=kT (n:=n) hd (i:Int) hn
   rw [DH q,cT,f,As]
   refine Hy (tF hn hc hs (by omega)) fun r2 ⟨h1,h2⟩=>?_
   rw [BN (by simp;omega) (by omega),As,wS (by omega)]
   refine jR hn hc e0 hd hk m (i+1) _ _ _ (by omega) (by omega) (by simp;omega) (fun w h=>?_) (h2.mk2 e0)
   rcases List.mem_append.1 h with h|h
   ·exact hw w h
   ·rw [List.mem_singleton.1 h];exact h1
  ·obtain rfl:i=r38.1.Nets.length:=by omega
   rw [DQ,cF]
   exact hk l _ a d hl hw hs
theorem lN{n:Nat}(hn:1048577<=n){c:List Int}(hc:IV c){s:AA}(hs:Do c s){O:MW}{most:Int}(hm:2<=most∧most<=6){wild:Bool}{g:AI×AA->Option Unit}(hg:∀b s',LF b->b.Wires.length=b.Design.Nets.length->(∀w∈b.Wires,w.Sink.length<=100)->Do c s'->g (b,s')=some ()):Wp n O s most wild g=some ():=by
 have e:=hs.code
 rw [Wp]
 refine Hy (uE hc hs hn) fun r ⟨h1,h2⟩=>uM hn hc (h2.mk2 e) hm fun d s' hd hs'=>?_
 have hb:=hd.nets.1
 exact jR (r38:=(d,s')) hn hc e hd (fun l i a d2 hl hw hs2=>hg _ _ ⟨h1,hd,by show l.length<=9;rw [hl];exact hb.2,fun w h=>(hw w h).1⟩ hl (fun w h=>(hw w h).2) hs2) n 0 [] _ _ (by show d.Nets.length-0<n;omega) (by omega) rfl (by simp) (hs'.mk2 e)
theorem mQ{n:Nat}(hn:1048577<=n){c:List Int}(hc:IV c){s:AA}(hs:Do c s){O:MW}{g:AI×AA->Option Unit}(hg:∀b s',LF b->Do c s'->g (b,s')=some ()):Uw n O s g=some ():=by
 have e:=hs.code
 rw [Uw]
 refine Hy (Nx hc hs 3) fun r ⟨h1,_⟩=>lN hn hc (h1.mk2 e) (by omega) fun b s' hb hw hk hs'=>Hy (Nx hc (hs'.mk2 e) _) fun r2 ⟨h2,z0,z1⟩=>Hy (Nx hc (h2.mk2 e) 20) fun r3 ⟨h3,_⟩=>?_
 have wl:=hb.wires.1
 have nl:=hb.dsg.nets.1
 have z1:r2.1<(b.Wires.length:Int):=by
  have z1:r2.1<(b.Wires.length:Int)∨r2.1=0∧(b.Wires.length:Int)<=1:=z1
  omega
 obtain⟨k,ek⟩:=Int.eq_ofNat_of_zero_le z0
 have ek:r2.1=(k:Int):=ek
 have kl:k<b.Wires.length:=by omega
 have gk:AL b.Wires r2.1=some b.Wires[k]:=by rw [ek];exact AY kl
 have wk:=hb.wires.2 _ (List.getElem_mem kl)
 have fin:=fun(y:List BY) (hy:Fb HE b.Wires y)=>(⟨hb.lib,hb.dsg,⟨by show y.length<=9;rw [hy.1];exact wl,LK.shp hy hb.wires.2⟩⟩:LF (AI.mk b.Library b.Design y))
 refine ED (fun _=>?_) fun _=>ED (fun _=>?_) fun _=>ED (fun _=>?_) fun _=>ED (fun _=>?_) fun _=>ED (fun _=>?_) fun _=>ED (fun _=>?_) fun _=>hg _ _ hb (h3.mk2 e)
 ·rw [show Ky b.Wires 1 (b.Wires.length:Int)=some ((b.Wires.take (b.Wires.length:Int).toNat).drop (1:Int).toNat)from if_pos ⟨by omega,by omega,by omega⟩,As]
  exact hg _ _ ⟨hb.lib,hb.dsg,⟨by simp;omega,fun w hw2=>hb.wires.2 w (List.mem_of_mem_take (List.mem_of_mem_drop hw2))⟩⟩ (h3.mk2 e)
 ·have sl:=wk.2.2.2
  simp only [gk,As,SE (n:=n) (show b.Wires[k].Sink.length<=1000 by omega),BN (show b.Wires[k].Sink.length+[(0:Int)].length<=16777216 by simp;omega) (show 8<=1048576 by omega)]
  refine hg _ _ ⟨hb.lib,hb.dsg,⟨by rw [List.length_set];exact wl,fun w hw2=>?_⟩⟩ (h3.mk2 e)
  have hk1:=hk _ (List.getElem_mem kl)
  rcases List.mem_or_eq_of_mem_set hw2 with h|h
  ·exact hb.wires.2 w h
  ·rw [h];exact⟨wk.1,wk.2.1,wk.2.2.1,by rw [List.length_append];simp;omega⟩
 ·obtain⟨⟨p1,p2⟩,⟨r1,r2'⟩,⟨c1,c2⟩,s1⟩:=wk
  rw [gk,As,show(0:Int)=((0:Nat):Int)from rfl,AY (show 0<b.Wires[k].Res.length by omega),As]
  exact O.inn fun y hy=>hg _ _ (fin y hy) (h3.mk2 e)
 ·obtain⟨⟨p1,p2⟩,⟨r1,r2'⟩,⟨c1,c2⟩,s1⟩:=wk
  rw [gk,As]
  refine Hy (Nx hc (h3.mk2 e) 3) fun r4 ⟨h4,y0,y1⟩=>?_
  obtain⟨v,hv,_⟩:=Ei (xs:=[(-1:Int),500,501]) y0 (by simp;omega)
  rw [hv,As,show(0:Int)=((0:Nat):Int)from rfl,AY (show 0<b.Wires[k].Cap.length by omega),As]
  exact O.inn fun y hy=>hg _ _ (fin y hy) (h4.mk2 e)
 ·obtain⟨⟨p1,p2⟩,⟨r1,r2'⟩,⟨c1,c2⟩,s1⟩:=wk
  rw [gk,As,As]
  refine Hy (Nx hc (h3.mk2 e) 5) fun r4 ⟨h4,_⟩=>?_
  have w1:wrap .i64 ((b.Wires[k].Parent.length:Int)-1)=((b.Wires[k].Parent.length-1:Nat):Int):=by rw [Af (by omega) (by omega)];omega
  rw [w1,AY (show b.Wires[k].Parent.length-1<b.Wires[k].Parent.length by omega),As]
  exact O.inn fun y hy=>hg _ _ (fin y hy) (h4.mk2 e)
 ·rw [show(0:Int)=((0:Nat):Int)from rfl,AY (show 0<b.Design.Ports.length by have:=hb.dsg.ports.1;omega),As]
  refine O.inn fun y1 hy1=>O.inn fun y2 hy2=>O.inn fun y3 hy3=>?_
  obtain rfl:=WH hy2
  exact hg _ _ ⟨hb.lib,⟨⟨by show y1.length<=6;rw [hy1.1];exact hb.dsg.inst.1,LN.shp hy1 hb.dsg.inst.2⟩,hb.dsg.nets,⟨by show 3<=y3.length∧y3.length<=5;rw [hy3.1];exact hb.dsg.ports.1,Rp hy3 hb.dsg.ports.2 fun x z hr hx=>by rw [←hr.1];exact hx⟩⟩,hb.wires⟩ (h3.mk2 e)
theorem sQ{n:Nat}(hn:1048577<=n){c:List Int}(hc:IV c){s:AA}(hs:Do c s){O:MW}{g:AI×AA->Option Unit}(hg:∀b s',LF b->Do c s'->g (b,s')=some ()):WP n O s g=some ():=by
 have e:=hs.code
 rw [WP]
 refine Hy (Nx hc hs 12) fun r ⟨h1,_⟩=>ED (fun _=>mQ hn hc (h1.mk2 e) fun b s' hb hs'=>hg _ _ hb (hs'.mk2 e)) fun _=>ED (fun _=>ED (fun _=>?_) fun _=>?_) fun _=>ED (fun _=>?_) fun _=>?_
 all_goals exact lN hn hc (h1.mk2 e) (by omega) fun b s' hb _ _ hs'=>hg _ _ hb (hs'.mk2 e)
theorem gW{n:Nat}{c:List Int}(hc:IV c){s0:AA}(e0:s0.code_=c){lk:List AS}(hlk:lk.length<=5128){r90:Int×AA}(h90:0<=r90.1∧r90.1<8):∀(m i:Nat) (l:List Int) (a d:Int),lk.length-i<m->l.length<=i->i<=6000->Do c (AA.mk s0.code_ a d)->
 BK (fun r=>r.1.length<=6001∧Do c r.2) (Ku n s0 lk r90 (fun l110 i114 i116 i117=>(Option.bind (Dt n ((AA.mk s0.code_ i116 i117)) 12) fun r121=>(cond (r121.1==0) (Option.bind (Dt n ((AA.mk s0.code_ r121.2.at_ r121.2.seed_)) 2) fun r129=>(Option.bind (CA l110 ([wrap .i64 (((lk.length:Int))*r129.1)]) 8) fun z149=>(some (z149,(AA.mk s0.code_ r129.2.at_ r129.2.seed_))))) (some (l110,(AA.mk s0.code_ r121.2.at_ r121.2.seed_)))))) m l (i:Int) a d)
 |0,i,l,a,d,hm,_,_,_=>by omega
 |m+1,i,l,a,d,hm,hl,hi,hs=>by
  rw [Ku.eq_2]
  by_cases q:i<lk.length
  ·have w9:wrap .i64 (1+r90.1)=1+r90.1:=Af (by omega) (by omega)
   rw [DH q,cT,BN (by simp;omega) (by omega),As,w9]
   refine BK.bind (Nx hc hs _) fun r _ ⟨h1,z0,z1⟩=>?_
   have z2:r.1<=8:=by omega
   have wi:wrap .i64 ((i:Int)+(wrap .i64 (1+r.1)))=((i+1+r.1.toNat:Nat):Int):=by
    rw [Af (x:=1+r.1) (by omega) (by omega),Af (by omega) (by omega)];omega
   rw [wi]
   exact gW hc e0 hlk h90 m _ _ _ _ (by omega) (by simp;omega) (by omega) (h1.mk2 e0)
  ·rw [show decide ((i:Int)<(lk.length:Int))=false from decide_eq_false (by omega),cF]
   refine BK.bind (Nx hc hs 12) fun r _ ⟨h1,_⟩=>Ap (fun _=>?_) fun _=>AP ⟨by show l.length<=6001;omega,h1.mk2 e0⟩
   refine BK.bind (Nx hc (h1.mk2 e0) 2) fun r2 _ ⟨h2,_⟩=>?_
   rw [BN (by simp;omega) (by omega),As]
   exact AP ⟨by simp;omega,h2.mk2 e0⟩
theorem tX{n:Nat}(hn:1048577<=n){c:List Int}(hc:IV c){s:AA}(hs:Do c s){b:AI}(hb:NO b):BK (fun r=>r.1.length<=6001∧Do c r.2) (RZ n s b):=by
 have e:=hs.code
 obtain⟨v,e1,hv⟩:=ZD (n:=n) hb hn
 rw [RZ,e1,As]
 refine BK.bind (A:=fun x=>Do c (AA.mk s.code_ x.2.1 x.2.2)∧(x.1=false->v=true)) (Ap (fun _=>AP ⟨hs,fun h=>by cases h⟩) fun q=>BK.bind (Nx hc hs 3) fun r _ ⟨h1,_⟩=>AP ⟨h1.mk2 e,fun _=>by cases v<;>simp_all⟩) fun x _ ⟨hx,hv2⟩=>Ap (fun _=>AP ⟨by simp,hx⟩) fun q=>?_
 have vb:=hv.1 (hv2 q)
 rw [RQ vb hn,As]
 refine BK.bind (Nx hc hx 8) fun r _ ⟨h1,z0,z1⟩=>BK.bind (Nx hc (h1.mk2 e) _) fun r2 _ ⟨h2,y0,y1⟩=>?_
 have w9:wrap .i64 (1+r.1)=1+r.1:=Af (by omega) (by omega)
 rw [w9]at y1
 have:=gW (n:=n) hc e (Gv vb) (r90:=r) ⟨z0,by omega⟩ n r2.1.toNat [] r2.2.at_ r2.2.seed_ (by have:=Gv vb;omega) (by simp) (by omega) (h2.mk2 e)
 rw [Int.toNat_of_nonneg y0]at this
 exact this
theorem fW{n:Nat}{c:List Int}(hc:IV c){s0:AA}(e0:s0.code_=c){ps:List BH}(hps:ps.length<=1000){k0:Int->Int->Int->Option (Int×AA)}(hk:∀i a d,Do c (AA.mk s0.code_ a d)->BK (fun r=>Do c r.2) (k0 i a d)):
 ∀(m i:Nat) (a d:Int),ps.length-i<m->i<=ps.length->Do c (AA.mk s0.code_ a d)->BK (fun r=>Do c r.2) (Kl n s0 ps k0 m (i:Int) a d)
 |0,i,a,d,hm,_,_=>by omega
 |m+1,i,a,d,hm,hi,hs=>by
  rw [Kl.eq_2]
  by_cases q:i<ps.length
  ·rw [DH q,cT,AY q,As,wS (by omega)]
   refine BK.bind (A:=fun _=>True) (Ap (fun _=>by rw [As];exact AP trivial) fun _=>AP trivial) fun c70 _ _=>?_
   refine BK.bind (A:=fun x=>Do c (AA.mk s0.code_ x.2.1 x.2.2)) (Ap (fun _=>BK.bind (Nx hc hs 2) fun r _ ⟨h1,_⟩=>AP (h1.mk2 e0)) fun _=>AP hs) fun x _ hx=>Ap (fun _=>AP hx) fun _=>?_
   exact fW hc e0 hps hk m (i+1) _ _ (by omega) (by omega) hx
  ·obtain rfl:i=ps.length:=by omega
   rw [DQ,cF]
   exact hk _ a d hs
theorem tK{n:Nat}(hn:1048577<=n){c:List Int}(hc:IV c){s:AA}(hs:Do c s){b:AI}(hb:LH b.Design):BK (fun r=>Do c r.2) (UA n s b):=by
 have e:=hs.code
 have hp:=hb.pls
 have hl:((pls b.Design).map GZ).length<=1000:=by rw [List.length_map];omega
 rw [UA,fR hb hn,As]
 exact fW hc e hl (fun i a d h=>BK.bind (Nx hc h _) fun _ _ ⟨h1,_⟩=>AP (h1.mk2 e)) n 0 _ _ (by omega) (by omega) hs
def cW(x:AS):AS:=⟨x.To,x.From,x.Kind,x.Index⟩
def RA(L:List AS):List AS:=L.map cW
theorem HZ(L:List AS):(RA L).length=L.length:=List.length_map ..
theorem Xh(L:List AS)(i:Int):AL (RA L) i=(AL L i).map cW:=by
 unfold AL RA;split<;>simp
theorem dI{L:List AS}{lv:List Bool}{K K':Bool->Int->List Bool->Option (List Bool)}(hK:∀q i l,K q i l=K' q i l):∀(m:Nat) (q:Bool) (i:Int) (l:List Bool),Ev L lv false K m q i l=Ev (RA L) lv true K' m q i l
 |0,_,_,_=>rfl
 |m+1,q,i,l=>by
  simp only [Ev.eq_2,HZ,Xh,Bool.not_false,Bool.not_true,cT,cF,hK]
  cases AL L i with
  |none=>rfl
  |some x=>simp only [Option.map_some,As,cW,dI hK m]
theorem gN{n:Nat}{L:List AS}{lv:List Bool}:∀(m:Nat) (q:Bool) (l:List Bool),Gh n L lv false (fun _ l34=>(some l34)) m q l=Gh n (RA L) lv true (fun _ l34=>(some l34)) m q l
 |0,_,_=>rfl
 |m+1,q,l=>by
  simp only [Gh.eq_2]
  rw [dI (K':=fun q38 _ l40=>(Gh n (RA L) lv true (fun q33 l34=>(some l34)) m q38 l40)) fun q i l=>gN m q l]
theorem tJ{n:Nat}{L:List AS}{lv:List Bool}{N s:Nat}(hL:Qg L N)(hlv:lv.length=L.length)(hl:L.length<=10000)(hN:N<=1000)(hs:s<N)(hn:1048577<=n):
 ∃out,Wr n (N:Int) L lv (s:Int) false=some out∧Ow (RA L) lv (fun u=>u=(s:Int)) N out:=by
 have hg:∀k (h:k<(RA L).length),(RA L)[k]=cW (L[k]'(by rw [HZ]at h;exact h)):=fun k h=>List.getElem_map _
 have:=jW (n:=n) (L:=RA L) (lv:=lv) (N:=N) (s:=s) ⟨fun k h=>by rw [hg k h];exact hL.to_ k (by rw [HZ]at h;exact h),fun k h=>by rw [hg k h];exact hL.from_ k (by rw [HZ]at h;exact h)⟩ (by rw [HZ];exact hlv) (by rw [HZ];exact hl) hN hs hn
 unfold Wr at this ⊢
 simp only [gN]
 exact this
theorem GX.trans{L:List AS}{lv:List Bool}{u v:Int}{w:Int}(h1:GX L lv (fun x=>x=u) v)(h2:GX L lv (fun x=>x=v) w):GX L lv (fun x=>x=u) w:=by
 induction h2 with
 |src e=>have e:_=v:=e;subst e;exact h1
 |step _ e ih=>exact .step ih e
theorem Ed.rv{L:List AS}{lv:List Bool}{u w:Int}:Ed (RA L) lv u w↔Ed L lv w u:=by
 constructor
 ·rintro ⟨k,hk,h1,h2,h3⟩
  have hk':k<L.length:=by rw [HZ]at hk;exact hk
  have e:(RA L)[k]=cW L[k]:=List.getElem_map _
  rw [e]at h2 h3
  exact⟨k,hk',h1,h3,h2⟩
 ·rintro ⟨k,hk,h1,h2,h3⟩
  have hk':k<(RA L).length:=by rw [HZ];exact hk
  have e:(RA L)[k]=cW L[k]:=List.getElem_map _
  exact⟨k,hk',h1,by rw [e];exact h3,by rw [e];exact h2⟩
theorem GX.one{L:List AS}{lv:List Bool}{u w:Int}(e:Ed L lv u w):GX L lv (fun x=>x=u) w:=.step (.src rfl) e
theorem GX.rv{L:List AS}{lv:List Bool}{v w:Int}(h:GX (RA L) lv (fun x=>x=v) w):GX L lv (fun x=>x=w) v:=by
 induction h with
 |src e=>have e:_=v:=e;subst e;exact .src rfl
 |step _ e ih=>exact GX.trans (GX.one (Ed.rv.1 e)) ih
theorem GX.vr{L:List AS}{lv:List Bool}{v w:Int}(h:GX L lv (fun x=>x=w) v):GX (RA L) lv (fun x=>x=v) w:=by
 induction h with
 |src e=>have e:_=w:=e;subst e;exact .src rfl
 |step _ e ih=>exact GX.trans (GX.one (Ed.rv.2 e)) ih
theorem GX.first{L:List AS}{lv:List Bool}{u w:Int}(h:GX L lv (fun x=>x=u) w)(ne:u≠w):∃x,Ed L lv u x∧GX L lv (fun y=>y=x) w:=by
 induction h with
 |src e=>exact absurd (show _=u from e).symm ne
 |@step a b h1 e ih=>
  by_cases c:u=a
  ·subst c;exact⟨_,e,.src rfl⟩
  ·obtain⟨x,e1,e2⟩:=ih c
   exact⟨x,e1,.step e2 e⟩
theorem TF{L:List AS}{lv:List Bool}(hw:∀k (h:k<L.length) j (g:j<L.length),L[k].To=L[j].From->L[k].Kind=1∨L[j].Kind=1){v w:Int}(ne:v≠w)(h1:GX L lv (fun x=>x=v) w)(h2:GX L lv (fun x=>x=w) v):
 ∃k,∃h:k<L.length,gb lv k=true∧L[k].Kind=1∧(GX L lv (fun x=>x=v) L[k].From∧GX L lv (fun x=>x=L[k].From) v)∧GX L lv (fun x=>x=v) L[k].To∧GX L lv (fun x=>x=L[k].To) v:=by
 cases h1 with
 |src e=>exact absurd (show w=v from e).symm ne
 |@step a _ g e=>
  have e':=e
  obtain⟨k,hk,q1,q2,q3⟩:=e
  obtain⟨x,e2,g2⟩:=GX.first h2 fun c=>ne c.symm
  have e2':=e2
  obtain⟨j,hj,r1,r2,r3⟩:=e2
  have hva:GX L lv (fun x=>x=v) w:=.step g e'
  rcases hw k hk j hj (by rw [q3,r2])with c|c
  ·exact⟨k,hk,q1,c,by rw [q2];exact⟨g,GX.trans (GX.one e') h2⟩,by rw [q3];exact⟨hva,h2⟩⟩
  ·exact⟨j,hj,r1,c,by rw [r2];exact⟨hva,h2⟩,by rw [r3];exact⟨.step hva e2',g2⟩⟩
theorem rN{n:Nat}{l:List Int}(h:Ul l)(x:Int)(hn:1048577<=n):∃(i:Nat) (a b:Int),TH n l x=some ((i:Int),a,b)∧((i<l.length∧a=1∧b=0)∨(i+1<l.length∧(1<=a∧a<=100000)∧(1<=b∧b<=100000))):=by
 have h1:=h.1
 have ci:=Wb h x
 have w1:wrap .i64 ((l.length:Int)-1)=((l.length-1:Nat):Int):=by rw [Af (by omega) (by omega)];omega
 have g0:AL l 0=some (gd l 0):=gI (l:=l) (i:=0) (by omega)
 have gL:AL l ((l.length-1:Nat):Int)=some (gd l (l.length-1)):=gI (by omega)
 rw [TH,g0,As,w1,gL,As]
 have key:∀(m i:Nat),i<l.length->i<m->(∀k,i<k->k<l.length->JN l x<gd l k)->∃(j:Nat) (a b:Int),Ko l x (gd l 0) (gd l (l.length-1)) (fun i23=>(some (0,1,0))) m (i:Int)=some ((j:Int),a,b)∧((j<l.length∧a=1∧b=0)∨(j+1<l.length∧(1<=a∧a<=100000)∧(1<=b∧b<=100000))):=by
  intro m
  induction m with
  |zero=>intro i _ h;omega
  |succ m ih=>
   intro i hi hm hk
   have d0:decide ((i:Int)>=0)=true:=decide_eq_true (by omega)
   rw [Ko.eq_2,d0,cT,gI hi,As,show min (max x (gd l 0)) (gd l (l.length-1))=JN l x from rfl]
   by_cases c:JN l x=gd l i
   ·rw [show(JN l x==gd l i)=true from beq_iff_eq.2 c,cT]
    exact⟨i,1,0,rfl,.inl ⟨hi,rfl,rfl⟩⟩
   ·rw [show(JN l x==gd l i)=false from beq_eq_false_iff_ne.2 c,cF,As]
    have r0:=h.2.1 i hi
    by_cases c2:JN l x>gd l i
    ·have hl:i+1<l.length:=by
      apply Nat.lt_of_not_le
      intro q
      have:i=l.length-1:=by omega
      subst this;omega
     have r1:=h.2.1 (i+1) hl
     have hc:=hk (i+1) (by omega) hl
     rw [decide_eq_true c2,cT,wS (by omega),gI hl,As,As,Af (by omega) (by omega),Af (by omega) (by omega)]
     exact⟨i,_,_,rfl,.inr ⟨hl,by omega,by omega⟩⟩
    ·have hp:0<i:=by
      apply Nat.pos_of_ne_zero
      intro q;subst q;omega
     have wi:wrap .i64 ((i:Int)-1)=((i-1:Nat):Int):=by rw [Af (by omega) (by omega)];omega
     rw [decide_eq_false c2,cF,wi]
     refine ih (i-1) (by omega) (by omega) fun k hk1 hk2=>?_
     by_cases q:k=i
     ·subst q;omega
     ·exact hk k (by omega) hk2
 exact key n (l.length-1) (by omega) (by omega) fun k h1 h2=>by omega
theorem kE{n:Nat}{s D mode:Int}(h:D≠0):∃r,Oi n s D mode=some r:=by
 have hz:(D==0)=false:=by rw [beq_eq_false_iff_ne];exact h
 rw [Oi,hz,cF,cF]
 cases(decide (Int.tmod s D<0))&&((mode==0))<;>cases(decide (Int.tmod s D>0))&&((mode==1))<;>exact⟨_,rfl⟩
theorem kF{t:BR}(v:VT t){i k u q:Nat}{w:Int}{U V:Int}{A:Int->Option Int}{B:Option Int}(hw:w>0->i+u<t.Slews.length∧k+q<t.Loads.length)(hU:U=(u:Int))(hV:V=(q:Int))(hq:q<=1)(hA:∀x,BK (fun _=>True) (A x))(hB:BK (fun _=>True) B):
 BK (fun _=>True) (cond (decide (w>0)) (Option.bind (AL t.Values (wrap .i64 (wrap .i64 (wrap .i64 (wrap .i64 ((i:Int)+U)*(t.Loads.length:Int))+(k:Int))+V))) A) B):=by
 have S4:=v.1.1.1.2
 have L4:=v.1.2.1.2
 have hlen:=v.2.1
 subst hU hV
 refine Ap (fun c=>?_) fun _=>hB
 obtain⟨h1,h2⟩:=hw (of_decide_eq_true c)
 have hb:=sY (S:=t.Slews.length) (L:=t.Loads.length) (i:=i+u) (k:=k+q) h1 h2
 rw [sO (by omega) (by omega) (by omega) hq,gI (by omega),As]
 exact hA _
theorem PX{a c:Int}(h:wrap .i64 (a*c)>0):a≠0∧c≠0:=by
 constructor
 ·intro e;subst e;rw [Int.zero_mul]at h;exact absurd h (by decide)
 ·intro e;subst e;rw [Int.mul_zero]at h;exact absurd h (by decide)
structure lX(l:List Int)(i:Nat)(a b:Int):Prop where
 lo:i<l.length
 hi:b≠0->i+1<l.length
theorem dP{t:BR}(v:VT t){i k:Nat}{a b c d:Int}(h1:lX t.Slews i a b)(h2:lX t.Loads k c d){u:Int}(hu:u=0∨u=1){K:Int->Int->Option Int}(hK:∀s,BK (fun _=>True) (K s 2))(m:Nat)(s:Int):BK (fun _=>True) (EZ t ((i:Int),a,b) ((k:Int),c,d) u K (m+3) s 0):=by
 have w01:wrap .i64 (0+1)=1:=rfl
 have w12:wrap .i64 (1+1)=2:=rfl
 have l02:decide ((0:Int)<2)=true:=rfl
 have l12:decide ((1:Int)<2)=true:=rfl
 have l22:decide ((2:Int)<2)=false:=rfl
 have b00:((0:Int)==0)=true:=rfl
 have b10:((1:Int)==0)=false:=rfl
 have b01:((0:Int)==1)=false:=rfl
 have b11:((1:Int)==1)=true:=rfl
 have s3:∀s,BK (fun _=>True) (EZ t ((i:Int),a,b) ((k:Int),c,d) u K (m+1) s 2):=fun s=>by
  rw [EZ.eq_2,l22,cF];exact hK s
 have s2:∀s,BK (fun _=>True) (EZ t ((i:Int),a,b) ((k:Int),c,d) u K (m+2) s 1):=fun s=>by
  rw [EZ.eq_2,l12,cT,b10,cF,cF,w12]
  rcases hu with rfl|rfl
  ·rw [b01,cF]
   exact kF v (u:=0) (q:=1) (fun h=>⟨h1.lo,h2.hi (PX h).2⟩) rfl rfl (by omega) (fun _=>s3 _) (s3 _)
  ·rw [b11,cT]
   exact kF v (u:=1) (q:=1) (fun h=>⟨h1.hi (PX h).1,h2.hi (PX h).2⟩) rfl rfl (by omega) (fun _=>s3 _) (s3 _)
 rw [EZ.eq_2,l02,cT,b00,cT,cT,w01]
 rcases hu with rfl|rfl
 ·rw [b01,cF]
  exact kF v (u:=0) (q:=0) (fun h=>⟨h1.lo,h2.lo⟩) rfl rfl (by omega) (fun _=>s2 _) (s2 _)
 ·rw [b11,cT]
  exact kF v (u:=1) (q:=0) (fun h=>⟨h1.hi (PX h).1,h2.lo⟩) rfl rfl (by omega) (fun _=>s2 _) (s2 _)
theorem WZ{l:List Int}{i:Nat}{a b:Int}(h:(i<l.length∧a=1∧b=0)∨(i+1<l.length∧(1<=a∧a<=100000)∧(1<=b∧b<=100000))):lX l i a b∧0<wrap .i64 (a+b)∧wrap .i64 (a+b)<=200000:=by
 have e:wrap .i64 (a+b)=a+b:=Af (by omega) (by omega)
 rw [e]
 rcases h with ⟨h,rfl,rfl⟩|⟨h,h1,h2⟩
 ·exact⟨⟨h,fun c=>absurd rfl c⟩,by omega,by omega⟩
 ·exact⟨⟨by omega,fun _=>h⟩,by omega,by omega⟩
theorem rF{n:Nat}{t:BR}(v:VT t)(x y mode:Int)(hn:1048577<=n):BK (fun _=>True) (cO n t x y mode):=by
 obtain⟨i,a,b,e1,h1⟩:=rN (n:=n) v.1.1 x hn
 obtain⟨k,c,d,e2,h2⟩:=rN (n:=n) v.1.2 y hn
 obtain⟨o1,p1,p2⟩:=WZ h1
 obtain⟨o2,q1,q2⟩:=WZ h2
 obtain⟨m,rfl⟩:∃m,n=m+3:=⟨n-3,by omega⟩
 rw [cO,e1,e2,As,As]
 have w01:wrap .i64 (0+1)=1:=rfl
 have w12:wrap .i64 (1+1)=2:=rfl
 have l02:decide ((0:Int)<2)=true:=rfl
 have l12:decide ((1:Int)<2)=true:=rfl
 have l22:decide ((2:Int)<2)=false:=rfl
 rw [Lm.eq_2,l02,cT,w01]
 refine dP v o1 o2 (.inl rfl) (fun s=>?_) m 0
 rw [Lm.eq_2,l12,cT,w12]
 refine dP v o1 o2 (.inr rfl) (fun s=>?_) m _
 have em:=mw (a:=wrap .i64 (a+b)) (c:=wrap .i64 (c+d)) (by omega) (by omega)
 rw [Lm.eq_2,l22,cF]
 dsimp only
 rw [em]
 have:=Int.mul_pos p1 q1
 obtain⟨r,er⟩:=kE (n:=m+3) (s:=s) (D:=wrap .i64 (a+b)*wrap .i64 (c+d)) (mode:=mode) (by omega)
 rw [er]
 exact AP trivial
theorem rD{n:Nat}{b:AI}(v:By b){i:Nat}(hi:i<b.Wires.length)(hn:1048577<=n):BK (fun r=>r.length=b.Wires[i].Parent.length) (Sp n b (i:Int)):=by
 have vw:=v.wire i hi
 have hm:=vw.many
 rw [Sp,AY hi,As]
 refine BK.bind (mY v hi hn) fun ls _ hl=>?_
 refine Oq (L:=fun m j s=>JQ b.Wires[i] ls _ m s j) 1 ls.length (fun j s=>s.length=j) ?_ ?_ n [0] (by omega) (by omega) rfl
 ·intro m j s h1 hj hs
  have ht:=vw.tree j h1 (by omega)
  obtain⟨a,ea⟩:=El (t:=s) ht.1 (by omega)
  simp only [JQ.eq_2,DH hj,cT,gI (show j<b.Wires[i].Parent.length by omega),As,ea,gI (show j<b.Wires[i].Res.length by have:=vw.res;omega),gI hj,wT j]
  rw [BN (by simp;omega) (by omega),As]
  exact⟨_,by simp;omega,rfl⟩
 ·intro m s hs
  simp only [JQ.eq_2,DQ,cF]
  exact⟨s,rfl,by omega⟩
theorem XS{b:AI}(v:By b){i:Nat}(hi:i<b.Wires.length):b.Wires[i].Sink.length<=78:=by
 have vd:=v.design
 have hl:=CS vd.short vd.few.1 vd.few.2.2
 have h:snk b.Design (i:Int)<=78:=Nat.le_trans List.countP_le_length hl
 have:=(v.wire i hi).sink
 omega
theorem sW{n:Nat}{b:AI}(v:By b){i:Nat}(hi:i<b.Wires.length){mode:Int}(hn:1048577<=n):BK (fun r=>r.length=b.Wires[i].Sink.length) (Vc n b (i:Int) mode):=by
 have vw:=v.wire i hi
 have hm:=vw.many
 have hf:=XS v hi
 rw [Vc]
 refine BK.bind (rD v hi hn) fun ds _ hl=>?_
 refine GR (L:=fun m j s=>Iy n b (i:Int) mode ds _ m s j) b.Wires[i].Sink.length (fun j s=>s.length=j) ?_ ?_ n [] (by omega) rfl
 ·intro m j s hj hs
  have hk:=vw.sinks j hj
  obtain⟨a,ea⟩:=El (t:=ds) hk.1 (by omega)
  obtain⟨r,er⟩:=kE (n:=n) (s:=a) (D:=1000) (mode:=mode) (by omega)
  simp only [Iy.eq_2,AY hi,As,DH hj,cT,gI hj,ea,er,wT j]
  rw [BN (by simp;omega) (by omega),As]
  exact⟨_,by simp;omega,rfl⟩
 ·intro m s hs
  simp only [Iy.eq_2,AY hi,As,DQ,cF]
  exact⟨s,rfl,hs⟩
theorem mA{n:Nat}{x mode:Int}(hn:1048577<=n):BK (fun _=>True) (Ug n x mode):=by
 rw [Ug]
 have key:∀(m:Nat) (i j:Int),0<=i->i<=j->j<=2000000000->j-i<2^m->BK (fun _=>True) (Hf x (fun i3 i4=>(cond (((mode==1))&&(decide (wrap .i64 (i3*i3)<x))) (some (wrap .i64 (i3+1))) (some i3))) (m+1) i j):=by
  intro m
  induction m with
  |zero=>
   intro i j h0 h1 h2 h3
   have:i=j:=by simp at h3;omega
   subst this
   rw [Hf.eq_2,decide_eq_false (by omega),cF]
   exact Ap (fun _=>AP trivial) fun _=>AP trivial
  |succ m ih=>
   intro i j h0 h1 h2 h3
   rw [Int.pow_succ]at h3
   rw [Hf.eq_2]
   by_cases c:i<j
   ·have w1:wrap .i64 (i+j)=i+j:=Af (by omega) (by omega)
    have w2:wrap .i64 (i+j+1)=i+j+1:=Af (by omega) (by omega)
    have e:Int.tdiv (i+j+1) 2=(i+j+1)/2:=Int.tdiv_eq_ediv_of_nonneg (by omega)
    have w3:wrap .i64 ((i+j+1)/2)=(i+j+1)/2:=Af (by omega) (by omega)
    have w4:wrap .i64 ((i+j+1)/2-1)=(i+j+1)/2-1:=Af (by omega) (by omega)
    rw [decide_eq_true c,cT,w1,w2,e,w3,w4]
    exact Ap (fun _=>ih _ _ (by omega) (by omega) h2 (by omega)) fun _=>ih _ _ h0 (by omega) (by omega) (by omega)
   ·rw [decide_eq_false c,cF]
    exact Ap (fun _=>AP trivial) fun _=>AP trivial
 obtain⟨m,rfl⟩:∃m,n=m+1:=⟨n-1,by omega⟩
 refine key m 0 2000000000 (by omega) (by omega) (by omega) ?_
 have h1:(2:Int)^40<=2^m:=by
  have:=Nat.pow_le_pow_right (show 1<=2 by omega) (show 40<=m by omega)
  exact_mod_cast this
 have h2:(2:Int)^40=1099511627776:=by decide
 omega
theorem nH{n:Nat}{b:AI}(v:By b){i:Nat}(hi:i<b.Wires.length){k slew mode:Int}(hk:0<=k∧k<(b.Wires[i].Sink.length:Int))(hn:1048577<=n):BK (fun _=>True) (WT n b (i:Int) k slew mode):=by
 have vw:=v.wire i hi
 rw [WT]
 refine BK.bind (rD v hi hn) fun ds _ hl=>?_
 obtain⟨j,ej⟩:=Int.eq_ofNat_of_zero_le hk.1
 have ej:k=(j:Int):=ej
 subst ej
 have hj:j<b.Wires[i].Sink.length:=by omega
 have hs:=vw.sinks j hj
 obtain⟨a,ea⟩:=El (t:=ds) hs.1 (by omega)
 rw [AY hi,As,gI hj,As,ea,As]
 refine BK.bind (mA hn) fun r _ _=>?_
 obtain⟨q,eq⟩:=kE (n:=n) (s:=r) (D:=1000) (mode:=mode) (by omega)
 rw [eq];exact AP trivial
theorem Xj{d:AV}{q:Int}:∀x∈Iw d q,∃t,∃h:t<(pls d).length,x=(t:Int)∧Gj q (pls d)[t]=true:=fun x hx=>
 DX (Q:=fun x=>∃t,∃h:t<(pls d).length,x=(t:Int)∧Gj q (pls d)[t]=true) (pls d) 0 (fun j hj y hy=>by
  rw [Nat.zero_add]at hy
  by_cases c:Gj q (pls d)[j]=true
  ·rw [if_pos c]at hy;exact⟨j,hj,List.mem_singleton.1 hy,c⟩
  ·rw [if_neg c]at hy;cases hy) x hx
structure XM(b:AI)(x:AS)(f t q j:Nat):Prop where
 kind:x.Kind=2
 from_:x.From=2*(f:Int)∨x.From=2*(f:Int)+1
 to_:x.To=2*(t:Int)∨x.To=2*(t:Int)+1
 drv:∃h:f<(pls b.Design).length,(pls b.Design)[f].drives_=true
 snk:∃h:t<(pls b.Design).length,(pls b.Design)[t].drives_=false∧(pls b.Design)[t].net_=(q:Int)
 ix:x.Index=(j:Int)
 sinks:∃h:q<b.Wires.length,j<b.Wires[q].Sink.length
theorem Pt{b:AI}(v:By b):∀x∈IC b,x.Kind=1∨∃f t q j,XM b x f t q j:=by
 have vd:=v.design
 intro x hx
 simp only [IC,List.mem_append]at hx
 rcases hx with hx|hx
 ·refine .inl ?_
  refine DX (Q:=fun x:AS=>x.Kind=1) b.Design.Instances 0 (fun i hi y hy=>?_) x hx
  rw [Wo]at hy
  refine DX (Q:=fun x:AS=>x.Kind=1) _ 0 (fun j hj z hz=>?_) y hy
  obtain⟨t,ht,rfl⟩:=List.mem_map.1 hz
  rfl
 ·refine .inr ?_
  refine DX (Q:=fun x:AS=>∃f t q j,XM b x f t q j) b.Design.Nets 0 (fun q hq y hy=>?_) x hx
  rw [Nat.zero_add]at hy
  have hd:=Pj vd hq
  refine DX (Q:=fun x:AS=>∃f t q j,XM b x f t q j) _ 0 (fun j hj z hz=>?_) y hy
  rw [Nat.zero_add]at hz
  obtain⟨t,ht,et,st⟩:=Xj _ (List.getElem_mem hj)
  simp only [Gj,Bool.and_eq_true,beq_iff_eq,Bool.not_eq_true']at st
  have hdr:((pls b.Design)[Lk b.Design q]'hd.lt).drives_=true:=by have:=hd.hit;simp only [FO,Bool.and_eq_true]at this;exact this.2
  have hq2:q<b.Wires.length:=by rw [v.many];exact hq
  have hs:(Iw b.Design (q:Int)).length=b.Wires[q].Sink.length:=by rw [GN];have:=(v.wire q hq2).sink;omega
  simp only [Yn,List.mem_cons,List.not_mem_nil,or_false]at hz
  rw [et]at hz
  rcases hz with rfl|rfl
  ·exact⟨Lk b.Design q,t,q,j,rfl,.inl rfl,.inl rfl,⟨hd.lt,hdr⟩,⟨ht,st.2,st.1⟩,rfl,⟨hq2,by omega⟩⟩
  ·exact⟨Lk b.Design q,t,q,j,rfl,.inr rfl,.inr rfl,⟨hd.lt,hdr⟩,⟨ht,st.2,st.1⟩,rfl,⟨hq2,by omega⟩⟩
theorem jQ{n:Nat}{b:AI}(v:By b){x:AS}(ok:Rv b x)(k:x.Kind=1)(hn:1048577<=n):∃a z,Pn n b x=some (a,z)∧RB a.Delay true∧RB a.Slew true:=by
 have vd:=v.design
 obtain⟨p,y,c,a,g1,pm,g2,g3,g4,kd⟩:=ok.arc k
 have hp:=vd.net p pm
 have hW:=v.many
 obtain⟨N,hN⟩:=Int.eq_ofNat_of_zero_le hp.1
 have hN:p.net_=(N:Int):=hN
 have hNl:N<b.Wires.length:=by omega
 obtain⟨r,er,hr⟩:=mY (n:=n) v hNl hn
 have hm:=(v.wire N hNl).many
 have g1':AL ((pls b.Design).map GZ) (wrap .i64 (Int.tdiv x.To 2))=some (GZ p):=by
  obtain⟨g0,g5,g6⟩:=EM g1
  obtain⟨M,hM⟩:=Int.eq_ofNat_of_zero_le g0
  have hM:wrap .i64 (Int.tdiv x.To 2)=(M:Int):=hM
  rw [hM]at g6 ⊢
  rw [HP,List.getElem?_map]
  rw [Int.toNat_natCast]at g6
  rw [g6];rfl
 have g2':AL b.Design.Instances (GZ p).instance_=some y:=g2
 have hN':(GZ p).net_=(N:Int):=hN
 refine⟨a,gd r 0,?_,?_⟩
 ·rw [Pn,NM vd.short vd.few.1 vd.few.2.2 hn]
  simp only [As,g1',g2',g3,g4,hN',er]
  have e0:AL r 0=some (gd r 0):=gI (i:=0) (by omega)
  rw [e0];rfl
 ·obtain⟨_,_,c3⟩:=EM g3
  obtain⟨cl,ec⟩:=List.getElem?_eq_some_iff.1 c3
  obtain⟨_,_,a3⟩:=EM g4
  obtain⟨al,ea⟩:=List.getElem?_eq_some_iff.1 a3
  have vc:=vd.lib.cells _ cl
  rw [ec]at vc
  have ar:=(vc.arcs _ al).1
  rw [ea]at ar
  unfold Mk at ar
  obtain⟨_,ar⟩:=ar
  by_cases k1:a.Kind=1
  ·rw [if_pos k1]at ar;exact⟨ar.2.2.2.1,ar.2.2.2.2⟩
  ·rw [if_neg k1,if_pos (by omega)]at ar;exact⟨ar.2.2.2.1,ar.2.2.2.2⟩
theorem UJ{x:Int}(h:0<=x):0<=Int.tmod x 2∧Int.tmod x 2<2:=FG h (by omega)
theorem ZC{n:Nat}{b:AI}(v:By b){x:AS}{f t q j:Nat}(h:XM b x f t q j)(hn:1048577<=n):TC n b x=some (q:Int):=by
 have vd:=v.design
 have hl:=CS vd.short vd.few.1 vd.few.2.2
 obtain⟨ht,_,hq⟩:=h.snk
 have e1:wrap .i64 (Int.tdiv x.To 2)=(t:Int):=by
  have h0:0<=x.To:=by have:=h.to_;omega
  have e:Int.tdiv x.To 2=(t:Int):=by rw [Int.tdiv_eq_ediv_of_nonneg h0];have:=h.to_;omega
  rw [e,Af (by omega) (by omega)]
 rw [TC,NM vd.short vd.few.1 vd.few.2.2 hn,As,e1,AY (by simpa using ht),As,List.getElem_map]
 show some (pls b.Design)[t].net_=_
 rw [hq]
theorem rO{n:Nat}{c:BU}{k m:Int}:BK (fun _=>True) (Sy n c k m):=by
 rw [Sy]
 refine Ap (fun _=>Ap (fun _=>AP trivial) fun _=>AP trivial) fun _=>Ap (fun _=>AP trivial) fun _=>AP trivial
theorem YM{n:Nat}{b:AI}(v:By b){x:AS}(hx:x∈IC b){c:BU}{s m:Int}(hn:1048577<=n):BK (fun _=>True) (Qq n b c x s m):=by
 have ok:=Nh v x hx
 have dv:∀y:Int,BK (fun _=>True) (Option.bind (Oi n y 1000 m) fun r=>some r):=fun y=>by
  obtain⟨r,e⟩:=kE (n:=n) (s:=y) (D:=1000) (mode:=m) (by omega)
  rw [e];exact AP trivial
 rw [Qq]
 rcases Pt v x hx with k|⟨f,t,q,j,h⟩
 ·rw [beq_iff_eq.2 k,cT]
  obtain⟨a,z,e,hd,_⟩:=jQ (n:=n) v ok k hn
  rw [e,As]
  have pr:=UJ ok.to_.1
  exact BK.bind (BK.get pr.1 (by rw [hd.1];exact pr.2) hd.2) fun u _ hu=>BK.bind (rF hu.1 _ _ _ hn) fun _ _ _=>BK.bind rO fun _ _ _=>dv _
 ·have k:(x.Kind==1)=false:=by rw [beq_eq_false_iff_ne,h.kind];omega
  obtain⟨hq,hj⟩:=h.sinks
  rw [k,cF,ZC v h hn,As,h.ix]
  exact BK.bind (sW v hq hn) fun r _ hr=>BK.bind (CV (by omega) (by omega)) fun _ _ _=>BK.bind rO fun _ _ _=>dv _
theorem YP{n:Nat}{b:AI}(v:By b){x:AS}(hx:x∈IC b){s m:Int}(hn:1048577<=n):BK (fun _=>True) (QN n b x s m):=by
 have ok:=Nh v x hx
 rw [QN]
 rcases Pt v x hx with k|⟨f,t,q,j,h⟩
 ·rw [beq_iff_eq.2 k,cT]
  obtain⟨a,z,e,_,hd⟩:=jQ (n:=n) v ok k hn
  rw [e,As]
  have pr:=UJ ok.to_.1
  exact BK.bind (BK.get pr.1 (by rw [hd.1];exact pr.2) hd.2) fun u _ hu=>BK.bind (rF hu.1 _ _ _ hn) fun _ _ _=>AP trivial
 ·have k:(x.Kind==1)=false:=by rw [beq_eq_false_iff_ne,h.kind];omega
  obtain⟨hq,hj⟩:=h.sinks
  rw [k,cF,ZC v h hn,As,h.ix]
  exact BK.bind (nH v hq ⟨by omega,by omega⟩ hn) fun _ _ _=>AP trivial
theorem qT{n:Nat}{b:AI}(v:By b){x:AS}(hx:x∈IC b){c:BU}{s:Ai}(hn:1048577<=n):BK (fun _=>True) (WQ n b c x s):=by
 rw [WQ]
 exact BK.bind (YM v hx hn) fun _ _ _=>BK.bind (YM v hx hn) fun _ _ _=>BK.bind (YP v hx hn) fun _ _ _=>BK.bind (YP v hx hn) fun _ _ _=>BK.bind (YM v hx hn) fun _ _ _=>BK.bind (YM v hx hn) fun _ _ _=>BK.bind (YP v hx hn) fun _ _ _=>BK.bind (YP v hx hn) fun _ _ _=>AP trivial
theorem fT{n:Nat}{s t:Ai}:BK (fun _=>True) (NP n s t):=by rw [NP];exact AP trivial
structure Yj(N:Nat)(t:Ar):Prop where
 r:t.Reached.length=N
 a:t.Arrival.length=N
 s:t.Slew.length=N
abbrev rY:=Bool×Int×Int×Int×Int×Int
theorem oG{n:Nat}{b:AI}(v:By b){c:BU}{lv:List Bool}(hlv:lv.length=(IC b).length){ss:List Ao}(hs:ss.length<=1048576){t:Ar}(ht:Yj (2*(pls b.Design).length) t){k:Int}(hn:1048577<=n):
 BK (fun _=>True) (dV n b c (IC b) lv ss t k):=by
 have hL:=Gv v
 have hin:=Ps v
 have hr:=ht.r;have ha:=ht.a;have hsl:=ht.s
 rw [dV]
 refine Fp (L:=fun m i (p:rY)=>Jy ss k _ m p.1 i p.2.1 p.2.2.1 p.2.2.2.1 p.2.2.2.2.1 p.2.2.2.2.2) ss.length (fun _ _=>True) (BK fun _=>True) ?_ ?_ n 0 (false,0,0,0,0,0) (by omega) (by omega) trivial
 ·rintro m i ⟨q,i2,i3,i4,i5,i6⟩ hi _ ih
  simp only [Jy.eq_2,DH hi,cT,AY hi,As,wT i]
  exact Ap (fun _=>ih (true,_,_,_,_,_) trivial) fun _=>ih (q,i2,i3,i4,i5,i6) trivial
 ·rintro m ⟨q,i2,i3,i4,i5,i6⟩ _
  simp only [Jy.eq_2,DQ,cF]
  refine Fp (L:=fun m i (p:rY)=>Ij n b c (IC b) lv t k _ m p.1 i p.2.1 p.2.2.1 p.2.2.2.1 p.2.2.2.2.1 p.2.2.2.2.2) (IC b).length (fun _ _=>True) (BK fun _=>True) ?_ ?_ n 0 (q,i2,i3,i4,i5,i6) (by omega) (by omega) trivial
  ·rintro m i ⟨q,i2,i3,i4,i5,i6⟩ hi _ ih
   have hf:=hin.from_ i hi
   simp only [Ij.eq_2,DH hi,cT,AY hi,AY (show i<lv.length by omega),As,wT i]
   refine BK.bind (A:=fun _=>True) (Ap (fun _=>AP trivial) fun _=>BK.bind (CV hf.1 (by omega)) fun _ _ _=>AP trivial) fun cc _ _=>Ap (fun _=>ih (q,i2,i3,i4,i5,i6) trivial) fun _=>?_
   refine BK.bind (CV hf.1 (by omega)) fun sl _ _=>BK.bind (qT v (List.getElem_mem hi) hn) fun r _ _=>BK.bind (CV hf.1 (by omega)) fun a1 _ _=>BK.bind (CV hf.1 (by omega)) fun a2 _ _=>Ap (fun _=>?_) fun _=>ih (true,_,_,_,_,_) trivial
   exact BK.bind fT fun _ _ _=>BK.bind fT fun _ _ _=>ih (true,_,_,_,_,_) trivial
  ·rintro m ⟨q,i2,i3,i4,i5,i6⟩ _
   simp only [Ij.eq_2,DQ,cF]
   exact AP trivial
theorem sI{n:Nat}{s:Ai}:BK (fun _=>True) (QX n s):=⟨_,mJ,trivial⟩
theorem nM{n:Nat}{b:AI}(v:By b){c:BU}{lv:List Bool}(hlv:lv.length=(IC b).length){ss:List Ao}(hs:ss.length<=1048576){od:List Int}(ho:od.length<=1048576)(hr:∀x∈od,0<=x∧x<((2*(pls b.Design).length:Nat):Int))(hn:1048577<=n):
 BK (fun r=>Yj 0 r.1∨Yj (2*(pls b.Design).length) r.1) (Tz n b c (IC b) lv ss od):=by
 have vd:=v.design
 have hl:=CS vd.short vd.few.1 vd.few.2.2
 have wc:EN b=((2*(pls b.Design).length:Nat):Int):=by unfold EN;omega
 generalize hN:2*(pls b.Design).length=N at*
 rw [Tz,Tg v hn,As,wc,YY]
 simp only [Fi (show N<=1048576 by omega) (show 1<=268435456 by omega),Fi (show N<=1048576 by omega) (show 16<=268435456 by omega),As]
 refine Fp (L:=fun m i (p:List Bool×List Ai×List Ai)=>Hb n b c (IC b) lv ss od _ m i p.1 p.2.1 p.2.2) od.length (fun _ p=>Yj N ⟨p.1,p.2.1,p.2.2⟩) (BK fun r=>Yj 0 r.1∨Yj N r.1) ?_ ?_ n 0 (List.replicate N false,List.replicate N ⟨0,0⟩,List.replicate N ⟨0,0⟩) (by omega) (by omega) ⟨by simp,by simp,by simp⟩
 ·rintro m i ⟨l1,l2,l3⟩ hi ⟨h1,h2,h3⟩ ih
  have h1:l1.length=N:=h1
  have h2:l2.length=N:=h2
  have h3:l3.length=N:=h3
  have hx:=hr _ (List.getElem_mem hi)
  simp only [Hb.eq_2,DH hi,cT,AY hi,As,wT i]
  refine BK.bind (oG v hlv hs (t:=⟨l1,l2,l3⟩) (by rw [hN];exact⟨h1,h2,h3⟩) hn) fun r _ _=>Ap (fun _=>ih (l1,l2,l3) ⟨h1,h2,h3⟩) fun _=>BK.bind sI fun q _ _=>Ap (fun _=>AP (.inl ⟨rfl,rfl,rfl⟩)) fun _=>?_
  exact BK.bind (CV hx.1 (by omega)) fun _ _ _=>BK.bind (CV hx.1 (by omega)) fun _ _ _=>BK.bind (CV hx.1 (by omega)) fun _ _ _=>ih (_,_,_) ⟨by simpa using h1,by simpa using h2,by simpa using h3⟩
 ·rintro m ⟨l1,l2,l3⟩ h
  simp only [Hb.eq_2,DQ,cF]
  exact AP (.inr h)
theorem nE{n:Nat}{L:List AS}{lv:List Bool}{N:Nat}(hL:Qg L N)(hlv:lv.length=L.length)(hl:L.length<=10000)(hN:N<=1000)(hn:1048577<=n):
 BK (fun r=>r.1.length<=N∧∀x∈r.1,0<=x∧x<(N:Int)) (fG n (N:Int) L lv):=by
 rw [fG,Fi (by omega) (by omega),As]
 refine SH (L:=fun m (p:List Int×List Bool)=>Lj n (N:Int) L lv _ m p.1 p.2) (fun p=>N-p.1.length) (fun p=>(p.1.length<=N∧p.2.length=N)∧∀x∈p.1,0<=x∧x<(N:Int)) (BK fun r=>r.1.length<=N∧∀x∈r.1,0<=x∧x<(N:Int)) ?_ n ([],List.replicate N false) (by simp;omega) ⟨⟨by simp,by simp⟩,by simp⟩
 rintro m ⟨o,l⟩ ⟨⟨h1,h2⟩,h3⟩ ih
 have h1:o.length<=N:=h1
 have h2:l.length=N:=h2
 simp only [Lj.eq_2]
 refine Ap (fun c=>?_) fun _=>AP ⟨h1,h3⟩
 have c:o.length<N:=by have:=of_decide_eq_true c;omega
 rw [Fi (by omega) (by omega),As]
 refine Fp (L:=fun m' i (w:List Bool)=>Jt L lv l _ m' i w) L.length (fun _ w=>w.length=N) (BK fun r=>r.1.length<=N∧∀x∈r.1,0<=x∧x<(N:Int)) ?_ ?_ n 0 (List.replicate N false) (by omega) (by omega) (by simp)
 ·intro m' i w hi hw kk
  have hf:=hL.from_ i hi
  have ht:=hL.to_ i hi
  simp only [Jt.eq_2,DH hi,cT,AY hi,AY (show i<lv.length by omega),As,wT i]
  refine BK.bind (A:=fun _=>True) (Ap (fun _=>BK.bind (CV hf.1 (by omega)) fun _ _ _=>AP trivial) fun _=>AP trivial) fun cc _ _=>Ap (fun _=>BK.bind (CV ht.1 (by omega)) fun _ _ _=>kk _ (by simpa using hw)) fun _=>kk w hw
 ·intro m' w hw
  simp only [Jt.eq_2,DQ,cF]
  have fin:∀i:Nat,i<=N->BK (fun r=>r.1.length<=N∧∀x∈r.1,0<=x∧x<(N:Int)) ((cond ((i:Int)==(N:Int)) (some (([]:List Int),false)) (Option.bind (CA o [(i:Int)] 8) fun z103=>(Lj n (N:Int) L lv (fun l33 l37=>(some (l33,true))) m z103 ((l.set ((i:Int)).toNat true)))))):=fun i hi=>
   Ap (fun _=>AP ⟨by simp,by simp⟩) fun q=>by
    have q:=beq_eq_false_iff_ne.1 q
    rw [BN (by simp;omega) (by omega),As]
    refine ih (o++[(i:Int)],_) ⟨⟨by simp;omega,by simpa using h2⟩,fun x hx=>?_⟩ (by simp;omega)
    rcases List.mem_append.1 hx with h|h
    ·exact h3 x h
    ·rw [List.mem_singleton.1 h];omega
  refine Fp (L:=fun m' i (_:Unit)=>Lp (N:Int) l w _ m' i) N (fun _ _=>True) (BK fun r=>r.1.length<=N∧∀x∈r.1,0<=x∧x<(N:Int)) ?_ ?_ n 0 () (by omega) (by omega) trivial
  ·intro m'' i _ hi _ kk
   simp only [Lp.eq_2,DH hi,cT,AY (show i<l.length by omega),AY (show i<w.length by omega),As,wT i]
   refine BK.bind (A:=fun _=>True) (BK.bind (A:=fun _=>True) (Ap (fun _=>AP trivial) fun _=>AP trivial) fun _ _ _=>AP trivial) fun cc _ _=>Ap (fun _=>kk () trivial) fun _=>fin i (by omega)
  ·intro m'' _ _
   simp only [Lp.eq_2,DQ,cF,As,beq_self_eq_true,cT]
   exact AP ⟨by simp,by simp⟩
theorem eJ{n:Nat}{b:AI}{br:List Int}(hb:NO b)(hbr:br.length<=1048576)(hn:1048577<=n):BK (fun r=>(r !=0)=false->By b) (QS n b br):=by
 obtain⟨v,e1,hv⟩:=ZD (n:=n) hb hn
 rw [QS,e1,As]
 refine Ap (fun _=>AP fun h=>by cases h) fun q=>?_
 have vb:=hv.1 (by cases v<;>simp_all)
 have hL:=Gv vb
 rw [RQ vb hn,As]
 obtain⟨r,e2,_⟩:=rW (n:=n) (br:=br) (N:=((IC b).length:Int)) hbr ⟨by omega,by omega⟩ hn
 rw [e2,As]
 exact Ap (fun _=>AP fun h=>by cases h) fun _=>AP fun _=>vb
theorem oP{n:Nat}{b:AI}{br:List Int}(hb:NO b)(hbr:br.length<=1048576)(hn:1048577<=n):BK (fun r=>r.1.length<=156∧((r.2 !=0)=false->By b∧∀x∈r.1,0<=x∧x<((2*(pls b.Design).length:Nat):Int))) (VE n b br):=by
 rw [VE]
 refine BK.bind (eJ hb hbr hn) fun r _ hr=>Ap (fun q=>AP ⟨by simp,fun h=>by rw [show(r !=0)=false from h]at q;cases q⟩) fun q=>?_
 have v:=hr q
 have vd:=v.design
 have hl:=CS vd.short vd.few.1 vd.few.2.2
 have hL:=Gv v
 have wc:EN b=((2*(pls b.Design).length:Nat):Int):=by unfold EN;omega
 rw [RQ v hn,As,Tg v hn,As,kB (by omega) hbr hn,As,wc]
 exact BK.bind (nE (Ps v) (HA _ _ _) (by omega) (by omega) hn) fun o _ ho=>Ap (fun _=>AP ⟨by simp,fun h=>by cases h⟩) fun _=>AP ⟨by have:=ho.1;show o.1.length<=156;omega,fun _=>⟨v,ho.2⟩⟩
theorem qK{n:Nat}{c:BU}(h:c.Name.size<=1048576)(hn:1048577<=n):BK (fun _=>True) (WB n c):=by
 rw [WB]
 refine Fp (L:=fun m i (_:Unit)=>JE n c _ m i) ([c.CellEarly,c.CellLate,c.WireEarly,c.WireLate]).length (fun _ _=>True) (BK fun _=>True) ?_ ?_ n 0 () (by simp) (by simp;omega) trivial
 ·intro m i _ hi _ kk
  have hi4:i<4:=hi
  simp only [JE.eq_2,DH hi,cT,AY hi,As,Fk,wT i]
  exact Ap (fun _=>AP trivial) fun _=>kk () trivial
 ·intro m _ _
  simp only [JE.eq_2,DQ,cF,jZ h hn,As]
  exact AP trivial
theorem oM{n:Nat}{b:AI}(v:By b){ss:List Ao}(hs:ss.length<=1048576)(hn:1048577<=n):BK (fun _=>True) (Uu n b ss):=by
 rw [Uu,Tg v hn,As]
 refine Fp (L:=fun m i (_:Unit)=>JI n ss (EN b) _ m i) ss.length (fun _ _=>True) (BK fun _=>True) ?_ ?_ n 0 () (by omega) (by omega) trivial
 ·intro m i _ hi _ kk
  simp only [JI.eq_2,DH hi,cT,AY hi,As,Fk,mJ,Su,wT i]
  refine BK.bind (A:=fun _=>True) (Ap (fun _=>AP trivial) fun _=>BK.bind (A:=fun _=>True) (Ap (fun q=>?_) fun _=>AP trivial) fun _ _ _=>AP trivial) fun c1 _ _=>BK.bind (A:=fun _=>True) (Ap (fun _=>AP trivial) fun _=>AP trivial) fun c2 _ _=>BK.bind (A:=fun _=>True) (Ap (fun _=>AP trivial) fun _=>AP trivial) fun c3 _ _=>Ap (fun _=>AP trivial) fun _=>kk () trivial
  have q:=of_decide_eq_true q
  have w:wrap .i64 ((i:Int)-1)=((i-1:Nat):Int):=by rw [Af (by omega) (by omega)];omega
  rw [w,AY (show i-1<ss.length by omega)]
  exact AP trivial
 ·intro m _ _
  simp only [JI.eq_2,DQ,cF]
  exact AP trivial
theorem uA{n:Nat}{b:AI}{c:BU}{br:List Int}{ss:List Ao}(hb:NO b)(hc:c.Name.size<=1048576)(hbr:br.length<=1048576)(hs:ss.length<=1048576)(hn:1048577<=n):BK (fun r=>∃N,N<=156∧Yj N r.1) (VV n b c br ss):=by
 have no:∃N,N<=156∧Yj N (Ar.mk [] [] []):=⟨0,by omega,rfl,rfl,rfl⟩
 rw [VV]
 refine BK.bind (A:=fun r=>r.1.length<=156∧((r.2 !=0)=false->By b∧∀x∈r.1,0<=x∧x<((2*(pls b.Design).length:Nat):Int))) ?_ fun r _ hr=>Ap (fun _=>AP no) fun q=>?_
 ·rw [Xt]
  obtain⟨v,e1,hv⟩:=ZD (n:=n) hb hn
  rw [e1,As]
  refine BK.bind (A:=fun x=>x=false->v=true) (Ap (fun _=>AP fun h=>by cases h) fun q=>BK.bind (qK hc hn) fun _ _ _=>AP fun _=>by cases v<;>simp_all) fun x _ hx=>Ap (fun _=>AP ⟨by simp,fun h=>by cases h⟩) fun q=>?_
  have vb:=hv.1 (hx q)
  refine BK.bind (eJ hb hbr hn) fun r _ hr=>BK.bind (A:=fun _=>True) (Ap (fun _=>AP trivial) fun _=>BK.bind (oM vb hs hn) fun _ _ _=>AP trivial) fun x _ _=>Ap (fun _=>AP ⟨by simp,fun h=>by cases h⟩) fun _=>BK.bind (oP hb hbr hn) fun o _ ho=>AP ho
 ·obtain⟨v,ho⟩:=hr.2 q
  have vd:=v.design
  have hl:=CS vd.short vd.few.1 vd.few.2.2
  have hL:=Gv v
  rw [RQ v hn,As,kB (by omega) hbr hn,As]
  refine BK.bind (nM v (HA _ _ _) hs (by have:=hr.1;omega) ho hn) fun t _ ht=>Ap (fun _=>AP no) fun _=>AP ?_
  rcases ht with h|h
  ·exact⟨0,by omega,h⟩
  ·exact⟨_,by omega,h⟩
def ct(l:List Bool):Nat:=l.countP fun b=>b
theorem WW:∀{l:List Bool} {i:Nat},i<l.length->gb l i=true->ct (l.set i false)+1=ct l
 |[],i,h,_=>by simp at h
 |b::l,0,_,h=>by
  have h:b=true:=h
  subst h;simp [ct]
 |b::l,i+1,hi,h=>by
  have ih:=WW (l:=l) (i:=i) (by simpa using hi) h
  unfold ct at ih ⊢
  simp only [List.set_cons_succ,List.countP_cons];omega
theorem tB{n:Nat}{L:List AS}{lv:List Bool}{v:Int}(hlv:lv.length=L.length)(hl:L.length<=10000)(hn:1048577<=n):
 BK (fun r=>r=true->∃k,∃h:k<L.length,gb lv k=true∧L[k].From=v∧L[k].To=v) (VC n L lv v):=by
 rw [VC]
 refine Fp (L:=fun m i (_:Unit)=>JP L lv v _ m i) L.length (fun _ _=>True) (BK fun r=>r=true->∃k,∃h:k<L.length,gb lv k=true∧L[k].From=v∧L[k].To=v) ?_ ?_ n 0 () (by omega) (by omega) trivial
 ·intro m i _ hi _ kk
  simp only [JP.eq_2,DH hi,cT,AY hi,HO (show i<lv.length by omega),As,Bn,wT i]
  refine Ap (fun q=>AP fun _=>?_) fun _=>kk () trivial
  simp only [Bool.and_eq_true,beq_iff_eq]at q
  exact⟨i,hi,q.1.1,q.1.2,q.2⟩
 ·intro m _ _
  simp only [JP.eq_2,DQ,cF]
  exact AP fun h=>by cases h
def QQ(L:List AS)(lv:List Bool)(N:Nat)(x:List Int):Prop:=x.length<=N∧∃k,∃h:k<L.length,gb lv k=true∧L[k].Kind=1∧L[k].From∈x∧L[k].To∈x
structure aW(N v i:Nat)(r1 r2:List Bool)(x:List Int):Prop where
 few:x.length<=i
 iff:∀y,y∈x↔∃w:Nat,w<i∧y=(w:Int)∧gb r1 w=true∧gb r2 w=true
 two:x.length>1->∃w:Nat,w<N∧w≠v∧gb r1 w=true∧gb r2 w=true
theorem aW.skip{N v i:Nat}{r1 r2:List Bool}{x:List Int}(h:aW N v i r1 r2 x)(c:(gb r1 i&&gb r2 i)=false):aW N v (i+1) r1 r2 x:=
 ⟨by have:=h.few;omega,fun y=>(h.iff y).trans ⟨fun⟨w,a,b⟩=>⟨w,by omega,b⟩,fun⟨w,a,b,d,e⟩=>⟨w,by
  by_cases q:w=i
  ·subst q;rw [d,e]at c;cases c
  ·omega,b,d,e⟩⟩,h.two⟩
theorem aW.add{N v i:Nat}{r1 r2:List Bool}{x:List Int}(h:aW N v i r1 r2 x)(hi:i<N)(c:(gb r1 i&&gb r2 i)=true):aW N v (i+1) r1 r2 (x++[(i:Int)]):=by
 simp only [Bool.and_eq_true]at c
 refine⟨by have:=h.few;simp;omega,fun y=>?_,fun g=>?_⟩
 ·rw [List.mem_append,List.mem_singleton,h.iff y]
  constructor
  ·rintro (⟨w,a,b⟩|e)
   ·exact⟨w,by omega,b⟩
   ·exact⟨i,by omega,e,c.1,c.2⟩
  ·rintro ⟨w,a,b,d⟩
   by_cases q:w=i
   ·subst q;exact .inr b
   ·exact .inl ⟨w,by omega,b,d⟩
 ·have g:0<x.length:=by simp at g;omega
  obtain⟨w,a,_,d,e⟩:=(h.iff x[0]).1 (List.getElem_mem g)
  by_cases q:w=v
  ·exact⟨i,hi,by omega,c.1,c.2⟩
  ·exact⟨w,by omega,q,d,e⟩
theorem uD{n:Nat}{L:List AS}{lv:List Bool}{N:Nat}(hL:Qg L N)(hlv:lv.length=L.length)(hl:L.length<=10000)(hN:N<=1000)
 (hw:∀k (h:k<L.length) j (g:j<L.length),L[k].To=L[j].From->L[k].Kind=1∨L[j].Kind=1) (hn:1048577<=n):BK (fun r=>∀x∈r,QQ L lv N x) (jF n (N:Int) L lv):=by
 rw [jF,Fi (by omega) (by omega),As]
 refine Fp (L:=fun m i (p:List (List Int)×List Bool)=>Ir n (N:Int) L lv _ m p.1 i p.2) N (fun i p=>(p.1.length<=i∧∀x∈p.1,QQ L lv N x)∧p.2.length=N) (BK fun r=>∀x∈r,QQ L lv N x) ?_ ?_ n 0 ([],List.replicate N false) (by omega) (by omega) ⟨⟨by simp,by simp⟩,by simp⟩
 ·rintro m i ⟨o,l⟩ hi ⟨⟨h1,h2⟩,h3⟩ ih
  have h1:o.length<=i:=h1
  have h3:l.length=N:=h3
  simp only [Ir.eq_2,DH hi,cT,AY (show i<l.length by omega),As,wT i]
  refine Ap (fun _=>ih (o,l) ⟨⟨by show o.length<=i+1;omega,h2⟩,h3⟩) fun _=>?_
  obtain⟨r1,e1,k1⟩:=jW (n:=n) hL hlv hl hN hi hn
  obtain⟨r2,e2,k2⟩:=tJ (n:=n) hL hlv hl hN hi hn
  have l1:=k1.len;have l2:=k2.len
  rw [e1,As,e2,As]
  refine Fp (L:=fun m' j (p:List Int×List Bool)=>Jk (N:Int) r1 r2 _ m' p.1 j p.2) N (fun j p=>aW N i j r1 r2 p.1∧p.2.length=N) (BK fun r=>∀x∈r,QQ L lv N x) ?_ ?_ n 0 ([],l) (by omega) (by omega) ⟨⟨Nat.le_refl _,fun y=>⟨fun h=>(by cases h),fun⟨w,h,_⟩=>absurd h (Nat.not_lt_zero w)⟩,fun h=>(by simp at h)⟩,h3⟩
  ·rintro m' j ⟨x,d⟩ hj ⟨g1,g2⟩ kk
   have g2:d.length=N:=g2
   have gf:=g1.few
   have gf:x.length<=j:=gf
   simp only [Jk.eq_2,DH hj,cT,HO (show j<r1.length by omega),HO (show j<r2.length by omega),As,Bn,wT j]
   refine Ap (fun c=>?_) fun c=>kk (x,d) ⟨g1.skip c,g2⟩
   rw [BN (by simp;omega) (by omega),As,AY (show j<d.length by omega),As]
   exact kk (x++[(j:Int)],_) ⟨g1.add hj c,by simpa using g2⟩
  ·rintro m' ⟨x,d⟩ ⟨g1,g2⟩
   have gf:=g1.few
   have gf:x.length<=N:=gf
   have mem:∀u:Int,0<=u∧u<(N:Int)->GX L lv (fun y=>y=(i:Int)) u->GX L lv (fun y=>y=u) (i:Int)->u∈x:=fun u hu a b=>by
    obtain⟨w,ew⟩:=Int.eq_ofNat_of_zero_le hu.1
    have ew:u=(w:Int):=ew
    subst ew
    exact(g1.iff _).2 ⟨w,by omega,rfl,(k1.iff w (by omega)).2 a,(k2.iff w (by omega)).2 (GX.vr b)⟩
   simp only [Jk.eq_2,DQ,cF]
   refine BK.bind (A:=fun c=>c=true->QQ L lv N x) (Ap (fun c=>AP fun _=>?_) fun _=>BK.bind (tB hlv hl hn) fun r _ hr=>AP fun q=>?_) fun c _ hc=>Ap (fun q=>?_) fun _=>ih (o,d) ⟨⟨by show o.length<=i+1;omega,h2⟩,g2⟩
   ·have c:=of_decide_eq_true c
    obtain⟨w,wN,ne,a,b⟩:=g1.two (by show x.length>1;omega)
    obtain⟨k,hk,c1,c2,⟨c3,c4⟩,c5,c6⟩:=TF hw (v:=(i:Int)) (w:=(w:Int)) (by omega) ((k1.iff w wN).1 a) (GX.rv ((k2.iff w wN).1 b))
    exact⟨gf,k,hk,c1,c2,mem _ (hL.from_ k hk) c3 c4,mem _ (hL.to_ k hk) c5 c6⟩
   ·obtain⟨k,hk,c1,c2,c3⟩:=hr q
    have hv:=mem (i:Int) ⟨by omega,by omega⟩ (.src rfl) (.src rfl)
    exact⟨gf,k,hk,c1,(hw k hk k hk (by rw [c2,c3])).elim id id,by rw [c2];exact hv,by rw [c3];exact hv⟩
   ·rw [BN (by simp;omega) (by omega),As]
    refine ih (o++[x],d) ⟨⟨by simp;omega,fun y hy=>?_⟩,g2⟩
    rcases List.mem_append.1 hy with h|h
    ·exact h2 y h
    ·rw [List.mem_singleton.1 h];exact hc q
 ·rintro m ⟨o,l⟩ ⟨⟨h1,h2⟩,h3⟩
  simp only [Ir.eq_2,DQ,cF]
  exact AP h2
theorem XT{b:AI}(v:By b):∀k (h:k<(IC b).length) j (g:j<(IC b).length),(IC b)[k].To=(IC b)[j].From->(IC b)[k].Kind=1∨(IC b)[j].Kind=1:=by
 intro k hk j hj e
 rcases Pt v _ (List.getElem_mem hk)with c|⟨f,t,q,i,h⟩
 ·exact .inl c
 ·rcases Pt v _ (List.getElem_mem hj)with c|⟨f',t',q',i',h'⟩
  ·exact .inr c
  ·exfalso
   have:=h.to_;have:=h'.from_
   obtain rfl:t=f':=by omega
   obtain⟨_,a,_⟩:=h.snk
   obtain⟨_,b⟩:=h'.drv
   rw [a]at b;cases b
theorem pF{n:Nat}{b:AI}(v:By b)(hn:1048577<=n):BK (fun r=>r.length<=6000) (bE n b):=by
 have vd:=v.design
 have hl:=CS vd.short vd.few.1 vd.few.2.2
 have hL:=Gv v
 have hin:=Ps v
 have hal:=XT v
 have wc:EN b=((2*(pls b.Design).length:Nat):Int):=by unfold EN;omega
 rw [bE,RQ v hn,As,kB (by omega) (by simp) hn,As,Tg v hn,As,wc]
 generalize hX:IC b=X at*
 have lt:ct (Eh (fun k (_:AS)=>[!(([]:List Int).any fun y=>y==(k:Int))]) 0 X)<=X.length:=by
  have:=List.countP_le_length (p:=fun b:Bool=>b) (l:=Eh (fun k (_:AS)=>[!(([]:List Int).any fun y=>y==(k:Int))]) 0 X)
  rw [HA]at this;exact this
 refine SH (L:=fun m l=>My n X _ _ m l) ct (fun l=>l.length=X.length) (BK fun r=>r.length<=6000) ?_ n _ (by omega) (HA _ _ _)
 intro m l hlv ih
 simp only [My.eq_2]
 refine BK.bind (uD hin hlv (by omega) (by omega) hal hn) fun r _ hr=>Ap (fun _=>?_) fun q=>?_
 ·refine Fp (L:=fun m i s=>Js l _ m s i) l.length (fun i s=>s.length<=i) (BK fun r=>r.length<=6000) ?_ ?_ n 0 [] (by omega) (by omega) (Nat.le_refl _)
  ·intro m i s hi hs kk
   simp only [Js.eq_2,DH hi,cT,AY hi,As,wT i]
   refine Ap (fun _=>?_) fun _=>kk s (by omega)
   rw [BN (by simp;omega) (by omega),As]
   exact kk _ (by simp;omega)
  ·intro m s hs
   simp only [Js.eq_2,DQ,cF]
   exact AP (by omega)
 ·have r0:0<r.length:=by have:=beq_eq_false_iff_ne.1 q;omega
  obtain⟨gl,k,hk,g1,g2,g3,g4⟩:=hr r[0] (List.getElem_mem r0)
  have e0:AL r 0=some r[0]:=AY r0
  have anyM:∀{y:Int},y∈r[0]->(r[0].any fun z=>z==y)=true:=fun h=>List.any_eq_true.2 ⟨_,h,by simp⟩
  refine Fp (L:=fun m' i (z:Int)=>Kj n X l r _ m' z i) X.length (fun i z=>(∃q:Nat,z=(q:Int)∧q<X.length∧gb l q=true)∨i<=k) (BK fun r=>r.length<=6000) ?_ ?_ n 0 (-1) (by omega) (by omega) (.inr (Nat.zero_le _))
  ·intro m' i z hi hI kk
   simp only [Kj.eq_2,DH hi,cT,AY hi,HO (show i<l.length by omega),As,Bn,e0,gS (n:=n) (br:=r[0]) (show r[0].length<=1048576 by omega) hn,wT i]
   refine Ap (fun c=>kk (i:Int) (.inl ⟨i,rfl,hi,?_⟩)) fun c=>kk z ?_
   ·simp only [Bool.and_eq_true]at c
    exact c.1.1.1
   ·rcases hI with h|h
    ·exact .inl h
    ·refine .inr ?_
     rcases Nat.lt_or_ge i k with h2|h2
     ·omega
     ·obtain rfl:i=k:=by omega
      rw [g1,g2,anyM g3,anyM g4]at c
      simp at c
  ·intro m' z hI
   simp only [Kj.eq_2,DQ,cF]
   rcases hI with ⟨q,rfl,h1,h2⟩|h
   ·rw [HO (show q<l.length by omega),As,Int.toNat_natCast]
    have:=WW (show q<l.length by omega) h2
    exact ih _ (by simpa using hlv) (by omega)
   ·omega
theorem sJ{n:Nat}{c:List Int}(hc:IV c){s:AA}(hs:Do c s):BK (fun r=>r.1.Name.size<=1048576∧Do c r.2) (VY n s):=by
 have e:=hs.code
 have nm:∀x∈[(ByteArray.mk #[115,108,111,119]),(ByteArray.mk #[102,97,115,116]),(ByteArray.mk #[116,121,112])],x.size<=1048576:=by
  intro x hx
  simp only [List.mem_cons,List.not_mem_nil,or_false]at hx
  rcases hx with rfl|rfl|rfl<;>decide
 rw [VY]
 refine BK.bind (Nx hc hs 3) fun r1 _ ⟨h1,z0,z1⟩=>BK.bind (BK.get z0 (by simp;omega) nm) fun x _ hx=>BK.bind (Nx hc (h1.mk2 e) 20) fun r2 _ ⟨h2,_⟩=>BK.bind (Nx hc (h2.mk2 e) 20) fun r3 _ ⟨h3,_⟩=>BK.bind (Nx hc (h3.mk2 e) 60) fun r4 _ ⟨h4,_⟩=>BK.bind (Nx hc (h4.mk2 e) 40) fun r5 _ ⟨h5,_⟩=>BK.bind (Nx hc (h5.mk2 e) 30) fun r6 _ ⟨h6,_⟩=>?_
 refine Ap (fun _=>AP ⟨hx,h6.mk2 e⟩) fun _=>Ap (fun _=>BK.bind (Nx hc (h6.mk2 e) 3) fun r7 _ ⟨h7,y0,y1⟩=>BK.bind (CV y0 (by simp;omega)) fun _ _ _=>AP ⟨hx,h7.mk2 e⟩) fun _=>Ap (fun _=>BK.bind (Nx hc (h6.mk2 e) 2) fun r7 _ ⟨h7,_⟩=>AP ⟨hx,h7.mk2 e⟩) fun _=>Ap (fun _=>AP ⟨(by decide:(ByteArray.mk #[]).size<=1048576),h6.mk2 e⟩) fun _=>AP ⟨hx,h6.mk2 e⟩
theorem rI{n:Nat}(hn:1048577<=n){c:List Int}(hc:IV c){s:AA}(hs:Do c s){b:AI}(hb:NO b):BK (fun r=>r.1.length<=1000∧Do c r.2) (Wq n s b):=by
 have e:=hs.code
 obtain⟨v,e1,hv⟩:=ZD (n:=n) hb hn
 rw [Wq,e1,As]
 refine Ap (fun _=>AP ⟨by simp,hs⟩) fun q=>?_
 have vb:=hv.1 (by cases v<;>simp_all)
 have vd:=vb.design
 have hl:=CS vd.short vd.few.1 vd.few.2.2
 rw [NM vd.short vd.few.1 vd.few.2.2 hn,As]
 have hl2:((pls b.Design).map GZ).length<=78:=by simpa using hl
 generalize (pls b.Design).map GZ=ps at hl2 ⊢
 refine Fp (L:=fun m i (p:List Ao×Int×Int)=>MB n s ps _ m p.1 i p.2.1 p.2.2) ps.length (fun i p=>p.1.length<=2*i∧Do c (AA.mk s.code_ p.2.1 p.2.2)) (BK fun r=>r.1.length<=1000∧Do c r.2) ?_ ?_ n 0 ([],s.at_,s.seed_) (by omega) (by omega) ⟨by simp,hs⟩
 ·rintro m i ⟨l,a,d⟩ hi ⟨h1,h2⟩ ih
  have h1:l.length<=2*i:=h1
  simp only [MB.eq_2,DH hi,cT,AY hi,As,Bn,wT i]
  generalize (decide (ps[i].instance_<0)&&ps[i].drives_)=c95
  refine Fp (L:=fun m' k (p:List Ao×Int×Int)=>KU n s (i:Int) c95 _ m' p.1 k p.2.1 p.2.2) 2 (fun k p=>p.1.length<=2*i+k∧Do c (AA.mk s.code_ p.2.1 p.2.2)) (BK fun r=>r.1.length<=1000∧Do c r.2) ?_ ?_ n 0 (l,a,d) (by omega) (by omega) ⟨h1,h2⟩
  ·rintro m' k ⟨l,a,d⟩ hk ⟨g1,g2⟩ kk
   have g1:l.length<=2*i+k:=g1
   simp only [KU.eq_2,show((2:Int))=((2:Nat):Int)from rfl,DH hk,cT,wT k]
   refine BK.bind (A:=fun x:Bool×Int×Int=>Do c (AA.mk s.code_ x.2.1 x.2.2)) (Ap (fun _=>BK.bind (Nx hc g2 8) fun r _ ⟨q1,_⟩=>AP (q1.mk2 e)) fun _=>AP g2) fun x _ hx=>BK.bind (A:=fun x:Bool×Int×Int=>Do c (AA.mk s.code_ x.2.1 x.2.2)) (Ap (fun _=>AP hx) fun _=>BK.bind (Nx hc hx 24) fun r _ ⟨q1,_⟩=>AP (q1.mk2 e)) fun y _ hy=>Ap (fun _=>?_) fun _=>kk (l,y.2.1,y.2.2) ⟨by show l.length<=_;omega,hy⟩
   refine BK.bind (Nx hc hy 200) fun r1 _ ⟨q1,_⟩=>BK.bind (Nx hc (q1.mk2 e) 30) fun r2 _ ⟨q2,_⟩=>BK.bind (Nx hc (q2.mk2 e) 40) fun r3 _ ⟨q3,_⟩=>BK.bind (Nx hc (q3.mk2 e) 12) fun r4 _ ⟨q4,_⟩=>?_
   rw [BN (by simp;omega) (by omega),As]
   exact kk (_,_,_) ⟨by simp;omega,q4.mk2 e⟩
  ·rintro m' ⟨l,a,d⟩ ⟨g1,g2⟩
   simp only [KU.eq_2,show decide (((2:Nat):Int)<2)=false from rfl,cF]
   exact ih (l,a,d) ⟨g1,g2⟩
 ·rintro m ⟨l,a,d⟩ ⟨h1,h2⟩
  have h1:l.length<=2*ps.length:=h1
  simp only [MB.eq_2,DQ,cF]
  refine Ap (fun g=>?_) fun _=>AP ⟨by show l.length<=1000;omega,h2⟩
  have g:=of_decide_eq_true g
  refine BK.bind (Nx hc h2 _) fun r1 _ ⟨q1,z0,z1⟩=>BK.bind (Nx hc (q1.mk2 e) 30) fun r2 _ ⟨q2,_⟩=>?_
  have z2:r1.1<(l.length:Int):=by omega
  have gg:BK (fun _=>True) (AL l r1.1):=(CV z0 z2).weaken fun _ _=>trivial
  have fin:∀x:Ao,BK (fun r=>r.1.length<=1000∧Do c r.2) (some (l.set r1.1.toNat x,AA.mk s.code_ r2.2.at_ r2.2.seed_)):=fun x=>AP ⟨by simp;omega,q2.mk2 e⟩
  refine Ap (fun _=>BK.bind (CV (Int.le_refl 0) (by omega)) fun _ _ _=>BK.bind gg fun _ _ _=>fin _) fun _=>Ap (fun _=>BK.bind gg fun _ _ _=>BK.bind gg fun _ _ _=>fin _) fun _=>Ap (fun _=>BK.bind gg fun _ _ _=>fin _) fun _=>Ap (fun _=>BK.bind gg fun _ _ _=>fin _) fun _=>AP ⟨by show l.length<=1000;omega,q2.mk2 e⟩
structure Yx(b:AI)(c:BU)(br:List Int)(ss:List Ao):Prop where
 blk:LF b
 cor:c.Name.size<=1048576
 few:br.length<=6001
 src:ss.length<=1000
theorem kZ{n:Nat}(hn:1048577<=n){c:List Int}(hc:IV c){s:AA}(hs:Do c s){O:MW}{g:AI×BU×List Int×List Ao×AA->Option Unit}(hg:∀b co br ss s',Yx b co br ss->Do c s'->g (b,co,br,ss,s')=some ()):UE n O s g=some ():=by
 have e:=hs.code
 rw [UE]
 refine sQ hn hc hs fun b s' hb hs'=>Hy (sJ hc (hs'.mk2 e)) fun co ⟨hco,h1⟩=>Hy (Nx hc (h1.mk2 e) 3) fun r ⟨h2,_⟩=>?_
 have go:∀(b:AI) (s':AA),LF b->Do c s'->(Option.bind (RZ n ((AA.mk s.code_ s'.at_ s'.seed_)) b) fun r156=>(Option.bind (TU n b) fun r176=>(Option.bind (cond (r176&&((((r156.1.length:Int))==0))) (Option.bind (Dt n ((AA.mk s.code_ r156.2.at_ r156.2.seed_)) 6) fun r187=>(some (decide (r187.1>0),r187.2.at_,r187.2.seed_))) (some (false,r156.2.at_,r156.2.seed_))) fun c187=>(cond c187.1 (Option.bind (bE n b) fun r222=>(Option.bind (Wq n ((AA.mk s.code_ c187.2.1 c187.2.2)) b) fun r232=>(g (b,co.1,r222,r232.1,(AA.mk s.code_ r232.2.at_ r232.2.seed_))))) (Option.bind (Wq n ((AA.mk s.code_ c187.2.1 c187.2.2)) b) fun r302=>(g (b,co.1,r156.1,r302.1,(AA.mk s.code_ r302.2.at_ r302.2.seed_))))))))=some ():=fun b s' hb hs'=>by
  refine Hy (tX hn hc (hs'.mk2 e) hb.sm) fun br ⟨hbr,h3⟩=>?_
  obtain⟨v,e1,hv⟩:=ZD (n:=n) hb.sm hn
  rw [e1,As]
  refine Hy (A:=fun x:Bool×Int×Int=>Do c (AA.mk s.code_ x.2.1 x.2.2)∧(x.1=true->v=true)) (Ap (fun q=>BK.bind (Nx hc (h3.mk2 e) 6) fun r _ ⟨q1,_⟩=>AP ⟨q1.mk2 e,fun _=>by cases v<;>simp_all⟩) fun _=>AP ⟨h3.mk2 e,fun h=>by cases h⟩) fun x ⟨hx,hv2⟩=>ED (fun q=>?_) fun _=>Hy (rI hn hc hx hb.sm) fun ss ⟨hss,h4⟩=>hg _ _ _ _ _ ⟨hb,hco,hbr,hss⟩ (h4.mk2 e)
  exact Hy (pF (hv.1 (hv2 q)) hn) fun bk hbk=>Hy (rI hn hc hx hb.sm) fun ss ⟨hss,h4⟩=>hg _ _ _ _ _ ⟨hb,hco,by omega,hss⟩ (h4.mk2 e)
 exact ED (fun _=>lN hn hc (h2.mk2 e) (by omega) fun b s' hb _ _ hs'=>go b s' hb hs') fun _=>go b r.2 hb h2
structure kD(t:Ar):Prop where
 r:t.Reached.length<=156
 a:t.Arrival.length<=156
 s:t.Slew.length<=156
theorem sA{n:Nat}(hn:1048577<=n){c:List Int}(hc:IV c){s:AA}(hs:Do c s){b:AI}{co:BU}{br:List Int}{ss:List Ao}(h:Yx b co br ss):BK (fun r=>kD r.1∧Do c r.2) (Wd n s b co br ss):=by
 have e:=hs.code
 rw [Wd]
 refine BK.bind (uA (c:=co) h.blk.sm h.cor (by have:=h.few;omega) (by have:=h.src;omega) hn) fun t _ ⟨N,hN,t1,t2,t3⟩=>?_
 have tw:kD t.1:=⟨by omega,by omega,by omega⟩
 refine BK.bind (A:=fun x:Bool×Int×Int=>Do c (AA.mk s.code_ x.2.1 x.2.2)∧(x.1=false->0<N)) (Ap (fun _=>AP ⟨hs,fun h=>by cases h⟩) fun q=>BK.bind (Nx hc hs 8) fun r _ ⟨q1,_⟩=>AP ⟨q1.mk2 e,fun _=>by have:=beq_eq_false_iff_ne.1 q;omega⟩) fun x _ ⟨hx,h0⟩=>Ap (fun _=>AP ⟨tw,hx⟩) fun q=>?_
 have h0:=h0 q
 refine BK.bind (Nx hc hx _) fun r1 _ ⟨q1,z0,z1⟩=>BK.bind (Nx hc (q1.mk2 e) 4) fun r2 _ ⟨q2,_⟩=>?_
 have z2:r1.1<(N:Int):=by omega
 refine Ap (fun _=>BK.bind (CV z0 (by omega)) fun _ _ _=>BK.bind (CV z0 (by omega)) fun _ _ _=>AP ⟨⟨by show(t.1.Reached.set _ _).length<=156;simp;omega,tw.a,tw.s⟩,q2.mk2 e⟩) fun _=>Ap (fun _=>BK.bind (CV z0 (by omega)) fun _ _ _=>BK.bind (CV z0 (by omega)) fun _ _ _=>AP ⟨⟨tw.r,by show(t.1.Arrival.set _ _).length<=156;simp;omega,tw.s⟩,q2.mk2 e⟩) fun _=>Ap (fun _=>BK.bind (CV z0 (by omega)) fun _ _ _=>BK.bind (CV z0 (by omega)) fun _ _ _=>AP ⟨⟨tw.r,tw.a,by show(t.1.Slew.set _ _).length<=156;simp;omega⟩,q2.mk2 e⟩) fun _=>?_
 rw [show Ky t.1.Slew 0 r1.1=some ((t.1.Slew.take r1.1.toNat).drop (0:Int).toNat)from if_pos ⟨by omega,by omega,by omega⟩,As]
 exact AP ⟨⟨tw.r,tw.a,by simp;omega⟩,q2.mk2 e⟩
theorem sM{n:Nat}{c:List Int}(hc:IV c){s:AA}(hs:Do c s):BK (fun r=>r.1.Uncertainty<=12∧Do c r.2) (WD n s):=by
 have e:=hs.code
 rw [WD]
 refine BK.bind (Nx hc hs 300) fun r1 _ ⟨h1,_⟩=>BK.bind (Nx hc (h1.mk2 e) 60) fun r2 _ ⟨h2,_⟩=>BK.bind (Nx hc (h2.mk2 e) 12) fun r3 _ ⟨h3,_,u⟩=>BK.bind (Nx hc (h3.mk2 e) 30) fun r4 _ ⟨h4,_⟩=>?_
 have u:r3.1<=12:=by omega
 exact Ap (fun _=>BK.bind (Nx hc (h4.mk2 e) 3) fun r5 _ ⟨h5,y0,y1⟩=>BK.bind (CV y0 (by simp;omega)) fun _ _ _=>AP ⟨u,h5.mk2 e⟩) fun _=>Ap (fun _=>BK.bind (Nx hc (h4.mk2 e) 2) fun r5 _ ⟨h5,y0,y1⟩=>BK.bind (CV y0 (by simp;omega)) fun _ _ _=>AP ⟨u,h5.mk2 e⟩) fun _=>Ap (fun _=>AP ⟨by show(-1:Int)<=12;omega,h4.mk2 e⟩) fun _=>AP ⟨u,h4.mk2 e⟩
theorem rT{n:Nat}(hn:1048577<=n){c:List Int}(hc:IV c){s:AA}(hs:Do c s){O:MW}{g:AI×Ar×BO×AA->Option Unit}(hg:∀b t rel s',LF b->kD t->rel.Uncertainty<=12->Do c s'->g (b,t,rel,s')=some ()):Vq n O s g=some ():=by
 have e:=hs.code
 rw [Vq]
 exact kZ hn hc hs fun b co br ss s' h hs'=>Hy (sA hn hc (hs'.mk2 e) h) fun t ⟨ht,h1⟩=>Hy (sM hc (h1.mk2 e)) fun r ⟨hr,h2⟩=>hg _ _ _ _ h.blk ht hr (h2.mk2 e)
theorem aM{b:AI}{t:Ar}(vt:Vg b t){x:Int}(h0:0<=x)(h1:x<=EN b-1):-1000000000<=(Ff t x).Early∧(Ff t x).Early<=(Ff t x).Late∧(Ff t x).Late<=1000000000:=by
 have r:=vt.reached;have a:=vt.arr;have s:=vt.slew
 obtain⟨q,rfl⟩:=Int.eq_ofNat_of_zero_le h0
 have h1:(q:Int)<=EN b-1:=h1
 have e:=vt.each q (by omega) (by omega) (by omega)
 have ea:Ff t (q:Int)=t.Arrival[q]'(by omega):=by unfold Ff;simp [show q<t.Arrival.length by omega]
 show-1000000000<=(Ff t (q:Int)).Early∧(Ff t (q:Int)).Early<=(Ff t (q:Int)).Late∧(Ff t (q:Int)).Late<=1000000000
 rw [ea]
 simp only [Qp,OC,Pf,Bool.not_eq_true',Bool.or_eq_false_iff,Bool.not_eq_false',Bool.and_eq_true,decide_eq_true_eq]at e
 omega
structure Qw(s:Ai):Prop where
 lo:-1000000000<=s.Early
 mid:s.Early<=s.Late
 hi:s.Late<=1000000000
theorem Qw.arr{b:AI}{t:Ar}(vt:Vg b t){x:Int}(h0:0<=x)(h1:x<=EN b-1):Qw (Ff t x):=by
 obtain⟨a,b,c⟩:=aM vt h0 h1
 exact⟨a,b,c⟩
theorem Qw.hul{x y:Ai}(h:Qw x)(k:Qw y):Qw (hul x y):=by
 obtain⟨a1,a2,a3⟩:=h
 obtain⟨b1,b2,b3⟩:=k
 exact⟨by show _<=min _ _;omega,by show min _ _<=max _ _;omega,by show max _ _<=_;omega⟩
def Zw(rel:BO)(o d c:Ai):Int×Int×Int:=(rel.Setup+o.Early-rel.Uncertainty-d.Late,d.Early-(rel.Hold+c.Late+rel.Uncertainty),0)
theorem Gl.is{rel:BO}(h:Gl rel=true):(-1000000000<=rel.Setup∧rel.Setup<=1000000000)∧(-1000000000<=rel.Hold∧rel.Hold<=1000000000)∧0<=rel.Uncertainty∧rel.Uncertainty<=1000000000:=by
 simp only [Gl,Bool.and_eq_true,decide_eq_true_eq]at h
 omega
theorem TB{rel:BO}{o d c:Ai}(h:Gl rel=true)(ho:Qw o)(hd:Qw d)(hc:Qw c):
 (wrap .i64 (wrap .i64 (wrap .i64 (rel.Setup+o.Early)-rel.Uncertainty)-d.Late),wrap .i64 (d.Early-wrap .i64 (wrap .i64 (rel.Hold+c.Late)+rel.Uncertainty)),(0:Int))=Zw rel o d c:=by
 obtain⟨r1,r2,r3⟩:=Gl.is h
 obtain⟨a1,a2,a3⟩:=ho
 obtain⟨b1,b2,b3⟩:=hd
 obtain⟨c1,c2,c3⟩:=hc
 rw [Af (x:=rel.Setup+o.Early) (by omega) (by omega),Af (x:=rel.Hold+c.Late) (by omega) (by omega),Af (x:=rel.Setup+o.Early-rel.Uncertainty) (by omega) (by omega),Af (x:=rel.Hold+c.Late+rel.Uncertainty) (by omega) (by omega),Af (by omega) (by omega),Af (by omega) (by omega)]
 rfl
theorem mL{n:Nat}{a:AI}{t:Ar}{g:Bf}(hb:NO a)(ht:t.Reached.length<=1048576)(hn:1048577<=n):
 (∀rel,∃x,Mr n a t g rel=some x∧La n a t g rel=some x∧(x.2.2 !=0)=true)∨
 ∃o d c,Qw o∧Qw d∧Qw c∧∀rel,∃x,Mr n a t g rel=some x∧La n a t g rel=some x∧(Gl rel=false∧(x.2.2 !=0)=true∨Gl rel=true∧x=Zw rel o d c):=by
 have hcode:∀rel,TD n a t rel=Option.bind (TK n a t) fun c=>cond (c !=0) (some 1) (cond (!Gl rel) (some 2) (some 0)):=fun rel=>rE hb ht hn
 rcases uL (n:=n) hb ht hn with ⟨f1,⟨v,vt⟩,w,f2,hw⟩|⟨f1,f2⟩
 ·have hp:=CS v.design.short v.design.few.1 v.design.few.2.2
  have h1:=vt.reached;have h2:=vt.arr
  have nd:EN a=2*((pls a.Design).length:Int):=rfl
  have fw:=v.design.few
  have wI:wrap .i64 ((a.Design.Instances.length:Int)-1)=(a.Design.Instances.length:Int)-1:=Af (by omega) (by omega)
  by_cases lv:g.Level=0∨g.Level=1
  ·have lb:(decide (g.Level>=0)&&decide (g.Level<=1))=true:=by simp only [Bool.and_eq_true,decide_eq_true_eq];omega
   have lb2:((g.Level !=0)&&(g.Level !=1))=false:=by rcases lv with h|h<;>rw [h]<;>rfl
   cases di:(decide (g.Instance>=0)&&decide (g.Instance<=(a.Design.Instances.length:Int)-1))with
   |false=>
    refine .inl fun rel=>?_
    rw [Mr,La,hcode,f1,f2]
    simp only [As,cF,LL,bne_self_eq_false,bS,Bool.false_or,Fk,lb,lb2,Bool.not_true,wI,Oh,PU,IM,di]
    cases Gl rel<;>exact⟨_,rfl,rfl,rfl⟩
   |true=>
    have di2:=di
    simp only [Bool.and_eq_true,decide_eq_true_eq]at di
    obtain⟨i,hi⟩:=Int.eq_ofNat_of_zero_le di.1
    have hi:g.Instance=(i:Int):=hi
    have hil:i<a.Design.Instances.length:=by omega
    obtain⟨k,hk,hc,gc,hnl,vc⟩:=v.design.inst_at hil
    have hpl:a.Library.Cells[k].Pins.length<=1048576:=by have:=vc.pins.few;omega
    rw [hi]at di2
    have gb:((((a.Library.Cells[k].Kind==1)&&(decide (g.Clock>=0)&&decide (g.Clock<=(a.Library.Cells[k].Pins.length:Int)-2)))&&(decide (g.Enable>=0)&&decide (g.Enable<=(a.Library.Cells[k].Pins.length:Int)-2)))&&(g.Clock !=g.Enable))=SJ a.Library.Cells[k] g.Clock g.Enable:=rfl
    cases dg:SJ a.Library.Cells[k] g.Clock g.Enable with
    |false=>
     refine .inl fun rel=>?_
     rw [Mr,La,hcode,f1,f2]
     simp only [As,cF,cT,LL,bne_self_eq_false,bS,Bool.false_or,Fk,lb,lb2,Bool.not_true,wI,Oh,PU,IM,hi,di2,AY hil,gc,iC hpl,gY hpl,Bn,gb,dg]
     cases Gl rel<;>exact⟨_,rfl,rfl,rfl⟩
    |true=>
     have dg2:=dg
     simp only [SJ,Bool.and_eq_true,decide_eq_true_eq]at dg
     obtain⟨c,hcl⟩:=Int.eq_ofNat_of_zero_le dg.1.1.2.1
     have hcl:g.Clock=(c:Int):=hcl
     obtain⟨q,hen⟩:=Int.eq_ofNat_of_zero_le dg.1.2.1
     have hen:g.Enable=(q:Int):=hen
     rw [hcl,hen]at gb dg2
     have b1:=(Em (d:=a.Design) (q:=c) hil (by omega)).lt
     have b2:=(Em (d:=a.Design) (q:=q) hil (by omega)).lt
     have p1:=Sx (n:=n) v.design (q:=c) hil (by omega) hn
     have p2:=Sx (n:=n) v.design (q:=q) hil (by omega) hn
     have p3:=oJ (n:=n) v.design (q:=0) hil (by omega) hn
     have p3:Sv n a.Design (i:Int) 0=some ((FQ a.Design i+0:Nat):Int):=p3
     obtain⟨O,hO⟩:∃O:Nat,O=FQ a.Design i:=⟨_,rfl⟩
     rw [←hO]at p1 p2 p3 b1 b2
     obtain⟨C,eC⟩:∃C:Int,C=2*((O:Int)+c):=⟨_,rfl⟩
     obtain⟨E,eE⟩:∃E:Int,E=2*((O:Int)+q):=⟨_,rfl⟩
     have c1:wrap .i64 (2*((O+c:Nat):Int))=C:=by rw [Af (by omega) (by omega)];omega
     have c2:wrap .i64 (2*((O+q:Nat):Int))=E:=by rw [Af (by omega) (by omega)];omega
     have c3:wrap .i64 (2*wrap .i64 (((O+0:Nat):Int)+(c:Int)))=C:=by rw [Af (x:=((O+0:Nat):Int)+(c:Int)) (by omega) (by omega),Af (by omega) (by omega)];omega
     have c4:wrap .i64 (2*wrap .i64 (((O+0:Nat):Int)+(q:Int)))=E:=by rw [Af (x:=((O+0:Nat):Int)+(q:Int)) (by omega) (by omega),Af (by omega) (by omega)];omega
     have d1:wrap .i64 (C+1)=C+1:=Af (by omega) (by omega)
     have d2:wrap .i64 (E+1)=E+1:=Af (by omega) (by omega)
     have d3:wrap .i64 (C+0)=C:=by rw [Int.add_zero];exact Af (by omega) (by omega)
     have d4:wrap .i64 (C+1-0)=C+1:=by rw [Int.sub_zero];exact d1
     have d5:wrap .i64 (C+1-1)=C:=by rw [Int.add_sub_cancel];exact Af (by omega) (by omega)
     have r1:=TG (t:=t) (x:=C) (by omega) (by omega)
     have r2:=TG (t:=t) (x:=C+1) (by omega) (by omega)
     have r3:=TG (t:=t) (x:=E) (by omega) (by omega)
     have r4:=TG (t:=t) (x:=E+1) (by omega) (by omega)
     have a1:=TI (t:=t) (x:=C) (by omega) (by omega)
     have a2:=TI (t:=t) (x:=C+1) (by omega) (by omega)
     have a3:=TI (t:=t) (x:=E) (by omega) (by omega)
     have a4:=TI (t:=t) (x:=E+1) (by omega) (by omega)
     have s1:=Qw.arr vt (x:=C) (by omega) (by omega)
     have s2:=Qw.arr vt (x:=C+1) (by omega) (by omega)
     have s3:=Qw.arr vt (x:=E) (by omega) (by omega)
     have s4:=Qw.arr vt (x:=E+1) (by omega) (by omega)
     have hh:=bT (n:=n) (t:=t) (e:=E) (by omega) (by omega) (by omega) hn
     have lc:g.Level=0∧(g.Level==0)=true∨g.Level=1∧(g.Level==0)=false:=by rcases lv with h|h<;>rw [h]<;>decide
     rcases lc with ⟨lv,lv0⟩|⟨lv,lv0⟩
     ·cases e3:Ie t E<;>cases e4:Ie t (E+1)<;>cases e2:Ie t (C+1)<;>cases e1:Ie t C<;>first
      |(
       refine .inl fun rel=>?_
       rw [Mr,La,hcode,f1,f2]
       simp only [As,cF,cT,LL,bne_self_eq_false,bS,Bool.false_or,Fk,lb,lb2,Bool.not_true,wI,Oh,PU,IM,hi,di2,AY hil,gc,iC hpl,gY hpl,Bn,hcl,hen,gb,dg2,p1,p2,p3,c1,c2,c3,c4,d1,d2,d3,d4,lv,beq_self_eq_true,hh,r1,r2,r3,r4,e1,e2,e3,e4,Bool.not_false,a1,a2,a3,a4,NP,Int.min_self,Int.max_self]
       cases Gl rel<;>exact⟨_,rfl,rfl,rfl⟩)
      |(
       refine .inr ⟨Ff t (C+1),cond (Ie t E) (cond (Ie t (E+1)) (hul (Ff t E) (Ff t (E+1))) (Ff t E)) (Ff t (E+1)),Ff t C,s2,?hs,s1,fun rel=>?hr⟩
       case hr=>
        rw [Mr,La,hcode,f1,f2]
        simp only [As,cF,cT,LL,bne_self_eq_false,bS,Bool.false_or,Fk,lb,lb2,Bool.not_true,wI,Oh,PU,IM,hi,di2,AY hil,gc,iC hpl,gY hpl,Bn,hcl,hen,gb,dg2,p1,p2,p3,c1,c2,c3,c4,d1,d2,d3,d4,lv,beq_self_eq_true,hh,r1,r2,r3,r4,e1,e2,e3,e4,Bool.not_false,a1,a2,a3,a4,NP,Int.min_self,Int.max_self]
        cases eR:Gl rel
        ·exact⟨_,rfl,rfl,.inl ⟨rfl,rfl⟩⟩
        ·first|exact⟨_,rfl,rfl,.inr ⟨rfl,TB eR s2 (s3.hul s4) s1⟩⟩|exact⟨_,rfl,rfl,.inr ⟨rfl,TB eR s2 s3 s1⟩⟩|exact⟨_,rfl,rfl,.inr ⟨rfl,TB eR s2 s4 s1⟩⟩
       case hs=>
        simp only [e3,e4,cT,cF]
        first|exact s3.hul s4|exact s3|exact s4)
     ·cases e3:Ie t E<;>cases e4:Ie t (E+1)<;>cases e2:Ie t (C+1)<;>cases e1:Ie t C<;>first
      |(
       refine .inl fun rel=>?_
       rw [Mr,La,hcode,f1,f2]
       simp only [As,cF,cT,LL,bne_self_eq_false,bS,Bool.false_or,Fk,lb,lb2,Bool.not_true,wI,Oh,PU,IM,hi,di2,AY hil,gc,iC hpl,gY hpl,Bn,hcl,hen,gb,dg2,p1,p2,p3,c1,c2,c3,c4,d1,d2,d3,d5,lv,show((1:Int)==0)=false from rfl,hh,r1,r2,r3,r4,e1,e2,e3,e4,Bool.not_false,a1,a2,a3,a4,NP,Int.min_self,Int.max_self]
       cases Gl rel<;>exact⟨_,rfl,rfl,rfl⟩)
      |(
       refine .inr ⟨Ff t C,cond (Ie t E) (cond (Ie t (E+1)) (hul (Ff t E) (Ff t (E+1))) (Ff t E)) (Ff t (E+1)),Ff t (C+1),s1,?hs,s2,fun rel=>?hr⟩
       case hr=>
        rw [Mr,La,hcode,f1,f2]
        simp only [As,cF,cT,LL,bne_self_eq_false,bS,Bool.false_or,Fk,lb,lb2,Bool.not_true,wI,Oh,PU,IM,hi,di2,AY hil,gc,iC hpl,gY hpl,Bn,hcl,hen,gb,dg2,p1,p2,p3,c1,c2,c3,c4,d1,d2,d3,d5,lv,show((1:Int)==0)=false from rfl,hh,r1,r2,r3,r4,e1,e2,e3,e4,Bool.not_false,a1,a2,a3,a4,NP,Int.min_self,Int.max_self]
        cases eR:Gl rel
        ·exact⟨_,rfl,rfl,.inl ⟨rfl,rfl⟩⟩
        ·first|exact⟨_,rfl,rfl,.inr ⟨rfl,TB eR s1 (s3.hul s4) s2⟩⟩|exact⟨_,rfl,rfl,.inr ⟨rfl,TB eR s1 s3 s2⟩⟩|exact⟨_,rfl,rfl,.inr ⟨rfl,TB eR s1 s4 s2⟩⟩
       case hs=>
        simp only [e3,e4,cT,cF]
        first|exact s3.hul s4|exact s3|exact s4)
  ·have lb:(decide (g.Level>=0)&&decide (g.Level<=1))=false:=by simp only [Bool.and_eq_false_iff,decide_eq_false_iff_not];omega
   have lb2:((g.Level !=0)&&(g.Level !=1))=true:=by simp only [Bool.and_eq_true,bne_iff_ne];omega
   refine .inl fun rel=>?_
   rw [Mr,La,hcode,f1,f2]
   simp only [As,cF,LL,bne_self_eq_false,bS,Fk,lb,lb2]
   cases Gl rel<;>exact⟨_,rfl,rfl,rfl⟩
 ·refine .inl fun rel=>?_
  rw [Mr,La,hcode,f1,f2]
  exact⟨_,rfl,rfl,rfl⟩
theorem tW{n:Nat}(hn:1048577<=n){c:List Int}(hc:IV c){O:MW}{g:AI×Ar×Bf×BO->Option Unit}(hg:∀b t gt rel,LF b->kD t->rel.Uncertainty<=12->g (b,t,gt,rel)=some ()):UK n O c g=some ():=by
 rw [UK]
 refine Hy (Fr hc hn) fun s hs=>rT hn hc (hs.mk2 rfl) fun b t rel s' hb ht hu hs'=>Hy (Nx hc (hs'.mk2 rfl) 6) fun r1 ⟨h1,_⟩=>Hy (Nx hc (h1.mk2 rfl) 3) fun r2 ⟨h2,_⟩=>Hy (Nx hc (h2.mk2 rfl) 3) fun r3 ⟨h3,_⟩=>Hy (Nx hc (h3.mk2 rfl) 2) fun r4 ⟨h4,_⟩=>Hy (tK hn hc (h4.mk2 rfl) hb.dsg) fun p hp=>?_
 obtain⟨⟨gl,gc⟩,e1,hl⟩:=rZ (n:=n) (br:=[]) (p:=p.1) hb.sm (by simp) hn
 have hl:gl.length<=1048576:=hl
 rw [e1,As]
 dsimp only
 refine Hy (A:=fun x:Bool×Int×Int=>Do c (AA.mk c x.2.1 x.2.2)∧(x.1=true->0<gl.length)) (Ap (fun q=>BK.bind (Nx hc (hp.mk2 rfl) 6) fun r _ ⟨q1,_⟩=>AP ⟨q1.mk2 rfl,fun _=>by have:=of_decide_eq_true q;omega⟩) fun _=>AP ⟨hp.mk2 rfl,fun h=>by cases h⟩) fun x ⟨hx,h0⟩=>ED (fun q=>?_) fun _=>?_
 ·have h0:=h0 q
  refine Hy (Nx hc hx _) fun r ⟨h5,y0,y1⟩=>Hy (CV y0 (by omega)) fun y _=>Hy (Nx hc (h5.mk2 rfl) 20) fun r6 ⟨h6,_⟩=>?_
  exact ED (fun _=>Hy (Nx hc (h6.mk2 rfl) 2) fun _ _=>hg _ _ _ _ hb ht hu) fun _=>ED (fun _=>hg _ _ _ _ hb ht hu) fun _=>ED (fun _=>hg _ _ _ _ hb ht hu) fun _=>hg _ _ _ _ hb ht hu
 ·refine Hy (Nx hc hx 20) fun r6 ⟨h6,_⟩=>?_
  exact ED (fun _=>Hy (Nx hc (h6.mk2 rfl) 2) fun _ _=>hg _ _ _ _ hb ht hu) fun _=>ED (fun _=>hg _ _ _ _ hb ht hu) fun _=>ED (fun _=>hg _ _ _ _ hb ht hu) fun _=>hg _ _ _ _ hb ht hu
theorem Gl.of{s h u:Int}(h1:-1000000000<=s∧s<=1000000000)(h2:-1000000000<=h∧h<=1000000000)(h3:0<=u∧u<=1000000000):Gl ⟨s,h,u⟩=true:=by
 simp only [Gl,Bool.and_eq_true,decide_eq_true_eq]
 omega
theorem WE{code:List Int}(hR:code.length<=9223372036854775807∧∀x∈code,dD .u8 x):∃n O,XO n O code (fun r=>cond r (some ()) none)=some ():=by
 obtain⟨n,hn⟩:∃n,1048577<=n:=⟨_,Nat.le_refl _⟩
 obtain⟨O⟩:=MW.is
 refine⟨n,O,?_⟩
 rw [XO,XU,As]
 refine ED (fun _=>rfl) fun hbg=>?_
 have hc:=IV.of hR (of_decide_eq_false hbg)
 refine Hy (tG hc hn 6107) fun d hd=>tW hn hc fun b t gt rel hb ht hu=>?_
 have htr:t.Reached.length<=1048576:=by have:=ht.r;omega
 rcases mL (n:=n) (g:=gt) hb.sm htr hn with h|⟨o,dd,cl,ho,hd2,hcl,h⟩
 ·obtain⟨x,e1,e2,hx⟩:=h rel
  simp only [e1,e2,As,bne_self_eq_false,Bool.or_self,cF,hx,Bool.true_or,cT]
 ·obtain⟨x,e1,e2,hx⟩:=h rel
  simp only [e1,e2,As,bne_self_eq_false,Bool.or_self,cF]
  rcases hx with ⟨_,hx⟩|⟨rb,rfl⟩
  ·rw [hx];rfl
  ·refine ED (fun _=>rfl) fun q=>Hy (uQ hc (hd.mk2 rfl) (k:=50) (by omega)) fun r ⟨⟨r0,r1⟩,_⟩=>?_
   obtain⟨b1,b2,b3⟩:=Gl.is rb
   have q2:rel.Setup<=900000000:=by
    have:decide (rel.Setup>900000000)=false:=q
    have:=of_decide_eq_false this
    omega
   have w1:wrap .i64 (1+r.1)=1+r.1:=Af (by omega) (by omega)
   have w2:wrap .i64 (rel.Setup+(1+r.1))=rel.Setup+(1+r.1):=Af (by omega) (by omega)
   have w3:wrap .i64 (rel.Uncertainty+(1+r.1))=rel.Uncertainty+(1+r.1):=Af (by omega) (by omega)
   obtain⟨x1,_,f1,hx1⟩:=h ⟨rel.Setup+(1+r.1),rel.Hold,rel.Uncertainty⟩
   obtain⟨x2,_,f2,hx2⟩:=h ⟨rel.Setup,rel.Hold,rel.Uncertainty+(1+r.1)⟩
   rw [Gl.of (by omega) b2 b3]at hx1
   rw [Gl.of b1 b2 (by omega)]at hx2
   obtain⟨_,rfl⟩:=hx1.resolve_left fun h=>by cases h.1
   obtain⟨_,rfl⟩:=hx2.resolve_left fun h=>by cases h.1
   obtain⟨o1,o2,o3⟩:=ho
   obtain⟨d1,d2,d3⟩:=hd2
   obtain⟨c1,c2,c3⟩:=hcl
   have v1:wrap .i64 (rel.Setup+o.Early-rel.Uncertainty-dd.Late+(1+r.1))=rel.Setup+(1+r.1)+o.Early-rel.Uncertainty-dd.Late:=by rw [Af (by omega) (by omega)];omega
   have v2:wrap .i64 (rel.Setup+o.Early-rel.Uncertainty-dd.Late-(1+r.1))=rel.Setup+o.Early-(rel.Uncertainty+(1+r.1))-dd.Late:=by rw [Af (by omega) (by omega)];omega
   have v3:wrap .i64 (dd.Early-(rel.Hold+cl.Late+rel.Uncertainty)-(1+r.1))=dd.Early-(rel.Hold+cl.Late+(rel.Uncertainty+(1+r.1))):=by rw [Af (by omega) (by omega)];omega
   simp only [w1,w2,w3,f1,f2,As,Zw,v1,v2,v3,beq_self_eq_true,Bool.and_self,cT]

end Go.Proofs.YthojemmmflaicacGreatDoor
