/- The plain law behind FnTotalSlack: the plain function answers true; no condition. -/
import Derived.Test.YthojemmmflaicabGreatDoorLawFnTotalSlackA
set_option linter.all false
set_option maxHeartbeats 4000000
namespace Go.Proofs.YthojemmmflaicabGreatDoor
open Go Go.RowKit Go.Eng
open Go.IntKind (wrap)
theorem fV{n:Nat}{br:List Int}{x:Int}(h:br.length<=1048576)(hn:1048577<=n):RI n br x=some (br.any fun y=>y==x):=by
 rw [RI]
 refine loop (L:=fun m i (_:Unit)=>JR br x (fun i5=>some false) m i) br.length (fun i _=>(br.any fun y=>y==x)=((br.drop i).any fun y=>y==x)) (fun o=>o=some (br.any fun y=>y==x)) ?_ ?_ n 0 () (by omega) (by omega) (by simp)
 ·intro m i _ hi hI
  simp only [JR.eq_2,DB hi,cT,AX hi,As,wT i]
  rw [List.drop_eq_getElem_cons hi,List.any_cons]at hI
  cases c:(br[i]==x)with
  |true=>rw [c,Bool.true_or]at hI;rw [hI];exact .inr rfl
  |false=>rw [c,Bool.false_or]at hI;exact .inl ⟨(),hI,rfl⟩
 ·intro m _ hI
  rw [List.drop_length]at hI
  simp only [JR.eq_2,DN,cF,hI,List.any_nil]
structure TE(b:AG)(x:AS):Prop where
 from_:0<=x.From∧x.From<CD b
 to_:0<=x.To∧x.To<CD b
 arc:x.Kind=1->∃p y c a,AO (pls b.Design) (wrap .i64 (Int.tdiv x.To 2))=some p∧p∈pls b.Design∧AO b.Design.Instances p.instance_=some y∧AO b.Library.Cells y.Cell=some c∧AO c.Arcs x.Index=some a∧(a.Kind=1∨a.Kind=2∨a.Kind=3)
theorem Pc{b:AG}(v:Bv b):∀x∈Ky b,TE b x:=by
 have vd:=v.design
 have hl:=CX vd.short vd.few.1 vd.few.2.2
 have nd:CD b=2*((pls b.Design).length:Int):=rfl
 intro x hx
 simp only [Ky,List.mem_append]at hx
 rcases hx with hx|hx
 ·refine DU (Q:=TE b) b.Design.Instances 0 (fun i hi y hy=>?_) x hx
  rw [Nat.zero_add]at hy
  obtain⟨k,hk,_,gc,hnl,vc⟩:=vd.inst_at hi
  have ea:Lh b b.Design.Instances[i]=b.Library.Cells[k].Arcs:=by unfold Lh;rw [gc]
  rw [WY,ea]at hy
  refine DU (Q:=TE b) _ 0 (fun j hj z hz=>?_) y hy
  rw [Nat.zero_add]at hz
  obtain⟨⟨f0,f1⟩,⟨t0,t1⟩,kd⟩:=SA vc hj
  obtain⟨t,ht,rfl⟩:=List.mem_map.1 hz
  have tr:=Xg t ht
  obtain⟨F,eF⟩:=Int.eq_ofNat_of_zero_le f0
  have eF:b.Library.Cells[k].Arcs[j].From=(F:Int):=eF
  obtain⟨T,eT⟩:=Int.eq_ofNat_of_zero_le t0
  have eT:b.Library.Cells[k].Arcs[j].To=(T:Int):=eT
  have b1:=(Kl (d:=b.Design) (q:=F) hi (by omega)).lt
  have pf:=Kl (d:=b.Design) (q:=T) hi (by omega)
  have b2:=pf.lt
  obtain⟨p,ep,hp⟩:=pf.hit
  have hp:(p.instance_==(i:Int)&&p.pin_==(T:Int))=true:=hp
  simp only [Bool.and_eq_true,beq_iff_eq]at hp
  have k3:¬3<b.Library.Cells[k].Arcs[j].Kind:=fun h=>by rw [QM h]at ht;cases ht
  refine⟨?_,?_,fun _=>⟨p,b.Design.Instances[i],b.Library.Cells[k],b.Library.Cells[k].Arcs[j],?_,List.mem_of_getElem? ep,?_,gc,?_,by omega⟩⟩
  ·have h1:0<=2*((Jc b.Design i:Int)+b.Library.Cells[k].Arcs[j].From)+t.1∧2*((Jc b.Design i:Int)+b.Library.Cells[k].Arcs[j].From)+t.1<CD b:=by rw [eF];omega
   exact h1
  ·have h1:0<=2*((Jc b.Design i:Int)+b.Library.Cells[k].Arcs[j].To)+t.2∧2*((Jc b.Design i:Int)+b.Library.Cells[k].Arcs[j].To)+t.2<CD b:=by rw [eT];omega
   exact h1
  ·show AO (pls b.Design) (wrap .i64 (Int.tdiv (2*((Jc b.Design i:Int)+b.Library.Cells[k].Arcs[j].To)+t.2) 2))=some p
   rw [eT]
   have e1:Int.tdiv (2*((Jc b.Design i:Int)+(T:Int))+t.2) 2=((Jc b.Design i+T:Nat):Int):=by
    rw [Int.tdiv_eq_ediv_of_nonneg (by omega)];omega
   rw [e1,Ar (by omega) (by omega),Hy];exact ep
  ·rw [hp.1];exact AX hi
  ·exact AX hj
 ·refine DU (Q:=TE b) b.Design.Nets 0 (fun q hq y hy=>?_) x hx
  rw [Nat.zero_add]at hy
  have hd:=(PL vd hq).lt
  refine DU (Q:=TE b) _ 0 (fun j hj z hz=>?_) y hy
  have hs:=MX _ (List.getElem_mem hj)
  simp only [Yi,List.mem_cons,List.not_mem_nil,or_false]at hz
  rcases hz with rfl|rfl
  ·exact⟨⟨by show(0:Int)<=2*_;omega,by show(2:Int)*_<_;omega⟩,⟨by show(0:Int)<=2*_;omega,by show(2:Int)*_<_;omega⟩,fun h=>by have h:(2:Int)=1:=h;omega⟩
  ·exact⟨⟨by show(0:Int)<=2*_+1;omega,by show(2:Int)*_+1<_;omega⟩,⟨by show(0:Int)<=2*_+1;omega,by show(2:Int)*_+1<_;omega⟩,fun h=>by have h:(2:Int)=1:=h;omega⟩
theorem mE{n:Nat}{l:BA}{d:AY}(v:DD l d){p:BF}(hp:p∈pls d):∃r,WS n l d (Gg p)=some r:=by
 rw [WS]
 by_cases c:p.instance_<0
 ·rw [decide_eq_true (show(Gg p).instance_<0 from c),cT];exact⟨_,rfl⟩
 ·obtain⟨x,c',pin,e1,e2,e3⟩:=v.place p hp (by omega)
  have e1:AO d.Instances (Gg p).instance_=some x:=e1
  have e3:AO c'.Pins (Gg p).pin_=some pin:=e3
  rw [decide_eq_false (show¬(Gg p).instance_<0 from c),cF,e1,As,e2,As,e3,As];exact⟨_,rfl⟩
theorem pQ{n:Nat}{b:AG}(v:Bv b){i:Nat}(hi:i<b.Wires.length)(hn:1048577<=n):BH (fun r=>r.length=b.Wires[i].Parent.length) (bZ n b (i:Int)):=by
 have vd:=v.design
 have vw:=v.wire i hi
 have hm:=vw.many
 have hP:=vw.cap
 have hl:=CX vd.short vd.few.1 vd.few.2.2
 have hsl:(IU b.Design (i:Int)).length=b.Wires[i].Sink.length:=by rw [GN];have:=vw.sink;omega
 have hsn:snk b.Design (i:Int)<=78:=Nat.le_trans List.countP_le_length hl
 have hsn2:=GN (d:=b.Design) (q:=(i:Int))
 rw [bZ,AX hi,As,Of,BO (by simp;omega) (by omega),As,As,Ob vd.short vd.few.1 vd.few.2.2 hn,As,bC vd (i:Int) hn,As]
 refine GK (L:=fun m j s=>LP n b b.Wires[i] ((pls b.Design).map Gg) (IU b.Design (i:Int)) _ m j s) (IU b.Design (i:Int)).length (fun _ s=>s.length=b.Wires[i].Parent.length) ?_ ?_ n _ (by omega) (by simp;omega)
 ·intro m j s hj hs
  have hj2:j<b.Wires[i].Sink.length:=by omega
  have hk:=vw.sinks j hj2
  have hq:=MX _ (List.getElem_mem hj)
  obtain⟨a,ea⟩:=Es (t:=s) hk.1 (by omega)
  obtain⟨p,ep,hp⟩:=El (xs:=pls b.Design) hq.1 hq.2
  obtain⟨r,er⟩:=mE (n:=n) vd (List.mem_of_getElem? hp)
  have ep2:AO ((pls b.Design).map Gg) (IU b.Design (i:Int))[j]=some (Gg p):=by
   obtain⟨N,hN⟩:=Int.eq_ofNat_of_zero_le hq.1
   have hN:(IU b.Design (i:Int))[j]=(N:Int):=hN
   rw [hN]at hp ⊢
   rw [Hy,List.getElem?_map]
   rw [Int.toNat_natCast]at hp
   rw [hp];rfl
  simp only [LP.eq_2,DB hj,cT,AX hj,gI hj2,As,ea,ep2,er,wT j]
  exact⟨_,by simpa using hs,rfl⟩
 ·intro m s hs
  simp only [LP.eq_2,DN,cF]
  have wx:wrap .i64 ((s.length:Int)-1)=((s.length-1:Nat):Int):=by rw [Ar (by omega) (by omega)];omega
  rw [wx]
  have key:∀(m k:Nat) (s:List Int),k<b.Wires[i].Parent.length->s.length=b.Wires[i].Parent.length->k<m->BH (fun r:List Int=>r.length=b.Wires[i].Parent.length) (Lf b.Wires[i] (fun i92 l94=>(some l94)) m (k:Int) s):=by
   intro m
   induction m with
   |zero=>intro k s _ _ h;omega
   |succ m ih=>
    intro k s hk hs hm
    by_cases c:0<k
    ·have hd:decide ((k:Int)>0)=true:=decide_eq_true (by omega)
     have ht:=vw.tree k c hk
     obtain⟨a,ea⟩:=Es (t:=s) ht.1 (by omega)
     have wk:wrap .i64 ((k:Int)-1)=((k-1:Nat):Int):=by rw [Ar (by omega) (by omega)];omega
     simp only [Lf.eq_2,hd,cT,gI hk,As,ea,gI (show k<s.length by omega),wk]
     exact ih (k-1) _ (by omega) (by simpa using hs) (by omega)
    ·have hd:decide ((k:Int)>0)=false:=decide_eq_false (by omega)
     simp only [Lf.eq_2,hd,cF]
     exact⟨s,rfl,hs⟩
  exact key n (s.length-1) s (by omega) hs (by omega)
theorem NJ{l:List Bool}{i:Nat}(h:i<l.length):AO l (i:Int)=some (gb l i):=by rw [AX h];simp [gb,h]
def Ed(L:List AS)(lv:List Bool)(u w:Int):Prop:=∃k,∃h:k<L.length,gb lv k=true∧L[k].From=u∧L[k].To=w
inductive HX(L:List AS)(lv:List Bool)(src:Int->Prop):Int->Prop
 |src {u:Int}:src u->HX L lv src u
 |step {u w:Int}:HX L lv src u->Ed L lv u w->HX L lv src w
theorem HX.closed{L:List AS}{lv:List Bool}{s:Int->Prop}{Q:Int->Prop}(h0:∀u,s u->Q u)(h1:∀u w,Q u->Ed L lv u w->Q w){v:Int}(r:HX L lv s v):Q v:=by
 induction r with
 |src h=>exact h0 _ h
 |step _ e ih=>exact h1 _ _ ih e
structure QO(L:List AS)(lv:List Bool)(s:Int->Prop)(N:Nat)(out:List Bool):Prop where
 len:out.length=N
 iff:∀v:Nat,v<N->(gb out v=true↔HX L lv s (v:Int))
def cf(l:List Bool):Nat:=l.countP (fun b=>!b)
theorem fR(l:List Bool):cf l<=l.length:=List.countP_le_length
theorem UY:∀{l:List Bool} {i:Nat},i<l.length->gb l i=false->cf (l.set i true)+1=cf l
 |[],i,h,_=>by simp at h
 |b::l,0,_,h=>by
  have h:b=false:=h
  subst h;simp [cf]
 |b::l,i+1,hi,h=>by
  have ih:=UY (l:=l) (i:=i) (by simpa using hi) h
  unfold cf at ih ⊢
  simp only [List.set_cons_succ,List.countP_cons];omega
structure Pm(L:List AS)(N:Nat):Prop where
 from_:∀k (h:k<L.length),0<=L[k].From∧L[k].From<(N:Int)
 to_:∀k (h:k<L.length),0<=L[k].To∧L[k].To<(N:Int)
theorem qD{n:Nat}{L:List AS}{lv:List Bool}{N s:Nat}(hL:Pm L N)(hlv:lv.length=L.length)(hl:L.length<=10000)(hN:N<=1000)(hs:s<N)(hn:1048577<=n):
 ∃out,Yj n (N:Int) L lv (s:Int) true=some out∧QO L lv (fun u=>u=(s:Int)) N out:=by
 rw [Yj,Ev (by omega) (by omega),As,AX (show s<(List.replicate N false).length by simpa using hs),As,Int.toNat_natCast]
 have key:=Rv (L:=fun m (st:Bool×List Bool)=>GS n L lv true (fun q33 l34=>(some l34)) m st.1 st.2) (fun st=>2*cf st.2+st.1.toNat)
  (fun st=>st.2.length=N∧gb st.2 s=true∧(∀v,v<N->gb st.2 v=true->HX L lv (fun u=>u=(s:Int)) (v:Int))∧(st.1=false->∀k (h:k<L.length),gb lv k=true->gb st.2 L[k].From.toNat=true->gb st.2 L[k].To.toNat=true))
  (fun o=>∃out,o=some out∧QO L lv (fun u=>u=(s:Int)) N out) ?_ n (true,(List.replicate N false).set s true) ?_ ?_
 ·exact key
 ·rintro m ⟨q,out⟩ ⟨h1,h2,h3,h4⟩ ih
  have h1:out.length=N:=h1
  have h2:gb out s=true:=h2
  have h3:∀v,v<N->gb out v=true->HX L lv (fun u=>u=(s:Int)) (v:Int):=h3
  simp only [GS.eq_2]
  cases q with
  |false=>
   have h4:=h4 rfl
   refine⟨out,rfl,h1,fun v hv=>⟨h3 v hv,fun r=>?_⟩⟩
   have:=HX.closed (Q:=fun u=>0<=u∧u<(N:Int)∧gb out u.toNat=true) (fun u e=>by subst e;exact⟨by omega,by omega,by simpa using h2⟩) (fun u w hu e=>by
    obtain⟨k,hk,e1,e2,e3⟩:=e
    subst e2 e3
    have:=hL.to_ k hk
    exact⟨this.1,this.2,h4 k hk e1 hu.2.2⟩) r
   simpa using this.2.2
  |true=>
   rw [cT]
   have inner:=EY (L:=fun m' i (st:Bool×List Bool)=>Ex L lv true (fun q38 i39 l40=>(GS n L lv true (fun q33 l34=>(some l34)) m q38 l40)) m' st.1 i st.2) L.length
    (fun i st=>st.2.length=N∧gb st.2 s=true∧(∀v,v<N->gb st.2 v=true->HX L lv (fun u=>u=(s:Int)) (v:Int))∧(∀v,gb out v=true->gb st.2 v=true)∧cf st.2<=cf out∧(st.1=true->cf st.2<cf out)∧(st.1=false->st.2=out∧∀k (h:k<L.length),k<i->gb lv k=true->gb out L[k].From.toNat=true->gb out L[k].To.toNat=true))
    (fun o=>∃out,o=some out∧QO L lv (fun u=>u=(s:Int)) N out) ?_ ?_ n 0 (false,out) (by omega) (by omega) ⟨h1,h2,h3,fun v h=>h,Nat.le_refl _,fun h=>Bool.noConfusion h,fun _=>⟨rfl,fun k _ h=>absurd h (Nat.not_lt_zero k)⟩⟩
   ·exact inner
   ·rintro m' i ⟨q,l⟩ hi ⟨g1,g2,g3,g4,g5,g6,g7⟩ kk
    have g1:l.length=N:=g1
    have g2:gb l s=true:=g2
    have g3:∀v,v<N->gb l v=true->HX L lv (fun u=>u=(s:Int)) (v:Int):=g3
    have g4:∀v,gb out v=true->gb l v=true:=g4
    have g5:cf l<=cf out:=g5
    have g6:q=true->cf l<cf out:=g6
    have g7:q=false->l=out∧∀k (h:k<L.length),k<i->gb lv k=true->gb out L[k].From.toNat=true->gb out L[k].To.toNat=true:=g7
    have hF:=hL.from_ i hi
    have hT:=hL.to_ i hi
    obtain⟨F,eF⟩:=Int.eq_ofNat_of_zero_le hF.1
    have eF:L[i].From=(F:Int):=eF
    obtain⟨T,eT⟩:=Int.eq_ofNat_of_zero_le hT.1
    have eT:L[i].To=(T:Int):=eT
    have lF:F<l.length:=by omega
    have lT:T<l.length:=by omega
    show∃o',Ex L lv true _ (m'+1) q (i:Int) l=some o'∧_
    simp only [Ex.eq_2,DB hi,cT,AX hi,As,Bool.not_true,cF,NJ (show i<lv.length by omega),eF,eT,NJ lF,NJ lT,Bx,Int.toNat_natCast,wT i]
    have skip:(gb lv i=true->gb l F=true->gb l T=true)->∃o',Ex L lv true (fun q38 i39 l40=>(GS n L lv true (fun q33 l34=>(some l34)) m q38 l40)) m' q ((i+1:Nat):Int) l=some o'∧QO L lv (fun u=>u=(s:Int)) N o':=fun hc=>kk (q,l) ⟨g1,g2,g3,g4,g5,g6,fun hq=>by
     obtain⟨e,h⟩:=g7 hq
     refine⟨e,fun k hk hki a b=>?_⟩
     by_cases c:k=i
     ·subst c;subst e
      rw [eT,Int.toNat_natCast]
      rw [eF,Int.toNat_natCast]at b
      exact hc a b
     ·exact h k hk (by omega) a b⟩
    cases c1:(gb lv i&&gb l F)with
    |false=>
     simp only [Bool.false_and,cF]
     exact skip fun a b=>by rw [a,b]at c1;cases c1
    |true=>
     simp only [Bool.true_and]
     simp only [Bool.and_eq_true]at c1
     cases c2:gb l T with
     |true=>
      simp only [Bool.not_true,cF]
      exact skip fun _ _=>c2
     |false=>
      simp only [Bool.not_false,cT]
      have hcf:=UY lT c2
      refine kk (true,l.set T true) ⟨by simpa using g1,?_,?_,?_,by show cf (l.set T true)<=_;omega,fun _=>by show cf (l.set T true)<_;omega,fun h=>by cases h⟩
      ·show gb (l.set T true) s=true
       rw [OQ lT];split
       ·rfl
       ·exact g2
      ·intro v hv hg
       have hg:gb (l.set T true) v=true:=hg
       rw [OQ lT]at hg
       by_cases c:T=v
       ·subst c
        refine .step (g3 F (by omega) c1.2) ⟨i,hi,c1.1,eF,eT⟩
       ·rw [if_neg c]at hg;exact g3 v hv hg
      ·intro v hg
       show gb (l.set T true) v=true
       rw [OQ lT];split
       ·rfl
       ·exact g4 v hg
   ·rintro m' ⟨q,l⟩ ⟨g1,g2,g3,g4,g5,g6,g7⟩
    show∃o',Ex L lv true _ (m'+1) q (L.length:Int) l=some o'∧_
    simp only [Ex.eq_2,DN,cF]
    refine ih (q,l) ⟨g1,g2,g3,fun hq=>?_⟩ ?_
    ·obtain⟨e,h⟩:=g7 hq
     have e:l=out:=e
     subst e
     exact fun k hk a b=>h k hk hk a b
    ·show 2*cf l+q.toNat<2*cf out+1
     cases q with
     |true=>have:=g6 rfl;have:cf l<cf out:=this;simp;omega
     |false=>have:cf l<=cf out:=g5;simp;omega
 ·have h1:=fR ((List.replicate N false).set s true)
  simp only [List.length_set,List.length_replicate]at h1
  show 2*cf ((List.replicate N false).set s true)+1<n
  omega
 ·have hl2:s<(List.replicate N false).length:=by simpa using hs
  refine⟨by simp,by show gb ((List.replicate N false).set s true) s=true;rw [OQ hl2,if_pos rfl],fun v hv hg=>?_,fun h=>by cases h⟩
  have hg:gb ((List.replicate N false).set s true) v=true:=hg
  rw [OQ hl2]at hg
  by_cases c:s=v
  ·subst c;exact .src rfl
  ·rw [if_neg c]at hg;simp [gb,hv]at hg
theorem PT{b:AG}(v:Bv b):Pm (Ky b) (2*(pls b.Design).length):=
 ⟨fun k h=>by have:=(Pc v _ (List.getElem_mem h)).from_;unfold CD at this;push_cast;omega,fun k h=>by have:=(Pc v _ (List.getElem_mem h)).to_;unfold CD at this;push_cast;omega⟩
theorem jC{n:Nat}{L:List AS}{br:List Int}(hl:L.length<=1048576)(hb:br.length<=1048576)(hn:1048577<=n):Pu n L br=some (FF (fun k (_:AS)=>[!(br.any fun y=>y==(k:Int))]) 0 L):=by
 rw [Pu]
 rw [EC (xs:=L) (L:=fun m s i=>JI n L br (fun l19 i23=>(some l19)) m s i) (k:=fun s=>some s) (fun k (_:AS)=>[!(br.any fun y=>y==(k:Int))]) 1 0 (fun _ _ _=>by simp) (by omega) (by
  intro m i hi s hs
  simp only [JI.eq_2,DB hi,cT,fV hb hn,As,wT i]
  rw [BO (by simp;omega) (by omega),As]) (by
  intro m s
  simp only [JI.eq_2,DN,cF]) n (by omega) [] (by simp)]
 rw [List.nil_append]
theorem fY{n:Nat}{c:List Int}(hc:Jd c){s0:AA}(e0:s0.code_=c)(st:Int):∀(m k:Nat) (l:List Int) (x a d:Int),k<m->l.length+k<=3->De c (AA.mk s0.code_ a d)->
 BH (fun r=>r.1.length=l.length+k∧De c r.2) (JS n s0 st (fun l38 i42 i43 i45 i46=>(some (l38,(AA.mk s0.code_ i45 i46)))) m l x (k:Int) a d)
 |0,k,l,x,a,d,hm,_,_=>by omega
 |m+1,0,l,x,a,d,hm,hl,hs=>by
  rw [JS.eq_2]
  exact AL ⟨rfl,hs⟩
 |m+1,k+1,l,x,a,d,hm,hl,hs=>by
  have hp:decide (((k+1:Nat):Int)>0)=true:=decide_eq_true (by omega)
  have w:wrap .i64 (((k+1:Nat):Int)-1)=(k:Int):=by rw [Ar (by omega) (by omega)];omega
  rw [JS.eq_2,hp,cT,BO (by simp;omega) (by omega),As]
  refine BH.bind (Nx hc hs st) fun r _ ⟨h1,_⟩=>?_
  rw [w]
  exact(fY hc e0 st m k (l++[x]) _ _ _ (by omega) (by simp;omega) (h1.mk2 e0)).weaken fun r ⟨q1,q2⟩=>⟨by rw [q1];simp;omega,q2⟩
theorem pJ{n:Nat}{c:List Int}(hc:Jd c){s:AA}(hs:De c s)(st:Int)(hn:1048577<=n):BH (fun r=>(1<=r.1.length∧r.1.length<=3)∧De c r.2) (St n s st):=by
 rw [St]
 refine BH.bind (Nx hc hs st) fun r _ ⟨h1,_⟩=>BH.bind (Nx hc (h1.mk2 hs.code) 3) fun q _ ⟨k1,k2,k3⟩=>?_
 have w:wrap .i64 (1+q.1)=((1+q.1.toNat:Nat):Int):=by rw [Ar (by omega) (by omega)];omega
 rw [w]
 exact(fY hc hs.code st n _ [] _ _ _ (by omega) (by simp;omega) (k1.mk2 hs.code)).weaken fun r ⟨q1,q2⟩=>⟨⟨by rw [q1];simp,by rw [q1];simp;omega⟩,q2⟩
theorem gV{n:Nat}{c:List Int}(hc:Jd c){s0:AA}(e0:s0.code_=c)(base:Int){r15 r26:List Int×AA}(h15:r15.1.length<=3)(h26:1<=r26.1.length∧r26.1.length<=3):∀(m i:Nat) (l:List Int) (a d:Int),r15.1.length*r26.1.length-i<m->i<=r15.1.length*r26.1.length->l.length=i->De c (AA.mk s0.code_ a d)->
 BH (fun r=>TR r.1∧De c r.2) (Fz n s0 base r15 r26 (fun l52 i56 i58 i59=>(some ((BR.mk r15.1 r26.1 l52),(AA.mk s0.code_ i58 i59)))) m l (i:Int) a d)
 |0,i,l,a,d,hm,_,_,_=>by omega
 |m+1,i,l,a,d,hm,hi,hl,hs=>by
  have hprod:r15.1.length*r26.1.length<=3*3:=Nat.mul_le_mul h15 h26.2
  have wp:wrap .i64 ((r15.1.length:Int)*(r26.1.length:Int))=((r15.1.length*r26.1.length:Nat):Int):=by
   rw [←Int.natCast_mul,Ar (by omega) (by omega)]
  rw [Fz.eq_2,wp]
  by_cases c0:i<r15.1.length*r26.1.length
  ·rw [DB c0,cT]
   refine BH.bind (Nx hc hs 10) fun r _ ⟨h1,_⟩=>?_
   have hz:((r26.1.length:Int)==0)=false:=by rw [beq_eq_false_iff_ne];omega
   have tm:Int.tmod (i:Int) (r26.1.length:Int)=((i%r26.1.length:Nat):Int):=rfl
   have go1:∀(z:Int) (s':AA),De c s'->BH (fun r=>TR r.1∧De c r.2) (Option.bind (CB l [z] 8) fun z1=>Fz n s0 base r15 r26 (fun l52 i56 i58 i59=>(some ((BR.mk r15.1 r26.1 l52),(AA.mk s0.code_ i58 i59)))) m z1 (wrap .i64 ((i:Int)+1)) s'.at_ s'.seed_):=fun z s' h'=>by
    rw [BO (by simp;omega) (by omega),As,wS (by omega)]
    exact gV hc e0 base h15 h26 m (i+1) _ _ _ (by omega) (by omega) (by simp;omega) (h'.mk2 e0)
   have g2:(i:Int)>=(r26.1.length:Int)->∃x,AO l (wrap .i64 ((i:Int)-(r26.1.length:Int)))=some x:=fun h=>by
    rw [Ar (by omega) (by omega)]
    obtain⟨x,hx,_⟩:=El (xs:=l) (i:=(i:Int)-(r26.1.length:Int)) (by omega) (by omega)
    exact⟨x,hx⟩
   rw [hz,cF,tm]
   refine Ag (fun q1=>?_) fun q1=>?_
   ·have q1:=of_decide_eq_true q1
    have hi0:0<i:=by
     rcases Nat.eq_zero_or_pos i with e|e
     ·subst e;simp at q1
     ·exact e
    have w1:wrap .i64 ((i:Int)-1)=((i-1:Nat):Int):=by rw [Ar (by omega) (by omega)];omega
    rw [w1,AX (show i-1<l.length by omega),As]
    refine BH.bind (Nx hc (h1.mk2 e0) 20) fun r2 _ ⟨h2,_⟩=>Ag (fun q2=>?_) fun _=>go1 _ _ h2
    obtain⟨x,hx⟩:=g2 (of_decide_eq_true q2)
    rw [hx,As]
    exact BH.bind (Nx hc (h2.mk2 e0) 20) fun r3 _ ⟨h3,_⟩=>go1 _ _ h3
   ·refine Ag (fun q2=>?_) fun _=>go1 _ _ h1
    obtain⟨x,hx⟩:=g2 (of_decide_eq_true q2)
    rw [hx,As]
    exact BH.bind (Nx hc (h1.mk2 e0) 20) fun r3 _ ⟨h3,_⟩=>go1 _ _ h3
  ·rw [show decide ((i:Int)<((r15.1.length*r26.1.length:Nat):Int))=false from decide_eq_false (by omega),cF]
   exact AL ⟨⟨by show r15.1.length<=_;omega,by show r26.1.length<=_;omega,by show l.length<=_;omega⟩,hs⟩
theorem pN{n:Nat}{c:List Int}(hc:Jd c){s:AA}(hs:De c s)(base:Int)(hn:1048577<=n):BH (fun r=>TR r.1∧De c r.2) (SW n s base):=by
 rw [SW]
 refine BH.bind (pJ hc hs 60 hn) fun r _ ⟨h1,h2⟩=>BH.bind (pJ hc (h2.mk2 hs.code) 40 hn) fun q _ ⟨k1,k2⟩=>?_
 have:r.1.length*q.1.length<=3*3:=Nat.mul_le_mul h1.2 k1.2
 exact gV hc hs.code base h1.2 k1 n 0 [] _ _ (by omega) (by omega) rfl (k2.mk2 hs.code)
theorem lW{n:Nat}{c:List Int}(hc:Jd c){s:AA}(hs:De c s)(base:Int)(hn:1048577<=n):BH (fun r=>(r.1.length<=1048576∧∀t∈r.1,TR t)∧De c r.2) (Ra n s base):=by
 rw [Ra]
 refine BH.bind (pN hc hs base hn) fun r _ ⟨h1,h2⟩=>BH.bind (pN hc (h2.mk2 hs.code) base hn) fun q _ ⟨k1,k2⟩=>AL ⟨⟨by simp,fun t ht=>?_⟩,k2.mk2 hs.code⟩
 rcases List.mem_cons.1 ht with e|ht
 ·rw [e];exact h1
 ·rw [List.mem_singleton.1 ht];exact k1
theorem dM{n:Nat}{c:List Int}(hc:Jd c){s:AA}(hs:De c s)(kd f t z:Int)(hn:1048577<=n):BH (fun r=>fW r.1∧De c r.2) (Pe n s kd f t z):=by
 rw [Pe]
 refine Ag (fun _=>?_) fun _=>?_
 ·exact BH.bind (Nx hc hs 10) fun r _ ⟨h1,_⟩=>BH.bind (lW hc (h1.mk2 hs.code) _ hn) fun q _ ⟨k1,k2⟩=>AL ⟨⟨k1,by simp⟩,k2.mk2 hs.code⟩
 ·exact BH.bind (Nx hc hs 20) fun r _ ⟨h1,_⟩=>BH.bind (lW hc (h1.mk2 hs.code) _ hn) fun q _ ⟨k1,k2⟩=>BH.bind (lW hc (k2.mk2 hs.code) 10 hn) fun p _ ⟨p1,p2⟩=>AL ⟨⟨k1,p1⟩,p2.mk2 hs.code⟩
theorem jT:∀k:Nat,k<4->∀i:Nat,i<2^k->∀b:Nat,b<k->(Vf .i64 (i:Int) (LO .i64 1 (IntKind.wrap IntKind.u64 (b:Int))) !=0)=true∨(0<=wrap .i64 ((i:Int)+(LO .i64 1 (IntKind.wrap IntKind.u64 (b:Int))))∧wrap .i64 ((i:Int)+(LO .i64 1 (IntKind.wrap IntKind.u64 (b:Int))))<((2^k:Nat):Int)):=by decide+kernel
theorem tC{n:Nat}{cl:Au}{k b:Nat}(hk:k<4)(ht:cl.Truth.length=2^k)(hb:b<k)(hn:1048577<=n):BH (fun _=>True) (Um n cl (b:Int)):=by
 have h16:2^k<=2^4:=Nat.pow_le_pow_right (by omega) (by omega)
 have wb:IntKind.wrap IntKind.u64 (b:Int)=(b:Int):=by
  have:∀b:Nat,b<4->IntKind.wrap IntKind.u64 (b:Int)=(b:Int):=by decide+kernel
  exact this b (by omega)
 rw [Um,wb,decide_eq_false (by omega),cF]
 refine loop (L:=fun m i (p:Bool×Bool)=>Hh cl (b:Int) _ m p.1 p.2 i) cl.Truth.length (fun _ _=>True) (fun o=>BH (fun _=>True) o) ?_ ?_ n 0 (false,false) (by omega) (by omega) trivial
 ·intro m i p hi _
  have h8:=jT k hk i (by omega) b hb
  simp only [Hh.eq_2,DB hi,cT,wT i]
  rcases h8 with h8|h8
  ·simp only [h8,cT]
   exact .inl ⟨p,trivial,rfl⟩
  ·obtain⟨y,hy,_⟩:=El (xs:=cl.Truth) h8.1 (by rw [ht];exact h8.2)
   cases hx:(Vf .i64 (i:Int) (LO .i64 1 (IntKind.wrap IntKind.u64 (b:Int))) !=0)with
   |true=>simp only [cT];exact .inl ⟨p,trivial,rfl⟩
   |false=>
    simp only [cF,AX hi,hy,As]
    obtain⟨p1,p2⟩:=p
    cases p1<;>cases p2<;>exact .inl ⟨(_,_),trivial,rfl⟩
 ·intro m p _
  simp only [Hh.eq_2,DN,cF]
  obtain⟨p1,p2⟩:=p
  cases p1<;>cases p2<;>exact AL trivial
theorem sV{j:Nat}(h:j<4):∃x:ByteArray,AO ([(ByteArray.mk #[97]),(ByteArray.mk #[98]),(ByteArray.mk #[99]),(ByteArray.mk #[100])]) (j:Int)=some x∧x.size<=1048576:=by
 match j,h with
 |0,_=>exact⟨_,rfl,by decide⟩
 |1,_=>exact⟨_,rfl,by decide⟩
 |2,_=>exact⟨_,rfl,by decide⟩
 |3,_=>exact⟨_,rfl,by decide⟩
theorem cY{n:Nat}{c:List Int}(hc:Jd c){s0:AA}(e0:s0.code_=c){T:List Int}{k:Nat}(hk:k<4)(hT:T.length=2^k){Q:Au×AA->Prop}{k0:List CC->Int->Int->Int->Option (Au×AA)}
 (h0:∀l i a d,l.length=k->aM l->De c (AA.mk s0.code_ a d)->BH Q (k0 l i a d)):∀(m j:Nat) (l:List CC) (a d:Int),k-j<m->j<=k->l.length=j->aM l->De c (AA.mk s0.code_ a d)->
 BH Q (Mj n s0 T k0 m l ((2^j:Nat):Int) a d)
 |0,j,l,a,d,hm,_,_,_,_=>by omega
 |m+1,j,l,a,d,hm,hj,hl,hp,hs=>by
  rw [Mj.eq_2,hT]
  by_cases q:j<k
  ·have h2:2^j<2^k:=Nat.pow_lt_pow_right (by omega) q
   have h16:2^k<=2^4:=Nat.pow_le_pow_right (by omega) (by omega)
   have hw:wrap .i64 (2*((2^j:Nat):Int))=((2^(j+1):Nat):Int):=by
    rw [Nat.pow_succ]
    generalize 2^j=P at h2 ⊢
    rw [Ar (by omega) (by omega)];omega
   obtain⟨x,hx,hz⟩:=sV (j:=j) (by omega)
   rw [DB h2,cT,hl,hx,As,hw]
   refine BH.bind (Nx hc hs 9) fun r _ ⟨h1,_⟩=>?_
   rw [BO (by simp;omega) (by omega),As]
   refine cY hc e0 hk hT h0 m (j+1) _ _ _ (by omega) (by omega) (by simp;omega) ⟨by simp;omega,fun p hp2=>?_⟩ (h1.mk2 e0)
   rcases List.mem_append.1 hp2 with h|h
   ·exact hp.2 p h
   ·rw [List.mem_singleton.1 h];exact hz
  ·obtain rfl:j=k:=by omega
   rw [DN,cF]
   exact h0 l _ a d hl hp hs
theorem aH{n:Nat}(hn:1048577<=n){c:List Int}(hc:Jd c){s0:AA}(e0:s0.code_=c){T:List Int}{k:Nat}(hk:k<4)(hT:T.length=2^k){nm:ByteArray}(hnm:nm.size<=1048576){r33 r41:Int×AA}{ps z:List CC}(hps:ps.length=k)(hz:aM z):∀(m i:Nat) (l:List Bg) (a d:Int),k-i<m->i<=k->l.length<=i->(∀x∈l,fW x)->De c (AA.mk s0.code_ a d)->
 BH (fun r=>TP r.1∧De c r.2) (KB n s0 nm T r33 r41 ps z (fun l144 i148 i150 i151=>(some ((Au.mk nm 1 z l144 T r33.1 r41.1),(AA.mk s0.code_ i150 i151)))) m l (i:Int) a d)
 |0,i,l,a,d,hm,_,_,_,_=>by omega
 |m+1,i,l,a,d,hm,hi,hl,hA,hs=>by
  have h16:2^k<=2^4:=Nat.pow_le_pow_right (by omega) (by omega)
  rw [KB.eq_2,hps]
  by_cases q:i<k
  ·rw [DB q,cT,wS (by omega)]
   refine BH.bind (tC (cl:=Au.mk nm 1 z [] T r33.1 r41.1) hk hT q hn) fun sn _ _=>Ag (fun _=>?_) fun _=>aH hn hc e0 hk hT hnm hps hz m (i+1) l a d (by omega) (by omega) (by omega) hA hs
   refine BH.bind (dM hc hs 1 _ _ _ hn) fun r _ ⟨h1,h2⟩=>?_
   rw [BO (by simp;omega) (by omega),As]
   refine aH hn hc e0 hk hT hnm hps hz m (i+1) _ _ _ (by omega) (by omega) (by simp;omega) (fun x hx=>?_) (h2.mk2 e0)
   rcases List.mem_append.1 hx with h|h
   ·exact hA x h
   ·rw [List.mem_singleton.1 h];exact h1
  ·obtain rfl:i=k:=by omega
   rw [DN,cF]
   exact AL ⟨⟨hnm,hz,⟨by show l.length<=_;omega,hA⟩,by show T.length<=_;omega⟩,hs⟩
theorem gJ{n:Nat}{c:List Int}(hc:Jd c){s:AA}(hs:De c s){nm:ByteArray}(hnm:nm.size<=1048576){T:List Int}{k:Nat}(hk:k<4)(hT:T.length=2^k)(hn:1048577<=n):BH (fun r=>TP r.1∧De c r.2) (Xn n s nm T):=by
 rw [Xn]
 refine BH.bind (Nx hc hs 50) fun r _ ⟨h1,_⟩=>BH.bind (Nx hc (h1.mk2 hs.code) 80) fun q _ ⟨h2,_⟩=>?_
 have:=cY (n:=n) (s0:=s) (Q:=fun r=>TP r.1∧De c r.2) hc hs.code hk hT (k0:=fun l75 i79 i81 i82=>(Option.bind (CB l75 ([(CC.mk ((ByteArray.mk #[121])) 2 0 false)]) 40) fun z106=>(KB n s nm T r q l75 z106 (fun l144 i148 i150 i151=>(some ((Au.mk nm 1 z106 l144 T r.1 q.1),(AA.mk s.code_ i150 i151)))) n (([]:List Bg)) 0 i81 i82))) (fun l i a d hl hp hs2=>by
  rw [BO (by simp;omega) (by omega),As]
  refine aH hn hc hs.code hk hT hnm hl ⟨by simp;omega,fun p hp2=>?_⟩ n 0 [] a d (by omega) (by omega) (by simp) (by simp) hs2
  rcases List.mem_append.1 hp2 with h|h
  ·exact hp.2 p h
  ·rw [List.mem_singleton.1 h];exact(by decide:(ByteArray.mk #[121]).size<=1048576)) n 0 [] q.2.at_ q.2.seed_ (by omega) (by omega) rfl ⟨by simp,by simp⟩ (h2.mk2 hs.code)
 exact this
theorem lP{n:Nat}{c:List Int}(hc:Jd c){s:AA}(hs:De c s){nm:ByteArray}(hnm:nm.size<=1048576)(kd ed:Int)(hn:1048577<=n):BH (fun r=>TP r.1∧De c r.2) (Qq n s nm kd ed):=by
 have e:=hs.code
 have pins:∀x y:Int,aM [(CC.mk ((ByteArray.mk #[100])) 1 x false),(CC.mk ((ByteArray.mk #[99,107])) 1 y true),(CC.mk ((ByteArray.mk #[113])) 2 0 false)]:=fun x y=>⟨by simp,fun p hp=>by
  rcases List.mem_cons.1 hp with h|hp
  ·rw [h];exact(by decide:(ByteArray.mk #[100]).size<=1048576)
  ·rcases List.mem_cons.1 hp with h|hp
   ·rw [h];exact(by decide:(ByteArray.mk #[99,107]).size<=1048576)
   ·rw [List.mem_singleton.1 hp];exact(by decide:(ByteArray.mk #[113]).size<=1048576)⟩
 rw [Qq]
 refine BH.bind (Nx hc hs 50) fun r1 _ ⟨h1,_⟩=>BH.bind (Nx hc (h1.mk2 e) 80) fun r2 _ ⟨h2,_⟩=>BH.bind (Nx hc (h2.mk2 e) 9) fun r3 _ ⟨h3,_⟩=>BH.bind (Nx hc (h3.mk2 e) 9) fun r4 _ ⟨h4,_⟩=>BH.bind (dM hc (h4.mk2 e) _ _ _ _ hn) fun r5 _ ⟨a5,h5⟩=>BH.bind (dM hc (h5.mk2 e) _ _ _ _ hn) fun r6 _ ⟨a6,h6⟩=>BH.bind (dM hc (h6.mk2 e) _ _ _ _ hn) fun r7 _ ⟨a7,h7⟩=>Ag (fun _=>?_) fun _=>?_
 ·refine BH.bind (dM hc (h7.mk2 e) _ _ _ _ hn) fun r8 _ ⟨a8,h8⟩=>?_
  rw [BO (by simp) (by omega),As]
  refine AL ⟨⟨hnm,pins _ _,⟨by simp,fun x hx=>?_⟩,by simp⟩,h8.mk2 e⟩
  simp only [List.cons_append,List.nil_append,List.mem_cons,List.not_mem_nil,or_false]at hx
  rcases hx with h|h|h|h<;>rw [h]<;>assumption
 ·refine AL ⟨⟨hnm,pins _ _,⟨by simp,fun x hx=>?_⟩,by simp⟩,h7.mk2 e⟩
  simp only [List.mem_cons,List.not_mem_nil,or_false]at hx
  rcases hx with h|h|h<;>rw [h]<;>assumption
theorem TP.re{cl:Au}(h:TP cl){T:List Int}(hT:T.length<=1048576):TP (Au.mk cl.Name cl.Kind cl.Pins cl.Arcs T cl.Leak cl.Energy):=⟨h.name,h.pins,h.arcs,hT⟩
theorem sA{n:Nat}{c:List Int}(hc:Jd c){s:AA}(hs:De c s)(hn:1048577<=n):BH (fun r=>Rk r.1∧De c r.2) (UE n s):=by
 have e:=hs.code
 rw [UE]
 refine BH.bind (gJ hc hs (k:=1) (by decide) (by decide) (by decide) hn) fun r1 _ ⟨a1,h1⟩=>BH.bind (gJ hc (h1.mk2 e) (k:=1) (by decide) (by decide) (by decide) hn) fun r2 _ ⟨a2,h2⟩=>BH.bind (gJ hc (h2.mk2 e) (k:=2) (by decide) (by decide) (by decide) hn) fun r3 _ ⟨a3,h3⟩=>BH.bind (gJ hc (h3.mk2 e) (k:=2) (by decide) (by decide) (by decide) hn) fun r4 _ ⟨a4,h4⟩=>BH.bind (gJ hc (h4.mk2 e) (k:=3) (by decide) (by decide) (by decide) hn) fun r5 _ ⟨a5,h5⟩=>BH.bind (lP hc (h5.mk2 e) (by decide) _ _ hn) fun r6 _ ⟨a6,h6⟩=>BH.bind (lP hc (h6.mk2 e) (by decide) _ _ hn) fun r7 _ ⟨a7,h7⟩=>BH.bind (lP hc (h7.mk2 e) (by decide) _ _ hn) fun r8 _ ⟨a8,h8⟩=>?_
 have b1:=a1.re (T:=[1,0]) (by decide)
 have b2:=a2.re (T:=[0,1]) (by decide)
 have b3:=a3.re (T:=[1,1,1,0]) (by decide)
 have b4:=a4.re (T:=[0,1,1,0]) (by decide)
 have b5:=a5.re (T:=[0,1,0,1,0,0,1,1]) (by decide)
 refine AL ⟨⟨by simp,fun x hx=>?_⟩,h8.mk2 e⟩
 simp only [List.mem_cons,List.not_mem_nil,or_false]at hx
 rcases hx with h|h|h|h|h|h|h|h<;>rw [h]<;>assumption
theorem LU{α:Type}{A:α->Prop}{o:Option α}{f:α->Option Unit}(h:BH A o)(k:∀v,A v->f v=some ()):Option.bind o f=some ():=by
 obtain⟨v,e,hv⟩:=h
 rw [e];exact k v hv
theorem Fj{b:Bool}{x y:Option Unit}(h1:b=true->x=some ())(h2:b=false->y=some ()):(cond b x y)=some ():=by
 cases b
 ·exact h2 rfl
 ·exact h1 rfl
theorem WQ{α:Type}{l y:List α}(h:FZ Eq l y):y=l:=by
 apply List.ext_getElem?
 intro i
 by_cases c:i<l.length
 ·have h1:l[i]? =some l[i]:=List.getElem?_eq_getElem c
  have h2:y[i]? =some (y[i]'(by have:=h.1;omega)):=List.getElem?_eq_getElem _
  rw [h1,h2,h.2 i _ _ h1 h2]
 ·rw [List.getElem?_eq_none (by have:=h.1;omega),List.getElem?_eq_none (by omega)]
theorem RS{α:Type}{r:α->α->Prop}{Q R:α->Prop}{l y:List α}(h:FZ r l y)(hl:∀x∈l,Q x)(hr:∀x z,r x z->Q x->R z):∀z∈y,R z:=fun z hz=>by
 obtain⟨i,hi,rfl⟩:=List.mem_iff_getElem.1 hz
 have hi2:i<l.length:=by have:=h.1;omega
 exact hr l[i] y[i] (h.2 i _ _ (List.getElem?_eq_getElem hi2) (List.getElem?_eq_getElem hi)) (hl _ (List.getElem_mem hi2))
def LB(x:Av):Prop:=x.Name.size<=1000∧1<=x.Nets.length∧x.Nets.length<=5
structure MI(d:AY):Prop where
 inst:d.Instances.length<=6∧∀x∈d.Instances,LB x
 nets:(3<=d.Nets.length∧d.Nets.length<=9)∧∀x∈d.Nets,x.size<=1000
 ports:(3<=d.Ports.length∧d.Ports.length<=5)∧∀p∈d.Ports,p.Name.size<=1000
theorem LB.shp{l y:List Av}(h:FZ Gf l y)(hl:∀x∈l,LB x):∀z∈y,LB z:=
 RS h hl fun x z hr hx=>⟨by rw [←hr.1];exact hx.1,by rw [hr.2.2.1];exact hx.2.1,by rw [hr.2.2.1];exact hx.2.2⟩
theorem NR{x y:ByteArray}(h:x.size+y.size<=1000):NM x y=some (x++y)∧(x++y).size=x.size+y.size:=by
 refine⟨?_,ByteArray.size_append⟩
 unfold NM
 rw [if_neg (by
  have:IntKind.i64.max=9223372036854775807:=rfl
  rw [this];omega)]
theorem fI{j:Nat}(h:j<12):∃(x:Int) (p:Nat),AO [0,1,2,2,3,4,5,5,5,6,7,1] (j:Int)=some x∧AO [2,2,3,3,4,3,3,3] x=some (p:Int)∧2<=p∧p<=4:=by
 match j,h with
 |0,_=>exact⟨0,2,rfl,rfl,by omega,by omega⟩
 |1,_=>exact⟨1,2,rfl,rfl,by omega,by omega⟩
 |2,_=>exact⟨2,3,rfl,rfl,by omega,by omega⟩
 |3,_=>exact⟨2,3,rfl,rfl,by omega,by omega⟩
 |4,_=>exact⟨3,3,rfl,rfl,by omega,by omega⟩
 |5,_=>exact⟨4,4,rfl,rfl,by omega,by omega⟩
 |6,_=>exact⟨5,3,rfl,rfl,by omega,by omega⟩
 |7,_=>exact⟨5,3,rfl,rfl,by omega,by omega⟩
 |8,_=>exact⟨5,3,rfl,rfl,by omega,by omega⟩
 |9,_=>exact⟨6,3,rfl,rfl,by omega,by omega⟩
 |10,_=>exact⟨7,3,rfl,rfl,by omega,by omega⟩
 |11,_=>exact⟨1,2,rfl,rfl,by omega,by omega⟩
theorem dO{n:Nat}{c:List Int}(hc:Jd c){s0:AA}(e0:s0.code_=c){nets:List ByteArray}{cell:Int}{p:Nat}(hp:AO [2,2,3,3,4,3,3,3] cell=some (p:Int))(hp2:2<=p∧p<=4){k2:Int->Int->Int->ByteArray->Int->List Int->Option Unit}{t:ByteArray}{i2:Int}
 (hk:∀a d l,l.length=p-1->De c (AA.mk s0.code_ a d)->k2 ((p-1:Nat):Int) a d t i2 l=some ()):∀(m i:Nat) (a d:Int) (l:List Int),p-1-i<m->i<=p-1->l.length=i->De c (AA.mk s0.code_ a d)->
 Ht n s0 nets cell k2 m (i:Int) a d t i2 l=some ()
 |0,i,a,d,l,hm,_,_,_=>by omega
 |m+1,i,a,d,l,hm,hi,hl,hs=>by
  have wp:wrap .i64 ((p:Int)-1)=((p-1:Nat):Int):=by rw [Ar (by omega) (by omega)];omega
  rw [Ht.eq_2,hp,As,wp]
  by_cases q:i<p-1
  ·have go1:∀(x:Int) (s':AA),De c s'->(Option.bind (CB (([]:List Int)) l 8) fun z=>(Option.bind (CB z [x] 8) fun z2=>(Ht n s0 nets cell k2 m (wrap .i64 ((i:Int)+1)) s'.at_ s'.seed_ t i2 z2)))=some ():=fun x s' h'=>by
    rw [BO (by simp;omega) (by omega),As,List.nil_append,BO (by simp;omega) (by omega),As,wS (by omega)]
    exact dO hc e0 hp hp2 hk m (i+1) _ _ _ (by omega) (by omega) (by simp;omega) (h'.mk2 e0)
   rw [DB q,cT]
   exact LU (Nx hc hs _) fun r1 ⟨h1,_⟩=>LU (Nx hc (h1.mk2 e0) 3) fun r2 ⟨h2,_⟩=>Fj (fun _=>Fj (fun _=>go1 _ _ h2) fun _=>go1 _ _ h2) fun _=>Fj (fun _=>go1 _ _ h2) fun _=>go1 _ _ h2
  ·obtain rfl:i=p-1:=by omega
   rw [DN,cF]
   exact hk a d l hl hs
theorem fO{n:Nat}(hn:1048577<=n){c:List Int}(hc:Jd c){s0:AA}(e0:s0.code_=c){k0:List Av->List ByteArray->Int->Int->Int->Option Unit}
 (hk:∀l nets i a d,l.length<=6->nets.length=3+l.length->(∀x∈l,LB x)->(∀x∈nets,ByteArray.size x<=1000)->De c (AA.mk s0.code_ a d)->k0 l nets i a d=some ()):∀(m k:Nat) (l:List Av) (nets:List ByteArray) (a d:Int),k<m->l.length+k<=6->nets.length=3+l.length->(∀x∈l,LB x)->(∀x∈nets,ByteArray.size x<=1000)->De c (AA.mk s0.code_ a d)->
 Ln n s0 k0 m l nets (k:Int) a d=some ()
 |0,k,l,nets,a,d,hm,_,_,_,_,_=>by omega
 |m+1,0,l,nets,a,d,hm,hl,hnl,hI,hN,hs=>by
  rw [Ln.eq_2]
  exact hk l nets _ a d (by omega) hnl hI hN hs
 |m+1,k+1,l,nets,a,d,hm,hl,hnl,hI,hN,hs=>by
  have hp:decide (((k+1:Nat):Int)>0)=true:=decide_eq_true (by omega)
  have w:wrap .i64 (((k+1:Nat):Int)-1)=(k:Int):=by rw [Ar (by omega) (by omega)];omega
  rw [Ln.eq_2,hp,cT]
  refine LU (Nx hc hs 12) fun r ⟨h1,r0,r1⟩=>?_
  obtain⟨x,p,ex,ep,p2,p4⟩:=fI (j:=r.1.toNat) (by omega)
  rw [Int.toNat_of_nonneg r0]at ex
  rw [ex,As]
  refine LU (qA (n:=n) (k:=l.length) (by omega) hn) fun t ht=>?_
  obtain⟨c1,c2⟩:=NR (x:=ByteArray.mk #[117]) (y:=t) (by have:(ByteArray.mk #[117]).size=1:=rfl;omega)
  have z1:(ByteArray.mk #[117]).size=1:=rfl
  have z2:(ByteArray.mk #[110]).size=1:=rfl
  rw [c1,As]
  refine dO hc e0 ep ⟨p2,p4⟩ (fun a2 d2 l2 hl2 hs2=>?_) n 0 _ _ [] (by omega) (by omega) rfl (h1.mk2 e0)
  rw [BO (by simp;omega) (by omega),As,List.nil_append,BO (by simp;omega) (by omega),As]
  refine LU (qA (n:=n) (k:=nets.length) (by omega) hn) fun t2 ht2=>?_
  obtain⟨c3,c4⟩:=NR (x:=ByteArray.mk #[110]) (y:=t2) (by omega)
  rw [c3,As,BO (by simp;omega) (by omega),As,BO (by simp;omega) (by omega),As,w]
  refine fO hn hc e0 hk m k _ _ _ _ (by omega) (by simp;omega) (by simp;omega) (fun y hy=>?_) (fun y hy=>?_) hs2
  ·rcases List.mem_append.1 hy with h|h
   ·exact hI y h
   ·rw [List.mem_singleton.1 h]
    exact⟨by show(_:ByteArray).size<=1000;rw [c2];omega,by simp,by simp;omega⟩
  ·rcases List.mem_append.1 hy with h|h
   ·exact hN y h
   ·rw [List.mem_singleton.1 h,c4];omega
theorem ZR{n:Nat}{c:List Int}(hc:Jd c){s0:AA}(e0:s0.code_=c){O:Me}{wild:Bool}{L:Nat}(hL:L<=6){nets ps:List ByteArray}{k4:Int->Int->Int->List Av->List ByteArray->List ByteArray->Option Unit}
 (hk:∀i a d l,l.length=L->(∀x∈l,LB x)->De c (AA.mk s0.code_ a d)->k4 i a d l nets ps=some ()):∀(m i:Nat) (a d:Int) (l:List Av),L-i<m->i<=L->l.length=L->(∀x∈l,LB x)->De c (AA.mk s0.code_ a d)->
 Lu n s0 wild O k4 m (i:Int) a d l nets ps=some ()
 |0,i,a,d,l,hm,_,_,_,_=>by omega
 |m+1,i,a,d,l,hm,hi,hl,hI,hs=>by
  rw [Lu.eq_2]
  by_cases q:i<l.length
  ·have hx:=hI _ (List.getElem_mem q)
   rw [DB q,cT,wS (by omega)]
   refine LU (Nx hc hs 4) fun r ⟨h1,_⟩=>LU (A:=fun _=>True) (Ag (fun _=>?_) fun _=>AL trivial) fun b _=>Fj (fun _=>?_) fun _=>ZR hc e0 hL hk m (i+1) _ _ l (by omega) (by omega) hl hI (h1.mk2 e0)
   ·rw [AX q,As]
    exact BH.bind (A:=fun _=>True) (Ag (fun _=>AL trivial) fun _=>AL trivial) fun _ _ _=>AL trivial
   ·rw [AX q,As]
    refine LU (Nx hc (h1.mk2 e0) _) fun r2 ⟨h2,_⟩=>?_
    rw [show(0:Int)=((0:Nat):Int)from rfl,AX (show 0<l[i].Nets.length by have:=hx.2.1;omega),As]
    refine O.inn fun y hy=>O.inn fun y2 hy2=>O.inn fun y3 hy3=>?_
    obtain rfl:=WQ hy2
    obtain rfl:=WQ hy3
    exact ZR hc e0 hL hk m (i+1) _ _ y (by omega) (by omega) (by rw [hy.1];exact hl) (LB.shp hy hI) (h2.mk2 e0)
  ·obtain rfl:i=l.length:=by omega
   rw [DN,cF]
   exact hk _ a d l hl hI hs
theorem rF{n:Nat}(hn:1048577<=n){c:List Int}(hc:Jd c){s:AA}(hs:De c s){O:Me}{most:Int}(hm:2<=most∧most<=6){wild:Bool}{g:AY×AA->Option Unit}(hg:∀d s',MI d->De c s'->g (d,s')=some ()):cK n O s most wild g=some ():=by
 have e:=hs.code
 have wm:wrap .i64 (most-1)=most-1:=Ar (by omega) (by omega)
 have n3:∀x∈[(ByteArray.mk #[110,99,107]),(ByteArray.mk #[110,97]),(ByteArray.mk #[110,98])],ByteArray.size x<=1000:=by decide
 rw [cK,BO (by simp) (by omega),As,List.nil_append,wm]
 refine LU (Nx hc hs _) fun r ⟨h1,r0,r1⟩=>?_
 have wr:wrap .i64 (2+r.1)=((2+r.1.toNat:Nat):Int):=by rw [Ar (by omega) (by omega)];omega
 rw [wr]
 refine fO hn hc e (fun l nets i a d hl hnl hI hN hs2=>?_) n _ [] _ _ _ (by omega) (by simp;omega) rfl (by simp) n3 (h1.mk2 e)
 have p3:∀x:Int,∀p∈[(CO.mk ((ByteArray.mk #[99,107])) 1 0),(CO.mk ((ByteArray.mk #[97])) 1 1),(CO.mk ((ByteArray.mk #[98])) 1 2),(CO.mk ((ByteArray.mk #[121])) 2 x)],p.Name.size<=1000:=fun x p hp=>by
  simp only [List.mem_cons,List.not_mem_nil,or_false]at hp
  rcases hp with h|h|h|h
  ·rw [h];exact(by decide:(ByteArray.mk #[99,107]).size<=1000)
  ·rw [h];exact(by decide:(ByteArray.mk #[97]).size<=1000)
  ·rw [h];exact(by decide:(ByteArray.mk #[98]).size<=1000)
  ·rw [h];exact(by decide:(ByteArray.mk #[121]).size<=1000)
 refine ZR hc e hl (fun i a d l2 hl2 hI2 hs3=>?_) n 0 a d l (by omega) (by omega) rfl hI hs2
 rw [BO (by simp) (by omega),As,List.nil_append,BO (by simp) (by omega),As]
 refine LU (Nx hc hs3 2) fun q ⟨k1,_⟩=>Fj (fun _=>LU (Nx hc (k1.mk2 e) _) fun q2 ⟨k2,_⟩=>?_) fun _=>hg _ _ ⟨⟨by show l2.length<=6;omega,hI2⟩,⟨⟨by show 3<=nets.length;omega,by show nets.length<=9;omega⟩,hN⟩,⟨⟨by simp,by simp⟩,p3 _⟩⟩ (k1.mk2 e)
 rw [BO (by simp) (by omega),As]
 refine hg _ _ ⟨⟨by show l2.length<=6;omega,hI2⟩,⟨⟨by show 3<=nets.length;omega,by show nets.length<=9;omega⟩,hN⟩,⟨⟨by simp,by simp⟩,fun p hp=>?_⟩⟩ (k2.mk2 e)
 rcases List.mem_append.1 hp with h|h
 ·exact p3 _ p h
 ·rw [List.mem_singleton.1 h];exact(by decide:(ByteArray.mk #[122]).size<=1000)
theorem MI.short{d:AY}(h:MI d):∀x∈d.Instances,x.Nets.length<=5:=fun x hx=>(h.inst.2 x hx).2.2
theorem MI.pls{d:AY}(h:MI d):(pls d).length<=78:=CX h.short (by have:=h.inst.1;omega) (by have:=h.ports.1.2;omega)
theorem lK{n:Nat}{d:AY}(h:MI d)(hn:1048577<=n):Rr n d=some ((pls d).map Gg):=Ob h.short (by have:=h.inst.1;omega) (by have:=h.ports.1.2;omega) hn
theorem mR{n:Nat}{d:AY}(h:MI d)(q:Int)(hn:1048577<=n):∃r,WZ n d q=some r∧r.length<=78:=by
 have hl:=h.pls
 rw [WZ,lK h hn,As]
 have e:((pls d).map Gg).length=(pls d).length:=by simp
 refine loop (L:=fun m i s=>Gv q ((pls d).map Gg) (fun l38 i42=>some l38) m s i) ((pls d).map Gg).length (fun i s=>s.length<=i) (fun o=>∃r,o=some r∧r.length<=78) ?_ ?_ n 0 [] (by omega) (by omega) (Nat.le_refl _)
 ·intro m i s hi hs
  refine .inl ?_
  simp only [Gv.eq_2,DB hi,cT,AX hi,As,Bx,wT i]
  cases c:(((pls d).map Gg)[i].net_==q&& !((pls d).map Gg)[i].drives_)with
  |true=>rw [cT,BO (by simp;omega) (by omega),As];exact⟨_,by simp;omega,rfl⟩
  |false=>rw [cF];exact⟨s,by omega,rfl⟩
 ·intro m s hs
  simp only [Gv.eq_2,DN,cF]
  exact⟨s,rfl,by omega⟩
def LN(w:BX):Prop:=(1<=w.Parent.length∧w.Parent.length<=4)∧(1<=w.Res.length∧w.Res.length<=4)∧(1<=w.Cap.length∧w.Cap.length<=4)∧w.Sink.length<=200
theorem LN.shp{l y:List BX}(h:FZ Gu l y)(hl:∀x∈l,LN x):∀z∈y,LN z:=
 RS h hl fun x z hr hx=>by
  have h1:=hr.1.1;have h2:=hr.2.1.1;have h3:=hr.2.2.1.1;have h4:=hr.2.2.2.1
  obtain⟨⟨a1,a2⟩,⟨b1,b2⟩,⟨c1,c2⟩,d1⟩:=hx
  exact⟨⟨by omega,by omega⟩,⟨by omega,by omega⟩,⟨by omega,by omega⟩,by omega⟩
theorem Rx{n:Nat}{l:List Int}(h:l.length<=1000):Of n l=some l:=by
 rw [Of,BO (by simp;omega) (by omega)];rfl
theorem fX{n:Nat}{c:List Int}(hc:Jd c){s0:AA}(e0:s0.code_=c){Q:BX×AA->Prop}{k0:Int->Int->Int->List Int->List Int->List Int->Option (BX×AA)}
 (hk:∀i a d (l1 l2 l3:List Int),(1<=l1.length∧l1.length<=4)->l2.length=l1.length->l3.length=l1.length->De c (AA.mk s0.code_ a d)->BH Q (k0 i a d l1 l2 l3)):∀(m k:Nat) (a d:Int) (l1 l2 l3:List Int),k<m->1<=l1.length->l1.length+k<=4->l2.length=l1.length->l3.length=l1.length->De c (AA.mk s0.code_ a d)->
 BH Q (JJ n s0 k0 m (k:Int) a d l1 l2 l3)
 |0,k,a,d,l1,l2,l3,hm,_,_,_,_,_=>by omega
 |m+1,0,a,d,l1,l2,l3,hm,h1,h2,h3,h4,hs=>by
  rw [JJ.eq_2]
  exact hk _ a d l1 l2 l3 ⟨h1,by omega⟩ h3 h4 hs
 |m+1,k+1,a,d,l1,l2,l3,hm,h1,h2,h3,h4,hs=>by
  have hp:decide (((k+1:Nat):Int)>0)=true:=decide_eq_true (by omega)
  have w:wrap .i64 (((k+1:Nat):Int)-1)=(k:Int):=by rw [Ar (by omega) (by omega)];omega
  rw [JJ.eq_2,hp,cT,Rx (show l1.length<=1000 by omega),As]
  refine BH.bind (Nx hc hs _) fun r1 _ ⟨q1,_⟩=>?_
  rw [BO (by simp;omega) (by omega),As,Rx (show l2.length<=1000 by omega),As]
  refine BH.bind (Nx hc (q1.mk2 e0) _) fun r2 _ ⟨q2,_⟩=>?_
  rw [BO (by simp;omega) (by omega),As,Rx (show l3.length<=1000 by omega),As]
  refine BH.bind (Nx hc (q2.mk2 e0) _) fun r3 _ ⟨q3,_⟩=>?_
  rw [BO (by simp;omega) (by omega),As,w]
  exact fX hc e0 hk m k _ _ _ _ _ (by omega) (by simp) (by simp;omega) (by simp;omega) (by simp;omega) (q3.mk2 e0)
theorem fH{n:Nat}{c:List Int}(hc:Jd c){s0:AA}(e0:s0.code_=c){l1 l2 l3:List Int}(h1:1<=l1.length∧l1.length<=4)(h2:l2.length=l1.length)(h3:l3.length=l1.length){L:Nat}(hL:L<=100):∀(m i:Nat) (a d:Int) (l:List Int),L-i<m->i<=L->l.length=L->De c (AA.mk s0.code_ a d)->
 BH (fun r=>(LN r.1∧r.1.Sink.length<=100)∧De c r.2) (JC n s0 l1 (fun i115 i117 i118 l124=>(some ((BX.mk l1 l2 l3 l124),(AA.mk s0.code_ i117 i118)))) m (i:Int) a d l)
 |0,i,a,d,l,hm,_,_,_=>by omega
 |m+1,i,a,d,l,hm,hi,hl,hs=>by
  rw [JC.eq_2]
  by_cases q:i<l.length
  ·rw [DB q,cT]
   refine BH.bind (Nx hc hs _) fun r _ ⟨q1,_⟩=>?_
   rw [AX q,As,wS (by omega)]
   exact fH hc e0 h1 h2 h3 hL m (i+1) _ _ _ (by omega) (by omega) (by rw [List.length_set];exact hl) (q1.mk2 e0)
  ·obtain rfl:i=l.length:=by omega
   rw [DN,cF]
   exact AL ⟨⟨⟨h1,⟨by show 1<=l2.length;omega,by show l2.length<=4;omega⟩,⟨by show 1<=l3.length;omega,by show l3.length<=4;omega⟩,by show l.length<=200;omega⟩,by show l.length<=100;omega⟩,hs⟩
theorem rY{n:Nat}(hn:1048577<=n){c:List Int}(hc:Jd c){s:AA}(hs:De c s){q:Nat}(hq:q<=100):BH (fun r=>(LN r.1∧r.1.Sink.length<=100)∧De c r.2) (Tp n s (q:Int)):=by
 have e:=hs.code
 rw [Tp]
 refine BH.bind (Nx hc hs 6) fun r _ ⟨h1,_⟩=>?_
 rw [Wj,Ev (by omega) (by omega),As,As]
 refine BH.bind (Nx hc (h1.mk2 e) 4) fun r2 _ ⟨h2,z0,z1⟩=>?_
 have:=fX (n:=n) (s0:=s) (Q:=fun r=>(LN r.1∧r.1.Sink.length<=100)∧De c r.2) hc e (k0:=fun i75 i77 i78 l80 l84 l88=>(JC n s l80 (fun i115 i117 i118 l124=>(some ((BX.mk l80 l84 l88 l124),(AA.mk s.code_ i117 i118)))) n 0 i77 i78 (List.replicate q 0))) (fun i a d l1 l2 l3 k1 k2 k3 hs2=>
  fH hc e k1 k2 k3 hq n 0 a d _ (by omega) (by omega) (by simp) hs2) n r2.1.toNat r2.2.at_ r2.2.seed_ [(-1)] [0] [r.1] (by omega) (by simp) (by simp;omega) rfl rfl (h2.mk2 e)
 rw [Int.toNat_of_nonneg z0]at this
 exact this
structure NK(b:AG):Prop where
 lib:Rk b.Library
 dsg:MI b.Design
 wires:b.Wires.length<=9∧∀w∈b.Wires,LN w
theorem NK.sm{b:AG}(h:NK b):MZ b:=
 ⟨h.lib,⟨⟨by have:=h.dsg.inst.1;omega,fun x hx=>⟨by have:=(h.dsg.inst.2 x hx).1;omega,by have:=(h.dsg.inst.2 x hx).2.2;omega⟩⟩,⟨by have:=h.dsg.nets.1;omega,fun x hx=>by have:=h.dsg.nets.2 x hx;omega⟩,⟨by have:=h.dsg.ports.1;omega,fun p hp=>by have:=h.dsg.ports.2 p hp;omega⟩⟩,
  ⟨by have:=h.wires.1;omega,fun w hw=>by obtain⟨⟨_,a⟩,⟨_,b⟩,⟨_,c⟩,d⟩:=h.wires.2 w hw;exact⟨⟨⟨by omega,by omega⟩,by omega⟩,by omega⟩⟩⟩
theorem fS{n:Nat}(hn:1048577<=n){c:List Int}(hc:Jd c){s0:AA}(e0:s0.code_=c){r38:AY×AA}(hd:MI r38.1){k0:List BX->Int->Int->Int->Option Unit}
 (hk:∀l i a d,l.length=r38.1.Nets.length->(∀w∈l,LN w∧w.Sink.length<=100)->De c (AA.mk s0.code_ a d)->k0 l i a d=some ()):∀(m i:Nat) (l:List BX) (a d:Int),r38.1.Nets.length-i<m->i<=r38.1.Nets.length->l.length=i->(∀w∈l,LN w∧w.Sink.length<=100)->De c (AA.mk s0.code_ a d)->
 Mw n s0 r38 k0 m l (i:Int) a d=some ()
 |0,i,l,a,d,hm,_,_,_,_=>by omega
 |m+1,i,l,a,d,hm,hi,hl,hw,hs=>by
  have hb:=hd.nets.1
  rw [Mw.eq_2]
  by_cases q:i<r38.1.Nets.length
  ·obtain⟨r,f,hr⟩:=mR (n:=n) hd (i:Int) hn
   rw [DB q,cT,f,As]
   refine LU (rY hn hc hs (by omega)) fun r2 ⟨h1,h2⟩=>?_
   rw [BO (by simp;omega) (by omega),As,wS (by omega)]
   refine fS hn hc e0 hd hk m (i+1) _ _ _ (by omega) (by omega) (by simp;omega) (fun w h=>?_) (h2.mk2 e0)
   rcases List.mem_append.1 h with h|h
   ·exact hw w h
   ·rw [List.mem_singleton.1 h];exact h1
  ·obtain rfl:i=r38.1.Nets.length:=by omega
   rw [DN,cF]
   exact hk l _ a d hl hw hs
theorem jX{n:Nat}(hn:1048577<=n){c:List Int}(hc:Jd c){s:AA}(hs:De c s){O:Me}{most:Int}(hm:2<=most∧most<=6){wild:Bool}{g:AG×AA->Option Unit}(hg:∀b s',NK b->b.Wires.length=b.Design.Nets.length->(∀w∈b.Wires,w.Sink.length<=100)->De c s'->g (b,s')=some ()):WX n O s most wild g=some ():=by
 have e:=hs.code
 rw [WX]
 refine LU (sA hc hs hn) fun r ⟨h1,h2⟩=>rF hn hc (h2.mk2 e) hm fun d s' hd hs'=>?_
 have hb:=hd.nets.1
 exact fS (r38:=(d,s')) hn hc e hd (fun l i a d2 hl hw hs2=>hg _ _ ⟨h1,hd,by show l.length<=9;rw [hl];exact hb.2,fun w h=>(hw w h).1⟩ hl (fun w h=>(hw w h).2) hs2) n 0 [] _ _ (by show d.Nets.length-0<n;omega) (by omega) rfl (by simp) (hs'.mk2 e)
theorem kE{n:Nat}(hn:1048577<=n){c:List Int}(hc:Jd c){s:AA}(hs:De c s){O:Me}{g:AG×AA->Option Unit}(hg:∀b s',NK b->De c s'->g (b,s')=some ()):Vs n O s g=some ():=by
 have e:=hs.code
 rw [Vs]
 refine LU (Nx hc hs 3) fun r ⟨h1,_⟩=>jX hn hc (h1.mk2 e) (by omega) fun b s' hb hw hk hs'=>LU (Nx hc (hs'.mk2 e) _) fun r2 ⟨h2,z0,z1⟩=>LU (Nx hc (h2.mk2 e) 20) fun r3 ⟨h3,_⟩=>?_
 have wl:=hb.wires.1
 have nl:=hb.dsg.nets.1
 have z1:r2.1<(b.Wires.length:Int):=by
  have z1:r2.1<(b.Wires.length:Int)∨r2.1=0∧(b.Wires.length:Int)<=1:=z1
  omega
 obtain⟨k,ek⟩:=Int.eq_ofNat_of_zero_le z0
 have ek:r2.1=(k:Int):=ek
 have kl:k<b.Wires.length:=by omega
 have gk:AO b.Wires r2.1=some b.Wires[k]:=by rw [ek];exact AX kl
 have wk:=hb.wires.2 _ (List.getElem_mem kl)
 have fin:=fun(y:List BX) (hy:FZ Gu b.Wires y)=>(⟨hb.lib,hb.dsg,⟨by show y.length<=9;rw [hy.1];exact wl,LN.shp hy hb.wires.2⟩⟩:NK (AG.mk b.Library b.Design y))
 refine Fj (fun _=>?_) fun _=>Fj (fun _=>?_) fun _=>Fj (fun _=>?_) fun _=>Fj (fun _=>?_) fun _=>Fj (fun _=>?_) fun _=>Fj (fun _=>?_) fun _=>hg _ _ hb (h3.mk2 e)
 ·rw [show Ja b.Wires 1 (b.Wires.length:Int)=some ((b.Wires.take (b.Wires.length:Int).toNat).drop (1:Int).toNat)from if_pos ⟨by omega,by omega,by omega⟩,As]
  exact hg _ _ ⟨hb.lib,hb.dsg,⟨by simp;omega,fun w hw2=>hb.wires.2 w (List.mem_of_mem_take (List.mem_of_mem_drop hw2))⟩⟩ (h3.mk2 e)
 ·have sl:=wk.2.2.2
  simp only [gk,As,Rx (n:=n) (show b.Wires[k].Sink.length<=1000 by omega),BO (show b.Wires[k].Sink.length+[(0:Int)].length<=16777216 by simp;omega) (show 8<=1048576 by omega)]
  refine hg _ _ ⟨hb.lib,hb.dsg,⟨by rw [List.length_set];exact wl,fun w hw2=>?_⟩⟩ (h3.mk2 e)
  have hk1:=hk _ (List.getElem_mem kl)
  rcases List.mem_or_eq_of_mem_set hw2 with h|h
  ·exact hb.wires.2 w h
  ·rw [h];exact⟨wk.1,wk.2.1,wk.2.2.1,by rw [List.length_append];simp;omega⟩
 ·obtain⟨⟨p1,p2⟩,⟨r1,r2'⟩,⟨c1,c2⟩,s1⟩:=wk
  rw [gk,As,show(0:Int)=((0:Nat):Int)from rfl,AX (show 0<b.Wires[k].Res.length by omega),As]
  exact O.inn fun y hy=>hg _ _ (fin y hy) (h3.mk2 e)
 ·obtain⟨⟨p1,p2⟩,⟨r1,r2'⟩,⟨c1,c2⟩,s1⟩:=wk
  rw [gk,As]
  refine LU (Nx hc (h3.mk2 e) 3) fun r4 ⟨h4,y0,y1⟩=>?_
  obtain⟨v,hv,_⟩:=El (xs:=[(-1:Int),500,501]) y0 (by simp;omega)
  rw [hv,As,show(0:Int)=((0:Nat):Int)from rfl,AX (show 0<b.Wires[k].Cap.length by omega),As]
  exact O.inn fun y hy=>hg _ _ (fin y hy) (h4.mk2 e)
 ·obtain⟨⟨p1,p2⟩,⟨r1,r2'⟩,⟨c1,c2⟩,s1⟩:=wk
  rw [gk,As,As]
  refine LU (Nx hc (h3.mk2 e) 5) fun r4 ⟨h4,_⟩=>?_
  have w1:wrap .i64 ((b.Wires[k].Parent.length:Int)-1)=((b.Wires[k].Parent.length-1:Nat):Int):=by rw [Ar (by omega) (by omega)];omega
  rw [w1,AX (show b.Wires[k].Parent.length-1<b.Wires[k].Parent.length by omega),As]
  exact O.inn fun y hy=>hg _ _ (fin y hy) (h4.mk2 e)
 ·rw [show(0:Int)=((0:Nat):Int)from rfl,AX (show 0<b.Design.Ports.length by have:=hb.dsg.ports.1;omega),As]
  refine O.inn fun y1 hy1=>O.inn fun y2 hy2=>O.inn fun y3 hy3=>?_
  obtain rfl:=WQ hy2
  exact hg _ _ ⟨hb.lib,⟨⟨by show y1.length<=6;rw [hy1.1];exact hb.dsg.inst.1,LB.shp hy1 hb.dsg.inst.2⟩,hb.dsg.nets,⟨by show 3<=y3.length∧y3.length<=5;rw [hy3.1];exact hb.dsg.ports.1,RS hy3 hb.dsg.ports.2 fun x z hr hx=>by rw [←hr.1];exact hx⟩⟩,hb.wires⟩ (h3.mk2 e)
theorem sH{n:Nat}(hn:1048577<=n){c:List Int}(hc:Jd c){s:AA}(hs:De c s){O:Me}{g:AG×AA->Option Unit}(hg:∀b s',NK b->De c s'->g (b,s')=some ()):Uj n O s g=some ():=by
 have e:=hs.code
 rw [Uj]
 refine LU (Nx hc hs 12) fun r ⟨h1,_⟩=>Fj (fun _=>kE hn hc (h1.mk2 e) fun b s' hb hs'=>hg _ _ hb (hs'.mk2 e)) fun _=>Fj (fun _=>Fj (fun _=>?_) fun _=>?_) fun _=>Fj (fun _=>?_) fun _=>?_
 all_goals exact jX hn hc (h1.mk2 e) (by omega) fun b s' hb _ _ hs'=>hg _ _ hb (hs'.mk2 e)
theorem fU{n:Nat}{c:List Int}(hc:Jd c){s0:AA}(e0:s0.code_=c){lk:List AS}(hlk:lk.length<=5128){r90:Int×AA}(h90:0<=r90.1∧r90.1<8):∀(m i:Nat) (l:List Int) (a d:Int),lk.length-i<m->l.length<=i->i<=6000->De c (AA.mk s0.code_ a d)->
 BH (fun r=>r.1.length<=6001∧De c r.2) (Kk n s0 lk r90 (fun l110 i114 i116 i117=>(Option.bind (Dy n ((AA.mk s0.code_ i116 i117)) 12) fun r121=>(cond (r121.1==0) (Option.bind (Dy n ((AA.mk s0.code_ r121.2.at_ r121.2.seed_)) 2) fun r129=>(Option.bind (CB l110 ([wrap .i64 (((lk.length:Int))*r129.1)]) 8) fun z149=>(some (z149,(AA.mk s0.code_ r129.2.at_ r129.2.seed_))))) (some (l110,(AA.mk s0.code_ r121.2.at_ r121.2.seed_)))))) m l (i:Int) a d)
 |0,i,l,a,d,hm,_,_,_=>by omega
 |m+1,i,l,a,d,hm,hl,hi,hs=>by
  rw [Kk.eq_2]
  by_cases q:i<lk.length
  ·have w9:wrap .i64 (1+r90.1)=1+r90.1:=Ar (by omega) (by omega)
   rw [DB q,cT,BO (by simp;omega) (by omega),As,w9]
   refine BH.bind (Nx hc hs _) fun r _ ⟨h1,z0,z1⟩=>?_
   have z2:r.1<=8:=by omega
   have wi:wrap .i64 ((i:Int)+(wrap .i64 (1+r.1)))=((i+1+r.1.toNat:Nat):Int):=by
    rw [Ar (x:=1+r.1) (by omega) (by omega),Ar (by omega) (by omega)];omega
   rw [wi]
   exact fU hc e0 hlk h90 m _ _ _ _ (by omega) (by simp;omega) (by omega) (h1.mk2 e0)
  ·rw [show decide ((i:Int)<(lk.length:Int))=false from decide_eq_false (by omega),cF]
   refine BH.bind (Nx hc hs 12) fun r _ ⟨h1,_⟩=>Ag (fun _=>?_) fun _=>AL ⟨by show l.length<=6001;omega,h1.mk2 e0⟩
   refine BH.bind (Nx hc (h1.mk2 e0) 2) fun r2 _ ⟨h2,_⟩=>?_
   rw [BO (by simp;omega) (by omega),As]
   exact AL ⟨by simp;omega,h2.mk2 e0⟩
theorem tI{n:Nat}(hn:1048577<=n){c:List Int}(hc:Jd c){s:AA}(hs:De c s){b:AG}(hb:MZ b):BH (fun r=>r.1.length<=6001∧De c r.2) (Qw n s b):=by
 have e:=hs.code
 obtain⟨v,e1,hv⟩:=XP (n:=n) hb hn
 rw [Qw,e1,As]
 refine BH.bind (A:=fun x=>De c (AA.mk s.code_ x.2.1 x.2.2)∧(x.1=false->v=true)) (Ag (fun _=>AL ⟨hs,fun h=>by cases h⟩) fun q=>BH.bind (Nx hc hs 3) fun r _ ⟨h1,_⟩=>AL ⟨h1.mk2 e,fun _=>by cases v<;>simp_all⟩) fun x _ ⟨hx,hv2⟩=>Ag (fun _=>AL ⟨by simp,hx⟩) fun q=>?_
 have vb:=hv.1 (hv2 q)
 rw [TG vb hn,As]
 refine BH.bind (Nx hc hx 8) fun r _ ⟨h1,z0,z1⟩=>BH.bind (Nx hc (h1.mk2 e) _) fun r2 _ ⟨h2,y0,y1⟩=>?_
 have w9:wrap .i64 (1+r.1)=1+r.1:=Ar (by omega) (by omega)
 rw [w9]at y1
 have:=fU (n:=n) hc e (Gi vb) (r90:=r) ⟨z0,by omega⟩ n r2.1.toNat [] r2.2.at_ r2.2.seed_ (by have:=Gi vb;omega) (by simp) (by omega) (h2.mk2 e)
 rw [Int.toNat_of_nonneg y0]at this
 exact this
def bY(x:AS):AS:=⟨x.To,x.From,x.Kind,x.Index⟩
def Qo(L:List AS):List AS:=L.map bY
theorem HS(L:List AS):(Qo L).length=L.length:=List.length_map ..
theorem XS(L:List AS)(i:Int):AO (Qo L) i=(AO L i).map bY:=by
 unfold AO Qo;split<;>simp
theorem dQ{L:List AS}{lv:List Bool}{K K':Bool->Int->List Bool->Option (List Bool)}(hK:∀q i l,K q i l=K' q i l):∀(m:Nat) (q:Bool) (i:Int) (l:List Bool),Ex L lv false K m q i l=Ex (Qo L) lv true K' m q i l
 |0,_,_,_=>rfl
 |m+1,q,i,l=>by
  simp only [Ex.eq_2,HS,XS,Bool.not_false,Bool.not_true,cT,cF,hK]
  cases AO L i with
  |none=>rfl
  |some x=>simp only [Option.map_some,As,bY,dQ hK m]
theorem eP{n:Nat}{L:List AS}{lv:List Bool}:∀(m:Nat) (q:Bool) (l:List Bool),GS n L lv false (fun _ l34=>(some l34)) m q l=GS n (Qo L) lv true (fun _ l34=>(some l34)) m q l
 |0,_,_=>rfl
 |m+1,q,l=>by
  simp only [GS.eq_2]
  rw [dQ (K':=fun q38 _ l40=>(GS n (Qo L) lv true (fun q33 l34=>(some l34)) m q38 l40)) fun q i l=>eP m q l]
theorem rU{n:Nat}{L:List AS}{lv:List Bool}{N s:Nat}(hL:Pm L N)(hlv:lv.length=L.length)(hl:L.length<=10000)(hN:N<=1000)(hs:s<N)(hn:1048577<=n):
 ∃out,Yj n (N:Int) L lv (s:Int) false=some out∧QO (Qo L) lv (fun u=>u=(s:Int)) N out:=by
 have hg:∀k (h:k<(Qo L).length),(Qo L)[k]=bY (L[k]'(by rw [HS]at h;exact h)):=fun k h=>List.getElem_map _
 have:=qD (n:=n) (L:=Qo L) (lv:=lv) (N:=N) (s:=s) ⟨fun k h=>by rw [hg k h];exact hL.to_ k (by rw [HS]at h;exact h),fun k h=>by rw [hg k h];exact hL.from_ k (by rw [HS]at h;exact h)⟩ (by rw [HS];exact hlv) (by rw [HS];exact hl) hN hs hn
 unfold Yj at this ⊢
 simp only [eP]
 exact this
theorem HX.trans{L:List AS}{lv:List Bool}{u v:Int}{w:Int}(h1:HX L lv (fun x=>x=u) v)(h2:HX L lv (fun x=>x=v) w):HX L lv (fun x=>x=u) w:=by
 induction h2 with
 |src e=>have e:_=v:=e;subst e;exact h1
 |step _ e ih=>exact .step ih e
theorem Ed.rv{L:List AS}{lv:List Bool}{u w:Int}:Ed (Qo L) lv u w↔Ed L lv w u:=by
 constructor
 ·rintro ⟨k,hk,h1,h2,h3⟩
  have hk':k<L.length:=by rw [HS]at hk;exact hk
  have e:(Qo L)[k]=bY L[k]:=List.getElem_map _
  rw [e]at h2 h3
  exact⟨k,hk',h1,h3,h2⟩
 ·rintro ⟨k,hk,h1,h2,h3⟩
  have hk':k<(Qo L).length:=by rw [HS];exact hk
  have e:(Qo L)[k]=bY L[k]:=List.getElem_map _
  exact⟨k,hk',h1,by rw [e];exact h3,by rw [e];exact h2⟩
theorem HX.one{L:List AS}{lv:List Bool}{u w:Int}(e:Ed L lv u w):HX L lv (fun x=>x=u) w:=.step (.src rfl) e
theorem HX.rv{L:List AS}{lv:List Bool}{v w:Int}(h:HX (Qo L) lv (fun x=>x=v) w):HX L lv (fun x=>x=w) v:=by
 induction h with
 |src e=>have e:_=v:=e;subst e;exact .src rfl
 |step _ e ih=>exact HX.trans (HX.one (Ed.rv.1 e)) ih
theorem HX.vr{L:List AS}{lv:List Bool}{v w:Int}(h:HX L lv (fun x=>x=w) v):HX (Qo L) lv (fun x=>x=v) w:=by
 induction h with
 |src e=>have e:_=w:=e;subst e;exact .src rfl
 |step _ e ih=>exact HX.trans (HX.one (Ed.rv.2 e)) ih
theorem HX.first{L:List AS}{lv:List Bool}{u w:Int}(h:HX L lv (fun x=>x=u) w)(ne:u≠w):∃x,Ed L lv u x∧HX L lv (fun y=>y=x) w:=by
 induction h with
 |src e=>exact absurd (show _=u from e).symm ne
 |@step a b h1 e ih=>
  by_cases c:u=a
  ·subst c;exact⟨_,e,.src rfl⟩
  ·obtain⟨x,e1,e2⟩:=ih c
   exact⟨x,e1,.step e2 e⟩
theorem Sp{L:List AS}{lv:List Bool}(hw:∀k (h:k<L.length) j (g:j<L.length),L[k].To=L[j].From->L[k].Kind=1∨L[j].Kind=1){v w:Int}(ne:v≠w)(h1:HX L lv (fun x=>x=v) w)(h2:HX L lv (fun x=>x=w) v):
 ∃k,∃h:k<L.length,gb lv k=true∧L[k].Kind=1∧(HX L lv (fun x=>x=v) L[k].From∧HX L lv (fun x=>x=L[k].From) v)∧HX L lv (fun x=>x=v) L[k].To∧HX L lv (fun x=>x=L[k].To) v:=by
 cases h1 with
 |src e=>exact absurd (show w=v from e).symm ne
 |@step a _ g e=>
  have e':=e
  obtain⟨k,hk,q1,q2,q3⟩:=e
  obtain⟨x,e2,g2⟩:=HX.first h2 fun c=>ne c.symm
  have e2':=e2
  obtain⟨j,hj,r1,r2,r3⟩:=e2
  have hva:HX L lv (fun x=>x=v) w:=.step g e'
  rcases hw k hk j hj (by rw [q3,r2])with c|c
  ·exact⟨k,hk,q1,c,by rw [q2];exact⟨g,HX.trans (HX.one e') h2⟩,by rw [q3];exact⟨hva,h2⟩⟩
  ·exact⟨j,hj,r1,c,by rw [r2];exact⟨hva,h2⟩,by rw [r3];exact⟨.step hva e2',g2⟩⟩
theorem pY{n:Nat}{l:List Int}(h:Vk l)(x:Int)(hn:1048577<=n):∃(i:Nat) (a b:Int),TD n l x=some ((i:Int),a,b)∧((i<l.length∧a=1∧b=0)∨(i+1<l.length∧(1<=a∧a<=100000)∧(1<=b∧b<=100000))):=by
 have h1:=h.1
 have ci:=Vi h x
 have w1:wrap .i64 ((l.length:Int)-1)=((l.length-1:Nat):Int):=by rw [Ar (by omega) (by omega)];omega
 have g0:AO l 0=some (gd l 0):=gI (l:=l) (i:=0) (by omega)
 have gL:AO l ((l.length-1:Nat):Int)=some (gd l (l.length-1)):=gI (by omega)
 rw [TD,g0,As,w1,gL,As]
 have key:∀(m i:Nat),i<l.length->i<m->(∀k,i<k->k<l.length->Ig l x<gd l k)->∃(j:Nat) (a b:Int),Kh l x (gd l 0) (gd l (l.length-1)) (fun i23=>(some (0,1,0))) m (i:Int)=some ((j:Int),a,b)∧((j<l.length∧a=1∧b=0)∨(j+1<l.length∧(1<=a∧a<=100000)∧(1<=b∧b<=100000))):=by
  intro m
  induction m with
  |zero=>intro i _ h;omega
  |succ m ih=>
   intro i hi hm hk
   have d0:decide ((i:Int)>=0)=true:=decide_eq_true (by omega)
   rw [Kh.eq_2,d0,cT,gI hi,As,show min (max x (gd l 0)) (gd l (l.length-1))=Ig l x from rfl]
   by_cases c:Ig l x=gd l i
   ·rw [show(Ig l x==gd l i)=true from beq_iff_eq.2 c,cT]
    exact⟨i,1,0,rfl,.inl ⟨hi,rfl,rfl⟩⟩
   ·rw [show(Ig l x==gd l i)=false from beq_eq_false_iff_ne.2 c,cF,As]
    have r0:=h.2.1 i hi
    by_cases c2:Ig l x>gd l i
    ·have hl:i+1<l.length:=by
      apply Nat.lt_of_not_le
      intro q
      have:i=l.length-1:=by omega
      subst this;omega
     have r1:=h.2.1 (i+1) hl
     have hc:=hk (i+1) (by omega) hl
     rw [decide_eq_true c2,cT,wS (by omega),gI hl,As,As,Ar (by omega) (by omega),Ar (by omega) (by omega)]
     exact⟨i,_,_,rfl,.inr ⟨hl,by omega,by omega⟩⟩
    ·have hp:0<i:=by
      apply Nat.pos_of_ne_zero
      intro q;subst q;omega
     have wi:wrap .i64 ((i:Int)-1)=((i-1:Nat):Int):=by rw [Ar (by omega) (by omega)];omega
     rw [decide_eq_false c2,cF,wi]
     refine ih (i-1) (by omega) (by omega) fun k hk1 hk2=>?_
     by_cases q:k=i
     ·subst q;omega
     ·exact hk k (by omega) hk2
 exact key n (l.length-1) (by omega) (by omega) fun k h1 h2=>by omega
theorem iY{n:Nat}{s D mode:Int}(h:D≠0):∃r,Oa n s D mode=some r:=by
 have hz:(D==0)=false:=by rw [beq_eq_false_iff_ne];exact h
 rw [Oa,hz,cF,cF]
 cases(decide (Int.tmod s D<0))&&((mode==0))<;>cases(decide (Int.tmod s D>0))&&((mode==1))<;>exact⟨_,rfl⟩
theorem iR{t:BR}(v:VT t){i k u q:Nat}{w:Int}{U V:Int}{A:Int->Option Int}{B:Option Int}(hw:w>0->i+u<t.Slews.length∧k+q<t.Loads.length)(hU:U=(u:Int))(hV:V=(q:Int))(hq:q<=1)(hA:∀x,BH (fun _=>True) (A x))(hB:BH (fun _=>True) B):
 BH (fun _=>True) (cond (decide (w>0)) (Option.bind (AO t.Values (wrap .i64 (wrap .i64 (wrap .i64 (wrap .i64 ((i:Int)+U)*(t.Loads.length:Int))+(k:Int))+V))) A) B):=by
 have S4:=v.1.1.1.2
 have L4:=v.1.2.1.2
 have hlen:=v.2.1
 subst hU hV
 refine Ag (fun c=>?_) fun _=>hB
 obtain⟨h1,h2⟩:=hw (of_decide_eq_true c)
 have hb:=sD (S:=t.Slews.length) (L:=t.Loads.length) (i:=i+u) (k:=k+q) h1 h2
 rw [sB (by omega) (by omega) (by omega) hq,gI (by omega),As]
 exact hA _
theorem PR{a c:Int}(h:wrap .i64 (a*c)>0):a≠0∧c≠0:=by
 constructor
 ·intro e;subst e;rw [Int.zero_mul]at h;exact absurd h (by decide)
 ·intro e;subst e;rw [Int.mul_zero]at h;exact absurd h (by decide)
structure mL(l:List Int)(i:Nat)(a b:Int):Prop where
 lo:i<l.length
 hi:b≠0->i+1<l.length
theorem dU{t:BR}(v:VT t){i k:Nat}{a b c d:Int}(h1:mL t.Slews i a b)(h2:mL t.Loads k c d){u:Int}(hu:u=0∨u=1){K:Int->Int->Option Int}(hK:∀s,BH (fun _=>True) (K s 2))(m:Nat)(s:Int):BH (fun _=>True) (EZ t ((i:Int),a,b) ((k:Int),c,d) u K (m+3) s 0):=by
 have w01:wrap .i64 (0+1)=1:=rfl
 have w12:wrap .i64 (1+1)=2:=rfl
 have l02:decide ((0:Int)<2)=true:=rfl
 have l12:decide ((1:Int)<2)=true:=rfl
 have l22:decide ((2:Int)<2)=false:=rfl
 have b00:((0:Int)==0)=true:=rfl
 have b10:((1:Int)==0)=false:=rfl
 have b01:((0:Int)==1)=false:=rfl
 have b11:((1:Int)==1)=true:=rfl
 have s3:∀s,BH (fun _=>True) (EZ t ((i:Int),a,b) ((k:Int),c,d) u K (m+1) s 2):=fun s=>by
  rw [EZ.eq_2,l22,cF];exact hK s
 have s2:∀s,BH (fun _=>True) (EZ t ((i:Int),a,b) ((k:Int),c,d) u K (m+2) s 1):=fun s=>by
  rw [EZ.eq_2,l12,cT,b10,cF,cF,w12]
  rcases hu with rfl|rfl
  ·rw [b01,cF]
   exact iR v (u:=0) (q:=1) (fun h=>⟨h1.lo,h2.hi (PR h).2⟩) rfl rfl (by omega) (fun _=>s3 _) (s3 _)
  ·rw [b11,cT]
   exact iR v (u:=1) (q:=1) (fun h=>⟨h1.hi (PR h).1,h2.hi (PR h).2⟩) rfl rfl (by omega) (fun _=>s3 _) (s3 _)
 rw [EZ.eq_2,l02,cT,b00,cT,cT,w01]
 rcases hu with rfl|rfl
 ·rw [b01,cF]
  exact iR v (u:=0) (q:=0) (fun h=>⟨h1.lo,h2.lo⟩) rfl rfl (by omega) (fun _=>s2 _) (s2 _)
 ·rw [b11,cT]
  exact iR v (u:=1) (q:=0) (fun h=>⟨h1.hi (PR h).1,h2.lo⟩) rfl rfl (by omega) (fun _=>s2 _) (s2 _)
theorem UL{l:List Int}{i:Nat}{a b:Int}(h:(i<l.length∧a=1∧b=0)∨(i+1<l.length∧(1<=a∧a<=100000)∧(1<=b∧b<=100000))):mL l i a b∧0<wrap .i64 (a+b)∧wrap .i64 (a+b)<=200000:=by
 have e:wrap .i64 (a+b)=a+b:=Ar (by omega) (by omega)
 rw [e]
 rcases h with ⟨h,rfl,rfl⟩|⟨h,h1,h2⟩
 ·exact⟨⟨h,fun c=>absurd rfl c⟩,by omega,by omega⟩
 ·exact⟨⟨by omega,fun _=>h⟩,by omega,by omega⟩
theorem pR{n:Nat}{t:BR}(v:VT t)(x y mode:Int)(hn:1048577<=n):BH (fun _=>True) (bV n t x y mode):=by
 obtain⟨i,a,b,e1,h1⟩:=pY (n:=n) v.1.1 x hn
 obtain⟨k,c,d,e2,h2⟩:=pY (n:=n) v.1.2 y hn
 obtain⟨o1,p1,p2⟩:=UL h1
 obtain⟨o2,q1,q2⟩:=UL h2
 obtain⟨m,rfl⟩:∃m,n=m+3:=⟨n-3,by omega⟩
 rw [bV,e1,e2,As,As]
 have w01:wrap .i64 (0+1)=1:=rfl
 have w12:wrap .i64 (1+1)=2:=rfl
 have l02:decide ((0:Int)<2)=true:=rfl
 have l12:decide ((1:Int)<2)=true:=rfl
 have l22:decide ((2:Int)<2)=false:=rfl
 rw [La.eq_2,l02,cT,w01]
 refine dU v o1 o2 (.inl rfl) (fun s=>?_) m 0
 rw [La.eq_2,l12,cT,w12]
 refine dU v o1 o2 (.inr rfl) (fun s=>?_) m _
 have em:=mw (a:=wrap .i64 (a+b)) (c:=wrap .i64 (c+d)) (by omega) (by omega)
 rw [La.eq_2,l22,cF]
 dsimp only
 rw [em]
 have:=Int.mul_pos p1 q1
 obtain⟨r,er⟩:=iY (n:=m+3) (s:=s) (D:=wrap .i64 (a+b)*wrap .i64 (c+d)) (mode:=mode) (by omega)
 rw [er]
 exact AL trivial
theorem pS{n:Nat}{b:AG}(v:Bv b){i:Nat}(hi:i<b.Wires.length)(hn:1048577<=n):BH (fun r=>r.length=b.Wires[i].Parent.length) (Sn n b (i:Int)):=by
 have vw:=v.wire i hi
 have hm:=vw.many
 rw [Sn,AX hi,As]
 refine BH.bind (pQ v hi hn) fun ls _ hl=>?_
 refine Oy (L:=fun m j s=>JH b.Wires[i] ls _ m s j) 1 ls.length (fun j s=>s.length=j) ?_ ?_ n [0] (by omega) (by omega) rfl
 ·intro m j s h1 hj hs
  have ht:=vw.tree j h1 (by omega)
  obtain⟨a,ea⟩:=Es (t:=s) ht.1 (by omega)
  simp only [JH.eq_2,DB hj,cT,gI (show j<b.Wires[i].Parent.length by omega),As,ea,gI (show j<b.Wires[i].Res.length by have:=vw.res;omega),gI hj,wT j]
  rw [BO (by simp;omega) (by omega),As]
  exact⟨_,by simp;omega,rfl⟩
 ·intro m s hs
  simp only [JH.eq_2,DN,cF]
  exact⟨s,rfl,by omega⟩
theorem Wo{b:AG}(v:Bv b){i:Nat}(hi:i<b.Wires.length):b.Wires[i].Sink.length<=78:=by
 have vd:=v.design
 have hl:=CX vd.short vd.few.1 vd.few.2.2
 have h:snk b.Design (i:Int)<=78:=Nat.le_trans List.countP_le_length hl
 have:=(v.wire i hi).sink
 omega
theorem tA{n:Nat}{b:AG}(v:Bv b){i:Nat}(hi:i<b.Wires.length){mode:Int}(hn:1048577<=n):BH (fun r=>r.length=b.Wires[i].Sink.length) (WA n b (i:Int) mode):=by
 have vw:=v.wire i hi
 have hm:=vw.many
 have hf:=Wo v hi
 rw [WA]
 refine BH.bind (pS v hi hn) fun ds _ hl=>?_
 refine GK (L:=fun m j s=>IS n b (i:Int) mode ds _ m s j) b.Wires[i].Sink.length (fun j s=>s.length=j) ?_ ?_ n [] (by omega) rfl
 ·intro m j s hj hs
  have hk:=vw.sinks j hj
  obtain⟨a,ea⟩:=Es (t:=ds) hk.1 (by omega)
  obtain⟨r,er⟩:=iY (n:=n) (s:=a) (D:=1000) (mode:=mode) (by omega)
  simp only [IS.eq_2,AX hi,As,DB hj,cT,gI hj,ea,er,wT j]
  rw [BO (by simp;omega) (by omega),As]
  exact⟨_,by simp;omega,rfl⟩
 ·intro m s hs
  simp only [IS.eq_2,AX hi,As,DN,cF]
  exact⟨s,rfl,hs⟩
theorem mM{n:Nat}{x mode:Int}(hn:1048577<=n):BH (fun _=>True) (VN n x mode):=by
 rw [VN]
 have key:∀(m:Nat) (i j:Int),0<=i->i<=j->j<=2000000000->j-i<2^m->BH (fun _=>True) (HQ x (fun i3 i4=>(cond (((mode==1))&&(decide (wrap .i64 (i3*i3)<x))) (some (wrap .i64 (i3+1))) (some i3))) (m+1) i j):=by
  intro m
  induction m with
  |zero=>
   intro i j h0 h1 h2 h3
   have:i=j:=by simp at h3;omega
   subst this
   rw [HQ.eq_2,decide_eq_false (by omega),cF]
   exact Ag (fun _=>AL trivial) fun _=>AL trivial
  |succ m ih=>
   intro i j h0 h1 h2 h3
   rw [Int.pow_succ]at h3
   rw [HQ.eq_2]
   by_cases c:i<j
   ·have w1:wrap .i64 (i+j)=i+j:=Ar (by omega) (by omega)
    have w2:wrap .i64 (i+j+1)=i+j+1:=Ar (by omega) (by omega)
    have e:Int.tdiv (i+j+1) 2=(i+j+1)/2:=Int.tdiv_eq_ediv_of_nonneg (by omega)
    have w3:wrap .i64 ((i+j+1)/2)=(i+j+1)/2:=Ar (by omega) (by omega)
    have w4:wrap .i64 ((i+j+1)/2-1)=(i+j+1)/2-1:=Ar (by omega) (by omega)
    rw [decide_eq_true c,cT,w1,w2,e,w3,w4]
    exact Ag (fun _=>ih _ _ (by omega) (by omega) h2 (by omega)) fun _=>ih _ _ h0 (by omega) (by omega) (by omega)
   ·rw [decide_eq_false c,cF]
    exact Ag (fun _=>AL trivial) fun _=>AL trivial
 obtain⟨m,rfl⟩:∃m,n=m+1:=⟨n-1,by omega⟩
 refine key m 0 2000000000 (by omega) (by omega) (by omega) ?_
 have h1:(2:Int)^40<=2^m:=by
  have:=Nat.pow_le_pow_right (show 1<=2 by omega) (show 40<=m by omega)
  exact_mod_cast this
 have h2:(2:Int)^40=1099511627776:=by decide
 omega
theorem lA{n:Nat}{b:AG}(v:Bv b){i:Nat}(hi:i<b.Wires.length){k slew mode:Int}(hk:0<=k∧k<(b.Wires[i].Sink.length:Int))(hn:1048577<=n):BH (fun _=>True) (VH n b (i:Int) k slew mode):=by
 have vw:=v.wire i hi
 rw [VH]
 refine BH.bind (pS v hi hn) fun ds _ hl=>?_
 obtain⟨j,ej⟩:=Int.eq_ofNat_of_zero_le hk.1
 have ej:k=(j:Int):=ej
 subst ej
 have hj:j<b.Wires[i].Sink.length:=by omega
 have hs:=vw.sinks j hj
 obtain⟨a,ea⟩:=Es (t:=ds) hs.1 (by omega)
 rw [AX hi,As,gI hj,As,ea,As]
 refine BH.bind (mM hn) fun r _ _=>?_
 obtain⟨q,eq⟩:=iY (n:=n) (s:=r) (D:=1000) (mode:=mode) (by omega)
 rw [eq];exact AL trivial
theorem XA{d:AY}{q:Int}:∀x∈IU d q,∃t,∃h:t<(pls d).length,x=(t:Int)∧GZ q (pls d)[t]=true:=fun x hx=>
 DU (Q:=fun x=>∃t,∃h:t<(pls d).length,x=(t:Int)∧GZ q (pls d)[t]=true) (pls d) 0 (fun j hj y hy=>by
  rw [Nat.zero_add]at hy
  by_cases c:GZ q (pls d)[j]=true
  ·rw [if_pos c]at hy;exact⟨j,hj,List.mem_singleton.1 hy,c⟩
  ·rw [if_neg c]at hy;cases hy) x hx
structure Xt(b:AG)(x:AS)(f t q j:Nat):Prop where
 kind:x.Kind=2
 from_:x.From=2*(f:Int)∨x.From=2*(f:Int)+1
 to_:x.To=2*(t:Int)∨x.To=2*(t:Int)+1
 drv:∃h:f<(pls b.Design).length,(pls b.Design)[f].drives_=true
 snk:∃h:t<(pls b.Design).length,(pls b.Design)[t].drives_=false∧(pls b.Design)[t].net_=(q:Int)
 ix:x.Index=(j:Int)
 sinks:∃h:q<b.Wires.length,j<b.Wires[q].Sink.length
theorem PH{b:AG}(v:Bv b):∀x∈Ky b,x.Kind=1∨∃f t q j,Xt b x f t q j:=by
 have vd:=v.design
 intro x hx
 simp only [Ky,List.mem_append]at hx
 rcases hx with hx|hx
 ·refine .inl ?_
  refine DU (Q:=fun x:AS=>x.Kind=1) b.Design.Instances 0 (fun i hi y hy=>?_) x hx
  rw [WY]at hy
  refine DU (Q:=fun x:AS=>x.Kind=1) _ 0 (fun j hj z hz=>?_) y hy
  obtain⟨t,ht,rfl⟩:=List.mem_map.1 hz
  rfl
 ·refine .inr ?_
  refine DU (Q:=fun x:AS=>∃f t q j,Xt b x f t q j) b.Design.Nets 0 (fun q hq y hy=>?_) x hx
  rw [Nat.zero_add]at hy
  have hd:=PL vd hq
  refine DU (Q:=fun x:AS=>∃f t q j,Xt b x f t q j) _ 0 (fun j hj z hz=>?_) y hy
  rw [Nat.zero_add]at hz
  obtain⟨t,ht,et,st⟩:=XA _ (List.getElem_mem hj)
  simp only [GZ,Bool.and_eq_true,beq_iff_eq,Bool.not_eq_true']at st
  have hdr:((pls b.Design)[Lm b.Design q]'hd.lt).drives_=true:=by have:=hd.hit;simp only [FO,Bool.and_eq_true]at this;exact this.2
  have hq2:q<b.Wires.length:=by rw [v.many];exact hq
  have hs:(IU b.Design (q:Int)).length=b.Wires[q].Sink.length:=by rw [GN];have:=(v.wire q hq2).sink;omega
  simp only [Yi,List.mem_cons,List.not_mem_nil,or_false]at hz
  rw [et]at hz
  rcases hz with rfl|rfl
  ·exact⟨Lm b.Design q,t,q,j,rfl,.inl rfl,.inl rfl,⟨hd.lt,hdr⟩,⟨ht,st.2,st.1⟩,rfl,⟨hq2,by omega⟩⟩
  ·exact⟨Lm b.Design q,t,q,j,rfl,.inr rfl,.inr rfl,⟨hd.lt,hdr⟩,⟨ht,st.2,st.1⟩,rfl,⟨hq2,by omega⟩⟩
theorem hE{n:Nat}{b:AG}(v:Bv b){x:AS}(ok:TE b x)(k:x.Kind=1)(hn:1048577<=n):∃a z,Sq n b x=some (a,z)∧Qj a.Delay true∧Qj a.Slew true:=by
 have vd:=v.design
 obtain⟨p,y,c,a,g1,pm,g2,g3,g4,kd⟩:=ok.arc k
 have hp:=vd.net p pm
 have hW:=v.many
 obtain⟨N,hN⟩:=Int.eq_ofNat_of_zero_le hp.1
 have hN:p.net_=(N:Int):=hN
 have hNl:N<b.Wires.length:=by omega
 obtain⟨r,er,hr⟩:=pQ (n:=n) v hNl hn
 have hm:=(v.wire N hNl).many
 have g1':AO ((pls b.Design).map Gg) (wrap .i64 (Int.tdiv x.To 2))=some (Gg p):=by
  obtain⟨g0,g5,g6⟩:=Ej g1
  obtain⟨M,hM⟩:=Int.eq_ofNat_of_zero_le g0
  have hM:wrap .i64 (Int.tdiv x.To 2)=(M:Int):=hM
  rw [hM]at g6 ⊢
  rw [Hy,List.getElem?_map]
  rw [Int.toNat_natCast]at g6
  rw [g6];rfl
 have g2':AO b.Design.Instances (Gg p).instance_=some y:=g2
 have hN':(Gg p).net_=(N:Int):=hN
 refine⟨a,gd r 0,?_,?_⟩
 ·rw [Sq,Ob vd.short vd.few.1 vd.few.2.2 hn]
  simp only [As,g1',g2',g3,g4,hN',er]
  have e0:AO r 0=some (gd r 0):=gI (i:=0) (by omega)
  rw [e0];rfl
 ·obtain⟨_,_,c3⟩:=Ej g3
  obtain⟨cl,ec⟩:=List.getElem?_eq_some_iff.1 c3
  obtain⟨_,_,a3⟩:=Ej g4
  obtain⟨al,ea⟩:=List.getElem?_eq_some_iff.1 a3
  have vc:=vd.lib.cells _ cl
  rw [ec]at vc
  have ar:=(vc.arcs _ al).1
  rw [ea]at ar
  unfold Mo at ar
  obtain⟨_,ar⟩:=ar
  by_cases k1:a.Kind=1
  ·rw [if_pos k1]at ar;exact⟨ar.2.2.2.1,ar.2.2.2.2⟩
  ·rw [if_neg k1,if_pos (by omega)]at ar;exact⟨ar.2.2.2.1,ar.2.2.2.2⟩
theorem Vb{x:Int}(h:0<=x):0<=Int.tmod x 2∧Int.tmod x 2<2:=GE h (by omega)
theorem YP{n:Nat}{b:AG}(v:Bv b){x:AS}{f t q j:Nat}(h:Xt b x f t q j)(hn:1048577<=n):Sx n b x=some (q:Int):=by
 have vd:=v.design
 have hl:=CX vd.short vd.few.1 vd.few.2.2
 obtain⟨ht,_,hq⟩:=h.snk
 have e1:wrap .i64 (Int.tdiv x.To 2)=(t:Int):=by
  have h0:0<=x.To:=by have:=h.to_;omega
  have e:Int.tdiv x.To 2=(t:Int):=by rw [Int.tdiv_eq_ediv_of_nonneg h0];have:=h.to_;omega
  rw [e,Ar (by omega) (by omega)]
 rw [Sx,Ob vd.short vd.few.1 vd.few.2.2 hn,As,e1,AX (by simpa using ht),As,List.getElem_map]
 show some (pls b.Design)[t].net_=_
 rw [hq]
theorem pU{n:Nat}{c:Ay}{k m:Int}:BH (fun _=>True) (TM n c k m):=by
 rw [TM]
 refine Ag (fun _=>Ag (fun _=>AL trivial) fun _=>AL trivial) fun _=>Ag (fun _=>AL trivial) fun _=>AL trivial
theorem XJ{n:Nat}{b:AG}(v:Bv b){x:AS}(hx:x∈Ky b){c:Ay}{s m:Int}(hn:1048577<=n):BH (fun _=>True) (Px n b c x s m):=by
 have ok:=Pc v x hx
 have dv:∀y:Int,BH (fun _=>True) (Option.bind (Oa n y 1000 m) fun r=>some r):=fun y=>by
  obtain⟨r,e⟩:=iY (n:=n) (s:=y) (D:=1000) (mode:=m) (by omega)
  rw [e];exact AL trivial
 rw [Px]
 rcases PH v x hx with k|⟨f,t,q,j,h⟩
 ·rw [beq_iff_eq.2 k,cT]
  obtain⟨a,z,e,hd,_⟩:=hE (n:=n) v ok k hn
  rw [e,As]
  have pr:=Vb ok.to_.1
  exact BH.bind (BH.get pr.1 (by rw [hd.1];exact pr.2) hd.2) fun u _ hu=>BH.bind (pR hu.1 _ _ _ hn) fun _ _ _=>BH.bind pU fun _ _ _=>dv _
 ·have k:(x.Kind==1)=false:=by rw [beq_eq_false_iff_ne,h.kind];omega
  obtain⟨hq,hj⟩:=h.sinks
  rw [k,cF,YP v h hn,As,h.ix]
  exact BH.bind (tA v hq hn) fun r _ hr=>BH.bind (Bm (by omega) (by omega)) fun _ _ _=>BH.bind pU fun _ _ _=>dv _
theorem XR{n:Nat}{b:AG}(v:Bv b){x:AS}(hx:x∈Ky b){s m:Int}(hn:1048577<=n):BH (fun _=>True) (QZ n b x s m):=by
 have ok:=Pc v x hx
 rw [QZ]
 rcases PH v x hx with k|⟨f,t,q,j,h⟩
 ·rw [beq_iff_eq.2 k,cT]
  obtain⟨a,z,e,_,hd⟩:=hE (n:=n) v ok k hn
  rw [e,As]
  have pr:=Vb ok.to_.1
  exact BH.bind (BH.get pr.1 (by rw [hd.1];exact pr.2) hd.2) fun u _ hu=>BH.bind (pR hu.1 _ _ _ hn) fun _ _ _=>AL trivial
 ·have k:(x.Kind==1)=false:=by rw [beq_eq_false_iff_ne,h.kind];omega
  obtain⟨hq,hj⟩:=h.sinks
  rw [k,cF,YP v h hn,As,h.ix]
  exact BH.bind (lA v hq ⟨by omega,by omega⟩ hn) fun _ _ _=>AL trivial
theorem cJ{n:Nat}{b:AG}(v:Bv b){x:AS}(hx:x∈Ky b){c:Ay}{s:Ae}(hn:1048577<=n):BH (fun _=>True) (Se n b c x s):=by
 rw [Se]
 exact BH.bind (XJ v hx hn) fun _ _ _=>BH.bind (XJ v hx hn) fun _ _ _=>BH.bind (XR v hx hn) fun _ _ _=>BH.bind (XR v hx hn) fun _ _ _=>BH.bind (XJ v hx hn) fun _ _ _=>BH.bind (XJ v hx hn) fun _ _ _=>BH.bind (XR v hx hn) fun _ _ _=>BH.bind (XR v hx hn) fun _ _ _=>AL trivial
theorem cQ{n:Nat}{s t:Ae}:BH (fun _=>True) (So n s t):=by rw [So];exact AL trivial
structure Yq(N:Nat)(t:Ad):Prop where
 r:t.Reached.length=N
 a:t.Arrival.length=N
 s:t.Slew.length=N
abbrev pT:=Bool×Int×Int×Int×Int×Int
theorem nO{n:Nat}{b:AG}(v:Bv b){c:Ay}{lv:List Bool}(hlv:lv.length=(Ky b).length){ss:List Aq}(hs:ss.length<=1048576){t:Ad}(ht:Yq (2*(pls b.Design).length) t){k:Int}(hn:1048577<=n):
 BH (fun _=>True) (gG n b c (Ky b) lv ss t k):=by
 have hL:=Gi v
 have hin:=PT v
 have hr:=ht.r;have ha:=ht.a;have hsl:=ht.s
 rw [gG]
 refine EY (L:=fun m i (p:pT)=>Ji ss k _ m p.1 i p.2.1 p.2.2.1 p.2.2.2.1 p.2.2.2.2.1 p.2.2.2.2.2) ss.length (fun _ _=>True) (BH fun _=>True) ?_ ?_ n 0 (false,0,0,0,0,0) (by omega) (by omega) trivial
 ·rintro m i ⟨q,i2,i3,i4,i5,i6⟩ hi _ ih
  simp only [Ji.eq_2,DB hi,cT,AX hi,As,wT i]
  exact Ag (fun _=>ih (true,_,_,_,_,_) trivial) fun _=>ih (q,i2,i3,i4,i5,i6) trivial
 ·rintro m ⟨q,i2,i3,i4,i5,i6⟩ _
  simp only [Ji.eq_2,DN,cF]
  refine EY (L:=fun m i (p:pT)=>Ii n b c (Ky b) lv t k _ m p.1 i p.2.1 p.2.2.1 p.2.2.2.1 p.2.2.2.2.1 p.2.2.2.2.2) (Ky b).length (fun _ _=>True) (BH fun _=>True) ?_ ?_ n 0 (q,i2,i3,i4,i5,i6) (by omega) (by omega) trivial
  ·rintro m i ⟨q,i2,i3,i4,i5,i6⟩ hi _ ih
   have hf:=hin.from_ i hi
   simp only [Ii.eq_2,DB hi,cT,AX hi,AX (show i<lv.length by omega),As,wT i]
   refine BH.bind (A:=fun _=>True) (Ag (fun _=>AL trivial) fun _=>BH.bind (Bm hf.1 (by omega)) fun _ _ _=>AL trivial) fun cc _ _=>Ag (fun _=>ih (q,i2,i3,i4,i5,i6) trivial) fun _=>?_
   refine BH.bind (Bm hf.1 (by omega)) fun sl _ _=>BH.bind (cJ v (List.getElem_mem hi) hn) fun r _ _=>BH.bind (Bm hf.1 (by omega)) fun a1 _ _=>BH.bind (Bm hf.1 (by omega)) fun a2 _ _=>Ag (fun _=>?_) fun _=>ih (true,_,_,_,_,_) trivial
   exact BH.bind cQ fun _ _ _=>BH.bind cQ fun _ _ _=>ih (true,_,_,_,_,_) trivial
  ·rintro m ⟨q,i2,i3,i4,i5,i6⟩ _
   simp only [Ii.eq_2,DN,cF]
   exact AL trivial
theorem qL{n:Nat}{s:Ae}:BH (fun _=>True) (QJ n s):=⟨_,nY,trivial⟩
theorem nF{n:Nat}{b:AG}(v:Bv b){c:Ay}{lv:List Bool}(hlv:lv.length=(Ky b).length){ss:List Aq}(hs:ss.length<=1048576){od:List Int}(ho:od.length<=1048576)(hr:∀x∈od,0<=x∧x<((2*(pls b.Design).length:Nat):Int))(hn:1048577<=n):
 BH (fun r=>Yq 0 r.1∨Yq (2*(pls b.Design).length) r.1) (Tc n b c (Ky b) lv ss od):=by
 have vd:=v.design
 have hl:=CX vd.short vd.few.1 vd.few.2.2
 have wc:CD b=((2*(pls b.Design).length:Nat):Int):=by unfold CD;omega
 generalize hN:2*(pls b.Design).length=N at*
 rw [Tc,OP v hn,As,wc,Xr]
 simp only [Ev (show N<=1048576 by omega) (show 1<=268435456 by omega),Ev (show N<=1048576 by omega) (show 16<=268435456 by omega),As]
 refine EY (L:=fun m i (p:List Bool×List Ae×List Ae)=>Hc n b c (Ky b) lv ss od _ m i p.1 p.2.1 p.2.2) od.length (fun _ p=>Yq N ⟨p.1,p.2.1,p.2.2⟩) (BH fun r=>Yq 0 r.1∨Yq N r.1) ?_ ?_ n 0 (List.replicate N false,List.replicate N ⟨0,0⟩,List.replicate N ⟨0,0⟩) (by omega) (by omega) ⟨by simp,by simp,by simp⟩
 ·rintro m i ⟨l1,l2,l3⟩ hi ⟨h1,h2,h3⟩ ih
  have h1:l1.length=N:=h1
  have h2:l2.length=N:=h2
  have h3:l3.length=N:=h3
  have hx:=hr _ (List.getElem_mem hi)
  simp only [Hc.eq_2,DB hi,cT,AX hi,As,wT i]
  refine BH.bind (nO v hlv hs (t:=⟨l1,l2,l3⟩) (by rw [hN];exact⟨h1,h2,h3⟩) hn) fun r _ _=>Ag (fun _=>ih (l1,l2,l3) ⟨h1,h2,h3⟩) fun _=>BH.bind qL fun q _ _=>Ag (fun _=>AL (.inl ⟨rfl,rfl,rfl⟩)) fun _=>?_
  exact BH.bind (Bm hx.1 (by omega)) fun _ _ _=>BH.bind (Bm hx.1 (by omega)) fun _ _ _=>BH.bind (Bm hx.1 (by omega)) fun _ _ _=>ih (_,_,_) ⟨by simpa using h1,by simpa using h2,by simpa using h3⟩
 ·rintro m ⟨l1,l2,l3⟩ h
  simp only [Hc.eq_2,DN,cF]
  exact AL (.inr h)
theorem nQ{n:Nat}{L:List AS}{lv:List Bool}{N:Nat}(hL:Pm L N)(hlv:lv.length=L.length)(hl:L.length<=10000)(hN:N<=1000)(hn:1048577<=n):
 BH (fun r=>r.1.length<=N∧∀x∈r.1,0<=x∧x<(N:Int)) (dT n (N:Int) L lv):=by
 rw [dT,Ev (by omega) (by omega),As]
 refine Rv (L:=fun m (p:List Int×List Bool)=>Lw n (N:Int) L lv _ m p.1 p.2) (fun p=>N-p.1.length) (fun p=>(p.1.length<=N∧p.2.length=N)∧∀x∈p.1,0<=x∧x<(N:Int)) (BH fun r=>r.1.length<=N∧∀x∈r.1,0<=x∧x<(N:Int)) ?_ n ([],List.replicate N false) (by simp;omega) ⟨⟨by simp,by simp⟩,by simp⟩
 rintro m ⟨o,l⟩ ⟨⟨h1,h2⟩,h3⟩ ih
 have h1:o.length<=N:=h1
 have h2:l.length=N:=h2
 simp only [Lw.eq_2]
 refine Ag (fun c=>?_) fun _=>AL ⟨h1,h3⟩
 have c:o.length<N:=by have:=of_decide_eq_true c;omega
 rw [Ev (by omega) (by omega),As]
 refine EY (L:=fun m' i (w:List Bool)=>Jk L lv l _ m' i w) L.length (fun _ w=>w.length=N) (BH fun r=>r.1.length<=N∧∀x∈r.1,0<=x∧x<(N:Int)) ?_ ?_ n 0 (List.replicate N false) (by omega) (by omega) (by simp)
 ·intro m' i w hi hw kk
  have hf:=hL.from_ i hi
  have ht:=hL.to_ i hi
  simp only [Jk.eq_2,DB hi,cT,AX hi,AX (show i<lv.length by omega),As,wT i]
  refine BH.bind (A:=fun _=>True) (Ag (fun _=>BH.bind (Bm hf.1 (by omega)) fun _ _ _=>AL trivial) fun _=>AL trivial) fun cc _ _=>Ag (fun _=>BH.bind (Bm ht.1 (by omega)) fun _ _ _=>kk _ (by simpa using hw)) fun _=>kk w hw
 ·intro m' w hw
  simp only [Jk.eq_2,DN,cF]
  have fin:∀i:Nat,i<=N->BH (fun r=>r.1.length<=N∧∀x∈r.1,0<=x∧x<(N:Int)) ((cond ((i:Int)==(N:Int)) (some (([]:List Int),false)) (Option.bind (CB o [(i:Int)] 8) fun z103=>(Lw n (N:Int) L lv (fun l33 l37=>(some (l33,true))) m z103 ((l.set ((i:Int)).toNat true)))))):=fun i hi=>
   Ag (fun _=>AL ⟨by simp,by simp⟩) fun q=>by
    have q:=beq_eq_false_iff_ne.1 q
    rw [BO (by simp;omega) (by omega),As]
    refine ih (o++[(i:Int)],_) ⟨⟨by simp;omega,by simpa using h2⟩,fun x hx=>?_⟩ (by simp;omega)
    rcases List.mem_append.1 hx with h|h
    ·exact h3 x h
    ·rw [List.mem_singleton.1 h];omega
  refine EY (L:=fun m' i (_:Unit)=>Lp (N:Int) l w _ m' i) N (fun _ _=>True) (BH fun r=>r.1.length<=N∧∀x∈r.1,0<=x∧x<(N:Int)) ?_ ?_ n 0 () (by omega) (by omega) trivial
  ·intro m'' i _ hi _ kk
   simp only [Lp.eq_2,DB hi,cT,AX (show i<l.length by omega),AX (show i<w.length by omega),As,wT i]
   refine BH.bind (A:=fun _=>True) (BH.bind (A:=fun _=>True) (Ag (fun _=>AL trivial) fun _=>AL trivial) fun _ _ _=>AL trivial) fun cc _ _=>Ag (fun _=>kk () trivial) fun _=>fin i (by omega)
  ·intro m'' _ _
   simp only [Lp.eq_2,DN,cF,As,beq_self_eq_true,cT]
   exact AL ⟨by simp,by simp⟩
theorem bN{n:Nat}{b:AG}{br:List Int}(hb:MZ b)(hbr:br.length<=1048576)(hn:1048577<=n):BH (fun r=>(r !=0)=false->Bv b) (Qx n b br):=by
 obtain⟨v,e1,hv⟩:=XP (n:=n) hb hn
 rw [Qx,e1,As]
 refine Ag (fun _=>AL fun h=>by cases h) fun q=>?_
 have vb:=hv.1 (by cases v<;>simp_all)
 have hL:=Gi vb
 rw [TG vb hn,As]
 obtain⟨r,e2,_⟩:=rG (n:=n) (br:=br) (N:=((Ky b).length:Int)) hbr ⟨by omega,by omega⟩ hn
 rw [e2,As]
 exact Ag (fun _=>AL fun h=>by cases h) fun _=>AL fun _=>vb
theorem Za{n:Nat}{b:AG}{br:List Int}(hb:MZ b)(hbr:br.length<=1048576)(hn:1048577<=n):BH (fun r=>r.1.length<=156∧((r.2 !=0)=false->Bv b∧∀x∈r.1,0<=x∧x<((2*(pls b.Design).length:Nat):Int))) (RC n b br):=by
 rw [RC]
 refine BH.bind (bN hb hbr hn) fun r _ hr=>Ag (fun q=>AL ⟨by simp,fun h=>by rw [show(r !=0)=false from h]at q;cases q⟩) fun q=>?_
 have v:=hr q
 have vd:=v.design
 have hl:=CX vd.short vd.few.1 vd.few.2.2
 have hL:=Gi v
 have wc:CD b=((2*(pls b.Design).length:Nat):Int):=by unfold CD;omega
 rw [TG v hn,As,OP v hn,As,jC (by omega) hbr hn,As,wc]
 exact BH.bind (nQ (PT v) (Hx _ _ _) (by omega) (by omega) hn) fun o _ ho=>Ag (fun _=>AL ⟨by simp,fun h=>by cases h⟩) fun _=>AL ⟨by have:=ho.1;show o.1.length<=156;omega,fun _=>⟨v,ho.2⟩⟩
theorem gS{n:Nat}{c:Ay}(h:c.Name.size<=1048576)(hn:1048577<=n):BH (fun _=>True) (Sd n c):=by
 rw [Sd]
 refine EY (L:=fun m i (_:Unit)=>Ip n c _ m i) ([c.CellEarly,c.CellLate,c.WireEarly,c.WireLate]).length (fun _ _=>True) (BH fun _=>True) ?_ ?_ n 0 () (by simp) (by simp;omega) trivial
 ·intro m i _ hi _ kk
  have hi4:i<4:=hi
  simp only [Ip.eq_2,DB hi,cT,AX hi,As,HA,wT i]
  exact Ag (fun _=>AL trivial) fun _=>kk () trivial
 ·intro m _ _
  simp only [Ip.eq_2,DN,cF,jF h hn,As]
  exact AL trivial
theorem pD{n:Nat}{b:AG}(v:Bv b){ss:List Aq}(hs:ss.length<=1048576)(hn:1048577<=n):BH (fun _=>True) (Ti n b ss):=by
 rw [Ti,OP v hn,As]
 refine EY (L:=fun m i (_:Unit)=>JK n ss (CD b) _ m i) ss.length (fun _ _=>True) (BH fun _=>True) ?_ ?_ n 0 () (by omega) (by omega) trivial
 ·intro m i _ hi _ kk
  simp only [JK.eq_2,DB hi,cT,AX hi,As,HA,nY,Su,wT i]
  refine BH.bind (A:=fun _=>True) (Ag (fun _=>AL trivial) fun _=>BH.bind (A:=fun _=>True) (Ag (fun q=>?_) fun _=>AL trivial) fun _ _ _=>AL trivial) fun c1 _ _=>BH.bind (A:=fun _=>True) (Ag (fun _=>AL trivial) fun _=>AL trivial) fun c2 _ _=>BH.bind (A:=fun _=>True) (Ag (fun _=>AL trivial) fun _=>AL trivial) fun c3 _ _=>Ag (fun _=>AL trivial) fun _=>kk () trivial
  have q:=of_decide_eq_true q
  have w:wrap .i64 ((i:Int)-1)=((i-1:Nat):Int):=by rw [Ar (by omega) (by omega)];omega
  rw [w,AX (show i-1<ss.length by omega)]
  exact AL trivial
 ·intro m _ _
  simp only [JK.eq_2,DN,cF]
  exact AL trivial
theorem qK{n:Nat}{b:AG}{c:Ay}{br:List Int}{ss:List Aq}(hb:MZ b)(hc:c.Name.size<=1048576)(hbr:br.length<=1048576)(hs:ss.length<=1048576)(hn:1048577<=n):BH (fun r=>∃N,N<=156∧Yq N r.1) (VE n b c br ss):=by
 have no:∃N,N<=156∧Yq N (Ad.mk [] [] []):=⟨0,by omega,rfl,rfl,rfl⟩
 rw [VE]
 refine BH.bind (A:=fun r=>r.1.length<=156∧((r.2 !=0)=false->Bv b∧∀x∈r.1,0<=x∧x<((2*(pls b.Design).length:Nat):Int))) ?_ fun r _ hr=>Ag (fun _=>AL no) fun q=>?_
 ·rw [YG]
  obtain⟨v,e1,hv⟩:=XP (n:=n) hb hn
  rw [e1,As]
  refine BH.bind (A:=fun x=>x=false->v=true) (Ag (fun _=>AL fun h=>by cases h) fun q=>BH.bind (gS hc hn) fun _ _ _=>AL fun _=>by cases v<;>simp_all) fun x _ hx=>Ag (fun _=>AL ⟨by simp,fun h=>by cases h⟩) fun q=>?_
  have vb:=hv.1 (hx q)
  refine BH.bind (bN hb hbr hn) fun r _ hr=>BH.bind (A:=fun _=>True) (Ag (fun _=>AL trivial) fun _=>BH.bind (pD vb hs hn) fun _ _ _=>AL trivial) fun x _ _=>Ag (fun _=>AL ⟨by simp,fun h=>by cases h⟩) fun _=>BH.bind (Za hb hbr hn) fun o _ ho=>AL ho
 ·obtain⟨v,ho⟩:=hr.2 q
  have vd:=v.design
  have hl:=CX vd.short vd.few.1 vd.few.2.2
  have hL:=Gi v
  rw [TG v hn,As,jC (by omega) hbr hn,As]
  refine BH.bind (nF v (Hx _ _ _) hs (by have:=hr.1;omega) ho hn) fun t _ ht=>Ag (fun _=>AL no) fun _=>AL ?_
  rcases ht with h|h
  ·exact⟨0,by omega,h⟩
  ·exact⟨_,by omega,h⟩
def ct(l:List Bool):Nat:=l.countP fun b=>b
theorem WO:∀{l:List Bool} {i:Nat},i<l.length->gb l i=true->ct (l.set i false)+1=ct l
 |[],i,h,_=>by simp at h
 |b::l,0,_,h=>by
  have h:b=true:=h
  subst h;simp [ct]
 |b::l,i+1,hi,h=>by
  have ih:=WO (l:=l) (i:=i) (by simpa using hi) h
  unfold ct at ih ⊢
  simp only [List.set_cons_succ,List.countP_cons];omega
theorem sN{n:Nat}{L:List AS}{lv:List Bool}{v:Int}(hlv:lv.length=L.length)(hl:L.length<=10000)(hn:1048577<=n):
 BH (fun r=>r=true->∃k,∃h:k<L.length,gb lv k=true∧L[k].From=v∧L[k].To=v) (UW n L lv v):=by
 rw [UW]
 refine EY (L:=fun m i (_:Unit)=>JN L lv v _ m i) L.length (fun _ _=>True) (BH fun r=>r=true->∃k,∃h:k<L.length,gb lv k=true∧L[k].From=v∧L[k].To=v) ?_ ?_ n 0 () (by omega) (by omega) trivial
 ·intro m i _ hi _ kk
  simp only [JN.eq_2,DB hi,cT,AX hi,NJ (show i<lv.length by omega),As,Bx,wT i]
  refine Ag (fun q=>AL fun _=>?_) fun _=>kk () trivial
  simp only [Bool.and_eq_true,beq_iff_eq]at q
  exact⟨i,hi,q.1.1,q.1.2,q.2⟩
 ·intro m _ _
  simp only [JN.eq_2,DN,cF]
  exact AL fun h=>by cases h
def Pt(L:List AS)(lv:List Bool)(N:Nat)(x:List Int):Prop:=x.length<=N∧∃k,∃h:k<L.length,gb lv k=true∧L[k].Kind=1∧L[k].From∈x∧L[k].To∈x
structure ZB(N v i:Nat)(r1 r2:List Bool)(x:List Int):Prop where
 few:x.length<=i
 iff:∀y,y∈x↔∃w:Nat,w<i∧y=(w:Int)∧gb r1 w=true∧gb r2 w=true
 two:x.length>1->∃w:Nat,w<N∧w≠v∧gb r1 w=true∧gb r2 w=true
theorem ZB.skip{N v i:Nat}{r1 r2:List Bool}{x:List Int}(h:ZB N v i r1 r2 x)(c:(gb r1 i&&gb r2 i)=false):ZB N v (i+1) r1 r2 x:=
 ⟨by have:=h.few;omega,fun y=>(h.iff y).trans ⟨fun⟨w,a,b⟩=>⟨w,by omega,b⟩,fun⟨w,a,b,d,e⟩=>⟨w,by
  by_cases q:w=i
  ·subst q;rw [d,e]at c;cases c
  ·omega,b,d,e⟩⟩,h.two⟩
theorem ZB.add{N v i:Nat}{r1 r2:List Bool}{x:List Int}(h:ZB N v i r1 r2 x)(hi:i<N)(c:(gb r1 i&&gb r2 i)=true):ZB N v (i+1) r1 r2 (x++[(i:Int)]):=by
 simp only [Bool.and_eq_true]at c
 refine⟨by have:=h.few;simp;omega,fun y=>?_,fun g=>?_⟩
 ·rw [List.mem_append,List.mem_singleton,h.iff y]
  constructor
  ·rintro (⟨w,a,b⟩|e)
   ·exact⟨w,by omega,b⟩
   ·exact⟨i,by omega,e,c.1,c.2⟩
  ·rintro ⟨w,a,b,d⟩
   by_cases q:w=i
   ·subst q;exact .inr b
   ·exact .inl ⟨w,by omega,b,d⟩
 ·have g:0<x.length:=by simp at g;omega
  obtain⟨w,a,_,d,e⟩:=(h.iff x[0]).1 (List.getElem_mem g)
  by_cases q:w=v
  ·exact⟨i,hi,by omega,c.1,c.2⟩
  ·exact⟨w,by omega,q,d,e⟩
theorem sX{n:Nat}{L:List AS}{lv:List Bool}{N:Nat}(hL:Pm L N)(hlv:lv.length=L.length)(hl:L.length<=10000)(hN:N<=1000)
 (hw:∀k (h:k<L.length) j (g:j<L.length),L[k].To=L[j].From->L[k].Kind=1∨L[j].Kind=1) (hn:1048577<=n):BH (fun r=>∀x∈r,Pt L lv N x) (eO n (N:Int) L lv):=by
 rw [eO,Ev (by omega) (by omega),As]
 refine EY (L:=fun m i (p:List (List Int)×List Bool)=>Ik n (N:Int) L lv _ m p.1 i p.2) N (fun i p=>(p.1.length<=i∧∀x∈p.1,Pt L lv N x)∧p.2.length=N) (BH fun r=>∀x∈r,Pt L lv N x) ?_ ?_ n 0 ([],List.replicate N false) (by omega) (by omega) ⟨⟨by simp,by simp⟩,by simp⟩
 ·rintro m i ⟨o,l⟩ hi ⟨⟨h1,h2⟩,h3⟩ ih
  have h1:o.length<=i:=h1
  have h3:l.length=N:=h3
  simp only [Ik.eq_2,DB hi,cT,AX (show i<l.length by omega),As,wT i]
  refine Ag (fun _=>ih (o,l) ⟨⟨by show o.length<=i+1;omega,h2⟩,h3⟩) fun _=>?_
  obtain⟨r1,e1,k1⟩:=qD (n:=n) hL hlv hl hN hi hn
  obtain⟨r2,e2,k2⟩:=rU (n:=n) hL hlv hl hN hi hn
  have l1:=k1.len;have l2:=k2.len
  rw [e1,As,e2,As]
  refine EY (L:=fun m' j (p:List Int×List Bool)=>KQ (N:Int) r1 r2 _ m' p.1 j p.2) N (fun j p=>ZB N i j r1 r2 p.1∧p.2.length=N) (BH fun r=>∀x∈r,Pt L lv N x) ?_ ?_ n 0 ([],l) (by omega) (by omega) ⟨⟨Nat.le_refl _,fun y=>⟨fun h=>(by cases h),fun⟨w,h,_⟩=>absurd h (Nat.not_lt_zero w)⟩,fun h=>(by simp at h)⟩,h3⟩
  ·rintro m' j ⟨x,d⟩ hj ⟨g1,g2⟩ kk
   have g2:d.length=N:=g2
   have gf:=g1.few
   have gf:x.length<=j:=gf
   simp only [KQ.eq_2,DB hj,cT,NJ (show j<r1.length by omega),NJ (show j<r2.length by omega),As,Bx,wT j]
   refine Ag (fun c=>?_) fun c=>kk (x,d) ⟨g1.skip c,g2⟩
   rw [BO (by simp;omega) (by omega),As,AX (show j<d.length by omega),As]
   exact kk (x++[(j:Int)],_) ⟨g1.add hj c,by simpa using g2⟩
  ·rintro m' ⟨x,d⟩ ⟨g1,g2⟩
   have gf:=g1.few
   have gf:x.length<=N:=gf
   have mem:∀u:Int,0<=u∧u<(N:Int)->HX L lv (fun y=>y=(i:Int)) u->HX L lv (fun y=>y=u) (i:Int)->u∈x:=fun u hu a b=>by
    obtain⟨w,ew⟩:=Int.eq_ofNat_of_zero_le hu.1
    have ew:u=(w:Int):=ew
    subst ew
    exact(g1.iff _).2 ⟨w,by omega,rfl,(k1.iff w (by omega)).2 a,(k2.iff w (by omega)).2 (HX.vr b)⟩
   simp only [KQ.eq_2,DN,cF]
   refine BH.bind (A:=fun c=>c=true->Pt L lv N x) (Ag (fun c=>AL fun _=>?_) fun _=>BH.bind (sN hlv hl hn) fun r _ hr=>AL fun q=>?_) fun c _ hc=>Ag (fun q=>?_) fun _=>ih (o,d) ⟨⟨by show o.length<=i+1;omega,h2⟩,g2⟩
   ·have c:=of_decide_eq_true c
    obtain⟨w,wN,ne,a,b⟩:=g1.two (by show x.length>1;omega)
    obtain⟨k,hk,c1,c2,⟨c3,c4⟩,c5,c6⟩:=Sp hw (v:=(i:Int)) (w:=(w:Int)) (by omega) ((k1.iff w wN).1 a) (HX.rv ((k2.iff w wN).1 b))
    exact⟨gf,k,hk,c1,c2,mem _ (hL.from_ k hk) c3 c4,mem _ (hL.to_ k hk) c5 c6⟩
   ·obtain⟨k,hk,c1,c2,c3⟩:=hr q
    have hv:=mem (i:Int) ⟨by omega,by omega⟩ (.src rfl) (.src rfl)
    exact⟨gf,k,hk,c1,(hw k hk k hk (by rw [c2,c3])).elim id id,by rw [c2];exact hv,by rw [c3];exact hv⟩
   ·rw [BO (by simp;omega) (by omega),As]
    refine ih (o++[x],d) ⟨⟨by simp;omega,fun y hy=>?_⟩,g2⟩
    rcases List.mem_append.1 hy with h|h
    ·exact h2 y h
    ·rw [List.mem_singleton.1 h];exact hc q
 ·rintro m ⟨o,l⟩ ⟨⟨h1,h2⟩,h3⟩
  simp only [Ik.eq_2,DN,cF]
  exact AL h2
theorem XU{b:AG}(v:Bv b):∀k (h:k<(Ky b).length) j (g:j<(Ky b).length),(Ky b)[k].To=(Ky b)[j].From->(Ky b)[k].Kind=1∨(Ky b)[j].Kind=1:=by
 intro k hk j hj e
 rcases PH v _ (List.getElem_mem hk)with c|⟨f,t,q,i,h⟩
 ·exact .inl c
 ·rcases PH v _ (List.getElem_mem hj)with c|⟨f',t',q',i',h'⟩
  ·exact .inr c
  ·exfalso
   have:=h.to_;have:=h'.from_
   obtain rfl:t=f':=by omega
   obtain⟨_,a,_⟩:=h.snk
   obtain⟨_,b⟩:=h'.drv
   rw [a]at b;cases b
theorem oZ{n:Nat}{b:AG}(v:Bv b)(hn:1048577<=n):BH (fun r=>r.length<=6000) (Yz n b):=by
 have vd:=v.design
 have hl:=CX vd.short vd.few.1 vd.few.2.2
 have hL:=Gi v
 have hin:=PT v
 have hal:=XU v
 have wc:CD b=((2*(pls b.Design).length:Nat):Int):=by unfold CD;omega
 rw [Yz,TG v hn,As,jC (by omega) (by simp) hn,As,OP v hn,As,wc]
 generalize hX:Ky b=X at*
 have lt:ct (FF (fun k (_:AS)=>[!(([]:List Int).any fun y=>y==(k:Int))]) 0 X)<=X.length:=by
  have:=List.countP_le_length (p:=fun b:Bool=>b) (l:=FF (fun k (_:AS)=>[!(([]:List Int).any fun y=>y==(k:Int))]) 0 X)
  rw [Hx]at this;exact this
 refine Rv (L:=fun m l=>Mp n X _ _ m l) ct (fun l=>l.length=X.length) (BH fun r=>r.length<=6000) ?_ n _ (by omega) (Hx _ _ _)
 intro m l hlv ih
 simp only [Mp.eq_2]
 refine BH.bind (sX hin hlv (by omega) (by omega) hal hn) fun r _ hr=>Ag (fun _=>?_) fun q=>?_
 ·refine EY (L:=fun m i s=>KU l _ m s i) l.length (fun i s=>s.length<=i) (BH fun r=>r.length<=6000) ?_ ?_ n 0 [] (by omega) (by omega) (Nat.le_refl _)
  ·intro m i s hi hs kk
   simp only [KU.eq_2,DB hi,cT,AX hi,As,wT i]
   refine Ag (fun _=>?_) fun _=>kk s (by omega)
   rw [BO (by simp;omega) (by omega),As]
   exact kk _ (by simp;omega)
  ·intro m s hs
   simp only [KU.eq_2,DN,cF]
   exact AL (by omega)
 ·have r0:0<r.length:=by have:=beq_eq_false_iff_ne.1 q;omega
  obtain⟨gl,k,hk,g1,g2,g3,g4⟩:=hr r[0] (List.getElem_mem r0)
  have e0:AO r 0=some r[0]:=AX r0
  have anyM:∀{y:Int},y∈r[0]->(r[0].any fun z=>z==y)=true:=fun h=>List.any_eq_true.2 ⟨_,h,by simp⟩
  refine EY (L:=fun m' i (z:Int)=>KP n X l r _ m' z i) X.length (fun i z=>(∃q:Nat,z=(q:Int)∧q<X.length∧gb l q=true)∨i<=k) (BH fun r=>r.length<=6000) ?_ ?_ n 0 (-1) (by omega) (by omega) (.inr (Nat.zero_le _))
  ·intro m' i z hi hI kk
   simp only [KP.eq_2,DB hi,cT,AX hi,NJ (show i<l.length by omega),As,Bx,e0,fV (n:=n) (br:=r[0]) (show r[0].length<=1048576 by omega) hn,wT i]
   refine Ag (fun c=>kk (i:Int) (.inl ⟨i,rfl,hi,?_⟩)) fun c=>kk z ?_
   ·simp only [Bool.and_eq_true]at c
    exact c.1.1.1
   ·rcases hI with h|h
    ·exact .inl h
    ·refine .inr ?_
     rcases Nat.lt_or_ge i k with h2|h2
     ·omega
     ·obtain rfl:i=k:=by omega
      rw [g1,g2,anyM g3,anyM g4]at c
      simp at c
  ·intro m' z hI
   simp only [KP.eq_2,DN,cF]
   rcases hI with ⟨q,rfl,h1,h2⟩|h
   ·rw [NJ (show q<l.length by omega),As,Int.toNat_natCast]
    have:=WO (show q<l.length by omega) h2
    exact ih _ (by simpa using hlv) (by omega)
   ·omega
theorem qU{n:Nat}{c:List Int}(hc:Jd c){s:AA}(hs:De c s):BH (fun r=>r.1.Name.size<=1048576∧De c r.2) (TT n s):=by
 have e:=hs.code
 have nm:∀x∈[(ByteArray.mk #[115,108,111,119]),(ByteArray.mk #[102,97,115,116]),(ByteArray.mk #[116,121,112])],x.size<=1048576:=by
  intro x hx
  simp only [List.mem_cons,List.not_mem_nil,or_false]at hx
  rcases hx with rfl|rfl|rfl<;>decide
 rw [TT]
 refine BH.bind (Nx hc hs 3) fun r1 _ ⟨h1,z0,z1⟩=>BH.bind (BH.get z0 (by simp;omega) nm) fun x _ hx=>BH.bind (Nx hc (h1.mk2 e) 20) fun r2 _ ⟨h2,_⟩=>BH.bind (Nx hc (h2.mk2 e) 20) fun r3 _ ⟨h3,_⟩=>BH.bind (Nx hc (h3.mk2 e) 60) fun r4 _ ⟨h4,_⟩=>BH.bind (Nx hc (h4.mk2 e) 40) fun r5 _ ⟨h5,_⟩=>BH.bind (Nx hc (h5.mk2 e) 30) fun r6 _ ⟨h6,_⟩=>?_
 refine Ag (fun _=>AL ⟨hx,h6.mk2 e⟩) fun _=>Ag (fun _=>BH.bind (Nx hc (h6.mk2 e) 3) fun r7 _ ⟨h7,y0,y1⟩=>BH.bind (Bm y0 (by simp;omega)) fun _ _ _=>AL ⟨hx,h7.mk2 e⟩) fun _=>Ag (fun _=>BH.bind (Nx hc (h6.mk2 e) 2) fun r7 _ ⟨h7,_⟩=>AL ⟨hx,h7.mk2 e⟩) fun _=>Ag (fun _=>AL ⟨(by decide:(ByteArray.mk #[]).size<=1048576),h6.mk2 e⟩) fun _=>AL ⟨hx,h6.mk2 e⟩
theorem qB{n:Nat}(hn:1048577<=n){c:List Int}(hc:Jd c){s:AA}(hs:De c s){b:AG}(hb:MZ b):BH (fun r=>r.1.length<=1000∧De c r.2) (Wd n s b):=by
 have e:=hs.code
 obtain⟨v,e1,hv⟩:=XP (n:=n) hb hn
 rw [Wd,e1,As]
 refine Ag (fun _=>AL ⟨by simp,hs⟩) fun q=>?_
 have vb:=hv.1 (by cases v<;>simp_all)
 have vd:=vb.design
 have hl:=CX vd.short vd.few.1 vd.few.2.2
 rw [Ob vd.short vd.few.1 vd.few.2.2 hn,As]
 have hl2:((pls b.Design).map Gg).length<=78:=by simpa using hl
 generalize (pls b.Design).map Gg=ps at hl2 ⊢
 refine EY (L:=fun m i (p:List Aq×Int×Int)=>Lz n s ps _ m p.1 i p.2.1 p.2.2) ps.length (fun i p=>p.1.length<=2*i∧De c (AA.mk s.code_ p.2.1 p.2.2)) (BH fun r=>r.1.length<=1000∧De c r.2) ?_ ?_ n 0 ([],s.at_,s.seed_) (by omega) (by omega) ⟨by simp,hs⟩
 ·rintro m i ⟨l,a,d⟩ hi ⟨h1,h2⟩ ih
  have h1:l.length<=2*i:=h1
  simp only [Lz.eq_2,DB hi,cT,AX hi,As,Bx,wT i]
  generalize (decide (ps[i].instance_<0)&&ps[i].drives_)=c95
  refine EY (L:=fun m' k (p:List Aq×Int×Int)=>KA n s (i:Int) c95 _ m' p.1 k p.2.1 p.2.2) 2 (fun k p=>p.1.length<=2*i+k∧De c (AA.mk s.code_ p.2.1 p.2.2)) (BH fun r=>r.1.length<=1000∧De c r.2) ?_ ?_ n 0 (l,a,d) (by omega) (by omega) ⟨h1,h2⟩
  ·rintro m' k ⟨l,a,d⟩ hk ⟨g1,g2⟩ kk
   have g1:l.length<=2*i+k:=g1
   simp only [KA.eq_2,show((2:Int))=((2:Nat):Int)from rfl,DB hk,cT,wT k]
   refine BH.bind (A:=fun x:Bool×Int×Int=>De c (AA.mk s.code_ x.2.1 x.2.2)) (Ag (fun _=>BH.bind (Nx hc g2 8) fun r _ ⟨q1,_⟩=>AL (q1.mk2 e)) fun _=>AL g2) fun x _ hx=>BH.bind (A:=fun x:Bool×Int×Int=>De c (AA.mk s.code_ x.2.1 x.2.2)) (Ag (fun _=>AL hx) fun _=>BH.bind (Nx hc hx 24) fun r _ ⟨q1,_⟩=>AL (q1.mk2 e)) fun y _ hy=>Ag (fun _=>?_) fun _=>kk (l,y.2.1,y.2.2) ⟨by show l.length<=_;omega,hy⟩
   refine BH.bind (Nx hc hy 200) fun r1 _ ⟨q1,_⟩=>BH.bind (Nx hc (q1.mk2 e) 30) fun r2 _ ⟨q2,_⟩=>BH.bind (Nx hc (q2.mk2 e) 40) fun r3 _ ⟨q3,_⟩=>BH.bind (Nx hc (q3.mk2 e) 12) fun r4 _ ⟨q4,_⟩=>?_
   rw [BO (by simp;omega) (by omega),As]
   exact kk (_,_,_) ⟨by simp;omega,q4.mk2 e⟩
  ·rintro m' ⟨l,a,d⟩ ⟨g1,g2⟩
   simp only [KA.eq_2,show decide (((2:Nat):Int)<2)=false from rfl,cF]
   exact ih (l,a,d) ⟨g1,g2⟩
 ·rintro m ⟨l,a,d⟩ ⟨h1,h2⟩
  have h1:l.length<=2*ps.length:=h1
  simp only [Lz.eq_2,DN,cF]
  refine Ag (fun g=>?_) fun _=>AL ⟨by show l.length<=1000;omega,h2⟩
  have g:=of_decide_eq_true g
  refine BH.bind (Nx hc h2 _) fun r1 _ ⟨q1,z0,z1⟩=>BH.bind (Nx hc (q1.mk2 e) 30) fun r2 _ ⟨q2,_⟩=>?_
  have z2:r1.1<(l.length:Int):=by omega
  have gg:BH (fun _=>True) (AO l r1.1):=(Bm z0 z2).weaken fun _ _=>trivial
  have fin:∀x:Aq,BH (fun r=>r.1.length<=1000∧De c r.2) (some (l.set r1.1.toNat x,AA.mk s.code_ r2.2.at_ r2.2.seed_)):=fun x=>AL ⟨by simp;omega,q2.mk2 e⟩
  refine Ag (fun _=>BH.bind (Bm (Int.le_refl 0) (by omega)) fun _ _ _=>BH.bind gg fun _ _ _=>fin _) fun _=>Ag (fun _=>BH.bind gg fun _ _ _=>BH.bind gg fun _ _ _=>fin _) fun _=>Ag (fun _=>BH.bind gg fun _ _ _=>fin _) fun _=>Ag (fun _=>BH.bind gg fun _ _ _=>fin _) fun _=>AL ⟨by show l.length<=1000;omega,q2.mk2 e⟩
structure Ry(b:AG)(c:Ay)(br:List Int)(ss:List Aq):Prop where
 blk:NK b
 cor:c.Name.size<=1048576
 few:br.length<=6001
 src:ss.length<=1000
theorem iS{n:Nat}(hn:1048577<=n){c:List Int}(hc:Jd c){s:AA}(hs:De c s){O:Me}{g:AG×Ay×List Int×List Aq×AA->Option Unit}(hg:∀b co br ss s',Ry b co br ss->De c s'->g (b,co,br,ss,s')=some ()):US n O s g=some ():=by
 have e:=hs.code
 rw [US]
 refine sH hn hc hs fun b s' hb hs'=>LU (qU hc (hs'.mk2 e)) fun co ⟨hco,h1⟩=>LU (Nx hc (h1.mk2 e) 3) fun r ⟨h2,_⟩=>?_
 have go:∀(b:AG) (s':AA),NK b->De c s'->(Option.bind (Qw n ((AA.mk s.code_ s'.at_ s'.seed_)) b) fun r156=>(Option.bind (SH n b) fun r176=>(Option.bind (cond (r176&&((((r156.1.length:Int))==0))) (Option.bind (Dy n ((AA.mk s.code_ r156.2.at_ r156.2.seed_)) 6) fun r187=>(some (decide (r187.1>0),r187.2.at_,r187.2.seed_))) (some (false,r156.2.at_,r156.2.seed_))) fun c187=>(cond c187.1 (Option.bind (Yz n b) fun r222=>(Option.bind (Wd n ((AA.mk s.code_ c187.2.1 c187.2.2)) b) fun r232=>(g (b,co.1,r222,r232.1,(AA.mk s.code_ r232.2.at_ r232.2.seed_))))) (Option.bind (Wd n ((AA.mk s.code_ c187.2.1 c187.2.2)) b) fun r302=>(g (b,co.1,r156.1,r302.1,(AA.mk s.code_ r302.2.at_ r302.2.seed_))))))))=some ():=fun b s' hb hs'=>by
  refine LU (tI hn hc (hs'.mk2 e) hb.sm) fun br ⟨hbr,h3⟩=>?_
  obtain⟨v,e1,hv⟩:=XP (n:=n) hb.sm hn
  rw [e1,As]
  refine LU (A:=fun x:Bool×Int×Int=>De c (AA.mk s.code_ x.2.1 x.2.2)∧(x.1=true->v=true)) (Ag (fun q=>BH.bind (Nx hc (h3.mk2 e) 6) fun r _ ⟨q1,_⟩=>AL ⟨q1.mk2 e,fun _=>by cases v<;>simp_all⟩) fun _=>AL ⟨h3.mk2 e,fun h=>by cases h⟩) fun x ⟨hx,hv2⟩=>Fj (fun q=>?_) fun _=>LU (qB hn hc hx hb.sm) fun ss ⟨hss,h4⟩=>hg _ _ _ _ _ ⟨hb,hco,hbr,hss⟩ (h4.mk2 e)
  exact LU (oZ (hv.1 (hv2 q)) hn) fun bk hbk=>LU (qB hn hc hx hb.sm) fun ss ⟨hss,h4⟩=>hg _ _ _ _ _ ⟨hb,hco,by omega,hss⟩ (h4.mk2 e)
 exact Fj (fun _=>jX hn hc (h2.mk2 e) (by omega) fun b s' hb _ _ hs'=>go b s' hb hs') fun _=>go b r.2 hb h2
structure iP(t:Ad):Prop where
 r:t.Reached.length<=156
 a:t.Arrival.length<=156
 s:t.Slew.length<=156
theorem qZ{n:Nat}(hn:1048577<=n){c:List Int}(hc:Jd c){s:AA}(hs:De c s){b:AG}{co:Ay}{br:List Int}{ss:List Aq}(h:Ry b co br ss):BH (fun r=>iP r.1∧De c r.2) (VC n s b co br ss):=by
 have e:=hs.code
 rw [VC]
 refine BH.bind (qK (c:=co) h.blk.sm h.cor (by have:=h.few;omega) (by have:=h.src;omega) hn) fun t _ ⟨N,hN,t1,t2,t3⟩=>?_
 have tw:iP t.1:=⟨by omega,by omega,by omega⟩
 refine BH.bind (A:=fun x:Bool×Int×Int=>De c (AA.mk s.code_ x.2.1 x.2.2)∧(x.1=false->0<N)) (Ag (fun _=>AL ⟨hs,fun h=>by cases h⟩) fun q=>BH.bind (Nx hc hs 8) fun r _ ⟨q1,_⟩=>AL ⟨q1.mk2 e,fun _=>by have:=beq_eq_false_iff_ne.1 q;omega⟩) fun x _ ⟨hx,h0⟩=>Ag (fun _=>AL ⟨tw,hx⟩) fun q=>?_
 have h0:=h0 q
 refine BH.bind (Nx hc hx _) fun r1 _ ⟨q1,z0,z1⟩=>BH.bind (Nx hc (q1.mk2 e) 4) fun r2 _ ⟨q2,_⟩=>?_
 have z2:r1.1<(N:Int):=by omega
 refine Ag (fun _=>BH.bind (Bm z0 (by omega)) fun _ _ _=>BH.bind (Bm z0 (by omega)) fun _ _ _=>AL ⟨⟨by show(t.1.Reached.set _ _).length<=156;simp;omega,tw.a,tw.s⟩,q2.mk2 e⟩) fun _=>Ag (fun _=>BH.bind (Bm z0 (by omega)) fun _ _ _=>BH.bind (Bm z0 (by omega)) fun _ _ _=>AL ⟨⟨tw.r,by show(t.1.Arrival.set _ _).length<=156;simp;omega,tw.s⟩,q2.mk2 e⟩) fun _=>Ag (fun _=>BH.bind (Bm z0 (by omega)) fun _ _ _=>BH.bind (Bm z0 (by omega)) fun _ _ _=>AL ⟨⟨tw.r,tw.a,by show(t.1.Slew.set _ _).length<=156;simp;omega⟩,q2.mk2 e⟩) fun _=>?_
 rw [show Ja t.1.Slew 0 r1.1=some ((t.1.Slew.take r1.1.toNat).drop (0:Int).toNat)from if_pos ⟨by omega,by omega,by omega⟩,As]
 exact AL ⟨⟨tw.r,tw.a,by simp;omega⟩,q2.mk2 e⟩
theorem UH{b:AG}{t:Ad}(vt:MN b t){x:Int}(h0:0<=x)(h1:x<=CD b-1):-1000000000<=(Kw t x).Early∧(Kw t x).Early<=(Kw t x).Late∧(Kw t x).Late<=1000000000:=by
 have r:=vt.reached;have a:=vt.arr;have s:=vt.slew
 obtain⟨q,rfl⟩:=Int.eq_ofNat_of_zero_le h0
 have h1:(q:Int)<=CD b-1:=h1
 have e:=vt.each q (by omega) (by omega) (by omega)
 have ea:Kw t (q:Int)=t.Arrival[q]'(by omega):=by unfold Kw;simp [show q<t.Arrival.length by omega]
 show-1000000000<=(Kw t (q:Int)).Early∧(Kw t (q:Int)).Early<=(Kw t (q:Int)).Late∧(Kw t (q:Int)).Late<=1000000000
 rw [ea]
 simp only [QP,OJ,GH,Bool.not_eq_true',Bool.or_eq_false_iff,Bool.not_eq_false',Bool.and_eq_true,decide_eq_true_eq]at e
 omega
theorem Ym{σ R:Type}{L:Nat->Int->σ->Option R}(I:Nat->σ->Prop)(Post:Option R->Prop)(hs:∀(m i:Nat) (st:σ),I (i+1) st->(∀st',I i st'->Post (L m ((i:Int)-1) st'))->Post (L (m+1) (i:Int) st))
 (he:∀(m:Nat) (st:σ),I 0 st->Post (L (m+1) (-1) st)):∀(m i:Nat) (st:σ),i<m->I i st->Post (L m ((i:Int)-1) st)
 |0,i,_,hm,_=>by omega
 |m+1,0,st,_,h=>he m st h
 |m+1,i+1,st,hm,h=>by
  rw [show((i+1:Nat):Int)-1=(i:Int) by omega]
  exact hs m i st h fun st' h'=>Ym I Post hs he m i st' (by omega) h'
theorem rM{n:Nat}(hn:1048577<=n){c:List Int}(hc:Jd c){s:AA}(hs:De c s){b:AG}(hb:MZ b):BH (fun r=>r.1.length<=1000∧De c r.2) (hY n s b):=by
 have e:=hs.code
 obtain⟨v,e1,hv⟩:=XP (n:=n) hb hn
 rw [hY,e1,As]
 refine Ag (fun _=>AL ⟨by simp,hs⟩) fun q=>?_
 have vb:=hv.1 (by cases v<;>simp_all)
 have vd:=vb.design
 have hl:=CX vd.short vd.few.1 vd.few.2.2
 rw [Ob vd.short vd.few.1 vd.few.2.2 hn,As]
 have hl2:((pls b.Design).map Gg).length<=78:=by simpa using hl
 generalize (pls b.Design).map Gg=ps at hl2 ⊢
 refine EY (L:=fun m i (p:List Aj×Int×Int)=>MB n s ps _ m p.1 i p.2.1 p.2.2) ps.length (fun i p=>p.1.length<=2*i∧De c (AA.mk s.code_ p.2.1 p.2.2)) (BH fun r=>r.1.length<=1000∧De c r.2) ?_ ?_ n 0 ([],s.at_,s.seed_) (by omega) (by omega) ⟨by simp,hs⟩
 ·rintro m i ⟨l,a,d⟩ hi ⟨h1,h2⟩ ih
  have h1:l.length<=2*i:=h1
  simp only [MB.eq_2,DB hi,cT,AX hi,As,wT i]
  refine BH.bind (A:=fun _=>True) (Ag (fun _=>AL trivial) fun _=>AL trivial) fun c107 _ _=>BH.bind (A:=fun _=>True) (Ag (fun _=>AL trivial) fun _=>BH.bind (A:=fun _=>True) (Ag (fun _=>AL trivial) fun _=>AL trivial) fun _ _ _=>AL trivial) fun c121 _ _=>?_
  refine EY (L:=fun m' k (p:List Aj×Int×Int)=>KM n s (i:Int) c121 _ m' p.1 k p.2.1 p.2.2) 2 (fun k p=>p.1.length<=2*i+k∧De c (AA.mk s.code_ p.2.1 p.2.2)) (BH fun r=>r.1.length<=1000∧De c r.2) ?_ ?_ n 0 (l,a,d) (by omega) (by omega) ⟨h1,h2⟩
  ·rintro m' k ⟨l,a,d⟩ hk ⟨g1,g2⟩ kk
   have g1:l.length<=2*i+k:=g1
   simp only [KM.eq_2,show((2:Int))=((2:Nat):Int)from rfl,DB hk,cT,wT k]
   refine BH.bind (A:=fun x:Bool×Int×Int=>De c (AA.mk s.code_ x.2.1 x.2.2)) (Ag (fun _=>BH.bind (Nx hc g2 3) fun r _ ⟨q1,_⟩=>AL (q1.mk2 e)) fun _=>AL g2) fun x _ hx=>BH.bind (A:=fun x:Bool×Int×Int=>De c (AA.mk s.code_ x.2.1 x.2.2)) (Ag (fun _=>AL hx) fun _=>BH.bind (Nx hc hx 24) fun r _ ⟨q1,_⟩=>AL (q1.mk2 e)) fun y _ hy=>Ag (fun _=>?_) fun _=>kk (l,y.2.1,y.2.2) ⟨by show l.length<=_;omega,hy⟩
   refine BH.bind (Nx hc hy 400) fun r1 _ ⟨q1,_⟩=>BH.bind (Nx hc (q1.mk2 e) 300) fun r2 _ ⟨q2,_⟩=>?_
   rw [BO (by simp;omega) (by omega),As]
   exact kk (_,_,_) ⟨by simp;omega,q2.mk2 e⟩
  ·rintro m' ⟨l,a,d⟩ ⟨g1,g2⟩
   simp only [KM.eq_2,show decide (((2:Nat):Int)<2)=false from rfl,cF]
   exact ih (l,a,d) ⟨g1,g2⟩
 ·rintro m ⟨l,a,d⟩ ⟨h1,h2⟩
  have h1:l.length<=2*ps.length:=h1
  simp only [MB.eq_2,DN,cF]
  refine Ag (fun g=>?_) fun _=>AL ⟨by show l.length<=1000;omega,h2⟩
  have g:=of_decide_eq_true g
  refine BH.bind (Nx hc h2 _) fun r1 _ ⟨q1,z0,z1⟩=>BH.bind (Nx hc (q1.mk2 e) 30) fun r2 _ ⟨q2,_⟩=>?_
  have z2:r1.1<(l.length:Int):=by omega
  have gg:BH (fun _=>True) (AO l r1.1):=(Bm z0 z2).weaken fun _ _=>trivial
  refine Ag (fun _=>BH.bind (Bm (Int.le_refl 0) (by omega)) fun _ _ _=>BH.bind gg fun _ _ _=>AL ⟨by simp;omega,q2.mk2 e⟩) fun _=>Ag (fun _=>BH.bind (Nx hc (q2.mk2 e) 4) fun r3 _ ⟨q3,y0,y1⟩=>BH.bind (Bm y0 (by simp;omega)) fun _ _ _=>BH.bind gg fun _ _ _=>AL ⟨by simp;omega,q3.mk2 e⟩) fun _=>Ag (fun _=>?_) fun _=>AL ⟨by show l.length<=1000;omega,q2.mk2 e⟩
  rw [OP vb hn,As]
  exact BH.bind gg fun _ _ _=>AL ⟨by simp;omega,q2.mk2 e⟩
theorem sS{n:Nat}{b:AG}(v:Bv b){c:Ay}{lv:List Bool}(hlv:lv.length=(Ky b).length){tg:List Aj}(htg:tg.length<=1048576){t:Ad}(ht:MN b t){x:BB}(hb:(x.Bound.length:Int)=CD b)(hq:(x.Required.length:Int)=CD b){k:Int}(k0:0<=k∧k<CD b)(hn:1048577<=n):
 BH (fun _=>True) (eU n b c (Ky b) lv t tg x k):=by
 have hL:=Gi v
 have hin:=PT v
 have hr:=ht.reached;have hsl:=ht.slew
 have wc:CD b=((2*(pls b.Design).length:Nat):Int):=by unfold CD;omega
 rw [eU]
 refine BH.bind (Bm k0.1 (by omega)) fun _ _ _=>Ag (fun _=>AL trivial) fun _=>?_
 refine EY (L:=fun m i (p:Bool×Int×Int×Int)=>KW tg k _ m p.1 i p.2.1 p.2.2.1 p.2.2.2) tg.length (fun _ _=>True) (BH fun _=>True) ?_ ?_ n 0 (false,0,0,0) (by omega) (by omega) trivial
 ·rintro m i ⟨q,i2,i3,i4⟩ hi _ ih
  simp only [KW.eq_2,DB hi,cT,AX hi,As,wT i]
  exact Ag (fun _=>ih (true,_,_,_) trivial) fun _=>ih (q,i2,i3,i4) trivial
 ·rintro m ⟨q,i2,i3,i4⟩ _
  simp only [KW.eq_2,DN,cF]
  refine EY (L:=fun m i (p:Bool×Int×Int×Int)=>JT n b c (Ky b) lv t x k _ m p.1 i p.2.1 p.2.2.1 p.2.2.2) (Ky b).length (fun _ _=>True) (BH fun _=>True) ?_ ?_ n 0 (q,i2,i3,i4) (by omega) (by omega) trivial
  ·rintro m i ⟨q,i2,i3,i4⟩ hi _ ih
   have hf:=hin.to_ i hi
   simp only [JT.eq_2,DB hi,cT,AX hi,AX (show i<lv.length by omega),As,wT i]
   refine BH.bind (A:=fun _=>True) (Ag (fun _=>AL trivial) fun _=>BH.bind (Bm hf.1 (by omega)) fun _ _ _=>AL trivial) fun cc _ _=>Ag (fun _=>ih (q,i2,i3,i4) trivial) fun _=>?_
   exact BH.bind (Bm k0.1 (by omega)) fun sl _ _=>BH.bind (cJ v (List.getElem_mem hi) hn) fun r _ _=>BH.bind (Bm hf.1 (by omega)) fun a1 _ _=>BH.bind (Bm hf.1 (by omega)) fun a2 _ _=>Ag (fun _=>ih (true,_,_,_) trivial) fun _=>ih (true,_,_,_) trivial
  ·rintro m ⟨q,i2,i3,i4⟩ _
   simp only [JT.eq_2,DN,cF]
   exact AL trivial
theorem iN{n:Nat}{b:AG}{co:Ay}{br:List Int}{t:Ad}{tg:List Aj}(hb:MZ b)(hco:co.Name.size<=1048576)(hbr:br.length<=1048576)(ht:t.Reached.length<=1048576)(htg:tg.length<=1048576)(hn:1048577<=n):
 BH (fun r=>r.1.length<=156∧((r.2 !=0)=false->(Bv b∧MN b t∧∀i (h:i<tg.length),Py b tg i tg[i])∧RC n b br=some r)) (Vw n b co br t tg):=by
 rw [Vw]
 obtain⟨v,e1,hv⟩:=XP (n:=n) hb hn
 rw [e1,As]
 refine BH.bind (A:=fun x=>x=false->v=true) (Ag (fun _=>AL fun h=>by cases h) fun q=>BH.bind (gS hco hn) fun _ _ _=>AL fun _=>by cases v<;>simp_all) fun x _ hx=>BH.bind (A:=fun y=>y=false->Bv b∧MN b t) (Ag (fun _=>AL fun h=>by cases h) fun q=>?_) fun y _ hy=>Ag (fun _=>AL ⟨by simp,fun h=>by cases h⟩) fun q=>?_
 ·have vb:=hv.1 (hx q)
  obtain⟨p,f1,hp⟩:=mD (n:=n) (b:=b) ht hn
  rw [OP vb hn,As,f1,As]
  exact AL fun h=>⟨vb,hp.1 (by cases p<;>simp_all)⟩
 ·obtain⟨vb,vt⟩:=hy q
  obtain⟨p,f1,hp⟩:=qE (n:=n) (xs:=tg) vb htg hn
  refine BH.bind (bN hb hbr hn) fun r _ hr=>BH.bind (A:=fun z=>z=false->p=true) (Ag (fun _=>AL fun h=>by cases h) fun _=>by rw [f1,As];exact AL fun h=>by cases p<;>simp_all) fun z _ hz=>Ag (fun _=>AL ⟨by simp,fun h=>by cases h⟩) fun q2=>?_
  obtain⟨o,eo,ho⟩:=Za (n:=n) (br:=br) hb hbr hn
  rw [eo,As]
  exact AL ⟨ho.1,fun _=>⟨⟨vb,vt,hp.1 (hz q2)⟩,rfl⟩⟩
theorem mX{n:Nat}{s:Ae}:PZ n s=some (GH s):=by
 simp only [PZ,HA,As,Bx];rfl
theorem sI{n:Nat}{b:AG}{co:Ay}{br:List Int}{t:Ad}{tg:List Aj}(hb:MZ b)(hco:co.Name.size<=1048576)(hbr:br.length<=1048576)(ht:t.Reached.length<=1048576)(htg:tg.length<=1048576)(hn:1048577<=n):
 BH (fun r=>∃N,N<=156∧r.1.Bound.length=N∧r.1.Required.length=N) (Tj n b co br t tg):=by
 have no:∃N,N<=156∧(BB.mk [] []).Bound.length=N∧(BB.mk [] []).Required.length=N:=⟨0,by omega,rfl,rfl⟩
 rw [Tj]
 refine BH.bind (iN hb hco hbr ht htg hn) fun od _ ho=>Ag (fun _=>AL no) fun q=>?_
 obtain⟨⟨v,vt,_⟩,eo⟩:=ho.2 q
 have vd:=v.design
 have hl:=CX vd.short vd.few.1 vd.few.2.2
 have hL:=Gi v
 have wc:CD b=((2*(pls b.Design).length:Nat):Int):=by unfold CD;omega
 obtain⟨od',eo',ho'⟩:=Za (n:=n) (br:=br) hb hbr hn
 rw [eo']at eo
 obtain rfl:od=od':=(Option.some.inj eo).symm
 have hr:=(ho'.2 q).2
 have hol:=ho'.1
 generalize hN:2*(pls b.Design).length=N at*
 simp only [TG v hn,jC (show(Ky b).length<=1048576 by omega) hbr hn,OP v hn,As,wc,Ev (show N<=1048576 by omega) (show 1<=268435456 by omega),Ev (show N<=1048576 by omega) (show 16<=268435456 by omega),Ar (x:=(od.1.length:Int)-1) (by omega) (by omega)]
 refine Ym (L:=fun m i (p:List Bool×List Ae)=>Hg n b co t tg od (Ky b) _ _ m i p.1 p.2) (fun i p=>i<=od.1.length∧p.1.length=N∧p.2.length=N) (BH fun r=>∃N,N<=156∧r.1.Bound.length=N∧r.1.Required.length=N) ?_ ?_ n od.1.length (List.replicate N false,List.replicate N ⟨0,0⟩) (by omega) ⟨Nat.le_refl _,by simp,by simp⟩
 ·rintro m i ⟨l1,l2⟩ ⟨hi,h1,h2⟩ ih
  have h1:l1.length=N:=h1
  have h2:l2.length=N:=h2
  have hx:=hr _ (List.getElem_mem (show i<od.1.length by omega))
  simp only [Hg.eq_2,show decide ((i:Int)>=0)=true from decide_eq_true (by omega),cT,AX (show i<od.1.length by omega),As,Ar (x:=(i:Int)-1) (by omega) (by omega),mX]
  exact BH.bind (sS v (Hx _ _ _) htg vt (x:=⟨l1,l2⟩) (by rw [wc];show(l1.length:Int)=_;omega) (by rw [wc];show(l2.length:Int)=_;omega) (by rw [wc];exact hx) hn) fun r _ _=>Ag (fun _=>ih (l1,l2) ⟨by omega,h1,h2⟩) fun _=>Ag (fun _=>AL no) fun _=>BH.bind (Bm hx.1 (by omega)) fun _ _ _=>BH.bind (Bm hx.1 (by omega)) fun _ _ _=>ih (_,_) ⟨by omega,by simpa using h1,by simpa using h2⟩
 ·rintro m ⟨l1,l2⟩ ⟨_,h1,h2⟩
  simp only [Hg.eq_2,show decide ((-1:Int)>=0)=false from rfl,cF]
  exact AL ⟨N,by omega,h1,h2⟩
theorem rN{n:Nat}(hn:1048577<=n){c:List Int}(hc:Jd c){s:AA}(hs:De c s){b:AG}{co:Ay}{br:List Int}{ss:List Aq}{t:Ad}{tg:List Aj}(h:Ry b co br ss)(ht:iP t)(htg:tg.length<=1000):BH (fun r=>r.1.Bound.length<=156∧De c r.2) (UF n s b co br t tg):=by
 have e:=hs.code
 rw [UF]
 refine BH.bind (sI (co:=co) h.blk.sm h.cor (by have:=h.few;omega) (by have:=ht.r;omega) (show tg.length<=1048576 by omega) hn) fun x _ ⟨N,hN,x1,x2⟩=>?_
 have xw:x.1.Bound.length<=156:=by omega
 refine BH.bind (A:=fun y:Bool×Int×Int=>De c (AA.mk s.code_ y.2.1 y.2.2)∧(y.1=false->0<N)) (Ag (fun _=>AL ⟨hs,fun h=>by cases h⟩) fun q=>BH.bind (Nx hc hs 10) fun r _ ⟨q1,_⟩=>AL ⟨q1.mk2 e,fun _=>by have:=beq_eq_false_iff_ne.1 q;omega⟩) fun y _ ⟨hy,h0⟩=>Ag (fun _=>AL ⟨xw,hy⟩) fun q=>?_
 have h0:=h0 q
 refine BH.bind (Nx hc hy _) fun r1 _ ⟨q1,z0,z1⟩=>BH.bind (Nx hc (q1.mk2 e) 3) fun r2 _ ⟨q2,_⟩=>?_
 have z2:r1.1<(N:Int):=by omega
 refine Ag (fun _=>BH.bind (Bm z0 (by omega)) fun _ _ _=>BH.bind (Bm z0 (by omega)) fun _ _ _=>AL ⟨by show(x.1.Bound.set _ _).length<=156;simp;omega,q2.mk2 e⟩) fun _=>Ag (fun _=>BH.bind (Bm z0 (by omega)) fun _ _ _=>BH.bind (Bm z0 (by omega)) fun _ _ _=>AL ⟨xw,q2.mk2 e⟩) fun _=>?_
 rw [show Ja x.1.Required 0 r1.1=some ((x.1.Required.take r1.1.toNat).drop (0:Int).toNat)from if_pos ⟨by omega,by omega,by omega⟩,As]
 exact AL ⟨xw,q2.mk2 e⟩
theorem kD{n:Nat}(hn:1048577<=n){c:List Int}(hc:Jd c){s:AA}(hs:De c s){O:Me}{g:AG×Ay×List Int×Ad×List Aj×AA->Option Unit}(hg:∀b co br ss t tg s',Ry b co br ss->iP t->tg.length<=1000->De c s'->g (b,co,br,t,tg,s')=some ()):Tv n O s g=some ():=by
 have e:=hs.code
 rw [Tv]
 exact iS hn hc hs fun b co br ss s' h hs'=>LU (qZ hn hc (hs'.mk2 e) h) fun t ⟨ht,h1⟩=>LU (rM hn hc (h1.mk2 e) h.blk.sm) fun tg ⟨htg,h2⟩=>hg _ _ _ _ _ _ _ h ht htg (h2.mk2 e)
theorem rD{n:Nat}{c:List Int}(hc:Jd c){s:AA}(hs:De c s):BH (fun _=>True) (Td n s):=by
 have e:=hs.code
 rw [Td]
 exact BH.bind (Nx hc hs 24) fun r _ ⟨h1,_⟩=>Ag (fun _=>BH.bind (Nx hc (h1.mk2 e) 2) fun _ _ _=>AL trivial) fun _=>BH.bind (Nx hc (h1.mk2 e) 2) fun _ _ _=>AL trivial
def Wz(x:BB)(q:Int):Bool:=x.Bound.getD q.toNat false
def Kv(x:BB)(q:Int):Ae:=x.Required.getD q.toNat ⟨0,0⟩
def Tq(t:Ad)(x:BB)(q:Int):Bool:=Wm t q&&Wz x q
def Va(t:Ad)(x:BB)(mode q:Int):Int:=cond (mode==0) ((Kw t q).Early-(Kv x q).Early) ((Kv x q).Late-(Kw t q).Late)
theorem fN{x:BB}{q:Int}(h0:0<=q)(h1:q<x.Bound.length):AO x.Bound q=some (Wz x q):=by
 obtain⟨k,rfl⟩:=Int.eq_ofNat_of_zero_le h0
 rw [AX (show k<x.Bound.length by omega)];unfold Wz;simp [show k<x.Bound.length by omega]
theorem iA{x:BB}{q:Int}(h0:0<=q)(h1:q<x.Required.length):AO x.Required q=some (Kv x q):=by
 obtain⟨k,rfl⟩:=Int.eq_ofNat_of_zero_le h0
 rw [AX (show k<x.Required.length by omega)];unfold Kv;simp [show k<x.Required.length by omega]
theorem Ua{b:AG}{x:BB}(vx:KE b x){q:Int}(h0:0<=q)(h1:q<=CD b-1):(-1000000000<=(Kv x q).Early∧(Kv x q).Early<=1000000000)∧ -1000000000<=(Kv x q).Late∧(Kv x q).Late<=1000000000:=by
 have r:=vx.bound;have a:=vx.req
 obtain⟨k,rfl⟩:=Int.eq_ofNat_of_zero_le h0
 have h1:(k:Int)<=CD b-1:=h1
 have e:=vx.each k (by omega) (by omega)
 have ea:Kv x (k:Int)=x.Required[k]'(by omega):=by unfold Kv;simp [show k<x.Required.length by omega]
 show(-1000000000<=(Kv x (k:Int)).Early∧(Kv x (k:Int)).Early<=1000000000)∧ -1000000000<=(Kv x (k:Int)).Late∧(Kv x (k:Int)).Late<=1000000000
 rw [ea]
 simp only [NH,GH,Bool.not_eq_true',Bool.or_eq_false_iff,Bool.not_eq_false',Bool.and_eq_true,decide_eq_true_eq]at e
 omega
theorem Zb{b:AG}{t:Ad}{x:BB}(vt:MN b t)(vx:KE b x)(mode:Int){q:Int}(h0:0<=q)(h1:q<=CD b-1):-2000000000<=Va t x mode q∧Va t x mode q<=2000000000:=by
 have a:=UH vt h0 h1;have r:=Ua vx h0 h1
 unfold Va
 cases(mode==0)<;>simp only [cT,cF]<;>omega
theorem dI{n:Nat}{b:AG}{t:Ad}{x:BB}(vt:MN b t)(vx:KE b x)(mode:Int){q:Int}(h0:0<=q)(h1:q<=CD b-1):QS n t x q mode=some (cond (Tq t x q) (Va t x mode q,true) (0,false)):=by
 have a:=UH vt h0 h1;have r:=Ua vx h0 h1
 have t1:=vt.reached;have t2:=vt.arr;have x1:=vx.bound;have x2:=vx.req
 simp only [QS,kS h0 (show q<t.Reached.length by omega),nU h0 (show q<t.Arrival.length by omega),fN h0 (show q<x.Bound.length by omega),iA h0 (show q<x.Required.length by omega),As]
 rw [Ar (x:=(Kw t q).Early-(Kv x q).Early) (by omega) (by omega),Ar (x:=(Kv x q).Late-(Kw t q).Late) (by omega) (by omega)]
 unfold Tq Va
 cases Wm t q<;>cases Wz x q<;>cases(mode==0)<;>rfl
theorem lJ{n:Nat}{b:AG}{t:Ad}{x:BB}(hb:MZ b)(ht:t.Reached.length<=1048576)(hx:x.Bound.length<=1048576)(v:Bv b)(vt:MN b t)(vx:KE b x){mode:Int}(hm:(mode==0||mode==1)=true){q:Int}(h0:0<=q)(h1:q<=CD b-1)(hn:1048577<=n):
 Vc n b t x q mode=some (cond (Tq t x q) (Va t x mode q,0) (0,4)):=by
 have hp:=CX v.design.short v.design.few.1 v.design.few.2.2
 rw [Vc]
 rcases dJ (n:=n) hb ht hx hn with ⟨_,_,w,f2,hw⟩|⟨f1,_⟩
 ·have wN:wrap .i64 (CD b-1)=CD b-1:=Ar (by unfold CD;omega) (by unfold CD;omega)
  have d1:(decide (q>=0)&&decide (q<=CD b-1))=true:=by simp only [Bool.and_eq_true,decide_eq_true_eq];omega
  rw [f2]
  simp only [As,cF,Ow,bne_self_eq_false,RU,hm,Bool.not_true,Sa,Ws (r:=⟨b,w.places_,w.links_,w.loads_,w.delays_,w.extras_⟩) v hw,Jy,wN,d1,dI (n:=n) vt vx mode h0 h1]
  cases Tq t x q<;>rfl
 ·obtain⟨c,e,hc⟩:=XP (n:=n) hb hn
  obtain⟨p,f,hp⟩:=mD (n:=n) (b:=b) ht hn
  obtain⟨r,g,hr⟩:=pK (n:=n) (b:=b) hx hn
  obtain rfl:c=true:=hc.2 v
  obtain rfl:p=true:=hp.2 vt
  obtain rfl:r=true:=hr.2 vx
  rw [RZ,e]at f1
  simp [OP v hn,f,g]at f1
theorem nJ{n:Nat}{a:AG}{t:Ad}{x:BB}{l:List Aj}{mode:Int}(hb:MZ a)(ht:t.Reached.length<=1048576)(hx:x.Bound.length<=1048576)(hl:l.length<=1048576)(hn:1048577<=n):
 ∃g,UI n a t x l mode=some g∧Vd n a t x l mode=some g∧((g.2 !=0)=true∨(g.2=0∧Bv a∧MN a t∧KE a x∧(mode==0||mode==1)=true)∧(∀i (h:i<l.length),Py a l i l[i])∧PY n t x l mode=some g.1):=by
 rw [Vd,UI]
 rcases dJ (n:=n) hb ht hx hn with ⟨f1,⟨v,vt,vx⟩,w,f2,hw⟩|⟨f1,f2⟩
 ·obtain⟨p,p1,hp⟩:=qE (n:=n) (xs:=l) v hl hn
  obtain⟨p',p2,hp'⟩:=sG (n:=n) (xs:=l) (r:=⟨a,w.places_,w.links_,w.loads_,w.delays_,w.extras_⟩) v hw hl hn
  obtain rfl:p=p':=by rw [Bool.eq_iff_iff,hp,hp']
  rw [f1,f2]
  simp only [As,Bool.not_true,cF,Ow,bne_self_eq_false,XL,RU,p1,p2,Dk]
  cases p with
  |false=>exact⟨_,rfl,rfl,.inl rfl⟩
  |true=>
   simp only [Bool.not_true,Bool.false_or]
   cases hm:(mode==0||mode==1)with
   |false=>exact⟨_,rfl,rfl,.inl rfl⟩
   |true=>
    obtain⟨g,g1,g2⟩:=oV vt vx mode ht hl (hp.1 rfl) hn
    refine⟨g,g2,g1,.inr ?_⟩
    cases e:PY n t x l mode with
    |none=>rw [e]at g2;cases g2
    |some s=>rw [e]at g2;cases g2;exact⟨⟨rfl,v,vt,vx,rfl⟩,hp.1 rfl,rfl⟩
 ·rw [f1,f2]
  exact⟨_,rfl,rfl,.inl rfl⟩
theorem jO{n:Nat}{b:AG}{t:Ad}{x:BB}{l:List Aj}(vt:MN b t)(vx:KE b x)(mode:Int)(hl:l.length<=1048576)(hg:∀i (h:i<l.length),Py b l i l[i])(hn:1048577<=n):
 BH (fun s=>s<=0∧(s<0↔∃i,∃h:i<l.length,Tq t x l[i].Node=true∧Va t x mode l[i].Node<0)) (PY n t x l mode):=by
 rw [PY]
 refine EY (L:=fun m i (w:Int)=>Ff n t x l mode (fun i29 i30=>(some i29)) m w i) l.length (fun i w=>(w<=0∧ -2000000000*(i:Int)<=w)∧(w<0↔∃j,∃h:j<l.length,j<i∧Tq t x l[j].Node=true∧Va t x mode l[j].Node<0)) (BH _) ?_ ?_ n 0 0 (by omega) (by omega) ⟨by omega,⟨fun h=>by omega,fun⟨_,_,h,_⟩=>by omega⟩⟩
 ·rintro m i w hi ⟨⟨h1,h2⟩,h3⟩ ih
  have hk:=(hg i hi).node
  have hs:=Zb vt vx mode hk.1 hk.2
  simp only [Ff.eq_2,DB hi,cT,AX hi,As,dI (n:=n) vt vx mode hk.1 hk.2,wT i]
  have step:∀d:Int,d<=0-> -2000000000<=d->(d<0↔Tq t x l[i].Node=true∧Va t x mode l[i].Node<0)->BH (fun s=>s<=0∧(s<0↔∃i,∃h:i<l.length,Tq t x l[i].Node=true∧Va t x mode l[i].Node<0)) (Ff n t x l mode (fun i29 i30=>(some i29)) m (wrap .i64 (w+d)) ((i+1:Nat):Int)):=fun d d1 d2 d3=>by
   rw [Ar (by omega) (by omega)]
   refine ih (w+d) ⟨⟨by omega,by omega⟩,⟨fun h=>?_,?_⟩⟩
   ·by_cases c:w<0
    ·obtain⟨j,hj,a,a2⟩:=h3.1 c
     exact⟨j,hj,by omega,a2⟩
    ·exact⟨i,hi,by omega,d3.1 (by omega)⟩
   ·rintro ⟨j,hj,a,a2⟩
    by_cases c:j=i
    ·subst c;have:=d3.2 a2;omega
    ·have:=h3.2 ⟨j,hj,by omega,a2⟩;omega
  cases hh:Tq t x l[i].Node with
  |false=>exact step _ (by simp only [cF];omega) (by simp only [cF];omega) (by simp only [cF,hh];exact⟨fun h=>by omega,fun h=>by cases h.1⟩)
  |true=>exact step _ (by simp only [cT];omega) (by simp only [cT];omega) (by simp only [cT,hh];exact⟨fun h=>⟨trivial,by omega⟩,fun h=>by omega⟩)
 ·rintro m w ⟨⟨h1,_⟩,h3⟩
  simp only [Ff.eq_2,DN,cF]
  exact AL ⟨h1,⟨fun h=>by obtain⟨j,hj,_,a⟩:=h3.1 h;exact⟨j,hj,a⟩,fun⟨j,hj,a⟩=>h3.2 ⟨j,hj,hj,a⟩⟩⟩
theorem Wb{code:List Int}(hR:code.length<=9223372036854775807∧∀x∈code,cC .u8 x):∃n O,XV n O code (fun r=>cond r (some ()) none)=some ():=by
 obtain⟨n,hn⟩:∃n,1048577<=n:=⟨_,Nat.le_refl _⟩
 obtain⟨O⟩:=Me.is
 refine⟨n,O,?_⟩
 rw [XV,Wp,As]
 refine Fj (fun _=>rfl) fun hbg=>?_
 have hc:=Jd.of hR (of_decide_eq_false hbg)
 rw [Xh]
 refine LU (Fr hc hn) fun s hs=>kD hn hc (hs.mk2 rfl) fun b co br ss t tg s' hb ht htg hs'=>LU (rN hn hc (hs'.mk2 rfl) hb ht htg) fun x ⟨hx,h1⟩=>LU (rD hc (h1.mk2 rfl)) fun md _=>?_
 dsimp only
 have htr:t.Reached.length<=1048576:=by have:=ht.r;omega
 have hxb:x.1.Bound.length<=1048576:=by omega
 have htl:tg.length<=1048576:=by omega
 obtain⟨g,e1,e2,h⟩:=nJ (n:=n) (l:=tg) (mode:=md.1) hb.blk.sm htr hxb htl hn
 simp only [e1,e2,As,bne_self_eq_false,Bool.or_self,cF]
 rcases h with h|⟨⟨z0,v,vt,vx,hm⟩,hg,e3⟩
 ·rw [h,cT];rfl
 ·obtain⟨s0,e4,s1,s2⟩:=jO vt vx md.1 htl hg hn
  obtain rfl:g.1=s0:=by rw [e3]at e4;exact Option.some.inj e4
  rw [show(g.2 !=0)=false by rw [z0];rfl,cF]
  refine EY (L:=fun m i q=>JG n (b,t,x.1,tg,md.1) _ m q i) tg.length (fun i q=>(q=true↔∃j,∃h:j<tg.length,j<i∧Tq t x.1 tg[j].Node=true∧Va t x.1 md.1 tg[j].Node<0)) (fun o=>o=some ()) ?_ ?_ n 0 false (by omega) (by omega) ⟨fun h=>(by cases h),fun⟨_,_,h,_⟩=>by omega⟩
  ·intro m i q hi hq ih
   have hk:=(hg i hi).node
   simp only [JG.eq_2,DB hi,cT,AX hi,As,lJ hb.blk.sm htr hxb v vt vx hm hk.1 hk.2 hn,wT i]
   refine ih _ ⟨fun h=>?_,?_⟩
   ·rcases Bool.or_eq_true_iff.1 h with h|h
    ·obtain⟨j,hj,a,a2⟩:=hq.1 h
     exact⟨j,hj,by omega,a2⟩
    ·refine⟨i,hi,by omega,?_⟩
     cases hh:Tq t x.1 tg[i].Node with
     |false=>rw [hh]at h;cases h
     |true=>rw [hh]at h;exact⟨rfl,of_decide_eq_true h⟩
   ·rintro ⟨j,hj,a,a2,a3⟩
    rw [Bool.or_eq_true_iff]
    by_cases c:j=i
    ·subst c;right;rw [a2];exact decide_eq_true a3
    ·exact .inl (hq.2 ⟨j,hj,by omega,a2,a3⟩)
  ·intro m q hq
   simp only [JG.eq_2,DN,cF]
   rw [show decide (g.1<=0)=true from decide_eq_true s1,Bool.true_and]
   have:decide (g.1<0)=q:=by
    rw [Bool.eq_iff_iff,decide_eq_true_eq,s2,hq]
    exact⟨fun⟨j,hj,a⟩=>⟨j,hj,hj,a⟩,fun⟨j,hj,_,a⟩=>⟨j,hj,a⟩⟩
   rw [this,beq_self_eq_true];rfl

end Go.Proofs.YthojemmmflaicabGreatDoor
