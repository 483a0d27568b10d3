/- The plain law behind FnChecks: the plain function answers true; no condition. -/
import Derived.Test.YthojemmmflaicaaGreatDoorLawFnChecksA
set_option linter.all false
set_option maxHeartbeats 4000000
namespace Go.Proofs.YthojemmmflaicaaGreatDoor
open Go Go.RowKit Go.Eng
open Go.IntKind (wrap)
def Lh(d:AX)(q:Nat):Nat:=(pls d).findIdx (FT q)
structure kI(d:AX)(q k:Nat):Prop where
 lt:k<(pls d).length
 hit:FT q (pls d)[k]=true
 only:∀j (h:j<(pls d).length),FT q (pls d)[j]=true->j=k
theorem Ps{l:Ax}{d:AX}(v:Ct l d){q:Nat}(hq:q<d.Nets.length):kI d q (Lh d q):=by
 obtain⟨k,hk,a,b⟩:=PK _ _ (Yg v hq)
 have:Lh d q=k:=by
  unfold Lh
  rw [List.findIdx_eq hk]
  refine⟨a,fun j hj=>?_⟩
  cases c:FT q ((pls d)[j]'(by omega))with
  |false=>rfl
  |true=>have:=b j (by omega) c;omega
 rw [this];exact⟨hk,a,b⟩
theorem rK{n:Nat}{l:Ax}{d:AX}(v:Ct l d){q:Nat}(hq:q<d.Nets.length)(hn:1048577<=n):VS n d (q:Int)=some (Lh d q:Int):=by
 have hd:=Ps v hq
 have hl:=Cp v.short v.few.1 v.few.2.2
 rw [VS,Ph v.short v.few.1 v.few.2.2 hn,Am]
 have hk:=hd.lt
 refine loop (L:=fun m i (_:Unit)=>LA (q:Int) ((pls d).map Gk) (fun i26=>some (-1)) m i) ((pls d).map Gk).length (fun i _=>i<=Lh d q) (fun o=>o=some (Lh d q:Int)) ?_ ?_ n 0 () (by omega) (by simp;omega) (by omega)
 ·intro m i _ hi hI
  have hi2:i<(pls d).length:=by simpa using hi
  have e:((pls d).map Gk)[i]=Gk (pls d)[i]:=by simp
  simp only [LA.eq_2,DE hi,cT,AV hi,Am,CQ,e,wT i]
  have e2:((Gk (pls d)[i]).net_==(q:Int)&&(Gk (pls d)[i]).drives_)=FT q (pls d)[i]:=rfl
  rw [e2]
  cases c:FT q (pls d)[i]with
  |true=>rw [hd.only i hi2 c];exact .inr rfl
  |false=>
   refine .inl ⟨(),?_,rfl⟩
   rcases Nat.lt_or_ge i (Lh d q)with h|h
   ·omega
   ·obtain rfl:i=Lh d q:=by omega
    rw [hd.hit]at c;cases c
 ·intro m _ hI
  have:((pls d).map Gk).length=(pls d).length:=by simp
  omega
def RZ(a:BS)(p:Int×Int):Bool:=cond (a.Kind==1) ((a.Sense==3)||((a.Sense==1)==(p.1==p.2))) (cond (a.Kind==2) (p.1==0) (cond (a.Kind==3) (p.1==1) false))
def eO(a:BS):List (Int×Int):=[(0,0),(0,1),(1,0),(1,1)].filter (RZ a)
def cC(o k:Nat)(a:BS):List AU:=(eO a).map fun t=>⟨2*((o:Int)+a.From)+t.1,2*((o:Int)+a.To)+t.2,1,(k:Int)⟩
def XM(b:AF)(i:Nat)(x:Aq):List AU:=Ex (cC (Gi b.Design i)) 0 (Ev b x)
def ZW(r:Int)(j:Nat)(s:Int):List AU:=[⟨2*r,2*s,2,(j:Int)⟩,⟨2*r+1,2*s+1,2,(j:Int)⟩]
def fB(d:AX)(q:Nat):List AU:=Ex (ZW (Lh d q:Int)) 0 (JV d (q:Int))
def NO(b:AF):List AU:=Ex (XM b) 0 b.Design.Instances++Ex (fun q (_:ByteArray)=>fB b.Design q) 0 b.Design.Nets
theorem Yn(a:BS):(eO a).length<=4:=Nat.le_trans (List.length_filter_le _ _) (by simp)
theorem Sa(o k:Nat)(a:BS):(cC o k a).length<=4:=by unfold cC;rw [List.length_map];exact Yn a
theorem Pd{b:AF}(v:Bf b)(i:Nat){x:Aq}(hx:x∈b.Design.Instances):(XM b i x).length<=32:=by
 obtain⟨j,hj,rfl⟩:=List.getElem_of_mem hx
 obtain⟨k,hk,_,gc,_,vc⟩:=v.design.inst_at hj
 have:=EQ (c:=4) (g:=cC (Gi b.Design i)) (Ev b b.Design.Instances[j]) 0 fun j a _=>Sa _ _ a
 have few:=vc.few
 unfold XM
 unfold Ev at this ⊢
 rw [gc]at this ⊢
 simp only at this ⊢
 omega
theorem Sl{l:Ax}{d:AX}(v:Ct l d)(q:Nat):(fB d q).length<=156:=by
 have h1:=EQ (c:=2) (g:=ZW (Lh d q:Int)) (JV d (q:Int)) 0 fun j s _=>by simp [ZW]
 have h2:=GG (d:=d) (q:=(q:Int))
 have hl:=Cp v.short v.few.1 v.few.2.2
 have h3:snk d (q:Int)<=78:=Nat.le_trans List.countP_le_length hl
 unfold fB;omega
theorem Ie{b:AF}(v:Bf b):(NO b).length<=5128:=by
 have h1:=EQ (c:=32) (g:=XM b) b.Design.Instances 0 fun j x hx=>Pd v j hx
 have h2:=EQ (c:=156) (g:=fun q (_:ByteArray)=>fB b.Design q) b.Design.Nets 0 fun j x _=>Sl v.design j
 have:=v.design.few
 unfold NO;rw [List.length_append];omega
theorem bZ{n:Nat}{l:List AU}{f t a b kd k:Int}(hl:l.length<=10000000)(hf:0<=f∧f<=100000)(ht:0<=t∧t<=100000)(ha:0<=a∧a<=1)(hb:0<=b∧b<=1):Pe n l f t a b kd k=some (l++[⟨2*f+a,2*t+b,kd,k⟩]):=by
 rw [Pe,Ah (x:=2*f) (by omega) (by omega),Ah (x:=2*t) (by omega) (by omega),Ah (by omega) (by omega),Ah (by omega) (by omega),BK (by simp;omega) (by omega),Am]
theorem ZS{n:Nat}{a:BS}{f t k i:Int}{k2:List AU->Int->Option (List AU)}(hf:0<=f∧f<=100000)(ht:0<=t∧t<=100000)(hi:0<=i∧i<=1){l:List AU}(hl:l.length<=9000000)(m:Nat):
 FL n a f t k i k2 (m+3) l 0=k2 (l++([(i,0),(i,1)].filter (RZ a)).map fun p=>⟨2*f+p.1,2*t+p.2,1,k⟩) 2:=by
 have w1:wrap .i64 ((0:Int)+1)=1:=by decide
 have w2:wrap .i64 ((1:Int)+1)=2:=by decide
 have step:∀(m:Nat) (l:List AU) (j:Int),l.length<=9500000->0<=j->j<=1->FL n a f t k i k2 (m+1) l j=FL n a f t k i k2 m (l++([(i,j)].filter (RZ a)).map fun p=>⟨2*f+p.1,2*t+p.2,1,k⟩) (wrap .i64 (j+1)):=by
  intro m l j hl2 h0 h1
  have hp:=bZ (n:=n) (l:=l) (f:=f) (t:=t) (a:=i) (b:=j) (kd:=1) (k:=k) (by omega) hf ht hi ⟨h0,h1⟩
  have dj:decide (j<=1)=true:=decide_eq_true h1
  simp only [FL.eq_2,dj,cT,hp,Am,List.filter_cons,List.filter_nil,RZ]
  by_cases k1:a.Kind=1
  ·have e1:(a.Kind==1)=true:=by rw [beq_iff_eq];exact k1
   simp only [e1,cT]
   by_cases c:((a.Sense==3)||((a.Sense==1)==(i==j)))=true
   ·rw [c];simp
   ·have c:((a.Sense==3)||((a.Sense==1)==(i==j)))=false:=by simpa using c
    rw [c];simp
  ·have e1:(a.Kind==1)=false:=by rw [beq_eq_false_iff_ne];exact k1
   simp only [e1,cF]
   by_cases k2:a.Kind=2
   ·have e2:(a.Kind==2)=true:=by rw [beq_iff_eq];exact k2
    simp only [e2,cT]
    by_cases c:i=0
    ·subst c;simp
    ·have c:(i==0)=false:=by rw [beq_eq_false_iff_ne];exact c
     rw [c];simp
   ·have e2:(a.Kind==2)=false:=by rw [beq_eq_false_iff_ne];exact k2
    simp only [e2,cF]
    by_cases k3:a.Kind=3
    ·have e3:(a.Kind==3)=true:=by rw [beq_iff_eq];exact k3
     simp only [e3,cT]
     by_cases c:i=1
     ·subst c;simp
     ·have c:(i==1)=false:=by rw [beq_eq_false_iff_ne];exact c
      rw [c];simp
    ·have e3:(a.Kind==3)=false:=by rw [beq_eq_false_iff_ne];exact k3
     simp only [e3,cF];simp
 have hl3:∀j:Int,(([(i,j)].filter (RZ a)).map fun p:Int×Int=>(⟨2*f+p.1,2*t+p.2,1,k⟩:AU)).length<=1:=fun j=>by rw [List.length_map];exact Nat.le_trans (List.length_filter_le _ _) (by simp)
 rw [step (m+2) l 0 (by omega) (by omega) (by omega),w1,step (m+1) _ 1 (by have:=hl3 0;rw [List.length_append];omega) (by omega) (by omega),w2,FL.eq_2]
 have d2:decide ((2:Int)<=1)=false:=by decide
 rw [d2,cF,List.append_assoc,←List.map_append,←List.filter_append]
 rfl
theorem pJ{n:Nat}{a:BS}{f t k:Int}(hf:0<=f∧f<=100000)(ht:0<=t∧t<=100000){l:List AU}(hl:l.length<=8000000)(hn:1048577<=n):
 iU n l a f t k=some (l++(eO a).map fun p=>⟨2*f+p.1,2*t+p.2,1,k⟩):=by
 obtain⟨m,rfl⟩:∃m,n=m+3:=⟨n-3,by omega⟩
 have w1:wrap .i64 ((0:Int)+1)=1:=by decide
 have w2:wrap .i64 ((1:Int)+1)=2:=by decide
 have d0:decide ((0:Int)<=1)=true:=by decide
 have d1:decide ((1:Int)<=1)=true:=by decide
 have d2:decide ((2:Int)<=1)=false:=by decide
 have hl3:(([((0:Int),(0:Int)),(0,1)].filter (RZ a)).map fun p:Int×Int=>(⟨2*f+p.1,2*t+p.2,1,k⟩:AU)).length<=2:=by rw [List.length_map];exact Nat.le_trans (List.length_filter_le _ _) (by simp)
 rw [iU,Lz.eq_2,d0,cT,ZS hf ht (by omega) (by omega),w1,Lz.eq_2,d1,cT,ZS hf ht (by omega) (by rw [List.length_append];omega),w2,Lz.eq_2,d2,cF,List.append_assoc,←List.map_append,←List.filter_append]
 rfl
theorem TG{c:Al}(vc:Ml c){j:Nat}(hj:j<c.Arcs.length):(0<=c.Arcs[j].From∧c.Arcs[j].From<c.Pins.length)∧(0<=c.Arcs[j].To∧c.Arcs[j].To<c.Pins.length)∧(c.Arcs[j].Kind=1∧(1<=c.Arcs[j].Sense∧c.Arcs[j].Sense<=3)∨c.Arcs[j].Kind=2∨c.Arcs[j].Kind=3∨c.Arcs[j].Kind=4∨c.Arcs[j].Kind=5):=by
 have ar:=(vc.arcs j hj).1
 unfold ME at ar
 refine⟨by omega,by omega,?_⟩
 obtain⟨_,ar⟩:=ar
 by_cases k1:c.Arcs[j].Kind=1
 ·rw [if_pos k1]at ar;exact .inl ⟨k1,ar.2.2.1⟩
 ·rw [if_neg k1]at ar
  by_cases k2:c.Arcs[j].Kind=2∨c.Arcs[j].Kind=3
  ·rcases k2 with k|k
   ·exact .inr (.inl k)
   ·exact .inr (.inr (.inl k))
  ·rw [if_neg k2]at ar
   by_cases k4:c.Arcs[j].Kind=4∨c.Arcs[j].Kind=5
   ·rcases k4 with k|k
    ·exact .inr (.inr (.inr (.inl k)))
    ·exact .inr (.inr (.inr (.inr k)))
   ·rw [if_neg k4]at ar;exact ar.elim
theorem Qq{a:BS}(h:3<a.Kind):eO a=[]:=by
 have e1:(a.Kind==1)=false:=by rw [beq_eq_false_iff_ne];omega
 have e2:(a.Kind==2)=false:=by rw [beq_eq_false_iff_ne];omega
 have e3:(a.Kind==3)=false:=by rw [beq_eq_false_iff_ne];omega
 simp [eO,RZ,e1,e2,e3]
theorem Wv{n:Nat}{b:AF}(v:Bf b)(hn:1048577<=n):ZL n b=some (NO b):=by
 have vd:=v.design
 have few:=vd.few
 have hl:=Cp vd.short vd.few.1 vd.few.2.2
 have hI:=EQ (c:=32) (g:=XM b) b.Design.Instances 0 fun j x hx=>Pd v j hx
 rw [ZL]
 rw [DJ (xs:=b.Design.Instances) (L:=fun m s i=>Ko n b (fun l44 i48=>(HA n b (fun l55 i59=>(some l55)) n l44 0)) m s i) (k:=fun s=>HA n b (fun l55 i59=>some l55) n s 0) (XM b) 32 0 (fun j x hx=>Pd v j hx) (by omega) (by
  intro m i hi s hs
  obtain⟨k,hk,_,gc,hnl,vc⟩:=v.design.inst_at hi
  have fa:=vc.few
  have fp:=vc.pins.few
  have hoff:=(Fv (d:=b.Design) (q:=0) hi (by have:=(vd.inst _ (List.getElem_mem hi)).long vd.lib;omega)).lt
  simp only [Ko.eq_2,DE hi,cT,AV hi,gc,Am,wT i]
  have ea:Ev b b.Design.Instances[i]=b.Library.Cells[k].Arcs:=by unfold Ev;rw [gc]
  rw [XM,ea]
  refine DJ (xs:=b.Library.Cells[k].Arcs) (L:=fun m s j=>Jt n b (i:Int) b.Library.Cells[k] _ m s j) (k:=fun s=>Ko n b (fun l44 i48=>(HA n b (fun l55 i59=>(some l55)) n l44 0)) m s ((i+1:Nat):Int)) (cC (Gi b.Design i)) 4 s.length (fun j a _=>Sa _ _ a) (by omega) ?_ ?_ n (by omega) s (by omega)
  ·intro m j hj s2 hs2
   obtain⟨⟨f0,f1⟩,⟨t0,t1⟩,kd⟩:=TG vc hj
   simp only [Jt.eq_2,DE hj,cT,AV hj,Am,wT j]
   by_cases c:b.Library.Cells[k].Arcs[j].Kind<=3
   ·rw [decide_eq_true c,cT]
    obtain⟨F,eF⟩:=Int.eq_ofNat_of_zero_le f0
    have eF:b.Library.Cells[k].Arcs[j].From=(F:Int):=eF
    obtain⟨T,eT⟩:=Int.eq_ofNat_of_zero_le t0
    have eT:b.Library.Cells[k].Arcs[j].To=(T:Int):=eT
    have p1:=Xe (n:=n) vd (q:=F) hi (by omega) hn
    have p2:=Xe (n:=n) vd (q:=T) hi (by omega) hn
    rw [eF,eT,p1,Am,p2,Am,pJ (by omega) (by omega) (by omega) hn,Am]
    congr 2
    unfold cC
    rw [eF,eT]
    simp
   ·rw [decide_eq_false c,cF]
    unfold cC
    rw [Qq (by omega),List.map_nil,List.append_nil]
  ·intro m s
   simp only [Jt.eq_2,DX,cF]) (by
  intro m s
  simp only [Ko.eq_2,DX,cF]) n (by omega) [] (by simp)]
 rw [List.nil_append]
 rw [DJ (xs:=b.Design.Nets) (L:=fun m s i=>HA n b (fun l55 i59=>(some l55)) m s i) (k:=fun s=>some s) (fun q _=>fB b.Design q) 156 (Ex (XM b) 0 b.Design.Instances).length (fun j x _=>Sl vd j) (by omega) (by
  intro m i hi s hs
  have hd:=(Ps vd hi).lt
  have hsl:(JV b.Design (i:Int)).length<=78:=by
   rw [GG];exact Nat.le_trans List.countP_le_length hl
  simp only [HA.eq_2,DE hi,cT,rK vd hi hn,dZ vd (i:Int) hn,Am,wT i]
  refine DJ (xs:=JV b.Design (i:Int)) (L:=fun m s j=>Lc n (Lh b.Design i:Int) (JV b.Design (i:Int)) _ m s j) (k:=fun s=>HA n b (fun l55 i59=>(some l55)) m s ((i+1:Nat):Int)) (ZW (Lh b.Design i:Int)) 2 s.length (fun j a _=>by simp [ZW]) (by omega) ?_ ?_ n (by omega) s (by omega)
  ·intro m j hj s2 hs2
   have hq:=Me _ (List.getElem_mem hj)
   simp only [Lc.eq_2,DE hj,cT,AV hj,Am,wT j]
   rw [bZ (by omega) (by omega) (by omega) (by omega) (by omega),Am,bZ (by simp;omega) (by omega) (by omega) (by omega) (by omega),Am]
   rw [List.append_assoc]
   congr 2
   simp [ZW]
  ·intro m s
   simp only [Lc.eq_2,DX,cF]) (by
  intro m s
  simp only [HA.eq_2,DX,cF]) n (by omega) _ (Nat.le_refl _)]
 rfl
theorem KX{α β:Type}(h:Nat->α->β):∀(xs:List α) (s:Nat),(Ex (fun j q=>[h j q]) s xs).length=xs.length
 |[],_=>rfl
 |x::xs,s=>by simp [Ex,KX h xs (s+1)]
theorem YG{a:BS}:∀p∈eO a,(0<=p.1∧p.1<=1)∧0<=p.2∧p.2<=1:=fun p hp=>by
 have:=(List.mem_filter.1 hp).1
 simp only [List.mem_cons,List.not_mem_nil,or_false]at this
 rcases this with rfl|rfl|rfl|rfl<;>simp
def qC(N:Int)(br:List Int):Prop:=∀i,i<br.length->(0<=gd br i∧gd br i<=N-1)∧(0<i->gd br (i-1)<gd br i)
theorem wE{n:Nat}{br:List Int}{N:Int}(h:br.length<=1048576)(hN:0<=N∧N<=1048576)(hn:1048577<=n):BX (qC N br) (Vn n br N):=by
 rw [Vn]
 refine(FD (L:=fun m i=>JB n br N _ m i) (Q:=True) br.length 0 (fun i=>(0<=gd br i∧gd br i<=N-1)∧(0<i->gd br (i-1)<gd br i)) ?_ ?_ n 0 (by omega) (by omega) (by omega) (fun j _ h=>by omega)).iff ?_
 ·intro m i _ hi
  simp only [JB.eq_2,DE hi,cT,gI hi,Am,Hq,wT i,Ah (x:=N-1) (by omega) (by omega)]
  by_cases c:0<=gd br i∧gd br i<=N-1
  ·have e:(decide (gd br i>=0)&&decide (gd br i<=N-1))=true:=Nh.2 c
   rw [e]
   simp only [Bool.not_true,cF]
   by_cases c0:0<i
   ·have w1:wrap .i64 ((i:Int)-1)=((i-1:Nat):Int):=by rw [Ah (by omega) (by omega)];omega
    simp only [decide_eq_true (show(i:Int)>0 by omega),cT,w1,gI (show i-1<br.length by omega),Am]
    by_cases c1:gd br (i-1)<gd br i
    ·rw [decide_eq_false (show¬gd br (i-1)>=gd br i by omega),cF];exact .inl ⟨⟨c,fun _=>c1⟩,rfl⟩
    ·rw [decide_eq_true (show gd br (i-1)>=gd br i by omega),cT];exact .inr ⟨fun h=>c1 (h.2 c0),rfl⟩
   ·simp only [decide_eq_false (show¬(i:Int)>0 by omega),cF,Am]
    exact .inl ⟨⟨c,fun h=>absurd h c0⟩,by trivial⟩
  ·have e:(decide (gd br i>=0)&&decide (gd br i<=N-1))=false:=by
    cases q:(decide (gd br i>=0)&&decide (gd br i<=N-1))with
    |false=>rfl
    |true=>exact absurd (Nh.1 q) c
   rw [e]
   simp only [Bool.not_false,cT,Am]
   exact .inr ⟨fun h=>c h.1,by trivial⟩
 ·intro m i h1 h2 _
  obtain rfl:i=br.length:=by omega
  simp only [JB.eq_2,DX,cF]
  exact⟨true,rfl,by simp⟩
 ·exact⟨fun h i hi=>h.1 i (Nat.zero_le _) hi,fun h=>⟨fun i _ hi=>h i hi,trivial⟩⟩
theorem iL{n:Nat}{br:List Int}{x:Int}(h:br.length<=1048576)(hn:1048577<=n):RY n br x=some (br.any fun y=>y==x):=by
 rw [RY]
 refine loop (L:=fun m i (_:Unit)=>IT br x (fun i5=>some false) m i) br.length (fun i _=>(br.any fun y=>y==x)=((br.drop i).any fun y=>y==x)) (fun o=>o=some (br.any fun y=>y==x)) ?_ ?_ n 0 () (by omega) (by omega) (by simp)
 ·intro m i _ hi hI
  simp only [IT.eq_2,DE hi,cT,AV hi,Am,wT i]
  rw [List.drop_eq_getElem_cons hi,List.any_cons]at hI
  cases c:(br[i]==x)with
  |true=>rw [c,Bool.true_or]at hI;rw [hI];exact .inr rfl
  |false=>rw [c,Bool.false_or]at hI;exact .inl ⟨(),hI,rfl⟩
 ·intro m _ hI
  rw [List.drop_length]at hI
  simp only [IT.eq_2,DX,cF,hI,List.any_nil]
structure TT(b:AF)(x:AU):Prop where
 from_:0<=x.From∧x.From<EI b
 to_:0<=x.To∧x.To<EI b
 arc:x.Kind=1->∃p y c a,AI (pls b.Design) (wrap .i64 (Int.tdiv x.To 2))=some p∧p∈pls b.Design∧AI b.Design.Instances p.instance_=some y∧AI b.Library.Cells y.Cell=some c∧AI c.Arcs x.Index=some a∧(a.Kind=1∨a.Kind=2∨a.Kind=3)
theorem QB{b:AF}(v:Bf b):∀x∈NO b,TT b x:=by
 have vd:=v.design
 have hl:=Cp vd.short vd.few.1 vd.few.2.2
 have nd:EI b=2*((pls b.Design).length:Int):=rfl
 intro x hx
 simp only [NO,List.mem_append]at hx
 rcases hx with hx|hx
 ·refine DI (Q:=TT b) b.Design.Instances 0 (fun i hi y hy=>?_) x hx
  rw [Nat.zero_add]at hy
  obtain⟨k,hk,_,gc,hnl,vc⟩:=vd.inst_at hi
  have ea:Ev b b.Design.Instances[i]=b.Library.Cells[k].Arcs:=by unfold Ev;rw [gc]
  rw [XM,ea]at hy
  refine DI (Q:=TT b) _ 0 (fun j hj z hz=>?_) y hy
  rw [Nat.zero_add]at hz
  obtain⟨⟨f0,f1⟩,⟨t0,t1⟩,kd⟩:=TG vc hj
  obtain⟨t,ht,rfl⟩:=List.mem_map.1 hz
  have tr:=YG t ht
  obtain⟨F,eF⟩:=Int.eq_ofNat_of_zero_le f0
  have eF:b.Library.Cells[k].Arcs[j].From=(F:Int):=eF
  obtain⟨T,eT⟩:=Int.eq_ofNat_of_zero_le t0
  have eT:b.Library.Cells[k].Arcs[j].To=(T:Int):=eT
  have b1:=(Fv (d:=b.Design) (q:=F) hi (by omega)).lt
  have pf:=Fv (d:=b.Design) (q:=T) hi (by omega)
  have b2:=pf.lt
  obtain⟨p,ep,hp⟩:=pf.hit
  have hp:(p.instance_==(i:Int)&&p.pin_==(T:Int))=true:=hp
  simp only [Bool.and_eq_true,beq_iff_eq]at hp
  have k3:¬3<b.Library.Cells[k].Arcs[j].Kind:=fun h=>by rw [Qq h]at ht;cases ht
  refine⟨?_,?_,fun _=>⟨p,b.Design.Instances[i],b.Library.Cells[k],b.Library.Cells[k].Arcs[j],?_,List.mem_of_getElem? ep,?_,gc,?_,by omega⟩⟩
  ·have h1:0<=2*((Gi b.Design i:Int)+b.Library.Cells[k].Arcs[j].From)+t.1∧2*((Gi b.Design i:Int)+b.Library.Cells[k].Arcs[j].From)+t.1<EI b:=by rw [eF];omega
   exact h1
  ·have h1:0<=2*((Gi b.Design i:Int)+b.Library.Cells[k].Arcs[j].To)+t.2∧2*((Gi b.Design i:Int)+b.Library.Cells[k].Arcs[j].To)+t.2<EI b:=by rw [eT];omega
   exact h1
  ·show AI (pls b.Design) (wrap .i64 (Int.tdiv (2*((Gi b.Design i:Int)+b.Library.Cells[k].Arcs[j].To)+t.2) 2))=some p
   rw [eT]
   have e1:Int.tdiv (2*((Gi b.Design i:Int)+(T:Int))+t.2) 2=((Gi b.Design i+T:Nat):Int):=by
    rw [Int.tdiv_eq_ediv_of_nonneg (by omega)];omega
   rw [e1,Ah (by omega) (by omega),Hy];exact ep
  ·rw [hp.1];exact AV hi
  ·exact AV hj
 ·refine DI (Q:=TT b) b.Design.Nets 0 (fun q hq y hy=>?_) x hx
  rw [Nat.zero_add]at hy
  have hd:=(Ps vd hq).lt
  refine DI (Q:=TT b) _ 0 (fun j hj z hz=>?_) y hy
  have hs:=Me _ (List.getElem_mem hj)
  simp only [ZW,List.mem_cons,List.not_mem_nil,or_false]at hz
  rcases hz with rfl|rfl
  ·exact⟨⟨by show(0:Int)<=2*_;omega,by show(2:Int)*_<_;omega⟩,⟨by show(0:Int)<=2*_;omega,by show(2:Int)*_<_;omega⟩,fun h=>by have h:(2:Int)=1:=h;omega⟩
  ·exact⟨⟨by show(0:Int)<=2*_+1;omega,by show(2:Int)*_+1<_;omega⟩,⟨by show(0:Int)<=2*_+1;omega,by show(2:Int)*_+1<_;omega⟩,fun h=>by have h:(2:Int)=1:=h;omega⟩
theorem mX{n:Nat}{l:Ax}{d:AX}(v:Ct l d){p:BA}(hp:p∈pls d):∃r,WP n l d (Gk p)=some r:=by
 rw [WP]
 by_cases c:p.instance_<0
 ·rw [decide_eq_true (show(Gk p).instance_<0 from c),cT];exact⟨_,rfl⟩
 ·obtain⟨x,c',pin,e1,e2,e3⟩:=v.place p hp (by omega)
  have e1:AI d.Instances (Gk p).instance_=some x:=e1
  have e3:AI c'.Pins (Gk p).pin_=some pin:=e3
  rw [decide_eq_false (show¬(Gk p).instance_<0 from c),cF,e1,Am,e2,Am,e3,Am];exact⟨_,rfl⟩
theorem tW{n:Nat}{b:AF}(v:Bf b){i:Nat}(hi:i<b.Wires.length)(hn:1048577<=n):BQ (fun r=>r.length=b.Wires[i].Parent.length) (eK n b (i:Int)):=by
 have vd:=v.design
 have vw:=v.wire i hi
 have hm:=vw.many
 have hP:=vw.cap
 have hl:=Cp vd.short vd.few.1 vd.few.2.2
 have hsl:(JV b.Design (i:Int)).length=b.Wires[i].Sink.length:=by rw [GG];have:=vw.sink;omega
 have hsn:snk b.Design (i:Int)<=78:=Nat.le_trans List.countP_le_length hl
 have hsn2:=GG (d:=b.Design) (q:=(i:Int))
 rw [eK,AV hi,Am,PE,BK (by simp;omega) (by omega),Am,Am,Ph vd.short vd.few.1 vd.few.2.2 hn,Am,dZ vd (i:Int) hn,Am]
 refine GJ (L:=fun m j s=>Lq n b b.Wires[i] ((pls b.Design).map Gk) (JV b.Design (i:Int)) _ m j s) (JV b.Design (i:Int)).length (fun _ s=>s.length=b.Wires[i].Parent.length) ?_ ?_ n _ (by omega) (by simp;omega)
 ·intro m j s hj hs
  have hj2:j<b.Wires[i].Sink.length:=by omega
  have hk:=vw.sinks j hj2
  have hq:=Me _ (List.getElem_mem hj)
  obtain⟨a,ea⟩:=Ek (t:=s) hk.1 (by omega)
  obtain⟨p,ep,hp⟩:=CY (xs:=pls b.Design) hq.1 hq.2
  obtain⟨r,er⟩:=mX (n:=n) vd (List.mem_of_getElem? hp)
  have ep2:AI ((pls b.Design).map Gk) (JV b.Design (i:Int))[j]=some (Gk p):=by
   obtain⟨N,hN⟩:=Int.eq_ofNat_of_zero_le hq.1
   have hN:(JV b.Design (i:Int))[j]=(N:Int):=hN
   rw [hN]at hp ⊢
   rw [Hy,List.getElem?_map]
   rw [Int.toNat_natCast]at hp
   rw [hp];rfl
  simp only [Lq.eq_2,DE hj,cT,AV hj,gI hj2,Am,ea,ep2,er,wT j]
  exact⟨_,by simpa using hs,rfl⟩
 ·intro m s hs
  simp only [Lq.eq_2,DX,cF]
  have wx:wrap .i64 ((s.length:Int)-1)=((s.length-1:Nat):Int):=by rw [Ah (by omega) (by omega)];omega
  rw [wx]
  have key:∀(m k:Nat) (s:List Int),k<b.Wires[i].Parent.length->s.length=b.Wires[i].Parent.length->k<m->BQ (fun r:List Int=>r.length=b.Wires[i].Parent.length) (Lw b.Wires[i] (fun i92 l94=>(some l94)) m (k:Int) s):=by
   intro m
   induction m with
   |zero=>intro k s _ _ h;omega
   |succ m ih=>
    intro k s hk hs hm
    by_cases c:0<k
    ·have hd:decide ((k:Int)>0)=true:=decide_eq_true (by omega)
     have ht:=vw.tree k c hk
     obtain⟨a,ea⟩:=Ek (t:=s) ht.1 (by omega)
     have wk:wrap .i64 ((k:Int)-1)=((k-1:Nat):Int):=by rw [Ah (by omega) (by omega)];omega
     simp only [Lw.eq_2,hd,cT,gI hk,Am,ea,gI (show k<s.length by omega),wk]
     exact ih (k-1) _ (by omega) (by simpa using hs) (by omega)
    ·have hd:decide ((k:Int)>0)=false:=decide_eq_false (by omega)
     simp only [Lw.eq_2,hd,cF]
     exact⟨s,rfl,hs⟩
  exact key n (s.length-1) s (by omega) hs (by omega)
theorem NZ{l:List Bool}{i:Nat}(h:i<l.length):AI l (i:Int)=some (gb l i):=by rw [AV h];simp [gb,h]
def Ed(L:List AU)(lv:List Bool)(u w:Int):Prop:=∃k,∃h:k<L.length,gb lv k=true∧L[k].From=u∧L[k].To=w
inductive Hf(L:List AU)(lv:List Bool)(src:Int->Prop):Int->Prop
 |src {u:Int}:src u->Hf L lv src u
 |step {u w:Int}:Hf L lv src u->Ed L lv u w->Hf L lv src w
theorem Hf.closed{L:List AU}{lv:List Bool}{s:Int->Prop}{Q:Int->Prop}(h0:∀u,s u->Q u)(h1:∀u w,Q u->Ed L lv u w->Q w){v:Int}(r:Hf L lv s v):Q v:=by
 induction r with
 |src h=>exact h0 _ h
 |step _ e ih=>exact h1 _ _ ih e
structure RH(L:List AU)(lv:List Bool)(s:Int->Prop)(N:Nat)(out:List Bool):Prop where
 len:out.length=N
 iff:∀v:Nat,v<N->(gb out v=true↔Hf L lv s (v:Int))
def cf(l:List Bool):Nat:=l.countP (fun b=>!b)
theorem gV(l:List Bool):cf l<=l.length:=List.countP_le_length
theorem VX:∀{l:List Bool} {i:Nat},i<l.length->gb l i=false->cf (l.set i true)+1=cf l
 |[],i,h,_=>by simp at h
 |b::l,0,_,h=>by
  have h:b=false:=h
  subst h;simp [cf]
 |b::l,i+1,hi,h=>by
  have ih:=VX (l:=l) (i:=i) (by simpa using hi) h
  unfold cf at ih ⊢
  simp only [List.set_cons_succ,List.countP_cons];omega
structure QW(L:List AU)(N:Nat):Prop where
 from_:∀k (h:k<L.length),0<=L[k].From∧L[k].From<(N:Int)
 to_:∀k (h:k<L.length),0<=L[k].To∧L[k].To<(N:Int)
theorem tO{n:Nat}{L:List AU}{lv:List Bool}{N s:Nat}(hL:QW L N)(hlv:lv.length=L.length)(hl:L.length<=10000)(hN:N<=1000)(hs:s<N)(hn:1048577<=n):
 ∃out,ZZ n (N:Int) L lv (s:Int) true=some out∧RH L lv (fun u=>u=(s:Int)) N out:=by
 rw [ZZ,FX (by omega) (by omega),Am,AV (show s<(List.replicate N false).length by simpa using hs),Am,Int.toNat_natCast]
 have key:=TH (L:=fun m (st:Bool×List Bool)=>GU n L lv true (fun q33 l34=>(some l34)) m st.1 st.2) (fun st=>2*cf st.2+st.1.toNat)
  (fun st=>st.2.length=N∧gb st.2 s=true∧(∀v,v<N->gb st.2 v=true->Hf L lv (fun u=>u=(s:Int)) (v:Int))∧(st.1=false->∀k (h:k<L.length),gb lv k=true->gb st.2 L[k].From.toNat=true->gb st.2 L[k].To.toNat=true))
  (fun o=>∃out,o=some out∧RH L lv (fun u=>u=(s:Int)) N out) ?_ n (true,(List.replicate N false).set s true) ?_ ?_
 ·exact key
 ·rintro m ⟨q,out⟩ ⟨h1,h2,h3,h4⟩ ih
  have h1:out.length=N:=h1
  have h2:gb out s=true:=h2
  have h3:∀v,v<N->gb out v=true->Hf L lv (fun u=>u=(s:Int)) (v:Int):=h3
  simp only [GU.eq_2]
  cases q with
  |false=>
   have h4:=h4 rfl
   refine⟨out,rfl,h1,fun v hv=>⟨h3 v hv,fun r=>?_⟩⟩
   have:=Hf.closed (Q:=fun u=>0<=u∧u<(N:Int)∧gb out u.toNat=true) (fun u e=>by subst e;exact⟨by omega,by omega,by simpa using h2⟩) (fun u w hu e=>by
    obtain⟨k,hk,e1,e2,e3⟩:=e
    subst e2 e3
    have:=hL.to_ k hk
    exact⟨this.1,this.2,h4 k hk e1 hu.2.2⟩) r
   simpa using this.2.2
  |true=>
   rw [cT]
   have inner:=Fk (L:=fun m' i (st:Bool×List Bool)=>Ez L lv true (fun q38 i39 l40=>(GU n L lv true (fun q33 l34=>(some l34)) m q38 l40)) m' st.1 i st.2) L.length
    (fun i st=>st.2.length=N∧gb st.2 s=true∧(∀v,v<N->gb st.2 v=true->Hf L lv (fun u=>u=(s:Int)) (v:Int))∧(∀v,gb out v=true->gb st.2 v=true)∧cf st.2<=cf out∧(st.1=true->cf st.2<cf out)∧(st.1=false->st.2=out∧∀k (h:k<L.length),k<i->gb lv k=true->gb out L[k].From.toNat=true->gb out L[k].To.toNat=true))
    (fun o=>∃out,o=some out∧RH L lv (fun u=>u=(s:Int)) N out) ?_ ?_ n 0 (false,out) (by omega) (by omega) ⟨h1,h2,h3,fun v h=>h,Nat.le_refl _,fun h=>Bool.noConfusion h,fun _=>⟨rfl,fun k _ h=>absurd h (Nat.not_lt_zero k)⟩⟩
   ·exact inner
   ·rintro m' i ⟨q,l⟩ hi ⟨g1,g2,g3,g4,g5,g6,g7⟩ kk
    have g1:l.length=N:=g1
    have g2:gb l s=true:=g2
    have g3:∀v,v<N->gb l v=true->Hf L lv (fun u=>u=(s:Int)) (v:Int):=g3
    have g4:∀v,gb out v=true->gb l v=true:=g4
    have g5:cf l<=cf out:=g5
    have g6:q=true->cf l<cf out:=g6
    have g7:q=false->l=out∧∀k (h:k<L.length),k<i->gb lv k=true->gb out L[k].From.toNat=true->gb out L[k].To.toNat=true:=g7
    have hF:=hL.from_ i hi
    have hT:=hL.to_ i hi
    obtain⟨F,eF⟩:=Int.eq_ofNat_of_zero_le hF.1
    have eF:L[i].From=(F:Int):=eF
    obtain⟨T,eT⟩:=Int.eq_ofNat_of_zero_le hT.1
    have eT:L[i].To=(T:Int):=eT
    have lF:F<l.length:=by omega
    have lT:T<l.length:=by omega
    show∃o',Ez L lv true _ (m'+1) q (i:Int) l=some o'∧_
    simp only [Ez.eq_2,DE hi,cT,AV hi,Am,Bool.not_true,cF,NZ (show i<lv.length by omega),eF,eT,NZ lF,NZ lT,CQ,Int.toNat_natCast,wT i]
    have skip:(gb lv i=true->gb l F=true->gb l T=true)->∃o',Ez L lv true (fun q38 i39 l40=>(GU n L lv true (fun q33 l34=>(some l34)) m q38 l40)) m' q ((i+1:Nat):Int) l=some o'∧RH L lv (fun u=>u=(s:Int)) N o':=fun hc=>kk (q,l) ⟨g1,g2,g3,g4,g5,g6,fun hq=>by
     obtain⟨e,h⟩:=g7 hq
     refine⟨e,fun k hk hki a b=>?_⟩
     by_cases c:k=i
     ·subst c;subst e
      rw [eT,Int.toNat_natCast]
      rw [eF,Int.toNat_natCast]at b
      exact hc a b
     ·exact h k hk (by omega) a b⟩
    cases c1:(gb lv i&&gb l F)with
    |false=>
     simp only [Bool.false_and,cF]
     exact skip fun a b=>by rw [a,b]at c1;cases c1
    |true=>
     simp only [Bool.true_and]
     simp only [Bool.and_eq_true]at c1
     cases c2:gb l T with
     |true=>
      simp only [Bool.not_true,cF]
      exact skip fun _ _=>c2
     |false=>
      simp only [Bool.not_false,cT]
      have hcf:=VX lT c2
      refine kk (true,l.set T true) ⟨by simpa using g1,?_,?_,?_,by show cf (l.set T true)<=_;omega,fun _=>by show cf (l.set T true)<_;omega,fun h=>by cases h⟩
      ·show gb (l.set T true) s=true
       rw [Nv lT];split
       ·rfl
       ·exact g2
      ·intro v hv hg
       have hg:gb (l.set T true) v=true:=hg
       rw [Nv lT]at hg
       by_cases c:T=v
       ·subst c
        refine .step (g3 F (by omega) c1.2) ⟨i,hi,c1.1,eF,eT⟩
       ·rw [if_neg c]at hg;exact g3 v hv hg
      ·intro v hg
       show gb (l.set T true) v=true
       rw [Nv lT];split
       ·rfl
       ·exact g4 v hg
   ·rintro m' ⟨q,l⟩ ⟨g1,g2,g3,g4,g5,g6,g7⟩
    show∃o',Ez L lv true _ (m'+1) q (L.length:Int) l=some o'∧_
    simp only [Ez.eq_2,DX,cF]
    refine ih (q,l) ⟨g1,g2,g3,fun hq=>?_⟩ ?_
    ·obtain⟨e,h⟩:=g7 hq
     have e:l=out:=e
     subst e
     exact fun k hk a b=>h k hk hk a b
    ·show 2*cf l+q.toNat<2*cf out+1
     cases q with
     |true=>have:=g6 rfl;have:cf l<cf out:=this;simp;omega
     |false=>have:cf l<=cf out:=g5;simp;omega
 ·have h1:=gV ((List.replicate N false).set s true)
  simp only [List.length_set,List.length_replicate]at h1
  show 2*cf ((List.replicate N false).set s true)+1<n
  omega
 ·have hl2:s<(List.replicate N false).length:=by simpa using hs
  refine⟨by simp,by show gb ((List.replicate N false).set s true) s=true;rw [Nv hl2,if_pos rfl],fun v hv hg=>?_,fun h=>by cases h⟩
  have hg:gb ((List.replicate N false).set s true) v=true:=hg
  rw [Nv hl2]at hg
  by_cases c:s=v
  ·subst c;exact .src rfl
  ·rw [if_neg c]at hg;simp [gb,hv]at hg
theorem SC{b:AF}(v:Bf b):QW (NO b) (2*(pls b.Design).length):=
 ⟨fun k h=>by have:=(QB v _ (List.getElem_mem h)).from_;unfold EI at this;push_cast;omega,fun k h=>by have:=(QB v _ (List.getElem_mem h)).to_;unfold EI at this;push_cast;omega⟩
theorem qP{n:Nat}{L:List AU}{br:List Int}(hl:L.length<=1048576)(hb:br.length<=1048576)(hn:1048577<=n):SE n L br=some (Ex (fun k (_:AU)=>[!(br.any fun y=>y==(k:Int))]) 0 L):=by
 rw [SE]
 rw [DJ (xs:=L) (L:=fun m s i=>It n L br (fun l19 i23=>(some l19)) m s i) (k:=fun s=>some s) (fun k (_:AU)=>[!(br.any fun y=>y==(k:Int))]) 1 0 (fun _ _ _=>by simp) (by omega) (by
  intro m i hi s hs
  simp only [It.eq_2,DE hi,cT,iL hb hn,Am,wT i]
  rw [BK (by simp;omega) (by omega),Am]) (by
  intro m s
  simp only [It.eq_2,DX,cF]) n (by omega) [] (by simp)]
 rw [List.nil_append]
theorem gU{n:Nat}{c:List Int}(hc:Je c){s0:AA}(e0:s0.code_=c)(st:Int):∀(m k:Nat) (l:List Int) (x a d:Int),k<m->l.length+k<=3->EB c (AA.mk s0.code_ a d)->
 BQ (fun r=>r.1.length=l.length+k∧EB c r.2) (Is n s0 st (fun l38 i42 i43 i45 i46=>(some (l38,(AA.mk s0.code_ i45 i46)))) m l x (k:Int) a d)
 |0,k,l,x,a,d,hm,_,_=>by omega
 |m+1,0,l,x,a,d,hm,hl,hs=>by
  rw [Is.eq_2]
  exact AS ⟨rfl,hs⟩
 |m+1,k+1,l,x,a,d,hm,hl,hs=>by
  have hp:decide (((k+1:Nat):Int)>0)=true:=decide_eq_true (by omega)
  have w:wrap .i64 (((k+1:Nat):Int)-1)=(k:Int):=by rw [Ah (by omega) (by omega)];omega
  rw [Is.eq_2,hp,cT,BK (by simp;omega) (by omega),Am]
  refine BQ.bind (Nx hc hs st) fun r _ ⟨h1,_⟩=>?_
  rw [w]
  exact(gU hc e0 st m k (l++[x]) _ _ _ (by omega) (by simp;omega) (h1.mk2 e0)).weaken fun r ⟨q1,q2⟩=>⟨by rw [q1];simp;omega,q2⟩
theorem tC{n:Nat}{c:List Int}(hc:Je c){s:AA}(hs:EB c s)(st:Int)(hn:1048577<=n):BQ (fun r=>(1<=r.1.length∧r.1.length<=3)∧EB c r.2) (TZ n s st):=by
 rw [TZ]
 refine BQ.bind (Nx hc hs st) fun r _ ⟨h1,_⟩=>BQ.bind (Nx hc (h1.mk2 hs.code) 3) fun q _ ⟨k1,k2,k3⟩=>?_
 have w:wrap .i64 (1+q.1)=((1+q.1.toNat:Nat):Int):=by rw [Ah (by omega) (by omega)];omega
 rw [w]
 exact(gU hc hs.code st n _ [] _ _ _ (by omega) (by simp;omega) (k1.mk2 hs.code)).weaken fun r ⟨q1,q2⟩=>⟨⟨by rw [q1];simp,by rw [q1];simp;omega⟩,q2⟩
theorem iM{n:Nat}{c:List Int}(hc:Je c){s0:AA}(e0:s0.code_=c)(base:Int){r15 r26:List Int×AA}(h15:r15.1.length<=3)(h26:1<=r26.1.length∧r26.1.length<=3):∀(m i:Nat) (l:List Int) (a d:Int),r15.1.length*r26.1.length-i<m->i<=r15.1.length*r26.1.length->l.length=i->EB c (AA.mk s0.code_ a d)->
 BQ (fun r=>UM r.1∧EB c r.2) (Fx n s0 base r15 r26 (fun l52 i56 i58 i59=>(some ((BF.mk r15.1 r26.1 l52),(AA.mk s0.code_ i58 i59)))) m l (i:Int) a d)
 |0,i,l,a,d,hm,_,_,_=>by omega
 |m+1,i,l,a,d,hm,hi,hl,hs=>by
  have hprod:r15.1.length*r26.1.length<=3*3:=Nat.mul_le_mul h15 h26.2
  have wp:wrap .i64 ((r15.1.length:Int)*(r26.1.length:Int))=((r15.1.length*r26.1.length:Nat):Int):=by
   rw [←Int.natCast_mul,Ah (by omega) (by omega)]
  rw [Fx.eq_2,wp]
  by_cases c0:i<r15.1.length*r26.1.length
  ·rw [DE c0,cT]
   refine BQ.bind (Nx hc hs 10) fun r _ ⟨h1,_⟩=>?_
   have hz:((r26.1.length:Int)==0)=false:=by rw [beq_eq_false_iff_ne];omega
   have tm:Int.tmod (i:Int) (r26.1.length:Int)=((i%r26.1.length:Nat):Int):=rfl
   have go1:∀(z:Int) (s':AA),EB c s'->BQ (fun r=>UM r.1∧EB c r.2) (Option.bind (Bv l [z] 8) fun z1=>Fx n s0 base r15 r26 (fun l52 i56 i58 i59=>(some ((BF.mk r15.1 r26.1 l52),(AA.mk s0.code_ i58 i59)))) m z1 (wrap .i64 ((i:Int)+1)) s'.at_ s'.seed_):=fun z s' h'=>by
    rw [BK (by simp;omega) (by omega),Am,wS (by omega)]
    exact iM hc e0 base h15 h26 m (i+1) _ _ _ (by omega) (by omega) (by simp;omega) (h'.mk2 e0)
   have g2:(i:Int)>=(r26.1.length:Int)->∃x,AI l (wrap .i64 ((i:Int)-(r26.1.length:Int)))=some x:=fun h=>by
    rw [Ah (by omega) (by omega)]
    obtain⟨x,hx,_⟩:=CY (xs:=l) (i:=(i:Int)-(r26.1.length:Int)) (by omega) (by omega)
    exact⟨x,hx⟩
   rw [hz,cF,tm]
   refine Ap (fun q1=>?_) fun q1=>?_
   ·have q1:=of_decide_eq_true q1
    have hi0:0<i:=by
     rcases Nat.eq_zero_or_pos i with e|e
     ·subst e;simp at q1
     ·exact e
    have w1:wrap .i64 ((i:Int)-1)=((i-1:Nat):Int):=by rw [Ah (by omega) (by omega)];omega
    rw [w1,AV (show i-1<l.length by omega),Am]
    refine BQ.bind (Nx hc (h1.mk2 e0) 20) fun r2 _ ⟨h2,_⟩=>Ap (fun q2=>?_) fun _=>go1 _ _ h2
    obtain⟨x,hx⟩:=g2 (of_decide_eq_true q2)
    rw [hx,Am]
    exact BQ.bind (Nx hc (h2.mk2 e0) 20) fun r3 _ ⟨h3,_⟩=>go1 _ _ h3
   ·refine Ap (fun q2=>?_) fun _=>go1 _ _ h1
    obtain⟨x,hx⟩:=g2 (of_decide_eq_true q2)
    rw [hx,Am]
    exact BQ.bind (Nx hc (h1.mk2 e0) 20) fun r3 _ ⟨h3,_⟩=>go1 _ _ h3
  ·rw [show decide ((i:Int)<((r15.1.length*r26.1.length:Nat):Int))=false from decide_eq_false (by omega),cF]
   exact AS ⟨⟨by show r15.1.length<=_;omega,by show r26.1.length<=_;omega,by show l.length<=_;omega⟩,hs⟩
theorem tA{n:Nat}{c:List Int}(hc:Je c){s:AA}(hs:EB c s)(base:Int)(hn:1048577<=n):BQ (fun r=>UM r.1∧EB c r.2) (Th n s base):=by
 rw [Th]
 refine BQ.bind (tC hc hs 60 hn) fun r _ ⟨h1,h2⟩=>BQ.bind (tC hc (h2.mk2 hs.code) 40 hn) fun q _ ⟨k1,k2⟩=>?_
 have:r.1.length*q.1.length<=3*3:=Nat.mul_le_mul h1.2 k1.2
 exact iM hc hs.code base h1.2 k1 n 0 [] _ _ (by omega) (by omega) rfl (k2.mk2 hs.code)
theorem mF{n:Nat}{c:List Int}(hc:Je c){s:AA}(hs:EB c s)(base:Int)(hn:1048577<=n):BQ (fun r=>(r.1.length<=1048576∧∀t∈r.1,UM t)∧EB c r.2) (SQ n s base):=by
 rw [SQ]
 refine BQ.bind (tA hc hs base hn) fun r _ ⟨h1,h2⟩=>BQ.bind (tA hc (h2.mk2 hs.code) base hn) fun q _ ⟨k1,k2⟩=>AS ⟨⟨by simp,fun t ht=>?_⟩,k2.mk2 hs.code⟩
 rcases List.mem_cons.1 ht with e|ht
 ·rw [e];exact h1
 ·rw [List.mem_singleton.1 ht];exact k1
theorem kX{n:Nat}{c:List Int}(hc:Je c){s:AA}(hs:EB c s)(kd f t z:Int)(hn:1048577<=n):BQ (fun r=>jE r.1∧EB c r.2) (Py n s kd f t z):=by
 rw [Py]
 refine Ap (fun _=>?_) fun _=>?_
 ·exact BQ.bind (Nx hc hs 10) fun r _ ⟨h1,_⟩=>BQ.bind (mF hc (h1.mk2 hs.code) _ hn) fun q _ ⟨k1,k2⟩=>AS ⟨⟨k1,by simp⟩,k2.mk2 hs.code⟩
 ·exact BQ.bind (Nx hc hs 20) fun r _ ⟨h1,_⟩=>BQ.bind (mF hc (h1.mk2 hs.code) _ hn) fun q _ ⟨k1,k2⟩=>BQ.bind (mF hc (k2.mk2 hs.code) 10 hn) fun p _ ⟨p1,p2⟩=>AS ⟨⟨k1,p1⟩,p2.mk2 hs.code⟩
theorem qK:∀k:Nat,k<4->∀i:Nat,i<2^k->∀b:Nat,b<k->(Nt .i64 (i:Int) (Lj .i64 1 (IntKind.wrap IntKind.u64 (b:Int))) !=0)=true∨(0<=wrap .i64 ((i:Int)+(Lj .i64 1 (IntKind.wrap IntKind.u64 (b:Int))))∧wrap .i64 ((i:Int)+(Lj .i64 1 (IntKind.wrap IntKind.u64 (b:Int))))<((2^k:Nat):Int)):=by decide+kernel
theorem vX{n:Nat}{cl:Al}{k b:Nat}(hk:k<4)(ht:cl.Truth.length=2^k)(hb:b<k)(hn:1048577<=n):BQ (fun _=>True) (Uc n cl (b:Int)):=by
 have h16:2^k<=2^4:=Nat.pow_le_pow_right (by omega) (by omega)
 have wb:IntKind.wrap IntKind.u64 (b:Int)=(b:Int):=by
  have:∀b:Nat,b<4->IntKind.wrap IntKind.u64 (b:Int)=(b:Int):=by decide+kernel
  exact this b (by omega)
 rw [Uc,wb,decide_eq_false (by omega),cF]
 refine loop (L:=fun m i (p:Bool×Bool)=>Hd cl (b:Int) _ m p.1 p.2 i) cl.Truth.length (fun _ _=>True) (fun o=>BQ (fun _=>True) o) ?_ ?_ n 0 (false,false) (by omega) (by omega) trivial
 ·intro m i p hi _
  have h8:=qK k hk i (by omega) b hb
  simp only [Hd.eq_2,DE hi,cT,wT i]
  rcases h8 with h8|h8
  ·simp only [h8,cT]
   exact .inl ⟨p,trivial,rfl⟩
  ·obtain⟨y,hy,_⟩:=CY (xs:=cl.Truth) h8.1 (by rw [ht];exact h8.2)
   cases hx:(Nt .i64 (i:Int) (Lj .i64 1 (IntKind.wrap IntKind.u64 (b:Int))) !=0)with
   |true=>simp only [cT];exact .inl ⟨p,trivial,rfl⟩
   |false=>
    simp only [cF,AV hi,hy,Am]
    obtain⟨p1,p2⟩:=p
    cases p1<;>cases p2<;>exact .inl ⟨(_,_),trivial,rfl⟩
 ·intro m p _
  simp only [Hd.eq_2,DX,cF]
  obtain⟨p1,p2⟩:=p
  cases p1<;>cases p2<;>exact AS trivial
theorem tY{j:Nat}(h:j<4):∃x:ByteArray,AI ([(ByteArray.mk #[97]),(ByteArray.mk #[98]),(ByteArray.mk #[99]),(ByteArray.mk #[100])]) (j:Int)=some x∧x.size<=1048576:=by
 match j,h with
 |0,_=>exact⟨_,rfl,by decide⟩
 |1,_=>exact⟨_,rfl,by decide⟩
 |2,_=>exact⟨_,rfl,by decide⟩
 |3,_=>exact⟨_,rfl,by decide⟩
theorem iX{n:Nat}{c:List Int}(hc:Je c){s0:AA}(e0:s0.code_=c){T:List Int}{k:Nat}(hk:k<4)(hT:T.length=2^k){Q:Al×AA->Prop}{k0:List Bz->Int->Int->Int->Option (Al×AA)}
 (h0:∀l i a d,l.length=k->bN l->EB c (AA.mk s0.code_ a d)->BQ Q (k0 l i a d)):∀(m j:Nat) (l:List Bz) (a d:Int),k-j<m->j<=k->l.length=j->bN l->EB c (AA.mk s0.code_ a d)->
 BQ Q (NH n s0 T k0 m l ((2^j:Nat):Int) a d)
 |0,j,l,a,d,hm,_,_,_,_=>by omega
 |m+1,j,l,a,d,hm,hj,hl,hp,hs=>by
  rw [NH.eq_2,hT]
  by_cases q:j<k
  ·have h2:2^j<2^k:=Nat.pow_lt_pow_right (by omega) q
   have h16:2^k<=2^4:=Nat.pow_le_pow_right (by omega) (by omega)
   have hw:wrap .i64 (2*((2^j:Nat):Int))=((2^(j+1):Nat):Int):=by
    rw [Nat.pow_succ]
    generalize 2^j=P at h2 ⊢
    rw [Ah (by omega) (by omega)];omega
   obtain⟨x,hx,hz⟩:=tY (j:=j) (by omega)
   rw [DE h2,cT,hl,hx,Am,hw]
   refine BQ.bind (Nx hc hs 9) fun r _ ⟨h1,_⟩=>?_
   rw [BK (by simp;omega) (by omega),Am]
   refine iX hc e0 hk hT h0 m (j+1) _ _ _ (by omega) (by omega) (by simp;omega) ⟨by simp;omega,fun p hp2=>?_⟩ (h1.mk2 e0)
   rcases List.mem_append.1 hp2 with h|h
   ·exact hp.2 p h
   ·rw [List.mem_singleton.1 h];exact hz
  ·obtain rfl:j=k:=by omega
   rw [DX,cF]
   exact h0 l _ a d hl hp hs
theorem aR{n:Nat}(hn:1048577<=n){c:List Int}(hc:Je c){s0:AA}(e0:s0.code_=c){T:List Int}{k:Nat}(hk:k<4)(hT:T.length=2^k){nm:ByteArray}(hnm:nm.size<=1048576){r33 r41:Int×AA}{ps z:List Bz}(hps:ps.length=k)(hz:bN z):∀(m i:Nat) (l:List BS) (a d:Int),k-i<m->i<=k->l.length<=i->(∀x∈l,jE x)->EB c (AA.mk s0.code_ a d)->
 BQ (fun r=>UA r.1∧EB c r.2) (Km n s0 nm T r33 r41 ps z (fun l144 i148 i150 i151=>(some ((Al.mk nm 1 z l144 T r33.1 r41.1),(AA.mk s0.code_ i150 i151)))) m l (i:Int) a d)
 |0,i,l,a,d,hm,_,_,_,_=>by omega
 |m+1,i,l,a,d,hm,hi,hl,hA,hs=>by
  have h16:2^k<=2^4:=Nat.pow_le_pow_right (by omega) (by omega)
  rw [Km.eq_2,hps]
  by_cases q:i<k
  ·rw [DE q,cT,wS (by omega)]
   refine BQ.bind (vX (cl:=Al.mk nm 1 z [] T r33.1 r41.1) hk hT q hn) fun sn _ _=>Ap (fun _=>?_) fun _=>aR hn hc e0 hk hT hnm hps hz m (i+1) l a d (by omega) (by omega) (by omega) hA hs
   refine BQ.bind (kX hc hs 1 _ _ _ hn) fun r _ ⟨h1,h2⟩=>?_
   rw [BK (by simp;omega) (by omega),Am]
   refine aR hn hc e0 hk hT hnm hps hz m (i+1) _ _ _ (by omega) (by omega) (by simp;omega) (fun x hx=>?_) (h2.mk2 e0)
   rcases List.mem_append.1 hx with h|h
   ·exact hA x h
   ·rw [List.mem_singleton.1 h];exact h1
  ·obtain rfl:i=k:=by omega
   rw [DX,cF]
   exact AS ⟨⟨hnm,hz,⟨by show l.length<=_;omega,hA⟩,by show T.length<=_;omega⟩,hs⟩
theorem jV{n:Nat}{c:List Int}(hc:Je c){s:AA}(hs:EB c s){nm:ByteArray}(hnm:nm.size<=1048576){T:List Int}{k:Nat}(hk:k<4)(hT:T.length=2^k)(hn:1048577<=n):BQ (fun r=>UA r.1∧EB c r.2) (YZ n s nm T):=by
 rw [YZ]
 refine BQ.bind (Nx hc hs 50) fun r _ ⟨h1,_⟩=>BQ.bind (Nx hc (h1.mk2 hs.code) 80) fun q _ ⟨h2,_⟩=>?_
 have:=iX (n:=n) (s0:=s) (Q:=fun r=>UA r.1∧EB c r.2) hc hs.code hk hT (k0:=fun l75 i79 i81 i82=>(Option.bind (Bv l75 ([(Bz.mk ((ByteArray.mk #[121])) 2 0 false)]) 40) fun z106=>(Km n s nm T r q l75 z106 (fun l144 i148 i150 i151=>(some ((Al.mk nm 1 z106 l144 T r.1 q.1),(AA.mk s.code_ i150 i151)))) n (([]:List BS)) 0 i81 i82))) (fun l i a d hl hp hs2=>by
  rw [BK (by simp;omega) (by omega),Am]
  refine aR hn hc hs.code hk hT hnm hl ⟨by simp;omega,fun p hp2=>?_⟩ n 0 [] a d (by omega) (by omega) (by simp) (by simp) hs2
  rcases List.mem_append.1 hp2 with h|h
  ·exact hp.2 p h
  ·rw [List.mem_singleton.1 h];exact(by decide:(ByteArray.mk #[121]).size<=1048576)) n 0 [] q.2.at_ q.2.seed_ (by omega) (by omega) rfl ⟨by simp,by simp⟩ (h2.mk2 hs.code)
 exact this
theorem sN{n:Nat}{c:List Int}(hc:Je c){s:AA}(hs:EB c s){nm:ByteArray}(hnm:nm.size<=1048576)(kd ed:Int)(hn:1048577<=n):BQ (fun r=>UA r.1∧EB c r.2) (SO n s nm kd ed):=by
 have e:=hs.code
 have pins:∀x y:Int,bN [(Bz.mk ((ByteArray.mk #[100])) 1 x false),(Bz.mk ((ByteArray.mk #[99,107])) 1 y true),(Bz.mk ((ByteArray.mk #[113])) 2 0 false)]:=fun x y=>⟨by simp,fun p hp=>by
  rcases List.mem_cons.1 hp with h|hp
  ·rw [h];exact(by decide:(ByteArray.mk #[100]).size<=1048576)
  ·rcases List.mem_cons.1 hp with h|hp
   ·rw [h];exact(by decide:(ByteArray.mk #[99,107]).size<=1048576)
   ·rw [List.mem_singleton.1 hp];exact(by decide:(ByteArray.mk #[113]).size<=1048576)⟩
 rw [SO]
 refine BQ.bind (Nx hc hs 50) fun r1 _ ⟨h1,_⟩=>BQ.bind (Nx hc (h1.mk2 e) 80) fun r2 _ ⟨h2,_⟩=>BQ.bind (Nx hc (h2.mk2 e) 9) fun r3 _ ⟨h3,_⟩=>BQ.bind (Nx hc (h3.mk2 e) 9) fun r4 _ ⟨h4,_⟩=>BQ.bind (kX hc (h4.mk2 e) _ _ _ _ hn) fun r5 _ ⟨a5,h5⟩=>BQ.bind (kX hc (h5.mk2 e) _ _ _ _ hn) fun r6 _ ⟨a6,h6⟩=>BQ.bind (kX hc (h6.mk2 e) _ _ _ _ hn) fun r7 _ ⟨a7,h7⟩=>Ap (fun _=>?_) fun _=>?_
 ·refine BQ.bind (kX hc (h7.mk2 e) _ _ _ _ hn) fun r8 _ ⟨a8,h8⟩=>?_
  rw [BK (by simp) (by omega),Am]
  refine AS ⟨⟨hnm,pins _ _,⟨by simp,fun x hx=>?_⟩,by simp⟩,h8.mk2 e⟩
  simp only [List.cons_append,List.nil_append,List.mem_cons,List.not_mem_nil,or_false]at hx
  rcases hx with h|h|h|h<;>rw [h]<;>assumption
 ·refine AS ⟨⟨hnm,pins _ _,⟨by simp,fun x hx=>?_⟩,by simp⟩,h7.mk2 e⟩
  simp only [List.mem_cons,List.not_mem_nil,or_false]at hx
  rcases hx with h|h|h<;>rw [h]<;>assumption
theorem UA.re{cl:Al}(h:UA cl){T:List Int}(hT:T.length<=1048576):UA (Al.mk cl.Name cl.Kind cl.Pins cl.Arcs T cl.Leak cl.Energy):=⟨h.name,h.pins,h.arcs,hT⟩
theorem vR{n:Nat}{c:List Int}(hc:Je c){s:AA}(hs:EB c s)(hn:1048577<=n):BQ (fun r=>Rn r.1∧EB c r.2) (XG n s):=by
 have e:=hs.code
 rw [XG]
 refine BQ.bind (jV hc hs (k:=1) (by decide) (by decide) (by decide) hn) fun r1 _ ⟨a1,h1⟩=>BQ.bind (jV hc (h1.mk2 e) (k:=1) (by decide) (by decide) (by decide) hn) fun r2 _ ⟨a2,h2⟩=>BQ.bind (jV hc (h2.mk2 e) (k:=2) (by decide) (by decide) (by decide) hn) fun r3 _ ⟨a3,h3⟩=>BQ.bind (jV hc (h3.mk2 e) (k:=2) (by decide) (by decide) (by decide) hn) fun r4 _ ⟨a4,h4⟩=>BQ.bind (jV hc (h4.mk2 e) (k:=3) (by decide) (by decide) (by decide) hn) fun r5 _ ⟨a5,h5⟩=>BQ.bind (sN hc (h5.mk2 e) (by decide) _ _ hn) fun r6 _ ⟨a6,h6⟩=>BQ.bind (sN hc (h6.mk2 e) (by decide) _ _ hn) fun r7 _ ⟨a7,h7⟩=>BQ.bind (sN hc (h7.mk2 e) (by decide) _ _ hn) fun r8 _ ⟨a8,h8⟩=>?_
 have b1:=a1.re (T:=[1,0]) (by decide)
 have b2:=a2.re (T:=[0,1]) (by decide)
 have b3:=a3.re (T:=[1,1,1,0]) (by decide)
 have b4:=a4.re (T:=[0,1,1,0]) (by decide)
 have b5:=a5.re (T:=[0,1,0,1,0,0,1,1]) (by decide)
 refine AS ⟨⟨by simp,fun x hx=>?_⟩,h8.mk2 e⟩
 simp only [List.mem_cons,List.not_mem_nil,or_false]at hx
 rcases hx with h|h|h|h|h|h|h|h<;>rw [h]<;>assumption
theorem La{α:Type}{A:α->Prop}{o:Option α}{f:α->Option Unit}(h:BQ A o)(k:∀v,A v->f v=some ()):Option.bind o f=some ():=by
 obtain⟨v,e,hv⟩:=h
 rw [e];exact k v hv
theorem FY{b:Bool}{x y:Option Unit}(h1:b=true->x=some ())(h2:b=false->y=some ()):(cond b x y)=some ():=by
 cases b
 ·exact h2 rfl
 ·exact h1 rfl
theorem VK{α:Type}{l y:List α}(h:Fg Eq l y):y=l:=by
 apply List.ext_getElem?
 intro i
 by_cases c:i<l.length
 ·have h1:l[i]? =some l[i]:=List.getElem?_eq_getElem c
  have h2:y[i]? =some (y[i]'(by have:=h.1;omega)):=List.getElem?_eq_getElem _
  rw [h1,h2,h.2 i _ _ h1 h2]
 ·rw [List.getElem?_eq_none (by have:=h.1;omega),List.getElem?_eq_none (by omega)]
theorem SM{α:Type}{r:α->α->Prop}{Q R:α->Prop}{l y:List α}(h:Fg r l y)(hl:∀x∈l,Q x)(hr:∀x z,r x z->Q x->R z):∀z∈y,R z:=fun z hz=>by
 obtain⟨i,hi,rfl⟩:=List.mem_iff_getElem.1 hz
 have hi2:i<l.length:=by have:=h.1;omega
 exact hr l[i] y[i] (h.2 i _ _ (List.getElem?_eq_getElem hi2) (List.getElem?_eq_getElem hi)) (hl _ (List.getElem_mem hi2))
def LL(x:Aq):Prop:=x.Name.size<=1000∧1<=x.Nets.length∧x.Nets.length<=5
structure MW(d:AX):Prop where
 inst:d.Instances.length<=6∧∀x∈d.Instances,LL x
 nets:(3<=d.Nets.length∧d.Nets.length<=9)∧∀x∈d.Nets,x.size<=1000
 ports:(3<=d.Ports.length∧d.Ports.length<=5)∧∀p∈d.Ports,p.Name.size<=1000
theorem LL.shp{l y:List Aq}(h:Fg Gh l y)(hl:∀x∈l,LL x):∀z∈y,LL z:=
 SM h hl fun x z hr hx=>⟨by rw [←hr.1];exact hx.1,by rw [hr.2.2.1];exact hx.2.1,by rw [hr.2.2.1];exact hx.2.2⟩
theorem Nj{x y:ByteArray}(h:x.size+y.size<=1000):Nf x y=some (x++y)∧(x++y).size=x.size+y.size:=by
 refine⟨?_,ByteArray.size_append⟩
 unfold Nf
 rw [if_neg (by
  have:IntKind.i64.max=9223372036854775807:=rfl
  rw [this];omega)]
theorem kL{j:Nat}(h:j<12):∃(x:Int) (p:Nat),AI [0,1,2,2,3,4,5,5,5,6,7,1] (j:Int)=some x∧AI [2,2,3,3,4,3,3,3] x=some (p:Int)∧2<=p∧p<=4:=by
 match j,h with
 |0,_=>exact⟨0,2,rfl,rfl,by omega,by omega⟩
 |1,_=>exact⟨1,2,rfl,rfl,by omega,by omega⟩
 |2,_=>exact⟨2,3,rfl,rfl,by omega,by omega⟩
 |3,_=>exact⟨2,3,rfl,rfl,by omega,by omega⟩
 |4,_=>exact⟨3,3,rfl,rfl,by omega,by omega⟩
 |5,_=>exact⟨4,4,rfl,rfl,by omega,by omega⟩
 |6,_=>exact⟨5,3,rfl,rfl,by omega,by omega⟩
 |7,_=>exact⟨5,3,rfl,rfl,by omega,by omega⟩
 |8,_=>exact⟨5,3,rfl,rfl,by omega,by omega⟩
 |9,_=>exact⟨6,3,rfl,rfl,by omega,by omega⟩
 |10,_=>exact⟨7,3,rfl,rfl,by omega,by omega⟩
 |11,_=>exact⟨1,2,rfl,rfl,by omega,by omega⟩
theorem iZ{n:Nat}{c:List Int}(hc:Je c){s0:AA}(e0:s0.code_=c){nets:List ByteArray}{cell:Int}{p:Nat}(hp:AI [2,2,3,3,4,3,3,3] cell=some (p:Int))(hp2:2<=p∧p<=4){k2:Int->Int->Int->ByteArray->Int->List Int->Option Unit}{t:ByteArray}{i2:Int}
 (hk:∀a d l,l.length=p-1->EB c (AA.mk s0.code_ a d)->k2 ((p-1:Nat):Int) a d t i2 l=some ()):∀(m i:Nat) (a d:Int) (l:List Int),p-1-i<m->i<=p-1->l.length=i->EB c (AA.mk s0.code_ a d)->
 Hm n s0 nets cell k2 m (i:Int) a d t i2 l=some ()
 |0,i,a,d,l,hm,_,_,_=>by omega
 |m+1,i,a,d,l,hm,hi,hl,hs=>by
  have wp:wrap .i64 ((p:Int)-1)=((p-1:Nat):Int):=by rw [Ah (by omega) (by omega)];omega
  rw [Hm.eq_2,hp,Am,wp]
  by_cases q:i<p-1
  ·have go1:∀(x:Int) (s':AA),EB c s'->(Option.bind (Bv (([]:List Int)) l 8) fun z=>(Option.bind (Bv z [x] 8) fun z2=>(Hm n s0 nets cell k2 m (wrap .i64 ((i:Int)+1)) s'.at_ s'.seed_ t i2 z2)))=some ():=fun x s' h'=>by
    rw [BK (by simp;omega) (by omega),Am,List.nil_append,BK (by simp;omega) (by omega),Am,wS (by omega)]
    exact iZ hc e0 hp hp2 hk m (i+1) _ _ _ (by omega) (by omega) (by simp;omega) (h'.mk2 e0)
   rw [DE q,cT]
   exact La (Nx hc hs _) fun r1 ⟨h1,_⟩=>La (Nx hc (h1.mk2 e0) 3) fun r2 ⟨h2,_⟩=>FY (fun _=>FY (fun _=>go1 _ _ h2) fun _=>go1 _ _ h2) fun _=>FY (fun _=>go1 _ _ h2) fun _=>go1 _ _ h2
  ·obtain rfl:i=p-1:=by omega
   rw [DX,cF]
   exact hk a d l hl hs
theorem kG{n:Nat}(hn:1048577<=n){c:List Int}(hc:Je c){s0:AA}(e0:s0.code_=c){k0:List Aq->List ByteArray->Int->Int->Int->Option Unit}
 (hk:∀l nets i a d,l.length<=6->nets.length=3+l.length->(∀x∈l,LL x)->(∀x∈nets,ByteArray.size x<=1000)->EB c (AA.mk s0.code_ a d)->k0 l nets i a d=some ()):∀(m k:Nat) (l:List Aq) (nets:List ByteArray) (a d:Int),k<m->l.length+k<=6->nets.length=3+l.length->(∀x∈l,LL x)->(∀x∈nets,ByteArray.size x<=1000)->EB c (AA.mk s0.code_ a d)->
 LZ n s0 k0 m l nets (k:Int) a d=some ()
 |0,k,l,nets,a,d,hm,_,_,_,_,_=>by omega
 |m+1,0,l,nets,a,d,hm,hl,hnl,hI,hN,hs=>by
  rw [LZ.eq_2]
  exact hk l nets _ a d (by omega) hnl hI hN hs
 |m+1,k+1,l,nets,a,d,hm,hl,hnl,hI,hN,hs=>by
  have hp:decide (((k+1:Nat):Int)>0)=true:=decide_eq_true (by omega)
  have w:wrap .i64 (((k+1:Nat):Int)-1)=(k:Int):=by rw [Ah (by omega) (by omega)];omega
  rw [LZ.eq_2,hp,cT]
  refine La (Nx hc hs 12) fun r ⟨h1,r0,r1⟩=>?_
  obtain⟨x,p,ex,ep,p2,p4⟩:=kL (j:=r.1.toNat) (by omega)
  rw [Int.toNat_of_nonneg r0]at ex
  rw [ex,Am]
  refine La (tG (n:=n) (k:=l.length) (by omega) hn) fun t ht=>?_
  obtain⟨c1,c2⟩:=Nj (x:=ByteArray.mk #[117]) (y:=t) (by have:(ByteArray.mk #[117]).size=1:=rfl;omega)
  have z1:(ByteArray.mk #[117]).size=1:=rfl
  have z2:(ByteArray.mk #[110]).size=1:=rfl
  rw [c1,Am]
  refine iZ hc e0 ep ⟨p2,p4⟩ (fun a2 d2 l2 hl2 hs2=>?_) n 0 _ _ [] (by omega) (by omega) rfl (h1.mk2 e0)
  rw [BK (by simp;omega) (by omega),Am,List.nil_append,BK (by simp;omega) (by omega),Am]
  refine La (tG (n:=n) (k:=nets.length) (by omega) hn) fun t2 ht2=>?_
  obtain⟨c3,c4⟩:=Nj (x:=ByteArray.mk #[110]) (y:=t2) (by omega)
  rw [c3,Am,BK (by simp;omega) (by omega),Am,BK (by simp;omega) (by omega),Am,w]
  refine kG hn hc e0 hk m k _ _ _ _ (by omega) (by simp;omega) (by simp;omega) (fun y hy=>?_) (fun y hy=>?_) hs2
  ·rcases List.mem_append.1 hy with h|h
   ·exact hI y h
   ·rw [List.mem_singleton.1 h]
    exact⟨by show(_:ByteArray).size<=1000;rw [c2];omega,by simp,by simp;omega⟩
  ·rcases List.mem_append.1 hy with h|h
   ·exact hN y h
   ·rw [List.mem_singleton.1 h,c4];omega
theorem dR{n:Nat}{c:List Int}(hc:Je c){s0:AA}(e0:s0.code_=c){O:Mo}{wild:Bool}{L:Nat}(hL:L<=6){nets ps:List ByteArray}{k4:Int->Int->Int->List Aq->List ByteArray->List ByteArray->Option Unit}
 (hk:∀i a d l,l.length=L->(∀x∈l,LL x)->EB c (AA.mk s0.code_ a d)->k4 i a d l nets ps=some ()):∀(m i:Nat) (a d:Int) (l:List Aq),L-i<m->i<=L->l.length=L->(∀x∈l,LL x)->EB c (AA.mk s0.code_ a d)->
 Lm n s0 wild O k4 m (i:Int) a d l nets ps=some ()
 |0,i,a,d,l,hm,_,_,_,_=>by omega
 |m+1,i,a,d,l,hm,hi,hl,hI,hs=>by
  rw [Lm.eq_2]
  by_cases q:i<l.length
  ·have hx:=hI _ (List.getElem_mem q)
   rw [DE q,cT,wS (by omega)]
   refine La (Nx hc hs 4) fun r ⟨h1,_⟩=>La (A:=fun _=>True) (Ap (fun _=>?_) fun _=>AS trivial) fun b _=>FY (fun _=>?_) fun _=>dR hc e0 hL hk m (i+1) _ _ l (by omega) (by omega) hl hI (h1.mk2 e0)
   ·rw [AV q,Am]
    exact BQ.bind (A:=fun _=>True) (Ap (fun _=>AS trivial) fun _=>AS trivial) fun _ _ _=>AS trivial
   ·rw [AV q,Am]
    refine La (Nx hc (h1.mk2 e0) _) fun r2 ⟨h2,_⟩=>?_
    rw [show(0:Int)=((0:Nat):Int)from rfl,AV (show 0<l[i].Nets.length by have:=hx.2.1;omega),Am]
    refine O.inn fun y hy=>O.inn fun y2 hy2=>O.inn fun y3 hy3=>?_
    obtain rfl:=VK hy2
    obtain rfl:=VK hy3
    exact dR hc e0 hL hk m (i+1) _ _ y (by omega) (by omega) (by rw [hy.1];exact hl) (LL.shp hy hI) (h2.mk2 e0)
  ·obtain rfl:i=l.length:=by omega
   rw [DX,cF]
   exact hk _ a d l hl hI hs
theorem vM{n:Nat}(hn:1048577<=n){c:List Int}(hc:Je c){s:AA}(hs:EB c s){O:Mo}{most:Int}(hm:2<=most∧most<=6){wild:Bool}{g:AX×AA->Option Unit}(hg:∀d s',MW d->EB c s'->g (d,s')=some ()):fA n O s most wild g=some ():=by
 have e:=hs.code
 have wm:wrap .i64 (most-1)=most-1:=Ah (by omega) (by omega)
 have n3:∀x∈[(ByteArray.mk #[110,99,107]),(ByteArray.mk #[110,97]),(ByteArray.mk #[110,98])],ByteArray.size x<=1000:=by decide
 rw [fA,BK (by simp) (by omega),Am,List.nil_append,wm]
 refine La (Nx hc hs _) fun r ⟨h1,r0,r1⟩=>?_
 have wr:wrap .i64 (2+r.1)=((2+r.1.toNat:Nat):Int):=by rw [Ah (by omega) (by omega)];omega
 rw [wr]
 refine kG hn hc e (fun l nets i a d hl hnl hI hN hs2=>?_) n _ [] _ _ _ (by omega) (by simp;omega) rfl (by simp) n3 (h1.mk2 e)
 have p3:∀x:Int,∀p∈[(CM.mk ((ByteArray.mk #[99,107])) 1 0),(CM.mk ((ByteArray.mk #[97])) 1 1),(CM.mk ((ByteArray.mk #[98])) 1 2),(CM.mk ((ByteArray.mk #[121])) 2 x)],p.Name.size<=1000:=fun x p hp=>by
  simp only [List.mem_cons,List.not_mem_nil,or_false]at hp
  rcases hp with h|h|h|h
  ·rw [h];exact(by decide:(ByteArray.mk #[99,107]).size<=1000)
  ·rw [h];exact(by decide:(ByteArray.mk #[97]).size<=1000)
  ·rw [h];exact(by decide:(ByteArray.mk #[98]).size<=1000)
  ·rw [h];exact(by decide:(ByteArray.mk #[121]).size<=1000)
 refine dR hc e hl (fun i a d l2 hl2 hI2 hs3=>?_) n 0 a d l (by omega) (by omega) rfl hI hs2
 rw [BK (by simp) (by omega),Am,List.nil_append,BK (by simp) (by omega),Am]
 refine La (Nx hc hs3 2) fun q ⟨k1,_⟩=>FY (fun _=>La (Nx hc (k1.mk2 e) _) fun q2 ⟨k2,_⟩=>?_) fun _=>hg _ _ ⟨⟨by show l2.length<=6;omega,hI2⟩,⟨⟨by show 3<=nets.length;omega,by show nets.length<=9;omega⟩,hN⟩,⟨⟨by simp,by simp⟩,p3 _⟩⟩ (k1.mk2 e)
 rw [BK (by simp) (by omega),Am]
 refine hg _ _ ⟨⟨by show l2.length<=6;omega,hI2⟩,⟨⟨by show 3<=nets.length;omega,by show nets.length<=9;omega⟩,hN⟩,⟨⟨by simp,by simp⟩,fun p hp=>?_⟩⟩ (k2.mk2 e)
 rcases List.mem_append.1 hp with h|h
 ·exact p3 _ p h
 ·rw [List.mem_singleton.1 h];exact(by decide:(ByteArray.mk #[122]).size<=1000)
theorem MW.short{d:AX}(h:MW d):∀x∈d.Instances,x.Nets.length<=5:=fun x hx=>(h.inst.2 x hx).2.2
theorem MW.pls{d:AX}(h:MW d):(pls d).length<=78:=Cp h.short (by have:=h.inst.1;omega) (by have:=h.ports.1.2;omega)
theorem lZ{n:Nat}{d:AX}(h:MW d)(hn:1048577<=n):TU n d=some ((pls d).map Gk):=Ph h.short (by have:=h.inst.1;omega) (by have:=h.ports.1.2;omega) hn
theorem oA{n:Nat}{d:AX}(h:MW d)(q:Int)(hn:1048577<=n):∃r,XQ n d q=some r∧r.length<=78:=by
 have hl:=h.pls
 rw [XQ,lZ h hn,Am]
 have e:((pls d).map Gk).length=(pls d).length:=by simp
 refine loop (L:=fun m i s=>Gy q ((pls d).map Gk) (fun l38 i42=>some l38) m s i) ((pls d).map Gk).length (fun i s=>s.length<=i) (fun o=>∃r,o=some r∧r.length<=78) ?_ ?_ n 0 [] (by omega) (by omega) (Nat.le_refl _)
 ·intro m i s hi hs
  refine .inl ?_
  simp only [Gy.eq_2,DE hi,cT,AV hi,Am,CQ,wT i]
  cases c:(((pls d).map Gk)[i].net_==q&& !((pls d).map Gk)[i].drives_)with
  |true=>rw [cT,BK (by simp;omega) (by omega),Am];exact⟨_,by simp;omega,rfl⟩
  |false=>rw [cF];exact⟨s,by omega,rfl⟩
 ·intro m s hs
  simp only [Gy.eq_2,DX,cF]
  exact⟨s,rfl,by omega⟩
def LP(w:BZ):Prop:=(1<=w.Parent.length∧w.Parent.length<=4)∧(1<=w.Res.length∧w.Res.length<=4)∧(1<=w.Cap.length∧w.Cap.length<=4)∧w.Sink.length<=200
theorem LP.shp{l y:List BZ}(h:Fg Gw l y)(hl:∀x∈l,LP x):∀z∈y,LP z:=
 SM h hl fun x z hr hx=>by
  have h1:=hr.1.1;have h2:=hr.2.1.1;have h3:=hr.2.2.1.1;have h4:=hr.2.2.2.1
  obtain⟨⟨a1,a2⟩,⟨b1,b2⟩,⟨c1,c2⟩,d1⟩:=hx
  exact⟨⟨by omega,by omega⟩,⟨by omega,by omega⟩,⟨by omega,by omega⟩,by omega⟩
theorem Sr{n:Nat}{l:List Int}(h:l.length<=1000):PE n l=some l:=by
 rw [PE,BK (by simp;omega) (by omega)];rfl
theorem fU{n:Nat}{c:List Int}(hc:Je c){s0:AA}(e0:s0.code_=c){Q:BZ×AA->Prop}{k0:Int->Int->Int->List Int->List Int->List Int->Option (BZ×AA)}
 (hk:∀i a d (l1 l2 l3:List Int),(1<=l1.length∧l1.length<=4)->l2.length=l1.length->l3.length=l1.length->EB c (AA.mk s0.code_ a d)->BQ Q (k0 i a d l1 l2 l3)):∀(m k:Nat) (a d:Int) (l1 l2 l3:List Int),k<m->1<=l1.length->l1.length+k<=4->l2.length=l1.length->l3.length=l1.length->EB c (AA.mk s0.code_ a d)->
 BQ Q (JE n s0 k0 m (k:Int) a d l1 l2 l3)
 |0,k,a,d,l1,l2,l3,hm,_,_,_,_,_=>by omega
 |m+1,0,a,d,l1,l2,l3,hm,h1,h2,h3,h4,hs=>by
  rw [JE.eq_2]
  exact hk _ a d l1 l2 l3 ⟨h1,by omega⟩ h3 h4 hs
 |m+1,k+1,a,d,l1,l2,l3,hm,h1,h2,h3,h4,hs=>by
  have hp:decide (((k+1:Nat):Int)>0)=true:=decide_eq_true (by omega)
  have w:wrap .i64 (((k+1:Nat):Int)-1)=(k:Int):=by rw [Ah (by omega) (by omega)];omega
  rw [JE.eq_2,hp,cT,Sr (show l1.length<=1000 by omega),Am]
  refine BQ.bind (Nx hc hs _) fun r1 _ ⟨q1,_⟩=>?_
  rw [BK (by simp;omega) (by omega),Am,Sr (show l2.length<=1000 by omega),Am]
  refine BQ.bind (Nx hc (q1.mk2 e0) _) fun r2 _ ⟨q2,_⟩=>?_
  rw [BK (by simp;omega) (by omega),Am,Sr (show l3.length<=1000 by omega),Am]
  refine BQ.bind (Nx hc (q2.mk2 e0) _) fun r3 _ ⟨q3,_⟩=>?_
  rw [BK (by simp;omega) (by omega),Am,w]
  exact fU hc e0 hk m k _ _ _ _ _ (by omega) (by simp) (by simp;omega) (by simp;omega) (by simp;omega) (q3.mk2 e0)
theorem jR{n:Nat}{c:List Int}(hc:Je c){s0:AA}(e0:s0.code_=c){l1 l2 l3:List Int}(h1:1<=l1.length∧l1.length<=4)(h2:l2.length=l1.length)(h3:l3.length=l1.length){L:Nat}(hL:L<=100):∀(m i:Nat) (a d:Int) (l:List Int),L-i<m->i<=L->l.length=L->EB c (AA.mk s0.code_ a d)->
 BQ (fun r=>(LP r.1∧r.1.Sink.length<=100)∧EB c r.2) (JK n s0 l1 (fun i115 i117 i118 l124=>(some ((BZ.mk l1 l2 l3 l124),(AA.mk s0.code_ i117 i118)))) m (i:Int) a d l)
 |0,i,a,d,l,hm,_,_,_=>by omega
 |m+1,i,a,d,l,hm,hi,hl,hs=>by
  rw [JK.eq_2]
  by_cases q:i<l.length
  ·rw [DE q,cT]
   refine BQ.bind (Nx hc hs _) fun r _ ⟨q1,_⟩=>?_
   rw [AV q,Am,wS (by omega)]
   exact jR hc e0 h1 h2 h3 hL m (i+1) _ _ _ (by omega) (by omega) (by rw [List.length_set];exact hl) (q1.mk2 e0)
  ·obtain rfl:i=l.length:=by omega
   rw [DX,cF]
   exact AS ⟨⟨⟨h1,⟨by show 1<=l2.length;omega,by show l2.length<=4;omega⟩,⟨by show 1<=l3.length;omega,by show l3.length<=4;omega⟩,by show l.length<=200;omega⟩,by show l.length<=100;omega⟩,hs⟩
theorem uM{n:Nat}(hn:1048577<=n){c:List Int}(hc:Je c){s:AA}(hs:EB c s){q:Nat}(hq:q<=100):BQ (fun r=>(LP r.1∧r.1.Sink.length<=100)∧EB c r.2) (Wi n s (q:Int)):=by
 have e:=hs.code
 rw [Wi]
 refine BQ.bind (Nx hc hs 6) fun r _ ⟨h1,_⟩=>?_
 rw [Yc,FX (by omega) (by omega),Am,Am]
 refine BQ.bind (Nx hc (h1.mk2 e) 4) fun r2 _ ⟨h2,z0,z1⟩=>?_
 have:=fU (n:=n) (s0:=s) (Q:=fun r=>(LP r.1∧r.1.Sink.length<=100)∧EB c r.2) hc e (k0:=fun i75 i77 i78 l80 l84 l88=>(JK n s l80 (fun i115 i117 i118 l124=>(some ((BZ.mk l80 l84 l88 l124),(AA.mk s.code_ i117 i118)))) n 0 i77 i78 (List.replicate q 0))) (fun i a d l1 l2 l3 k1 k2 k3 hs2=>
  jR hc e k1 k2 k3 hq n 0 a d _ (by omega) (by omega) (by simp) hs2) n r2.1.toNat r2.2.at_ r2.2.seed_ [(-1)] [0] [r.1] (by omega) (by simp) (by simp;omega) rfl rfl (h2.mk2 e)
 rw [Int.toNat_of_nonneg z0]at this
 exact this
structure MY(b:AF):Prop where
 lib:Rn b.Library
 dsg:MW b.Design
 wires:b.Wires.length<=9∧∀w∈b.Wires,LP w
theorem MY.sm{b:AF}(h:MY b):My b:=
 ⟨h.lib,⟨⟨by have:=h.dsg.inst.1;omega,fun x hx=>⟨by have:=(h.dsg.inst.2 x hx).1;omega,by have:=(h.dsg.inst.2 x hx).2.2;omega⟩⟩,⟨by have:=h.dsg.nets.1;omega,fun x hx=>by have:=h.dsg.nets.2 x hx;omega⟩,⟨by have:=h.dsg.ports.1;omega,fun p hp=>by have:=h.dsg.ports.2 p hp;omega⟩⟩,
  ⟨by have:=h.wires.1;omega,fun w hw=>by obtain⟨⟨_,a⟩,⟨_,b⟩,⟨_,c⟩,d⟩:=h.wires.2 w hw;exact⟨⟨⟨by omega,by omega⟩,by omega⟩,by omega⟩⟩⟩
theorem iS{n:Nat}(hn:1048577<=n){c:List Int}(hc:Je c){s0:AA}(e0:s0.code_=c){r38:AX×AA}(hd:MW r38.1){k0:List BZ->Int->Int->Int->Option Unit}
 (hk:∀l i a d,l.length=r38.1.Nets.length->(∀w∈l,LP w∧w.Sink.length<=100)->EB c (AA.mk s0.code_ a d)->k0 l i a d=some ()):∀(m i:Nat) (l:List BZ) (a d:Int),r38.1.Nets.length-i<m->i<=r38.1.Nets.length->l.length=i->(∀w∈l,LP w∧w.Sink.length<=100)->EB c (AA.mk s0.code_ a d)->
 NL n s0 r38 k0 m l (i:Int) a d=some ()
 |0,i,l,a,d,hm,_,_,_,_=>by omega
 |m+1,i,l,a,d,hm,hi,hl,hw,hs=>by
  have hb:=hd.nets.1
  rw [NL.eq_2]
  by_cases q:i<r38.1.Nets.length
  ·obtain⟨r,f,hr⟩:=oA (n:=n) hd (i:Int) hn
   rw [DE q,cT,f,Am]
   refine La (uM hn hc hs (by omega)) fun r2 ⟨h1,h2⟩=>?_
   rw [BK (by simp;omega) (by omega),Am,wS (by omega)]
   refine iS hn hc e0 hd hk m (i+1) _ _ _ (by omega) (by omega) (by simp;omega) (fun w h=>?_) (h2.mk2 e0)
   rcases List.mem_append.1 h with h|h
   ·exact hw w h
   ·rw [List.mem_singleton.1 h];exact h1
  ·obtain rfl:i=r38.1.Nets.length:=by omega
   rw [DX,cF]
   exact hk l _ a d hl hw hs
theorem sC{n:Nat}(hn:1048577<=n){c:List Int}(hc:Je c){s:AA}(hs:EB c s){O:Mo}{most:Int}(hm:2<=most∧most<=6){wild:Bool}{g:AF×AA->Option Unit}(hg:∀b s',MY b->b.Wires.length=b.Design.Nets.length->(∀w∈b.Wires,w.Sink.length<=100)->EB c s'->g (b,s')=some ()):XO n O s most wild g=some ():=by
 have e:=hs.code
 rw [XO]
 refine La (vR hc hs hn) fun r ⟨h1,h2⟩=>vM hn hc (h2.mk2 e) hm fun d s' hd hs'=>?_
 have hb:=hd.nets.1
 exact iS (r38:=(d,s')) hn hc e hd (fun l i a d2 hl hw hs2=>hg _ _ ⟨h1,hd,by show l.length<=9;rw [hl];exact hb.2,fun w h=>(hw w h).1⟩ hl (fun w h=>(hw w h).2) hs2) n 0 [] _ _ (by show d.Nets.length-0<n;omega) (by omega) rfl (by simp) (hs'.mk2 e)
theorem qY{n:Nat}(hn:1048577<=n){c:List Int}(hc:Je c){s:AA}(hs:EB c s){O:Mo}{g:AF×AA->Option Unit}(hg:∀b s',MY b->EB c s'->g (b,s')=some ()):XJ n O s g=some ():=by
 have e:=hs.code
 rw [XJ]
 refine La (Nx hc hs 3) fun r ⟨h1,_⟩=>sC hn hc (h1.mk2 e) (by omega) fun b s' hb hw hk hs'=>La (Nx hc (hs'.mk2 e) _) fun r2 ⟨h2,z0,z1⟩=>La (Nx hc (h2.mk2 e) 20) fun r3 ⟨h3,_⟩=>?_
 have wl:=hb.wires.1
 have nl:=hb.dsg.nets.1
 have z1:r2.1<(b.Wires.length:Int):=by
  have z1:r2.1<(b.Wires.length:Int)∨r2.1=0∧(b.Wires.length:Int)<=1:=z1
  omega
 obtain⟨k,ek⟩:=Int.eq_ofNat_of_zero_le z0
 have ek:r2.1=(k:Int):=ek
 have kl:k<b.Wires.length:=by omega
 have gk:AI b.Wires r2.1=some b.Wires[k]:=by rw [ek];exact AV kl
 have wk:=hb.wires.2 _ (List.getElem_mem kl)
 have fin:=fun(y:List BZ) (hy:Fg Gw b.Wires y)=>(⟨hb.lib,hb.dsg,⟨by show y.length<=9;rw [hy.1];exact wl,LP.shp hy hb.wires.2⟩⟩:MY (AF.mk b.Library b.Design y))
 refine FY (fun _=>?_) fun _=>FY (fun _=>?_) fun _=>FY (fun _=>?_) fun _=>FY (fun _=>?_) fun _=>FY (fun _=>?_) fun _=>FY (fun _=>?_) fun _=>hg _ _ hb (h3.mk2 e)
 ·rw [show LI b.Wires 1 (b.Wires.length:Int)=some ((b.Wires.take (b.Wires.length:Int).toNat).drop (1:Int).toNat)from if_pos ⟨by omega,by omega,by omega⟩,Am]
  exact hg _ _ ⟨hb.lib,hb.dsg,⟨by simp;omega,fun w hw2=>hb.wires.2 w (List.mem_of_mem_take (List.mem_of_mem_drop hw2))⟩⟩ (h3.mk2 e)
 ·have sl:=wk.2.2.2
  simp only [gk,Am,Sr (n:=n) (show b.Wires[k].Sink.length<=1000 by omega),BK (show b.Wires[k].Sink.length+[(0:Int)].length<=16777216 by simp;omega) (show 8<=1048576 by omega)]
  refine hg _ _ ⟨hb.lib,hb.dsg,⟨by rw [List.length_set];exact wl,fun w hw2=>?_⟩⟩ (h3.mk2 e)
  have hk1:=hk _ (List.getElem_mem kl)
  rcases List.mem_or_eq_of_mem_set hw2 with h|h
  ·exact hb.wires.2 w h
  ·rw [h];exact⟨wk.1,wk.2.1,wk.2.2.1,by rw [List.length_append];simp;omega⟩
 ·obtain⟨⟨p1,p2⟩,⟨r1,r2'⟩,⟨c1,c2⟩,s1⟩:=wk
  rw [gk,Am,show(0:Int)=((0:Nat):Int)from rfl,AV (show 0<b.Wires[k].Res.length by omega),Am]
  exact O.inn fun y hy=>hg _ _ (fin y hy) (h3.mk2 e)
 ·obtain⟨⟨p1,p2⟩,⟨r1,r2'⟩,⟨c1,c2⟩,s1⟩:=wk
  rw [gk,Am]
  refine La (Nx hc (h3.mk2 e) 3) fun r4 ⟨h4,y0,y1⟩=>?_
  obtain⟨v,hv,_⟩:=CY (xs:=[(-1:Int),500,501]) y0 (by simp;omega)
  rw [hv,Am,show(0:Int)=((0:Nat):Int)from rfl,AV (show 0<b.Wires[k].Cap.length by omega),Am]
  exact O.inn fun y hy=>hg _ _ (fin y hy) (h4.mk2 e)
 ·obtain⟨⟨p1,p2⟩,⟨r1,r2'⟩,⟨c1,c2⟩,s1⟩:=wk
  rw [gk,Am,Am]
  refine La (Nx hc (h3.mk2 e) 5) fun r4 ⟨h4,_⟩=>?_
  have w1:wrap .i64 ((b.Wires[k].Parent.length:Int)-1)=((b.Wires[k].Parent.length-1:Nat):Int):=by rw [Ah (by omega) (by omega)];omega
  rw [w1,AV (show b.Wires[k].Parent.length-1<b.Wires[k].Parent.length by omega),Am]
  exact O.inn fun y hy=>hg _ _ (fin y hy) (h4.mk2 e)
 ·rw [show(0:Int)=((0:Nat):Int)from rfl,AV (show 0<b.Design.Ports.length by have:=hb.dsg.ports.1;omega),Am]
  refine O.inn fun y1 hy1=>O.inn fun y2 hy2=>O.inn fun y3 hy3=>?_
  obtain rfl:=VK hy2
  exact hg _ _ ⟨hb.lib,⟨⟨by show y1.length<=6;rw [hy1.1];exact hb.dsg.inst.1,LL.shp hy1 hb.dsg.inst.2⟩,hb.dsg.nets,⟨by show 3<=y3.length∧y3.length<=5;rw [hy3.1];exact hb.dsg.ports.1,SM hy3 hb.dsg.ports.2 fun x z hr hx=>by rw [←hr.1];exact hx⟩⟩,hb.wires⟩ (h3.mk2 e)
theorem vO{n:Nat}(hn:1048577<=n){c:List Int}(hc:Je c){s:AA}(hs:EB c s){O:Mo}{g:AF×AA->Option Unit}(hg:∀b s',MY b->EB c s'->g (b,s')=some ()):WH n O s g=some ():=by
 have e:=hs.code
 rw [WH]
 refine La (Nx hc hs 12) fun r ⟨h1,_⟩=>FY (fun _=>qY hn hc (h1.mk2 e) fun b s' hb hs'=>hg _ _ hb (hs'.mk2 e)) fun _=>FY (fun _=>FY (fun _=>?_) fun _=>?_) fun _=>FY (fun _=>?_) fun _=>?_
 all_goals exact sC hn hc (h1.mk2 e) (by omega) fun b s' hb _ _ hs'=>hg _ _ hb (hs'.mk2 e)
theorem jM{n:Nat}{c:List Int}(hc:Je c){s0:AA}(e0:s0.code_=c){lk:List AU}(hlk:lk.length<=5128){r90:Int×AA}(h90:0<=r90.1∧r90.1<8):∀(m i:Nat) (l:List Int) (a d:Int),lk.length-i<m->l.length<=i->i<=6000->EB c (AA.mk s0.code_ a d)->
 BQ (fun r=>r.1.length<=6001∧EB c r.2) (Kw n s0 lk r90 (fun l110 i114 i116 i117=>(Option.bind (EK n ((AA.mk s0.code_ i116 i117)) 12) fun r121=>(cond (r121.1==0) (Option.bind (EK n ((AA.mk s0.code_ r121.2.at_ r121.2.seed_)) 2) fun r129=>(Option.bind (Bv l110 ([wrap .i64 (((lk.length:Int))*r129.1)]) 8) fun z149=>(some (z149,(AA.mk s0.code_ r129.2.at_ r129.2.seed_))))) (some (l110,(AA.mk s0.code_ r121.2.at_ r121.2.seed_)))))) m l (i:Int) a d)
 |0,i,l,a,d,hm,_,_,_=>by omega
 |m+1,i,l,a,d,hm,hl,hi,hs=>by
  rw [Kw.eq_2]
  by_cases q:i<lk.length
  ·have w9:wrap .i64 (1+r90.1)=1+r90.1:=Ah (by omega) (by omega)
   rw [DE q,cT,BK (by simp;omega) (by omega),Am,w9]
   refine BQ.bind (Nx hc hs _) fun r _ ⟨h1,z0,z1⟩=>?_
   have z2:r.1<=8:=by omega
   have wi:wrap .i64 ((i:Int)+(wrap .i64 (1+r.1)))=((i+1+r.1.toNat:Nat):Int):=by
    rw [Ah (x:=1+r.1) (by omega) (by omega),Ah (by omega) (by omega)];omega
   rw [wi]
   exact jM hc e0 hlk h90 m _ _ _ _ (by omega) (by simp;omega) (by omega) (h1.mk2 e0)
  ·rw [show decide ((i:Int)<(lk.length:Int))=false from decide_eq_false (by omega),cF]
   refine BQ.bind (Nx hc hs 12) fun r _ ⟨h1,_⟩=>Ap (fun _=>?_) fun _=>AS ⟨by show l.length<=6001;omega,h1.mk2 e0⟩
   refine BQ.bind (Nx hc (h1.mk2 e0) 2) fun r2 _ ⟨h2,_⟩=>?_
   rw [BK (by simp;omega) (by omega),Am]
   exact AS ⟨by simp;omega,h2.mk2 e0⟩
theorem vL{n:Nat}(hn:1048577<=n){c:List Int}(hc:Je c){s:AA}(hs:EB c s){b:AF}(hb:My b):BQ (fun r=>r.1.length<=6001∧EB c r.2) (Rz n s b):=by
 have e:=hs.code
 obtain⟨v,e1,hv⟩:=XP (n:=n) hb hn
 rw [Rz,e1,Am]
 refine BQ.bind (A:=fun x=>EB c (AA.mk s.code_ x.2.1 x.2.2)∧(x.1=false->v=true)) (Ap (fun _=>AS ⟨hs,fun h=>by cases h⟩) fun q=>BQ.bind (Nx hc hs 3) fun r _ ⟨h1,_⟩=>AS ⟨h1.mk2 e,fun _=>by cases v<;>simp_all⟩) fun x _ ⟨hx,hv2⟩=>Ap (fun _=>AS ⟨by simp,hx⟩) fun q=>?_
 have vb:=hv.1 (hv2 q)
 rw [Wv vb hn,Am]
 refine BQ.bind (Nx hc hx 8) fun r _ ⟨h1,z0,z1⟩=>BQ.bind (Nx hc (h1.mk2 e) _) fun r2 _ ⟨h2,y0,y1⟩=>?_
 have w9:wrap .i64 (1+r.1)=1+r.1:=Ah (by omega) (by omega)
 rw [w9]at y1
 have:=jM (n:=n) hc e (Ie vb) (r90:=r) ⟨z0,by omega⟩ n r2.1.toNat [] r2.2.at_ r2.2.seed_ (by have:=Ie vb;omega) (by simp) (by omega) (h2.mk2 e)
 rw [Int.toNat_of_nonneg y0]at this
 exact this
def eE(x:AU):AU:=⟨x.To,x.From,x.Kind,x.Index⟩
def RU(L:List AU):List AU:=L.map eE
theorem HQ(L:List AU):(RU L).length=L.length:=List.length_map ..
theorem Xo(L:List AU)(i:Int):AI (RU L) i=(AI L i).map eE:=by
 unfold AI RU;split<;>simp
theorem jW{L:List AU}{lv:List Bool}{K K':Bool->Int->List Bool->Option (List Bool)}(hK:∀q i l,K q i l=K' q i l):∀(m:Nat) (q:Bool) (i:Int) (l:List Bool),Ez L lv false K m q i l=Ez (RU L) lv true K' m q i l
 |0,_,_,_=>rfl
 |m+1,q,i,l=>by
  simp only [Ez.eq_2,HQ,Xo,Bool.not_false,Bool.not_true,cT,cF,hK]
  cases AI L i with
  |none=>rfl
  |some x=>simp only [Option.map_some,Am,eE,jW hK m]
theorem fE{n:Nat}{L:List AU}{lv:List Bool}:∀(m:Nat) (q:Bool) (l:List Bool),GU n L lv false (fun _ l34=>(some l34)) m q l=GU n (RU L) lv true (fun _ l34=>(some l34)) m q l
 |0,_,_=>rfl
 |m+1,q,l=>by
  simp only [GU.eq_2]
  rw [jW (K':=fun q38 _ l40=>(GU n (RU L) lv true (fun q33 l34=>(some l34)) m q38 l40)) fun q i l=>fE m q l]
theorem uN{n:Nat}{L:List AU}{lv:List Bool}{N s:Nat}(hL:QW L N)(hlv:lv.length=L.length)(hl:L.length<=10000)(hN:N<=1000)(hs:s<N)(hn:1048577<=n):
 ∃out,ZZ n (N:Int) L lv (s:Int) false=some out∧RH (RU L) lv (fun u=>u=(s:Int)) N out:=by
 have hg:∀k (h:k<(RU L).length),(RU L)[k]=eE (L[k]'(by rw [HQ]at h;exact h)):=fun k h=>List.getElem_map _
 have:=tO (n:=n) (L:=RU L) (lv:=lv) (N:=N) (s:=s) ⟨fun k h=>by rw [hg k h];exact hL.to_ k (by rw [HQ]at h;exact h),fun k h=>by rw [hg k h];exact hL.from_ k (by rw [HQ]at h;exact h)⟩ (by rw [HQ];exact hlv) (by rw [HQ];exact hl) hN hs hn
 unfold ZZ at this ⊢
 simp only [fE]
 exact this
theorem Hf.trans{L:List AU}{lv:List Bool}{u v:Int}{w:Int}(h1:Hf L lv (fun x=>x=u) v)(h2:Hf L lv (fun x=>x=v) w):Hf L lv (fun x=>x=u) w:=by
 induction h2 with
 |src e=>have e:_=v:=e;subst e;exact h1
 |step _ e ih=>exact .step ih e
theorem Ed.rv{L:List AU}{lv:List Bool}{u w:Int}:Ed (RU L) lv u w↔Ed L lv w u:=by
 constructor
 ·rintro ⟨k,hk,h1,h2,h3⟩
  have hk':k<L.length:=by rw [HQ]at hk;exact hk
  have e:(RU L)[k]=eE L[k]:=List.getElem_map _
  rw [e]at h2 h3
  exact⟨k,hk',h1,h3,h2⟩
 ·rintro ⟨k,hk,h1,h2,h3⟩
  have hk':k<(RU L).length:=by rw [HQ];exact hk
  have e:(RU L)[k]=eE L[k]:=List.getElem_map _
  exact⟨k,hk',h1,by rw [e];exact h3,by rw [e];exact h2⟩
theorem Hf.one{L:List AU}{lv:List Bool}{u w:Int}(e:Ed L lv u w):Hf L lv (fun x=>x=u) w:=.step (.src rfl) e
theorem Hf.rv{L:List AU}{lv:List Bool}{v w:Int}(h:Hf (RU L) lv (fun x=>x=v) w):Hf L lv (fun x=>x=w) v:=by
 induction h with
 |src e=>have e:_=v:=e;subst e;exact .src rfl
 |step _ e ih=>exact Hf.trans (Hf.one (Ed.rv.1 e)) ih
theorem Hf.vr{L:List AU}{lv:List Bool}{v w:Int}(h:Hf L lv (fun x=>x=w) v):Hf (RU L) lv (fun x=>x=v) w:=by
 induction h with
 |src e=>have e:_=w:=e;subst e;exact .src rfl
 |step _ e ih=>exact Hf.trans (Hf.one (Ed.rv.2 e)) ih
theorem Hf.first{L:List AU}{lv:List Bool}{u w:Int}(h:Hf L lv (fun x=>x=u) w)(ne:u≠w):∃x,Ed L lv u x∧Hf L lv (fun y=>y=x) w:=by
 induction h with
 |src e=>exact absurd (show _=u from e).symm ne
 |@step a b h1 e ih=>
  by_cases c:u=a
  ·subst c;exact⟨_,e,.src rfl⟩
  ·obtain⟨x,e1,e2⟩:=ih c
   exact⟨x,e1,.step e2 e⟩
theorem Tg{L:List AU}{lv:List Bool}(hw:∀k (h:k<L.length) j (g:j<L.length),L[k].To=L[j].From->L[k].Kind=1∨L[j].Kind=1){v w:Int}(ne:v≠w)(h1:Hf L lv (fun x=>x=v) w)(h2:Hf L lv (fun x=>x=w) v):
 ∃k,∃h:k<L.length,gb lv k=true∧L[k].Kind=1∧(Hf L lv (fun x=>x=v) L[k].From∧Hf L lv (fun x=>x=L[k].From) v)∧Hf L lv (fun x=>x=v) L[k].To∧Hf L lv (fun x=>x=L[k].To) v:=by
 cases h1 with
 |src e=>exact absurd (show w=v from e).symm ne
 |@step a _ g e=>
  have e':=e
  obtain⟨k,hk,q1,q2,q3⟩:=e
  obtain⟨x,e2,g2⟩:=Hf.first h2 fun c=>ne c.symm
  have e2':=e2
  obtain⟨j,hj,r1,r2,r3⟩:=e2
  have hva:Hf L lv (fun x=>x=v) w:=.step g e'
  rcases hw k hk j hj (by rw [q3,r2])with c|c
  ·exact⟨k,hk,q1,c,by rw [q2];exact⟨g,Hf.trans (Hf.one e') h2⟩,by rw [q3];exact⟨hva,h2⟩⟩
  ·exact⟨j,hj,r1,c,by rw [r2];exact⟨hva,h2⟩,by rw [r3];exact⟨.step hva e2',g2⟩⟩
theorem tL{n:Nat}{l:List Int}(h:Se l)(x:Int)(hn:1048577<=n):∃(i:Nat) (a b:Int),Yw n l x=some ((i:Int),a,b)∧((i<l.length∧a=1∧b=0)∨(i+1<l.length∧(1<=a∧a<=100000)∧(1<=b∧b<=100000))):=by
 have h1:=h.1
 have ci:=Qo h x
 have w1:wrap .i64 ((l.length:Int)-1)=((l.length-1:Nat):Int):=by rw [Ah (by omega) (by omega)];omega
 have g0:AI l 0=some (gd l 0):=gI (l:=l) (i:=0) (by omega)
 have gL:AI l ((l.length-1:Nat):Int)=some (gd l (l.length-1)):=gI (by omega)
 rw [Yw,g0,Am,w1,gL,Am]
 have key:∀(m i:Nat),i<l.length->i<m->(∀k,i<k->k<l.length->CU l x<gd l k)->∃(j:Nat) (a b:Int),GV l x (gd l 0) (gd l (l.length-1)) (fun i23=>(some (0,1,0))) m (i:Int)=some ((j:Int),a,b)∧((j<l.length∧a=1∧b=0)∨(j+1<l.length∧(1<=a∧a<=100000)∧(1<=b∧b<=100000))):=by
  intro m
  induction m with
  |zero=>intro i _ h;omega
  |succ m ih=>
   intro i hi hm hk
   have d0:decide ((i:Int)>=0)=true:=decide_eq_true (by omega)
   rw [GV.eq_2,d0,cT,gI hi,Am,show min (max x (gd l 0)) (gd l (l.length-1))=CU l x from rfl]
   by_cases c:CU l x=gd l i
   ·rw [show(CU l x==gd l i)=true from beq_iff_eq.2 c,cT]
    exact⟨i,1,0,rfl,.inl ⟨hi,rfl,rfl⟩⟩
   ·rw [show(CU l x==gd l i)=false from beq_eq_false_iff_ne.2 c,cF,Am]
    have r0:=h.2.1 i hi
    by_cases c2:CU l x>gd l i
    ·have hl:i+1<l.length:=by
      apply Nat.lt_of_not_le
      intro q
      have:i=l.length-1:=by omega
      subst this;omega
     have r1:=h.2.1 (i+1) hl
     have hc:=hk (i+1) (by omega) hl
     rw [decide_eq_true c2,cT,wS (by omega),gI hl,Am,Am,Ah (by omega) (by omega),Ah (by omega) (by omega)]
     exact⟨i,_,_,rfl,.inr ⟨hl,by omega,by omega⟩⟩
    ·have hp:0<i:=by
      apply Nat.pos_of_ne_zero
      intro q;subst q;omega
     have wi:wrap .i64 ((i:Int)-1)=((i-1:Nat):Int):=by rw [Ah (by omega) (by omega)];omega
     rw [decide_eq_false c2,cF,wi]
     refine ih (i-1) (by omega) (by omega) fun k hk1 hk2=>?_
     by_cases q:k=i
     ·subst q;omega
     ·exact hk k (by omega) hk2
 exact key n (l.length-1) (by omega) (by omega) fun k h1 h2=>by omega
theorem lE{n:Nat}{s D mode:Int}(h:D≠0):∃r,Mr n s D mode=some r:=by
 have hz:(D==0)=false:=by rw [beq_eq_false_iff_ne];exact h
 rw [Mr,hz,cF,cF]
 cases(decide (Int.tmod s D<0))&&((mode==0))<;>cases(decide (Int.tmod s D>0))&&((mode==1))<;>exact⟨_,rfl⟩
theorem lG{t:BF}(v:VT t){i k u q:Nat}{w:Int}{U V:Int}{A:Int->Option Int}{B:Option Int}(hw:w>0->i+u<t.Slews.length∧k+q<t.Loads.length)(hU:U=(u:Int))(hV:V=(q:Int))(hq:q<=1)(hA:∀x,BQ (fun _=>True) (A x))(hB:BQ (fun _=>True) B):
 BQ (fun _=>True) (cond (decide (w>0)) (Option.bind (AI t.Values (wrap .i64 (wrap .i64 (wrap .i64 (wrap .i64 ((i:Int)+U)*(t.Loads.length:Int))+(k:Int))+V))) A) B):=by
 have S4:=v.1.1.1.2
 have L4:=v.1.2.1.2
 have hlen:=v.2.1
 subst hU hV
 refine Ap (fun c=>?_) fun _=>hB
 obtain⟨h1,h2⟩:=hw (of_decide_eq_true c)
 have hb:=XN (S:=t.Slews.length) (L:=t.Loads.length) (i:=i+u) (k:=k+q) h1 h2
 rw [jF (by omega) (by omega) (by omega) hq,gI (by omega),Am]
 exact hA _
theorem QE{a c:Int}(h:wrap .i64 (a*c)>0):a≠0∧c≠0:=by
 constructor
 ·intro e;subst e;rw [Int.zero_mul]at h;exact absurd h (by decide)
 ·intro e;subst e;rw [Int.mul_zero]at h;exact absurd h (by decide)
structure pU(l:List Int)(i:Nat)(a b:Int):Prop where
 lo:i<l.length
 hi:b≠0->i+1<l.length
theorem gG{t:BF}(v:VT t){i k:Nat}{a b c d:Int}(h1:pU t.Slews i a b)(h2:pU t.Loads k c d){u:Int}(hu:u=0∨u=1){K:Int->Int->Option Int}(hK:∀s,BQ (fun _=>True) (K s 2))(m:Nat)(s:Int):BQ (fun _=>True) (Dt t ((i:Int),a,b) ((k:Int),c,d) u K (m+3) s 0):=by
 have w01:wrap .i64 (0+1)=1:=rfl
 have w12:wrap .i64 (1+1)=2:=rfl
 have l02:decide ((0:Int)<2)=true:=rfl
 have l12:decide ((1:Int)<2)=true:=rfl
 have l22:decide ((2:Int)<2)=false:=rfl
 have b00:((0:Int)==0)=true:=rfl
 have b10:((1:Int)==0)=false:=rfl
 have b01:((0:Int)==1)=false:=rfl
 have b11:((1:Int)==1)=true:=rfl
 have s3:∀s,BQ (fun _=>True) (Dt t ((i:Int),a,b) ((k:Int),c,d) u K (m+1) s 2):=fun s=>by
  rw [Dt.eq_2,l22,cF];exact hK s
 have s2:∀s,BQ (fun _=>True) (Dt t ((i:Int),a,b) ((k:Int),c,d) u K (m+2) s 1):=fun s=>by
  rw [Dt.eq_2,l12,cT,b10,cF,cF,w12]
  rcases hu with rfl|rfl
  ·rw [b01,cF]
   exact lG v (u:=0) (q:=1) (fun h=>⟨h1.lo,h2.hi (QE h).2⟩) rfl rfl (by omega) (fun _=>s3 _) (s3 _)
  ·rw [b11,cT]
   exact lG v (u:=1) (q:=1) (fun h=>⟨h1.hi (QE h).1,h2.hi (QE h).2⟩) rfl rfl (by omega) (fun _=>s3 _) (s3 _)
 rw [Dt.eq_2,l02,cT,b00,cT,cT,w01]
 rcases hu with rfl|rfl
 ·rw [b01,cF]
  exact lG v (u:=0) (q:=0) (fun h=>⟨h1.lo,h2.lo⟩) rfl rfl (by omega) (fun _=>s2 _) (s2 _)
 ·rw [b11,cT]
  exact lG v (u:=1) (q:=0) (fun h=>⟨h1.hi (QE h).1,h2.lo⟩) rfl rfl (by omega) (fun _=>s2 _) (s2 _)
theorem UJ{l:List Int}{i:Nat}{a b:Int}(h:(i<l.length∧a=1∧b=0)∨(i+1<l.length∧(1<=a∧a<=100000)∧(1<=b∧b<=100000))):pU l i a b∧0<wrap .i64 (a+b)∧wrap .i64 (a+b)<=200000:=by
 have e:wrap .i64 (a+b)=a+b:=Ah (by omega) (by omega)
 rw [e]
 rcases h with ⟨h,rfl,rfl⟩|⟨h,h1,h2⟩
 ·exact⟨⟨h,fun c=>absurd rfl c⟩,by omega,by omega⟩
 ·exact⟨⟨by omega,fun _=>h⟩,by omega,by omega⟩
theorem tT{n:Nat}{t:BF}(v:VT t)(x y mode:Int)(hn:1048577<=n):BQ (fun _=>True) (YL n t x y mode):=by
 obtain⟨i,a,b,e1,h1⟩:=tL (n:=n) v.1.1 x hn
 obtain⟨k,c,d,e2,h2⟩:=tL (n:=n) v.1.2 y hn
 obtain⟨o1,p1,p2⟩:=UJ h1
 obtain⟨o2,q1,q2⟩:=UJ h2
 obtain⟨m,rfl⟩:∃m,n=m+3:=⟨n-3,by omega⟩
 rw [YL,e1,e2,Am,Am]
 have w01:wrap .i64 (0+1)=1:=rfl
 have w12:wrap .i64 (1+1)=2:=rfl
 have l02:decide ((0:Int)<2)=true:=rfl
 have l12:decide ((1:Int)<2)=true:=rfl
 have l22:decide ((2:Int)<2)=false:=rfl
 rw [Gt.eq_2,l02,cT,w01]
 refine gG v o1 o2 (.inl rfl) (fun s=>?_) m 0
 rw [Gt.eq_2,l12,cT,w12]
 refine gG v o1 o2 (.inr rfl) (fun s=>?_) m _
 have em:=mw (a:=wrap .i64 (a+b)) (c:=wrap .i64 (c+d)) (by omega) (by omega)
 rw [Gt.eq_2,l22,cF]
 dsimp only
 rw [em]
 have:=Int.mul_pos p1 q1
 obtain⟨r,er⟩:=lE (n:=m+3) (s:=s) (D:=wrap .i64 (a+b)*wrap .i64 (c+d)) (mode:=mode) (by omega)
 rw [er]
 exact AS trivial
theorem tB{n:Nat}{b:AF}(v:Bf b){i:Nat}(hi:i<b.Wires.length)(hn:1048577<=n):BQ (fun r=>r.length=b.Wires[i].Parent.length) (Tx n b (i:Int)):=by
 have vw:=v.wire i hi
 have hm:=vw.many
 rw [Tx,AV hi,Am]
 refine BQ.bind (tW v hi hn) fun ls _ hl=>?_
 refine PQ (L:=fun m j s=>JI b.Wires[i] ls _ m s j) 1 ls.length (fun j s=>s.length=j) ?_ ?_ n [0] (by omega) (by omega) rfl
 ·intro m j s h1 hj hs
  have ht:=vw.tree j h1 (by omega)
  obtain⟨a,ea⟩:=Ek (t:=s) ht.1 (by omega)
  simp only [JI.eq_2,DE hj,cT,gI (show j<b.Wires[i].Parent.length by omega),Am,ea,gI (show j<b.Wires[i].Res.length by have:=vw.res;omega),gI hj,wT j]
  rw [BK (by simp;omega) (by omega),Am]
  exact⟨_,by simp;omega,rfl⟩
 ·intro m s hs
  simp only [JI.eq_2,DX,cF]
  exact⟨s,rfl,by omega⟩
theorem YF{b:AF}(v:Bf b){i:Nat}(hi:i<b.Wires.length):b.Wires[i].Sink.length<=78:=by
 have vd:=v.design
 have hl:=Cp vd.short vd.few.1 vd.few.2.2
 have h:snk b.Design (i:Int)<=78:=Nat.le_trans List.countP_le_length hl
 have:=(v.wire i hi).sink
 omega
theorem vP{n:Nat}{b:AF}(v:Bf b){i:Nat}(hi:i<b.Wires.length){mode:Int}(hn:1048577<=n):BQ (fun r=>r.length=b.Wires[i].Sink.length) (XD n b (i:Int) mode):=by
 have vw:=v.wire i hi
 have hm:=vw.many
 have hf:=YF v hi
 rw [XD]
 refine BQ.bind (tB v hi hn) fun ds _ hl=>?_
 refine GJ (L:=fun m j s=>Iz n b (i:Int) mode ds _ m s j) b.Wires[i].Sink.length (fun j s=>s.length=j) ?_ ?_ n [] (by omega) rfl
 ·intro m j s hj hs
  have hk:=vw.sinks j hj
  obtain⟨a,ea⟩:=Ek (t:=ds) hk.1 (by omega)
  obtain⟨r,er⟩:=lE (n:=n) (s:=a) (D:=1000) (mode:=mode) (by omega)
  simp only [Iz.eq_2,AV hi,Am,DE hj,cT,gI hj,ea,er,wT j]
  rw [BK (by simp;omega) (by omega),Am]
  exact⟨_,by simp;omega,rfl⟩
 ·intro m s hs
  simp only [Iz.eq_2,AV hi,Am,DX,cF]
  exact⟨s,rfl,hs⟩
theorem mB{n:Nat}{x mode:Int}(hn:1048577<=n):BQ (fun _=>True) (UN n x mode):=by
 rw [UN]
 have key:∀(m:Nat) (i j:Int),0<=i->i<=j->j<=2000000000->j-i<2^m->BQ (fun _=>True) (Ha x (fun i3 i4=>(cond (((mode==1))&&(decide (wrap .i64 (i3*i3)<x))) (some (wrap .i64 (i3+1))) (some i3))) (m+1) i j):=by
  intro m
  induction m with
  |zero=>
   intro i j h0 h1 h2 h3
   have:i=j:=by simp at h3;omega
   subst this
   rw [Ha.eq_2,decide_eq_false (by omega),cF]
   exact Ap (fun _=>AS trivial) fun _=>AS trivial
  |succ m ih=>
   intro i j h0 h1 h2 h3
   rw [Int.pow_succ]at h3
   rw [Ha.eq_2]
   by_cases c:i<j
   ·have w1:wrap .i64 (i+j)=i+j:=Ah (by omega) (by omega)
    have w2:wrap .i64 (i+j+1)=i+j+1:=Ah (by omega) (by omega)
    have e:Int.tdiv (i+j+1) 2=(i+j+1)/2:=Int.tdiv_eq_ediv_of_nonneg (by omega)
    have w3:wrap .i64 ((i+j+1)/2)=(i+j+1)/2:=Ah (by omega) (by omega)
    have w4:wrap .i64 ((i+j+1)/2-1)=(i+j+1)/2-1:=Ah (by omega) (by omega)
    rw [decide_eq_true c,cT,w1,w2,e,w3,w4]
    exact Ap (fun _=>ih _ _ (by omega) (by omega) h2 (by omega)) fun _=>ih _ _ h0 (by omega) (by omega) (by omega)
   ·rw [decide_eq_false c,cF]
    exact Ap (fun _=>AS trivial) fun _=>AS trivial
 obtain⟨m,rfl⟩:∃m,n=m+1:=⟨n-1,by omega⟩
 refine key m 0 2000000000 (by omega) (by omega) (by omega) ?_
 have h1:(2:Int)^40<=2^m:=by
  have:=Nat.pow_le_pow_right (show 1<=2 by omega) (show 40<=m by omega)
  exact_mod_cast this
 have h2:(2:Int)^40=1099511627776:=by decide
 omega
theorem mR{n:Nat}{b:AF}(v:Bf b){i:Nat}(hi:i<b.Wires.length){k slew mode:Int}(hk:0<=k∧k<(b.Wires[i].Sink.length:Int))(hn:1048577<=n):BQ (fun _=>True) (Wu n b (i:Int) k slew mode):=by
 have vw:=v.wire i hi
 rw [Wu]
 refine BQ.bind (tB v hi hn) fun ds _ hl=>?_
 obtain⟨j,ej⟩:=Int.eq_ofNat_of_zero_le hk.1
 have ej:k=(j:Int):=ej
 subst ej
 have hj:j<b.Wires[i].Sink.length:=by omega
 have hs:=vw.sinks j hj
 obtain⟨a,ea⟩:=Ek (t:=ds) hs.1 (by omega)
 rw [AV hi,Am,gI hj,Am,ea,Am]
 refine BQ.bind (mB hn) fun r _ _=>?_
 obtain⟨q,eq⟩:=lE (n:=n) (s:=r) (D:=1000) (mode:=mode) (by omega)
 rw [eq];exact AS trivial
theorem YK{d:AX}{q:Int}:∀x∈JV d q,∃t,∃h:t<(pls d).length,x=(t:Int)∧GZ q (pls d)[t]=true:=fun x hx=>
 DI (Q:=fun x=>∃t,∃h:t<(pls d).length,x=(t:Int)∧GZ q (pls d)[t]=true) (pls d) 0 (fun j hj y hy=>by
  rw [Nat.zero_add]at hy
  by_cases c:GZ q (pls d)[j]=true
  ·rw [if_pos c]at hy;exact⟨j,hj,List.mem_singleton.1 hy,c⟩
  ·rw [if_neg c]at hy;cases hy) x hx
structure Xi(b:AF)(x:AU)(f t q j:Nat):Prop where
 kind:x.Kind=2
 from_:x.From=2*(f:Int)∨x.From=2*(f:Int)+1
 to_:x.To=2*(t:Int)∨x.To=2*(t:Int)+1
 drv:∃h:f<(pls b.Design).length,(pls b.Design)[f].drives_=true
 snk:∃h:t<(pls b.Design).length,(pls b.Design)[t].drives_=false∧(pls b.Design)[t].net_=(q:Int)
 ix:x.Index=(j:Int)
 sinks:∃h:q<b.Wires.length,j<b.Wires[q].Sink.length
theorem QA{b:AF}(v:Bf b):∀x∈NO b,x.Kind=1∨∃f t q j,Xi b x f t q j:=by
 have vd:=v.design
 intro x hx
 simp only [NO,List.mem_append]at hx
 rcases hx with hx|hx
 ·refine .inl ?_
  refine DI (Q:=fun x:AU=>x.Kind=1) b.Design.Instances 0 (fun i hi y hy=>?_) x hx
  rw [XM]at hy
  refine DI (Q:=fun x:AU=>x.Kind=1) _ 0 (fun j hj z hz=>?_) y hy
  obtain⟨t,ht,rfl⟩:=List.mem_map.1 hz
  rfl
 ·refine .inr ?_
  refine DI (Q:=fun x:AU=>∃f t q j,Xi b x f t q j) b.Design.Nets 0 (fun q hq y hy=>?_) x hx
  rw [Nat.zero_add]at hy
  have hd:=Ps vd hq
  refine DI (Q:=fun x:AU=>∃f t q j,Xi b x f t q j) _ 0 (fun j hj z hz=>?_) y hy
  rw [Nat.zero_add]at hz
  obtain⟨t,ht,et,st⟩:=YK _ (List.getElem_mem hj)
  simp only [GZ,Bool.and_eq_true,beq_iff_eq,Bool.not_eq_true']at st
  have hdr:((pls b.Design)[Lh b.Design q]'hd.lt).drives_=true:=by have:=hd.hit;simp only [FT,Bool.and_eq_true]at this;exact this.2
  have hq2:q<b.Wires.length:=by rw [v.many];exact hq
  have hs:(JV b.Design (q:Int)).length=b.Wires[q].Sink.length:=by rw [GG];have:=(v.wire q hq2).sink;omega
  simp only [ZW,List.mem_cons,List.not_mem_nil,or_false]at hz
  rw [et]at hz
  rcases hz with rfl|rfl
  ·exact⟨Lh b.Design q,t,q,j,rfl,.inl rfl,.inl rfl,⟨hd.lt,hdr⟩,⟨ht,st.2,st.1⟩,rfl,⟨hq2,by omega⟩⟩
  ·exact⟨Lh b.Design q,t,q,j,rfl,.inr rfl,.inr rfl,⟨hd.lt,hdr⟩,⟨ht,st.2,st.1⟩,rfl,⟨hq2,by omega⟩⟩
theorem kS{n:Nat}{b:AF}(v:Bf b){x:AU}(ok:TT b x)(k:x.Kind=1)(hn:1048577<=n):∃a z,TR n b x=some (a,z)∧RS a.Delay true∧RS a.Slew true:=by
 have vd:=v.design
 obtain⟨p,y,c,a,g1,pm,g2,g3,g4,kd⟩:=ok.arc k
 have hp:=vd.net p pm
 have hW:=v.many
 obtain⟨N,hN⟩:=Int.eq_ofNat_of_zero_le hp.1
 have hN:p.net_=(N:Int):=hN
 have hNl:N<b.Wires.length:=by omega
 obtain⟨r,er,hr⟩:=tW (n:=n) v hNl hn
 have hm:=(v.wire N hNl).many
 have g1':AI ((pls b.Design).map Gk) (wrap .i64 (Int.tdiv x.To 2))=some (Gk p):=by
  obtain⟨g0,g5,g6⟩:=El g1
  obtain⟨M,hM⟩:=Int.eq_ofNat_of_zero_le g0
  have hM:wrap .i64 (Int.tdiv x.To 2)=(M:Int):=hM
  rw [hM]at g6 ⊢
  rw [Hy,List.getElem?_map]
  rw [Int.toNat_natCast]at g6
  rw [g6];rfl
 have g2':AI b.Design.Instances (Gk p).instance_=some y:=g2
 have hN':(Gk p).net_=(N:Int):=hN
 refine⟨a,gd r 0,?_,?_⟩
 ·rw [TR,Ph vd.short vd.few.1 vd.few.2.2 hn]
  simp only [Am,g1',g2',g3,g4,hN',er]
  have e0:AI r 0=some (gd r 0):=gI (i:=0) (by omega)
  rw [e0];rfl
 ·obtain⟨_,_,c3⟩:=El g3
  obtain⟨cl,ec⟩:=List.getElem?_eq_some_iff.1 c3
  obtain⟨_,_,a3⟩:=El g4
  obtain⟨al,ea⟩:=List.getElem?_eq_some_iff.1 a3
  have vc:=vd.lib.cells _ cl
  rw [ec]at vc
  have ar:=(vc.arcs _ al).1
  rw [ea]at ar
  unfold ME at ar
  obtain⟨_,ar⟩:=ar
  by_cases k1:a.Kind=1
  ·rw [if_pos k1]at ar;exact⟨ar.2.2.2.1,ar.2.2.2.2⟩
  ·rw [if_neg k1,if_pos (by omega)]at ar;exact⟨ar.2.2.2.1,ar.2.2.2.2⟩
theorem UP{x:Int}(h:0<=x):0<=Int.tmod x 2∧Int.tmod x 2<2:=FF h (by omega)
theorem Za{n:Nat}{b:AF}(v:Bf b){x:AU}{f t q j:Nat}(h:Xi b x f t q j)(hn:1048577<=n):Tb n b x=some (q:Int):=by
 have vd:=v.design
 have hl:=Cp vd.short vd.few.1 vd.few.2.2
 obtain⟨ht,_,hq⟩:=h.snk
 have e1:wrap .i64 (Int.tdiv x.To 2)=(t:Int):=by
  have h0:0<=x.To:=by have:=h.to_;omega
  have e:Int.tdiv x.To 2=(t:Int):=by rw [Int.tdiv_eq_ediv_of_nonneg h0];have:=h.to_;omega
  rw [e,Ah (by omega) (by omega)]
 rw [Tb,Ph vd.short vd.few.1 vd.few.2.2 hn,Am,e1,AV (by simpa using ht),Am,List.getElem_map]
 show some (pls b.Design)[t].net_=_
 rw [hq]
theorem tQ{n:Nat}{c:BV}{k m:Int}:BQ (fun _=>True) (Tj n c k m):=by
 rw [Tj]
 refine Ap (fun _=>Ap (fun _=>AS trivial) fun _=>AS trivial) fun _=>Ap (fun _=>AS trivial) fun _=>AS trivial
theorem Ya{n:Nat}{b:AF}(v:Bf b){x:AU}(hx:x∈NO b){c:BV}{s m:Int}(hn:1048577<=n):BQ (fun _=>True) (Qn n b c x s m):=by
 have ok:=QB v x hx
 have dv:∀y:Int,BQ (fun _=>True) (Option.bind (Mr n y 1000 m) fun r=>some r):=fun y=>by
  obtain⟨r,e⟩:=lE (n:=n) (s:=y) (D:=1000) (mode:=m) (by omega)
  rw [e];exact AS trivial
 rw [Qn]
 rcases QA v x hx with k|⟨f,t,q,j,h⟩
 ·rw [beq_iff_eq.2 k,cT]
  obtain⟨a,z,e,hd,_⟩:=kS (n:=n) v ok k hn
  rw [e,Am]
  have pr:=UP ok.to_.1
  exact BQ.bind (BQ.get pr.1 (by rw [hd.1];exact pr.2) hd.2) fun u _ hu=>BQ.bind (tT hu.1 _ _ _ hn) fun _ _ _=>BQ.bind tQ fun _ _ _=>dv _
 ·have k:(x.Kind==1)=false:=by rw [beq_eq_false_iff_ne,h.kind];omega
  obtain⟨hq,hj⟩:=h.sinks
  rw [k,cF,Za v h hn,Am,h.ix]
  exact BQ.bind (vP v hq hn) fun r _ hr=>BQ.bind (Cd (by omega) (by omega)) fun _ _ _=>BQ.bind tQ fun _ _ _=>dv _
theorem YS{n:Nat}{b:AF}(v:Bf b){x:AU}(hx:x∈NO b){s m:Int}(hn:1048577<=n):BQ (fun _=>True) (Qz n b x s m):=by
 have ok:=QB v x hx
 rw [Qz]
 rcases QA v x hx with k|⟨f,t,q,j,h⟩
 ·rw [beq_iff_eq.2 k,cT]
  obtain⟨a,z,e,_,hd⟩:=kS (n:=n) v ok k hn
  rw [e,Am]
  have pr:=UP ok.to_.1
  exact BQ.bind (BQ.get pr.1 (by rw [hd.1];exact pr.2) hd.2) fun u _ hu=>BQ.bind (tT hu.1 _ _ _ hn) fun _ _ _=>AS trivial
 ·have k:(x.Kind==1)=false:=by rw [beq_eq_false_iff_ne,h.kind];omega
  obtain⟨hq,hj⟩:=h.sinks
  rw [k,cF,Za v h hn,Am,h.ix]
  exact BQ.bind (mR v hq ⟨by omega,by omega⟩ hn) fun _ _ _=>AS trivial
theorem mD{n:Nat}{b:AF}(v:Bf b){x:AU}(hx:x∈NO b){c:BV}{s:Ar}(hn:1048577<=n):BQ (fun _=>True) (Ws n b c x s):=by
 rw [Ws]
 exact BQ.bind (Ya v hx hn) fun _ _ _=>BQ.bind (Ya v hx hn) fun _ _ _=>BQ.bind (YS v hx hn) fun _ _ _=>BQ.bind (YS v hx hn) fun _ _ _=>BQ.bind (Ya v hx hn) fun _ _ _=>BQ.bind (Ya v hx hn) fun _ _ _=>BQ.bind (YS v hx hn) fun _ _ _=>BQ.bind (YS v hx hn) fun _ _ _=>AS trivial
theorem gE{n:Nat}{s t:Ar}:BQ (fun _=>True) (Ts n s t):=by rw [Ts];exact AS trivial
structure Zn(N:Nat)(t:Af):Prop where
 r:t.Reached.length=N
 a:t.Arrival.length=N
 s:t.Slew.length=N
abbrev tD:=Bool×Int×Int×Int×Int×Int
theorem oR{n:Nat}{b:AF}(v:Bf b){c:BV}{lv:List Bool}(hlv:lv.length=(NO b).length){ss:List At}(hs:ss.length<=1048576){t:Af}(ht:Zn (2*(pls b.Design).length) t){k:Int}(hn:1048577<=n):
 BQ (fun _=>True) (iA n b c (NO b) lv ss t k):=by
 have hL:=Ie v
 have hin:=SC v
 have hr:=ht.r;have ha:=ht.a;have hsl:=ht.s
 rw [iA]
 refine Fk (L:=fun m i (p:tD)=>KK ss k _ m p.1 i p.2.1 p.2.2.1 p.2.2.2.1 p.2.2.2.2.1 p.2.2.2.2.2) ss.length (fun _ _=>True) (BQ fun _=>True) ?_ ?_ n 0 (false,0,0,0,0,0) (by omega) (by omega) trivial
 ·rintro m i ⟨q,i2,i3,i4,i5,i6⟩ hi _ ih
  simp only [KK.eq_2,DE hi,cT,AV hi,Am,wT i]
  exact Ap (fun _=>ih (true,_,_,_,_,_) trivial) fun _=>ih (q,i2,i3,i4,i5,i6) trivial
 ·rintro m ⟨q,i2,i3,i4,i5,i6⟩ _
  simp only [KK.eq_2,DX,cF]
  refine Fk (L:=fun m i (p:tD)=>JY n b c (NO b) lv t k _ m p.1 i p.2.1 p.2.2.1 p.2.2.2.1 p.2.2.2.2.1 p.2.2.2.2.2) (NO b).length (fun _ _=>True) (BQ fun _=>True) ?_ ?_ n 0 (q,i2,i3,i4,i5,i6) (by omega) (by omega) trivial
  ·rintro m i ⟨q,i2,i3,i4,i5,i6⟩ hi _ ih
   have hf:=hin.from_ i hi
   simp only [JY.eq_2,DE hi,cT,AV hi,AV (show i<lv.length by omega),Am,wT i]
   refine BQ.bind (A:=fun _=>True) (Ap (fun _=>AS trivial) fun _=>BQ.bind (Cd hf.1 (by omega)) fun _ _ _=>AS trivial) fun cc _ _=>Ap (fun _=>ih (q,i2,i3,i4,i5,i6) trivial) fun _=>?_
   refine BQ.bind (Cd hf.1 (by omega)) fun sl _ _=>BQ.bind (mD v (List.getElem_mem hi) hn) fun r _ _=>BQ.bind (Cd hf.1 (by omega)) fun a1 _ _=>BQ.bind (Cd hf.1 (by omega)) fun a2 _ _=>Ap (fun _=>?_) fun _=>ih (true,_,_,_,_,_) trivial
   exact BQ.bind gE fun _ _ _=>BQ.bind gE fun _ _ _=>ih (true,_,_,_,_,_) trivial
  ·rintro m ⟨q,i2,i3,i4,i5,i6⟩ _
   simp only [JY.eq_2,DX,cF]
   exact AS trivial
theorem uI{n:Nat}{s:Ar}:BQ (fun _=>True) (RK n s):=⟨_,pA,trivial⟩
theorem lW{n:Nat}{b:AF}(v:Bf b){c:BV}{lv:List Bool}(hlv:lv.length=(NO b).length){ss:List At}(hs:ss.length<=1048576){od:List Int}(ho:od.length<=1048576)(hr:∀x∈od,0<=x∧x<((2*(pls b.Design).length:Nat):Int))(hn:1048577<=n):
 BQ (fun r=>Zn 0 r.1∨Zn (2*(pls b.Design).length) r.1) (WB n b c (NO b) lv ss od):=by
 have vd:=v.design
 have hl:=Cp vd.short vd.few.1 vd.few.2.2
 have wc:EI b=((2*(pls b.Design).length:Nat):Int):=by unfold EI;omega
 generalize hN:2*(pls b.Design).length=N at*
 rw [WB,Pw v hn,Am,wc,Xj]
 simp only [FX (show N<=1048576 by omega) (show 1<=268435456 by omega),FX (show N<=1048576 by omega) (show 16<=268435456 by omega),Am]
 refine Fk (L:=fun m i (p:List Bool×List Ar×List Ar)=>HW n b c (NO b) lv ss od _ m i p.1 p.2.1 p.2.2) od.length (fun _ p=>Zn N ⟨p.1,p.2.1,p.2.2⟩) (BQ fun r=>Zn 0 r.1∨Zn N r.1) ?_ ?_ n 0 (List.replicate N false,List.replicate N ⟨0,0⟩,List.replicate N ⟨0,0⟩) (by omega) (by omega) ⟨by simp,by simp,by simp⟩
 ·rintro m i ⟨l1,l2,l3⟩ hi ⟨h1,h2,h3⟩ ih
  have h1:l1.length=N:=h1
  have h2:l2.length=N:=h2
  have h3:l3.length=N:=h3
  have hx:=hr _ (List.getElem_mem hi)
  simp only [HW.eq_2,DE hi,cT,AV hi,Am,wT i]
  refine BQ.bind (oR v hlv hs (t:=⟨l1,l2,l3⟩) (by rw [hN];exact⟨h1,h2,h3⟩) hn) fun r _ _=>Ap (fun _=>ih (l1,l2,l3) ⟨h1,h2,h3⟩) fun _=>BQ.bind uI fun q _ _=>Ap (fun _=>AS (.inl ⟨rfl,rfl,rfl⟩)) fun _=>?_
  exact BQ.bind (Cd hx.1 (by omega)) fun _ _ _=>BQ.bind (Cd hx.1 (by omega)) fun _ _ _=>BQ.bind (Cd hx.1 (by omega)) fun _ _ _=>ih (_,_,_) ⟨by simpa using h1,by simpa using h2,by simpa using h3⟩
 ·rintro m ⟨l1,l2,l3⟩ h
  simp only [HW.eq_2,DX,cF]
  exact AS (.inr h)
theorem sF{n:Nat}{L:List AU}{lv:List Bool}{N:Nat}(hL:QW L N)(hlv:lv.length=L.length)(hl:L.length<=10000)(hN:N<=1000)(hn:1048577<=n):
 BQ (fun r=>r.1.length<=N∧∀x∈r.1,0<=x∧x<(N:Int)) (fW n (N:Int) L lv):=by
 rw [fW,FX (by omega) (by omega),Am]
 refine TH (L:=fun m (p:List Int×List Bool)=>Lr n (N:Int) L lv _ m p.1 p.2) (fun p=>N-p.1.length) (fun p=>(p.1.length<=N∧p.2.length=N)∧∀x∈p.1,0<=x∧x<(N:Int)) (BQ fun r=>r.1.length<=N∧∀x∈r.1,0<=x∧x<(N:Int)) ?_ n ([],List.replicate N false) (by simp;omega) ⟨⟨by simp,by simp⟩,by simp⟩
 rintro m ⟨o,l⟩ ⟨⟨h1,h2⟩,h3⟩ ih
 have h1:o.length<=N:=h1
 have h2:l.length=N:=h2
 simp only [Lr.eq_2]
 refine Ap (fun c=>?_) fun _=>AS ⟨h1,h3⟩
 have c:o.length<N:=by have:=of_decide_eq_true c;omega
 rw [FX (by omega) (by omega),Am]
 refine Fk (L:=fun m' i (w:List Bool)=>Jy L lv l _ m' i w) L.length (fun _ w=>w.length=N) (BQ fun r=>r.1.length<=N∧∀x∈r.1,0<=x∧x<(N:Int)) ?_ ?_ n 0 (List.replicate N false) (by omega) (by omega) (by simp)
 ·intro m' i w hi hw kk
  have hf:=hL.from_ i hi
  have ht:=hL.to_ i hi
  simp only [Jy.eq_2,DE hi,cT,AV hi,AV (show i<lv.length by omega),Am,wT i]
  refine BQ.bind (A:=fun _=>True) (Ap (fun _=>BQ.bind (Cd hf.1 (by omega)) fun _ _ _=>AS trivial) fun _=>AS trivial) fun cc _ _=>Ap (fun _=>BQ.bind (Cd ht.1 (by omega)) fun _ _ _=>kk _ (by simpa using hw)) fun _=>kk w hw
 ·intro m' w hw
  simp only [Jy.eq_2,DX,cF]
  have fin:∀i:Nat,i<=N->BQ (fun r=>r.1.length<=N∧∀x∈r.1,0<=x∧x<(N:Int)) ((cond ((i:Int)==(N:Int)) (some (([]:List Int),false)) (Option.bind (Bv o [(i:Int)] 8) fun z103=>(Lr n (N:Int) L lv (fun l33 l37=>(some (l33,true))) m z103 ((l.set ((i:Int)).toNat true)))))):=fun i hi=>
   Ap (fun _=>AS ⟨by simp,by simp⟩) fun q=>by
    have q:=beq_eq_false_iff_ne.1 q
    rw [BK (by simp;omega) (by omega),Am]
    refine ih (o++[(i:Int)],_) ⟨⟨by simp;omega,by simpa using h2⟩,fun x hx=>?_⟩ (by simp;omega)
    rcases List.mem_append.1 hx with h|h
    ·exact h3 x h
    ·rw [List.mem_singleton.1 h];omega
  refine Fk (L:=fun m' i (_:Unit)=>Ll (N:Int) l w _ m' i) N (fun _ _=>True) (BQ fun r=>r.1.length<=N∧∀x∈r.1,0<=x∧x<(N:Int)) ?_ ?_ n 0 () (by omega) (by omega) trivial
  ·intro m'' i _ hi _ kk
   simp only [Ll.eq_2,DE hi,cT,AV (show i<l.length by omega),AV (show i<w.length by omega),Am,wT i]
   refine BQ.bind (A:=fun _=>True) (BQ.bind (A:=fun _=>True) (Ap (fun _=>AS trivial) fun _=>AS trivial) fun _ _ _=>AS trivial) fun cc _ _=>Ap (fun _=>kk () trivial) fun _=>fin i (by omega)
  ·intro m'' _ _
   simp only [Ll.eq_2,DX,cF,Am,beq_self_eq_true,cT]
   exact AS ⟨by simp,by simp⟩
theorem iR{n:Nat}{b:AF}{br:List Int}(hb:My b)(hbr:br.length<=1048576)(hn:1048577<=n):BQ (fun r=>(r !=0)=false->Bf b) (Tc n b br):=by
 obtain⟨v,e1,hv⟩:=XP (n:=n) hb hn
 rw [Tc,e1,Am]
 refine Ap (fun _=>AS fun h=>by cases h) fun q=>?_
 have vb:=hv.1 (by cases v<;>simp_all)
 have hL:=Ie vb
 rw [Wv vb hn,Am]
 obtain⟨r,e2,_⟩:=wE (n:=n) (br:=br) (N:=((NO b).length:Int)) hbr ⟨by omega,by omega⟩ hn
 rw [e2,Am]
 exact Ap (fun _=>AS fun h=>by cases h) fun _=>AS fun _=>vb
theorem oW{n:Nat}{b:AF}{br:List Int}(hb:My b)(hbr:br.length<=1048576)(hn:1048577<=n):BQ (fun r=>r.1.length<=156∧((r.2 !=0)=false->Bf b∧∀x∈r.1,0<=x∧x<((2*(pls b.Design).length:Nat):Int))) (WS n b br):=by
 rw [WS]
 refine BQ.bind (iR hb hbr hn) fun r _ hr=>Ap (fun q=>AS ⟨by simp,fun h=>by rw [show(r !=0)=false from h]at q;cases q⟩) fun q=>?_
 have v:=hr q
 have vd:=v.design
 have hl:=Cp vd.short vd.few.1 vd.few.2.2
 have hL:=Ie v
 have wc:EI b=((2*(pls b.Design).length:Nat):Int):=by unfold EI;omega
 rw [Wv v hn,Am,Pw v hn,Am,qP (by omega) hbr hn,Am,wc]
 exact BQ.bind (sF (SC v) (KX _ _ _) (by omega) (by omega) hn) fun o _ ho=>Ap (fun _=>AS ⟨by simp,fun h=>by cases h⟩) fun _=>AS ⟨by have:=ho.1;show o.1.length<=156;omega,fun _=>⟨v,ho.2⟩⟩
theorem sG{n:Nat}{c:BV}(h:c.Name.size<=1048576)(hn:1048577<=n):BQ (fun _=>True) (Wn n c):=by
 rw [Wn]
 refine Fk (L:=fun m i (_:Unit)=>Ij n c _ m i) ([c.CellEarly,c.CellLate,c.WireEarly,c.WireLate]).length (fun _ _=>True) (BQ fun _=>True) ?_ ?_ n 0 () (by simp) (by simp;omega) trivial
 ·intro m i _ hi _ kk
  have hi4:i<4:=hi
  simp only [Ij.eq_2,DE hi,cT,AV hi,Am,Hq,wT i]
  exact Ap (fun _=>AS trivial) fun _=>kk () trivial
 ·intro m _ _
  simp only [Ij.eq_2,DX,cF,lO h hn,Am]
  exact AS trivial
theorem oL{n:Nat}{b:AF}(v:Bf b){ss:List At}(hs:ss.length<=1048576)(hn:1048577<=n):BQ (fun _=>True) (VF n b ss):=by
 rw [VF,Pw v hn,Am]
 refine Fk (L:=fun m i (_:Unit)=>Ia n ss (EI b) _ m i) ss.length (fun _ _=>True) (BQ fun _=>True) ?_ ?_ n 0 () (by omega) (by omega) trivial
 ·intro m i _ hi _ kk
  simp only [Ia.eq_2,DE hi,cT,AV hi,Am,Hq,pA,Tm,wT i]
  refine BQ.bind (A:=fun _=>True) (Ap (fun _=>AS trivial) fun _=>BQ.bind (A:=fun _=>True) (Ap (fun q=>?_) fun _=>AS trivial) fun _ _ _=>AS trivial) fun c1 _ _=>BQ.bind (A:=fun _=>True) (Ap (fun _=>AS trivial) fun _=>AS trivial) fun c2 _ _=>BQ.bind (A:=fun _=>True) (Ap (fun _=>AS trivial) fun _=>AS trivial) fun c3 _ _=>Ap (fun _=>AS trivial) fun _=>kk () trivial
  have q:=of_decide_eq_true q
  have w:wrap .i64 ((i:Int)-1)=((i-1:Nat):Int):=by rw [Ah (by omega) (by omega)];omega
  rw [w,AV (show i-1<ss.length by omega)]
  exact AS trivial
 ·intro m _ _
  simp only [Ia.eq_2,DX,cF]
  exact AS trivial
theorem uH{n:Nat}{b:AF}{c:BV}{br:List Int}{ss:List At}(hb:My b)(hc:c.Name.size<=1048576)(hbr:br.length<=1048576)(hs:ss.length<=1048576)(hn:1048577<=n):BQ (fun r=>∃N,N<=156∧Zn N r.1) (VR n b c br ss):=by
 have no:∃N,N<=156∧Zn N (Af.mk [] [] []):=⟨0,by omega,rfl,rfl,rfl⟩
 rw [VR]
 refine BQ.bind (A:=fun r=>r.1.length<=156∧((r.2 !=0)=false->Bf b∧∀x∈r.1,0<=x∧x<((2*(pls b.Design).length:Nat):Int))) ?_ fun r _ hr=>Ap (fun _=>AS no) fun q=>?_
 ·rw [XZ]
  obtain⟨v,e1,hv⟩:=XP (n:=n) hb hn
  rw [e1,Am]
  refine BQ.bind (A:=fun x=>x=false->v=true) (Ap (fun _=>AS fun h=>by cases h) fun q=>BQ.bind (sG hc hn) fun _ _ _=>AS fun _=>by cases v<;>simp_all) fun x _ hx=>Ap (fun _=>AS ⟨by simp,fun h=>by cases h⟩) fun q=>?_
  have vb:=hv.1 (hx q)
  refine BQ.bind (iR hb hbr hn) fun r _ hr=>BQ.bind (A:=fun _=>True) (Ap (fun _=>AS trivial) fun _=>BQ.bind (oL vb hs hn) fun _ _ _=>AS trivial) fun x _ _=>Ap (fun _=>AS ⟨by simp,fun h=>by cases h⟩) fun _=>BQ.bind (oW hb hbr hn) fun o _ ho=>AS ho
 ·obtain⟨v,ho⟩:=hr.2 q
  have vd:=v.design
  have hl:=Cp vd.short vd.few.1 vd.few.2.2
  have hL:=Ie v
  rw [Wv v hn,Am,qP (by omega) hbr hn,Am]
  refine BQ.bind (lW v (KX _ _ _) hs (by have:=hr.1;omega) ho hn) fun t _ ht=>Ap (fun _=>AS no) fun _=>AS ?_
  rcases ht with h|h
  ·exact⟨0,by omega,h⟩
  ·exact⟨_,by omega,h⟩
def ct(l:List Bool):Nat:=l.countP fun b=>b
theorem UY:∀{l:List Bool} {i:Nat},i<l.length->gb l i=true->ct (l.set i false)+1=ct l
 |[],i,h,_=>by simp at h
 |b::l,0,_,h=>by
  have h:b=true:=h
  subst h;simp [ct]
 |b::l,i+1,hi,h=>by
  have ih:=UY (l:=l) (i:=i) (by simpa using hi) h
  unfold ct at ih ⊢
  simp only [List.set_cons_succ,List.countP_cons];omega
theorem wG{n:Nat}{L:List AU}{lv:List Bool}{v:Int}(hlv:lv.length=L.length)(hl:L.length<=10000)(hn:1048577<=n):
 BQ (fun r=>r=true->∃k,∃h:k<L.length,gb lv k=true∧L[k].From=v∧L[k].To=v) (VU n L lv v):=by
 rw [VU]
 refine Fk (L:=fun m i (_:Unit)=>IY L lv v _ m i) L.length (fun _ _=>True) (BQ fun r=>r=true->∃k,∃h:k<L.length,gb lv k=true∧L[k].From=v∧L[k].To=v) ?_ ?_ n 0 () (by omega) (by omega) trivial
 ·intro m i _ hi _ kk
  simp only [IY.eq_2,DE hi,cT,AV hi,NZ (show i<lv.length by omega),Am,CQ,wT i]
  refine Ap (fun q=>AS fun _=>?_) fun _=>kk () trivial
  simp only [Bool.and_eq_true,beq_iff_eq]at q
  exact⟨i,hi,q.1.1,q.1.2,q.2⟩
 ·intro m _ _
  simp only [IY.eq_2,DX,cF]
  exact AS fun h=>by cases h
def QY(L:List AU)(lv:List Bool)(N:Nat)(x:List Int):Prop:=x.length<=N∧∃k,∃h:k<L.length,gb lv k=true∧L[k].Kind=1∧L[k].From∈x∧L[k].To∈x
structure cA(N v i:Nat)(r1 r2:List Bool)(x:List Int):Prop where
 few:x.length<=i
 iff:∀y,y∈x↔∃w:Nat,w<i∧y=(w:Int)∧gb r1 w=true∧gb r2 w=true
 two:x.length>1->∃w:Nat,w<N∧w≠v∧gb r1 w=true∧gb r2 w=true
theorem cA.skip{N v i:Nat}{r1 r2:List Bool}{x:List Int}(h:cA N v i r1 r2 x)(c:(gb r1 i&&gb r2 i)=false):cA N v (i+1) r1 r2 x:=
 ⟨by have:=h.few;omega,fun y=>(h.iff y).trans ⟨fun⟨w,a,b⟩=>⟨w,by omega,b⟩,fun⟨w,a,b,d,e⟩=>⟨w,by
  by_cases q:w=i
  ·subst q;rw [d,e]at c;cases c
  ·omega,b,d,e⟩⟩,h.two⟩
theorem cA.add{N v i:Nat}{r1 r2:List Bool}{x:List Int}(h:cA N v i r1 r2 x)(hi:i<N)(c:(gb r1 i&&gb r2 i)=true):cA N v (i+1) r1 r2 (x++[(i:Int)]):=by
 simp only [Bool.and_eq_true]at c
 refine⟨by have:=h.few;simp;omega,fun y=>?_,fun g=>?_⟩
 ·rw [List.mem_append,List.mem_singleton,h.iff y]
  constructor
  ·rintro (⟨w,a,b⟩|e)
   ·exact⟨w,by omega,b⟩
   ·exact⟨i,by omega,e,c.1,c.2⟩
  ·rintro ⟨w,a,b,d⟩
   by_cases q:w=i
   ·subst q;exact .inr b
   ·exact .inl ⟨w,by omega,b,d⟩
 ·have g:0<x.length:=by simp at g;omega
  obtain⟨w,a,_,d,e⟩:=(h.iff x[0]).1 (List.getElem_mem g)
  by_cases q:w=v
  ·exact⟨i,hi,by omega,c.1,c.2⟩
  ·exact⟨w,by omega,q,d,e⟩
theorem vB{n:Nat}{L:List AU}{lv:List Bool}{N:Nat}(hL:QW L N)(hlv:lv.length=L.length)(hl:L.length<=10000)(hN:N<=1000)
 (hw:∀k (h:k<L.length) j (g:j<L.length),L[k].To=L[j].From->L[k].Kind=1∨L[j].Kind=1) (hn:1048577<=n):BQ (fun r=>∀x∈r,QY L lv N x) (hG n (N:Int) L lv):=by
 rw [hG,FX (by omega) (by omega),Am]
 refine Fk (L:=fun m i (p:List (List Int)×List Bool)=>JL n (N:Int) L lv _ m p.1 i p.2) N (fun i p=>(p.1.length<=i∧∀x∈p.1,QY L lv N x)∧p.2.length=N) (BQ fun r=>∀x∈r,QY L lv N x) ?_ ?_ n 0 ([],List.replicate N false) (by omega) (by omega) ⟨⟨by simp,by simp⟩,by simp⟩
 ·rintro m i ⟨o,l⟩ hi ⟨⟨h1,h2⟩,h3⟩ ih
  have h1:o.length<=i:=h1
  have h3:l.length=N:=h3
  simp only [JL.eq_2,DE hi,cT,AV (show i<l.length by omega),Am,wT i]
  refine Ap (fun _=>ih (o,l) ⟨⟨by show o.length<=i+1;omega,h2⟩,h3⟩) fun _=>?_
  obtain⟨r1,e1,k1⟩:=tO (n:=n) hL hlv hl hN hi hn
  obtain⟨r2,e2,k2⟩:=uN (n:=n) hL hlv hl hN hi hn
  have l1:=k1.len;have l2:=k2.len
  rw [e1,Am,e2,Am]
  refine Fk (L:=fun m' j (p:List Int×List Bool)=>Jq (N:Int) r1 r2 _ m' p.1 j p.2) N (fun j p=>cA N i j r1 r2 p.1∧p.2.length=N) (BQ fun r=>∀x∈r,QY L lv N x) ?_ ?_ n 0 ([],l) (by omega) (by omega) ⟨⟨Nat.le_refl _,fun y=>⟨fun h=>(by cases h),fun⟨w,h,_⟩=>absurd h (Nat.not_lt_zero w)⟩,fun h=>(by simp at h)⟩,h3⟩
  ·rintro m' j ⟨x,d⟩ hj ⟨g1,g2⟩ kk
   have g2:d.length=N:=g2
   have gf:=g1.few
   have gf:x.length<=j:=gf
   simp only [Jq.eq_2,DE hj,cT,NZ (show j<r1.length by omega),NZ (show j<r2.length by omega),Am,CQ,wT j]
   refine Ap (fun c=>?_) fun c=>kk (x,d) ⟨g1.skip c,g2⟩
   rw [BK (by simp;omega) (by omega),Am,AV (show j<d.length by omega),Am]
   exact kk (x++[(j:Int)],_) ⟨g1.add hj c,by simpa using g2⟩
  ·rintro m' ⟨x,d⟩ ⟨g1,g2⟩
   have gf:=g1.few
   have gf:x.length<=N:=gf
   have mem:∀u:Int,0<=u∧u<(N:Int)->Hf L lv (fun y=>y=(i:Int)) u->Hf L lv (fun y=>y=u) (i:Int)->u∈x:=fun u hu a b=>by
    obtain⟨w,ew⟩:=Int.eq_ofNat_of_zero_le hu.1
    have ew:u=(w:Int):=ew
    subst ew
    exact(g1.iff _).2 ⟨w,by omega,rfl,(k1.iff w (by omega)).2 a,(k2.iff w (by omega)).2 (Hf.vr b)⟩
   simp only [Jq.eq_2,DX,cF]
   refine BQ.bind (A:=fun c=>c=true->QY L lv N x) (Ap (fun c=>AS fun _=>?_) fun _=>BQ.bind (wG hlv hl hn) fun r _ hr=>AS fun q=>?_) fun c _ hc=>Ap (fun q=>?_) fun _=>ih (o,d) ⟨⟨by show o.length<=i+1;omega,h2⟩,g2⟩
   ·have c:=of_decide_eq_true c
    obtain⟨w,wN,ne,a,b⟩:=g1.two (by show x.length>1;omega)
    obtain⟨k,hk,c1,c2,⟨c3,c4⟩,c5,c6⟩:=Tg hw (v:=(i:Int)) (w:=(w:Int)) (by omega) ((k1.iff w wN).1 a) (Hf.rv ((k2.iff w wN).1 b))
    exact⟨gf,k,hk,c1,c2,mem _ (hL.from_ k hk) c3 c4,mem _ (hL.to_ k hk) c5 c6⟩
   ·obtain⟨k,hk,c1,c2,c3⟩:=hr q
    have hv:=mem (i:Int) ⟨by omega,by omega⟩ (.src rfl) (.src rfl)
    exact⟨gf,k,hk,c1,(hw k hk k hk (by rw [c2,c3])).elim id id,by rw [c2];exact hv,by rw [c3];exact hv⟩
   ·rw [BK (by simp;omega) (by omega),Am]
    refine ih (o++[x],d) ⟨⟨by simp;omega,fun y hy=>?_⟩,g2⟩
    rcases List.mem_append.1 hy with h|h
    ·exact h2 y h
    ·rw [List.mem_singleton.1 h];exact hc q
 ·rintro m ⟨o,l⟩ ⟨⟨h1,h2⟩,h3⟩
  simp only [JL.eq_2,DX,cF]
  exact AS h2
theorem YC{b:AF}(v:Bf b):∀k (h:k<(NO b).length) j (g:j<(NO b).length),(NO b)[k].To=(NO b)[j].From->(NO b)[k].Kind=1∨(NO b)[j].Kind=1:=by
 intro k hk j hj e
 rcases QA v _ (List.getElem_mem hk)with c|⟨f,t,q,i,h⟩
 ·exact .inl c
 ·rcases QA v _ (List.getElem_mem hj)with c|⟨f',t',q',i',h'⟩
  ·exact .inr c
  ·exfalso
   have:=h.to_;have:=h'.from_
   obtain rfl:t=f':=by omega
   obtain⟨_,a,_⟩:=h.snk
   obtain⟨_,b⟩:=h'.drv
   rw [a]at b;cases b
theorem mU{n:Nat}{b:AF}(v:Bf b)(hn:1048577<=n):BQ (fun r=>r.length<=6000) (dW n b):=by
 have vd:=v.design
 have hl:=Cp vd.short vd.few.1 vd.few.2.2
 have hL:=Ie v
 have hin:=SC v
 have hal:=YC v
 have wc:EI b=((2*(pls b.Design).length:Nat):Int):=by unfold EI;omega
 rw [dW,Wv v hn,Am,qP (by omega) (by simp) hn,Am,Pw v hn,Am,wc]
 generalize hX:NO b=X at*
 have lt:ct (Ex (fun k (_:AU)=>[!(([]:List Int).any fun y=>y==(k:Int))]) 0 X)<=X.length:=by
  have:=List.countP_le_length (p:=fun b:Bool=>b) (l:=Ex (fun k (_:AU)=>[!(([]:List Int).any fun y=>y==(k:Int))]) 0 X)
  rw [KX]at this;exact this
 refine TH (L:=fun m l=>Ms n X _ _ m l) ct (fun l=>l.length=X.length) (BQ fun r=>r.length<=6000) ?_ n _ (by omega) (KX _ _ _)
 intro m l hlv ih
 simp only [Ms.eq_2]
 refine BQ.bind (vB hin hlv (by omega) (by omega) hal hn) fun r _ hr=>Ap (fun _=>?_) fun q=>?_
 ·refine Fk (L:=fun m i s=>Jn l _ m s i) l.length (fun i s=>s.length<=i) (BQ fun r=>r.length<=6000) ?_ ?_ n 0 [] (by omega) (by omega) (Nat.le_refl _)
  ·intro m i s hi hs kk
   simp only [Jn.eq_2,DE hi,cT,AV hi,Am,wT i]
   refine Ap (fun _=>?_) fun _=>kk s (by omega)
   rw [BK (by simp;omega) (by omega),Am]
   exact kk _ (by simp;omega)
  ·intro m s hs
   simp only [Jn.eq_2,DX,cF]
   exact AS (by omega)
 ·have r0:0<r.length:=by have:=beq_eq_false_iff_ne.1 q;omega
  obtain⟨gl,k,hk,g1,g2,g3,g4⟩:=hr r[0] (List.getElem_mem r0)
  have e0:AI r 0=some r[0]:=AV r0
  have anyM:∀{y:Int},y∈r[0]->(r[0].any fun z=>z==y)=true:=fun h=>List.any_eq_true.2 ⟨_,h,by simp⟩
  refine Fk (L:=fun m' i (z:Int)=>Jj n X l r _ m' z i) X.length (fun i z=>(∃q:Nat,z=(q:Int)∧q<X.length∧gb l q=true)∨i<=k) (BQ fun r=>r.length<=6000) ?_ ?_ n 0 (-1) (by omega) (by omega) (.inr (Nat.zero_le _))
  ·intro m' i z hi hI kk
   simp only [Jj.eq_2,DE hi,cT,AV hi,NZ (show i<l.length by omega),Am,CQ,e0,iL (n:=n) (br:=r[0]) (show r[0].length<=1048576 by omega) hn,wT i]
   refine Ap (fun c=>kk (i:Int) (.inl ⟨i,rfl,hi,?_⟩)) fun c=>kk z ?_
   ·simp only [Bool.and_eq_true]at c
    exact c.1.1.1
   ·rcases hI with h|h
    ·exact .inl h
    ·refine .inr ?_
     rcases Nat.lt_or_ge i k with h2|h2
     ·omega
     ·obtain rfl:i=k:=by omega
      rw [g1,g2,anyM g3,anyM g4]at c
      simp at c
  ·intro m' z hI
   simp only [Jj.eq_2,DX,cF]
   rcases hI with ⟨q,rfl,h1,h2⟩|h
   ·rw [NZ (show q<l.length by omega),Am,Int.toNat_natCast]
    have:=UY (show q<l.length by omega) h2
    exact ih _ (by simpa using hlv) (by omega)
   ·omega
theorem vS{n:Nat}{c:List Int}(hc:Je c){s:AA}(hs:EB c s):BQ (fun r=>r.1.Name.size<=1048576∧EB c r.2) (UK n s):=by
 have e:=hs.code
 have nm:∀x∈[(ByteArray.mk #[115,108,111,119]),(ByteArray.mk #[102,97,115,116]),(ByteArray.mk #[116,121,112])],x.size<=1048576:=by
  intro x hx
  simp only [List.mem_cons,List.not_mem_nil,or_false]at hx
  rcases hx with rfl|rfl|rfl<;>decide
 rw [UK]
 refine BQ.bind (Nx hc hs 3) fun r1 _ ⟨h1,z0,z1⟩=>BQ.bind (BQ.get z0 (by simp;omega) nm) fun x _ hx=>BQ.bind (Nx hc (h1.mk2 e) 20) fun r2 _ ⟨h2,_⟩=>BQ.bind (Nx hc (h2.mk2 e) 20) fun r3 _ ⟨h3,_⟩=>BQ.bind (Nx hc (h3.mk2 e) 60) fun r4 _ ⟨h4,_⟩=>BQ.bind (Nx hc (h4.mk2 e) 40) fun r5 _ ⟨h5,_⟩=>BQ.bind (Nx hc (h5.mk2 e) 30) fun r6 _ ⟨h6,_⟩=>?_
 refine Ap (fun _=>AS ⟨hx,h6.mk2 e⟩) fun _=>Ap (fun _=>BQ.bind (Nx hc (h6.mk2 e) 3) fun r7 _ ⟨h7,y0,y1⟩=>BQ.bind (Cd y0 (by simp;omega)) fun _ _ _=>AS ⟨hx,h7.mk2 e⟩) fun _=>Ap (fun _=>BQ.bind (Nx hc (h6.mk2 e) 2) fun r7 _ ⟨h7,_⟩=>AS ⟨hx,h7.mk2 e⟩) fun _=>Ap (fun _=>AS ⟨(by decide:(ByteArray.mk #[]).size<=1048576),h6.mk2 e⟩) fun _=>AS ⟨hx,h6.mk2 e⟩
theorem tH{n:Nat}(hn:1048577<=n){c:List Int}(hc:Je c){s:AA}(hs:EB c s){b:AF}(hb:My b):BQ (fun r=>r.1.length<=1000∧EB c r.2) (XW n s b):=by
 have e:=hs.code
 obtain⟨v,e1,hv⟩:=XP (n:=n) hb hn
 rw [XW,e1,Am]
 refine Ap (fun _=>AS ⟨by simp,hs⟩) fun q=>?_
 have vb:=hv.1 (by cases v<;>simp_all)
 have vd:=vb.design
 have hl:=Cp vd.short vd.few.1 vd.few.2.2
 rw [Ph vd.short vd.few.1 vd.few.2.2 hn,Am]
 have hl2:((pls b.Design).map Gk).length<=78:=by simpa using hl
 generalize (pls b.Design).map Gk=ps at hl2 ⊢
 refine Fk (L:=fun m i (p:List At×Int×Int)=>MC n s ps _ m p.1 i p.2.1 p.2.2) ps.length (fun i p=>p.1.length<=2*i∧EB c (AA.mk s.code_ p.2.1 p.2.2)) (BQ fun r=>r.1.length<=1000∧EB c r.2) ?_ ?_ n 0 ([],s.at_,s.seed_) (by omega) (by omega) ⟨by simp,hs⟩
 ·rintro m i ⟨l,a,d⟩ hi ⟨h1,h2⟩ ih
  have h1:l.length<=2*i:=h1
  simp only [MC.eq_2,DE hi,cT,AV hi,Am,CQ,wT i]
  generalize (decide (ps[i].instance_<0)&&ps[i].drives_)=c95
  refine Fk (L:=fun m' k (p:List At×Int×Int)=>Ka n s (i:Int) c95 _ m' p.1 k p.2.1 p.2.2) 2 (fun k p=>p.1.length<=2*i+k∧EB c (AA.mk s.code_ p.2.1 p.2.2)) (BQ fun r=>r.1.length<=1000∧EB c r.2) ?_ ?_ n 0 (l,a,d) (by omega) (by omega) ⟨h1,h2⟩
  ·rintro m' k ⟨l,a,d⟩ hk ⟨g1,g2⟩ kk
   have g1:l.length<=2*i+k:=g1
   simp only [Ka.eq_2,show((2:Int))=((2:Nat):Int)from rfl,DE hk,cT,wT k]
   refine BQ.bind (A:=fun x:Bool×Int×Int=>EB c (AA.mk s.code_ x.2.1 x.2.2)) (Ap (fun _=>BQ.bind (Nx hc g2 8) fun r _ ⟨q1,_⟩=>AS (q1.mk2 e)) fun _=>AS g2) fun x _ hx=>BQ.bind (A:=fun x:Bool×Int×Int=>EB c (AA.mk s.code_ x.2.1 x.2.2)) (Ap (fun _=>AS hx) fun _=>BQ.bind (Nx hc hx 24) fun r _ ⟨q1,_⟩=>AS (q1.mk2 e)) fun y _ hy=>Ap (fun _=>?_) fun _=>kk (l,y.2.1,y.2.2) ⟨by show l.length<=_;omega,hy⟩
   refine BQ.bind (Nx hc hy 200) fun r1 _ ⟨q1,_⟩=>BQ.bind (Nx hc (q1.mk2 e) 30) fun r2 _ ⟨q2,_⟩=>BQ.bind (Nx hc (q2.mk2 e) 40) fun r3 _ ⟨q3,_⟩=>BQ.bind (Nx hc (q3.mk2 e) 12) fun r4 _ ⟨q4,_⟩=>?_
   rw [BK (by simp;omega) (by omega),Am]
   exact kk (_,_,_) ⟨by simp;omega,q4.mk2 e⟩
  ·rintro m' ⟨l,a,d⟩ ⟨g1,g2⟩
   simp only [Ka.eq_2,show decide (((2:Nat):Int)<2)=false from rfl,cF]
   exact ih (l,a,d) ⟨g1,g2⟩
 ·rintro m ⟨l,a,d⟩ ⟨h1,h2⟩
  have h1:l.length<=2*ps.length:=h1
  simp only [MC.eq_2,DX,cF]
  refine Ap (fun g=>?_) fun _=>AS ⟨by show l.length<=1000;omega,h2⟩
  have g:=of_decide_eq_true g
  refine BQ.bind (Nx hc h2 _) fun r1 _ ⟨q1,z0,z1⟩=>BQ.bind (Nx hc (q1.mk2 e) 30) fun r2 _ ⟨q2,_⟩=>?_
  have z2:r1.1<(l.length:Int):=by omega
  have gg:BQ (fun _=>True) (AI l r1.1):=(Cd z0 z2).weaken fun _ _=>trivial
  have fin:∀x:At,BQ (fun r=>r.1.length<=1000∧EB c r.2) (some (l.set r1.1.toNat x,AA.mk s.code_ r2.2.at_ r2.2.seed_)):=fun x=>AS ⟨by simp;omega,q2.mk2 e⟩
  refine Ap (fun _=>BQ.bind (Cd (Int.le_refl 0) (by omega)) fun _ _ _=>BQ.bind gg fun _ _ _=>fin _) fun _=>Ap (fun _=>BQ.bind gg fun _ _ _=>BQ.bind gg fun _ _ _=>fin _) fun _=>Ap (fun _=>BQ.bind gg fun _ _ _=>fin _) fun _=>Ap (fun _=>BQ.bind gg fun _ _ _=>fin _) fun _=>AS ⟨by show l.length<=1000;omega,q2.mk2 e⟩
structure Zs(b:AF)(c:BV)(br:List Int)(ss:List At):Prop where
 blk:MY b
 cor:c.Name.size<=1048576
 few:br.length<=6001
 src:ss.length<=1000
theorem rJ{n:Nat}(hn:1048577<=n){c:List Int}(hc:Je c){s:AA}(hs:EB c s){O:Mo}{g:AF×BV×List Int×List At×AA->Option Unit}(hg:∀b co br ss s',Zs b co br ss->EB c s'->g (b,co,br,ss,s')=some ()):VQ n O s g=some ():=by
 have e:=hs.code
 rw [VQ]
 refine vO hn hc hs fun b s' hb hs'=>La (vS hc (hs'.mk2 e)) fun co ⟨hco,h1⟩=>La (Nx hc (h1.mk2 e) 3) fun r ⟨h2,_⟩=>?_
 have go:∀(b:AF) (s':AA),MY b->EB c s'->(Option.bind (Rz n ((AA.mk s.code_ s'.at_ s'.seed_)) b) fun r156=>(Option.bind (Tv n b) fun r176=>(Option.bind (cond (r176&&((((r156.1.length:Int))==0))) (Option.bind (EK n ((AA.mk s.code_ r156.2.at_ r156.2.seed_)) 6) fun r187=>(some (decide (r187.1>0),r187.2.at_,r187.2.seed_))) (some (false,r156.2.at_,r156.2.seed_))) fun c187=>(cond c187.1 (Option.bind (dW n b) fun r222=>(Option.bind (XW n ((AA.mk s.code_ c187.2.1 c187.2.2)) b) fun r232=>(g (b,co.1,r222,r232.1,(AA.mk s.code_ r232.2.at_ r232.2.seed_))))) (Option.bind (XW n ((AA.mk s.code_ c187.2.1 c187.2.2)) b) fun r302=>(g (b,co.1,r156.1,r302.1,(AA.mk s.code_ r302.2.at_ r302.2.seed_))))))))=some ():=fun b s' hb hs'=>by
  refine La (vL hn hc (hs'.mk2 e) hb.sm) fun br ⟨hbr,h3⟩=>?_
  obtain⟨v,e1,hv⟩:=XP (n:=n) hb.sm hn
  rw [e1,Am]
  refine La (A:=fun x:Bool×Int×Int=>EB c (AA.mk s.code_ x.2.1 x.2.2)∧(x.1=true->v=true)) (Ap (fun q=>BQ.bind (Nx hc (h3.mk2 e) 6) fun r _ ⟨q1,_⟩=>AS ⟨q1.mk2 e,fun _=>by cases v<;>simp_all⟩) fun _=>AS ⟨h3.mk2 e,fun h=>by cases h⟩) fun x ⟨hx,hv2⟩=>FY (fun q=>?_) fun _=>La (tH hn hc hx hb.sm) fun ss ⟨hss,h4⟩=>hg _ _ _ _ _ ⟨hb,hco,hbr,hss⟩ (h4.mk2 e)
  exact La (mU (hv.1 (hv2 q)) hn) fun bk hbk=>La (tH hn hc hx hb.sm) fun ss ⟨hss,h4⟩=>hg _ _ _ _ _ ⟨hb,hco,by omega,hss⟩ (h4.mk2 e)
 exact FY (fun _=>sC hn hc (h2.mk2 e) (by omega) fun b s' hb _ _ hs'=>go b s' hb hs') fun _=>go b r.2 hb h2
structure qO(t:Af):Prop where
 r:t.Reached.length<=156
 a:t.Arrival.length<=156
 s:t.Slew.length<=156
theorem vC{n:Nat}(hn:1048577<=n){c:List Int}(hc:Je c){s:AA}(hs:EB c s){b:AF}{co:BV}{br:List Int}{ss:List At}(h:Zs b co br ss):BQ (fun r=>qO r.1∧EB c r.2) (WV n s b co br ss):=by
 have e:=hs.code
 rw [WV]
 refine BQ.bind (uH (c:=co) h.blk.sm h.cor (by have:=h.few;omega) (by have:=h.src;omega) hn) fun t _ ⟨N,hN,t1,t2,t3⟩=>?_
 have tw:qO t.1:=⟨by omega,by omega,by omega⟩
 refine BQ.bind (A:=fun x:Bool×Int×Int=>EB c (AA.mk s.code_ x.2.1 x.2.2)∧(x.1=false->0<N)) (Ap (fun _=>AS ⟨hs,fun h=>by cases h⟩) fun q=>BQ.bind (Nx hc hs 8) fun r _ ⟨q1,_⟩=>AS ⟨q1.mk2 e,fun _=>by have:=beq_eq_false_iff_ne.1 q;omega⟩) fun x _ ⟨hx,h0⟩=>Ap (fun _=>AS ⟨tw,hx⟩) fun q=>?_
 have h0:=h0 q
 refine BQ.bind (Nx hc hx _) fun r1 _ ⟨q1,z0,z1⟩=>BQ.bind (Nx hc (q1.mk2 e) 4) fun r2 _ ⟨q2,_⟩=>?_
 have z2:r1.1<(N:Int):=by omega
 refine Ap (fun _=>BQ.bind (Cd z0 (by omega)) fun _ _ _=>BQ.bind (Cd z0 (by omega)) fun _ _ _=>AS ⟨⟨by show(t.1.Reached.set _ _).length<=156;simp;omega,tw.a,tw.s⟩,q2.mk2 e⟩) fun _=>Ap (fun _=>BQ.bind (Cd z0 (by omega)) fun _ _ _=>BQ.bind (Cd z0 (by omega)) fun _ _ _=>AS ⟨⟨tw.r,by show(t.1.Arrival.set _ _).length<=156;simp;omega,tw.s⟩,q2.mk2 e⟩) fun _=>Ap (fun _=>BQ.bind (Cd z0 (by omega)) fun _ _ _=>BQ.bind (Cd z0 (by omega)) fun _ _ _=>AS ⟨⟨tw.r,tw.a,by show(t.1.Slew.set _ _).length<=156;simp;omega⟩,q2.mk2 e⟩) fun _=>?_
 rw [show LI t.1.Slew 0 r1.1=some ((t.1.Slew.take r1.1.toNat).drop (0:Int).toNat)from if_pos ⟨by omega,by omega,by omega⟩,Am]
 exact AS ⟨⟨tw.r,tw.a,by simp;omega⟩,q2.mk2 e⟩
theorem vG{n:Nat}{c:List Int}(hc:Je c){s:AA}(hs:EB c s):BQ (fun r=>r.1.Uncertainty<=12∧EB c r.2) (UU n s):=by
 have e:=hs.code
 rw [UU]
 refine BQ.bind (Nx hc hs 300) fun r1 _ ⟨h1,_⟩=>BQ.bind (Nx hc (h1.mk2 e) 60) fun r2 _ ⟨h2,_⟩=>BQ.bind (Nx hc (h2.mk2 e) 12) fun r3 _ ⟨h3,_,u⟩=>BQ.bind (Nx hc (h3.mk2 e) 30) fun r4 _ ⟨h4,_⟩=>?_
 have u:r3.1<=12:=by omega
 exact Ap (fun _=>BQ.bind (Nx hc (h4.mk2 e) 3) fun r5 _ ⟨h5,y0,y1⟩=>BQ.bind (Cd y0 (by simp;omega)) fun _ _ _=>AS ⟨u,h5.mk2 e⟩) fun _=>Ap (fun _=>BQ.bind (Nx hc (h4.mk2 e) 2) fun r5 _ ⟨h5,y0,y1⟩=>BQ.bind (Cd y0 (by simp;omega)) fun _ _ _=>AS ⟨u,h5.mk2 e⟩) fun _=>Ap (fun _=>AS ⟨by show(-1:Int)<=12;omega,h4.mk2 e⟩) fun _=>AS ⟨u,h4.mk2 e⟩
theorem sZ{n:Nat}(hn:1048577<=n){c:List Int}(hc:Je c){s:AA}(hs:EB c s){O:Mo}{g:AF×Af×Ak×AA->Option Unit}(hg:∀b t rel s',MY b->qO t->rel.Uncertainty<=12->EB c s'->g (b,t,rel,s')=some ()):Wk n O s g=some ():=by
 have e:=hs.code
 rw [Wk]
 exact rJ hn hc hs fun b co br ss s' h hs'=>La (vC hn hc (hs'.mk2 e) h) fun t ⟨ht,h1⟩=>La (vG hc (h1.mk2 e)) fun r ⟨hr,h2⟩=>hg _ _ _ _ h.blk ht hr (h2.mk2 e)
theorem Iy.is{rel:Ak}(h:Iy rel=true):(-1000000000<=rel.Setup∧rel.Setup<=1000000000)∧(-1000000000<=rel.Hold∧rel.Hold<=1000000000)∧0<=rel.Uncertainty∧rel.Uncertainty<=1000000000:=by
 simp only [Iy,Bool.and_eq_true,decide_eq_true_eq]at h
 omega
theorem Iy.of{s h u:Int}(h1:-1000000000<=s∧s<=1000000000)(h2:-1000000000<=h∧h<=1000000000)(h3:0<=u∧u<=1000000000):Iy ⟨s,h,u⟩=true:=by
 simp only [Iy,Bool.and_eq_true,decide_eq_true_eq]
 omega
theorem LS(a:Int):∃k:Int,wrap .i64 a=a+18446744073709551616*k∧ -9223372036854775808<=wrap .i64 a∧wrap .i64 a<=9223372036854775807:=by
 have e:(2:Int)^64=18446744073709551616:=by decide
 have e3:(2:Int)^63=9223372036854775808:=by decide
 unfold IntKind.wrap
 simp only [IntKind.bits,IntKind.signed,Bool.true_and,Nat.reduceSub,e,e3]
 split
 ·rename_i h
  have h:=of_decide_eq_true h
  exact⟨-(a/18446744073709551616)-1,by omega,by omega,by omega⟩
 ·rename_i h
  have h:¬a%18446744073709551616>=9223372036854775808:=fun g=>h (decide_eq_true g)
  exact⟨-(a/18446744073709551616),by omega,by omega,by omega⟩
def Tz(rel:Ak)(k:Bool)(R:Int)(D C:Ar):Int:=cond k (wrap .i64 (wrap .i64 (wrap .i64 (wrap .i64 (rel.Setup+C.Early)-R)-rel.Uncertainty)-D.Late)) (wrap .i64 (D.Early-wrap .i64 (wrap .i64 (wrap .i64 (rel.Hold+C.Late)+R)+rel.Uncertainty)))
theorem WX{rel:Ak}{by_ R:Int}{D C:Ar}:Tz ⟨wrap .i64 (rel.Setup+by_),rel.Hold,rel.Uncertainty⟩ true R D C=wrap .i64 (Tz rel true R D C+by_):=by
 unfold Tz
 simp only [cT]
 obtain⟨k0,a0,b0,c0⟩:=LS (rel.Setup+by_)
 generalize wrap .i64 (rel.Setup+by_)=x0 at*
 obtain⟨k1,a1,b1,c1⟩:=LS (x0+C.Early)
 generalize wrap .i64 (x0+C.Early)=x1 at*
 obtain⟨k2,a2,b2,c2⟩:=LS (x1-R)
 generalize wrap .i64 (x1-R)=x2 at*
 obtain⟨k3,a3,b3,c3⟩:=LS (x2-rel.Uncertainty)
 generalize wrap .i64 (x2-rel.Uncertainty)=x3 at*
 obtain⟨k4,a4,b4,c4⟩:=LS (x3-D.Late)
 generalize wrap .i64 (x3-D.Late)=x4 at*
 obtain⟨k5,a5,b5,c5⟩:=LS (rel.Setup+C.Early)
 generalize wrap .i64 (rel.Setup+C.Early)=x5 at*
 obtain⟨k6,a6,b6,c6⟩:=LS (x5-R)
 generalize wrap .i64 (x5-R)=x6 at*
 obtain⟨k7,a7,b7,c7⟩:=LS (x6-rel.Uncertainty)
 generalize wrap .i64 (x6-rel.Uncertainty)=x7 at*
 obtain⟨k8,a8,b8,c8⟩:=LS (x7-D.Late)
 generalize wrap .i64 (x7-D.Late)=x8 at*
 obtain⟨k9,a9,b9,c9⟩:=LS (x8+by_)
 generalize wrap .i64 (x8+by_)=x9 at*
 omega
structure YV where
 p:Int×Int×Int
 k:Bool
 R:Int
 D:Ar
 C:Ar
def YV.at_(x:YV)(rel:Ak):Ay:=⟨x.p.1,x.p.2.1,x.p.2.2,Tz rel x.k x.R x.D x.C⟩
theorem wC{n:Nat}{b:AF}{t:Af}(v:Bf b)(vt:Oz b t)(hn:1048577<=n){p:Int×Int×Int}(hp:p∈DB b):
 ∃a:BS,QC n b p.1 p.2.1=some (a,true)∧(a.Kind=4∨a.Kind=5)∧(p.2.2=0∨p.2.2=1)∧((∀(r:Bh) rel s,r.Block=b->Mz n r t rel ⟨p.1,p.2.1,p.2.2,s⟩=some (0,false))∨∃R D C,∀(r:Bh) rel s,r.Block=b->Mz n r t rel ⟨p.1,p.2.1,p.2.2,s⟩=some (Tz rel (a.Kind==4) R D C,true)):=by
 obtain⟨htr,a,i',j',c,ck⟩:=OU v _ hp
 obtain⟨inst,arc,tr⟩:=p
 have htr:tr=0∨tr=1:=htr
 have ck:NR b inst arc a i' j' c:=ck
 have ca:=SW (n:=n) v ck
 refine⟨a,ca,ck.kind,htr,?_⟩
 obtain⟨tb,q1,vtb⟩:=QQ ck htr
 have z1:=vt.reached;have z2:=vt.arr;have z3:=vt.slew
 obtain⟨D0,C0,m1,_⟩:=Ou (n:=n) (r:=⟨b,[],[],[],[],[]⟩) (s:=0) v rfl ck htr hn
 have nn:∀(r:Bh) s,r.Block=b->TI n r ⟨inst,arc,tr,s⟩=some ((D0:Int),(C0:Int))∧(D0:Int)<EI b∧(C0:Int)<EI b:=fun r s hr=>by
  obtain⟨D,C,n1,n2,hD,hC⟩:=Ou (n:=n) (r:=r) (s:=s) v hr ck htr hn
  rw [m1]at n1
  simp only [Option.some.injEq,Prod.mk.injEq]at n1
  exact⟨by rw [n2,n1.1,n1.2],by omega,by omega⟩
 obtain⟨_,hD,hC⟩:=nn ⟨b,[],[],[],[],[]⟩ 0 rfl
 obtain⟨r1,k1,_⟩:=CY (xs:=t.Reached) (i:=(D0:Int)) (by omega) (by omega)
 obtain⟨r2,k2,_⟩:=CY (xs:=t.Reached) (i:=(C0:Int)) (by omega) (by omega)
 obtain⟨y1,k3,_⟩:=CY (xs:=t.Arrival) (i:=(D0:Int)) (by omega) (by omega)
 obtain⟨y2,k4,_⟩:=CY (xs:=t.Arrival) (i:=(C0:Int)) (by omega) (by omega)
 obtain⟨s1,k5,_⟩:=CY (xs:=t.Slew) (i:=(D0:Int)) (by omega) (by omega)
 obtain⟨s2,k6,_⟩:=CY (xs:=t.Slew) (i:=(C0:Int)) (by omega) (by omega)
 obtain⟨R,k7,k8⟩:=Lk (n:=n) vtb s1.Late s2.Late 1 hn
 cases r1 with
 |false=>
  refine .inl fun r rel s hr=>?_
  rw [Mz]
  simp only [(nn r s hr).1,Am,k1,k2,Bool.not_false,cT]
 |true=>
  cases r2 with
  |false=>
   refine .inl fun r rel s hr=>?_
   rw [Mz]
   simp only [(nn r s hr).1,Am,k1,k2,Bool.not_false,Bool.not_true,cT,cF]
  |true=>
   refine .inr ⟨R,y1,y2,fun r rel s hr=>?_⟩
   rw [Mz]
   simp only [(nn r s hr).1,hr,ca,Am,k1,k2,k3,k4,k5,k6,q1,k8,Bool.not_true,cF]
   unfold Tz
   cases(a.Kind==4)<;>rfl
structure Xp(n:Nat)(b:AF)(t:Af)(x:YV):Prop where
 arc:∃a:BS,QC n b x.p.1 x.p.2.1=some (a,true)∧(a.Kind=4∧x.k=true∨a.Kind=5∧x.k=false)
 tr:x.p.2.2=0∨x.p.2.2=1
 sl:∀(r:Bh) rel s,r.Block=b->Mz n r t rel ⟨x.p.1,x.p.2.1,x.p.2.2,s⟩=some (Tz rel x.k x.R x.D x.C,true)
theorem lY{n:Nat}{b:AF}{t:Af}(v:Bf b)(vt:Oz b t)(hn:1048577<=n):
 ∃L:List YV,L.length<=224∧(∀x∈L,Xp n b t x)∧∀(r:Bh) rel,r.Block=b->Rm n r t rel=some (L.map fun x=>x.at_ rel):=by
 have hl:=OP v
 have key:∀ps:List (Int×Int×Int),(∀p∈ps,p∈DB b)->∃L:List YV,L.length<=ps.length∧(∀x∈L,Xp n b t x)∧∀(r:Bh) rel,r.Block=b->∀(pre:List (Int×Int×Int)) (m:Nat) (s:List Ay),pre.length+ps.length<=224->ps.length<m->s.length<=pre.length->FI n r t rel ((pre++ps).map QF) (fun l57 i61=>(some l57)) m s (pre.length:Int)=some (s++L.map fun x=>x.at_ rel):=by
  intro ps
  induction ps with
  |nil=>
   intro _
   refine⟨[],by simp,by simp,fun r rel hr pre m s h1 hm hs=>?_⟩
   obtain⟨m,rfl⟩:∃k,m=k+1:=⟨m-1,by omega⟩
   have dm:decide ((pre.length:Int)<((pre.map QF).length:Int))=false:=decide_eq_false (by simp)
   simp only [FI.eq_2,dm,cF,List.map_nil,List.append_nil]
  |cons p ps ih=>
   intro hp
   obtain⟨L,hL,hin,hrun⟩:=ih fun q hq=>hp q (List.mem_cons_of_mem _ hq)
   obtain⟨a,ca,kd,htr,sl⟩:=wC (n:=n) v vt hn (hp p (List.mem_cons_self ..))
   have nxu:∀(pre:List (Int×Int×Int)),(pre++p::ps)=(pre++[p])++ps:=fun pre=>by simp
   have el:∀(pre:List (Int×Int×Int)),AI ((pre++p::ps).map QF) (pre.length:Int)=some (QF p):=fun pre=>by
    rw [AV (by simp)];simp
   rcases sl with sl|⟨R,D,C,sl⟩
   ·refine⟨L,by simp;omega,hin,fun r rel hr pre m s h1 hm hs=>?_⟩
    simp only [List.length_cons]at h1 hm
    obtain⟨m,rfl⟩:∃k,m=k+1:=⟨m-1,by omega⟩
    have dm:decide ((pre.length:Int)<(((pre++p::ps).map QF).length:Int))=true:=decide_eq_true (by simp;omega)
    have es:Mz n r t rel (QF p)=some (0,false):=sl r rel 0 hr
    simp only [FI.eq_2,dm,cT,el,Am,es,cF,wS (show pre.length<4611686018427387904 by omega)]
    have:=hrun r rel hr (pre++[p]) m s (by simp;omega) (by omega) (by simp;omega)
    rw [nxu pre]
    simpa using this
   ·refine⟨⟨p,a.Kind==4,R,D,C⟩::L,by simp;omega,fun x hx=>?_,fun r rel hr pre m s h1 hm hs=>?_⟩
    ·rcases List.mem_cons.1 hx with rfl|hx
     ·exact⟨⟨a,ca,by rcases kd with h|h<;>rw [h]<;>simp⟩,htr,sl⟩
     ·exact hin x hx
    ·simp only [List.length_cons]at h1 hm
     obtain⟨m,rfl⟩:∃k,m=k+1:=⟨m-1,by omega⟩
     have dm:decide ((pre.length:Int)<(((pre++p::ps).map QF).length:Int))=true:=decide_eq_true (by simp;omega)
     have es:Mz n r t rel (QF p)=some (Tz rel (a.Kind==4) R D C,true):=sl r rel 0 hr
     simp only [FI.eq_2,dm,cT,el,Am,es,wS (show pre.length<4611686018427387904 by omega)]
     rw [BK (by simp;omega) (by omega),Am]
     have:=hrun r rel hr (pre++[p]) m (s++[⟨p.1,p.2.1,p.2.2,Tz rel (a.Kind==4) R D C⟩]) (by simp;omega) (by omega) (by simp;omega)
     rw [nxu pre]
     simpa [YV.at_,QF] using this
 obtain⟨L,h1,h2,h3⟩:=key (DB b) fun _ h=>h
 refine⟨L,by omega,h2,fun r rel hr=>?_⟩
 have:=h3 r rel hr [] n [] (by simpa using hl) (by omega) (by simp)
 rw [Rm,hr,UZ v hn,Am]
 simpa using this
theorem qW{n:Nat}{b:AF}{t:Af}(hb:My b)(ht:t.Reached.length<=1048576)(hn:1048577<=n):
 (∀rel,∃c:Int,(c !=0)=true∧Pa n b t rel=some ([],c)∧PC n b t rel=some ([],c))∨
 (Bf b∧Oz b t)∧∃L:List YV,L.length<=224∧(∀x∈L,Xp n b t x)∧∀rel,(Iy rel=false∧∃c:Int,(c !=0)=true∧Pa n b t rel=some ([],c)∧PC n b t rel=some ([],c))∨Iy rel=true∧Pa n b t rel=some (L.map fun x=>x.at_ rel,0)∧PC n b t rel=some (L.map fun x=>x.at_ rel,0):=by
 have bad:∀rel (c:Int),(c !=0)=true->Pm n b t rel=some c->RI n b t rel=some (none,c)->Pa n b t rel=some ([],c)∧PC n b t rel=some ([],c):=fun rel c hc f1 f2=>by
  rw [Pa,PC,f1,f2]
  simp only [Am,Mg,hc,cT]
  exact⟨trivial,trivial⟩
 by_cases g:Bf b∧Oz b t
 ·obtain⟨v,vt⟩:=g
  obtain⟨L,l1,l2,l3⟩:=lY (n:=n) v vt hn
  refine .inr ⟨⟨v,vt⟩,L,l1,l2,fun rel=>?_⟩
  rcases SF (n:=n) (rel:=rel) hb ht hn with ⟨f1,_,w,f2⟩|⟨c,hc,f1,f2⟩
  ·have rb:Iy rel=true:=by
    rw [lP hb ht hn]at f1
    cases e:Iy rel with
    |true=>rfl
    |false=>
     rw [e]at f1
     rcases qH (n:=n) hb ht hn with ⟨g1,_⟩|⟨g1,_⟩<;>rw [g1]at f1<;>simp at f1
   refine .inr ⟨rb,?_⟩
   rw [Pa,PC,f1,f2]
   simp only [Am,cF,Mg,bne_self_eq_false]
   obtain⟨g,_,k1,k2⟩:=pM (n:=n) (rel:=rel) (w:=w) v vt hn
   have k3:=l3 ⟨b,w.places_,w.links_,w.loads_,w.delays_,w.extras_⟩ rel rfl
   rw [k2]at k3
   obtain rfl:=Option.some.inj k3
   exact⟨by rw [k1];rfl,by rw [k2];rfl⟩
  ·have rb:Iy rel=false:=by
    cases e:Iy rel with
    |false=>rfl
    |true=>
     rw [lP hb ht hn,e]at f1
     rcases qH (n:=n) hb ht hn with ⟨g1,_⟩|⟨g1,_⟩
     ·rw [g1]at f1
      simp only [Am,bne_self_eq_false,cF,Bool.not_true,Option.some.injEq]at f1
      subst f1;cases hc
     ·exfalso
      obtain⟨q,e1,hq⟩:=XP (n:=n) hb hn
      obtain⟨p,f3,hp⟩:=jC (n:=n) (b:=b) ht hn
      obtain rfl:q=true:=hq.2 v
      obtain rfl:p=true:=hp.2 vt
      rw [Ri,e1]at g1
      simp [Pw v hn,f3]at g1
   exact .inl ⟨rb,c,hc,bad rel c hc f1 f2⟩
 ·refine .inl fun rel=>?_
  rcases SF (n:=n) (rel:=rel) hb ht hn with ⟨_,g2,_⟩|⟨c,hc,f1,f2⟩
  ·exact absurd g2 g
  ·exact⟨c,hc,bad rel c hc f1 f2⟩
theorem kY{n:Nat}{b:AF}{t:Af}{rel:Ak}{x:YV}{kind:Int}(hb:My b)(ht:t.Reached.length<=1048576)(hR:Iy rel=true)(g:Bf b∧Oz b t)(hx:Xp n b t x)(hn:1048577<=n)(hk:kind=4∨kind=5):
 Te n b t rel kind ⟨x.p.1,x.p.2.1,x.p.2.2,0⟩=some (cond ((kind==4)==x.k) (Tz rel x.k x.R x.D x.C,0) (0,4)):=by
 obtain⟨⟨a,ca,kd⟩,htr,sl⟩:=hx
 rcases SF (n:=n) (rel:=rel) hb ht hn with ⟨f1,_,w,f2⟩|⟨c,hc,f1,f2⟩
 ·have d2:(decide (x.p.2.2>=0)&&decide (x.p.2.2<=1))=true:=by simp only [Bool.and_eq_true,decide_eq_true_eq];omega
  have e:=sl ⟨b,w.places_,w.links_,w.loads_,w.delays_,w.extras_⟩ rel 0 rfl
  rw [Te,f2]
  simp only [Am,Mg,bne_self_eq_false,cF,ca,vY,d2,e,Bool.not_true,Bool.false_or]
  rcases kd with ⟨ka,kx⟩|⟨ka,kx⟩<;>rcases hk with rfl|rfl<;>rw [ka,kx]<;>rfl
 ·exfalso
  rw [lP hb ht hn,hR]at f1
  rcases qH (n:=n) hb ht hn with ⟨g1,_⟩|⟨g1,_⟩
  ·rw [g1]at f1
   simp only [Am,bne_self_eq_false,cF,Bool.not_true,Option.some.injEq]at f1
   subst f1;cases hc
  ·obtain⟨q,e1,hq⟩:=XP (n:=n) hb hn
   obtain⟨p,f3,hp⟩:=jC (n:=n) (b:=b) ht hn
   obtain rfl:q=true:=hq.2 g.1
   obtain rfl:p=true:=hp.2 g.2
   rw [Ri,e1]at g1
   simp [Pw g.1 hn,f3]at g1
theorem eC{code:List Int}(hR:code.length<=9223372036854775807∧∀x∈code,eQ .u8 x):∃n O,YM n O code (fun r=>cond r (some ()) none)=some ():=by
 obtain⟨n,hn⟩:∃n,1048577<=n:=⟨_,Nat.le_refl _⟩
 obtain⟨O⟩:=Mo.is
 refine⟨n,O,?_⟩
 rw [YM,Yi,Am]
 refine FY (fun _=>rfl) fun hbg=>?_
 have hc:=Je.of hR (of_decide_eq_false hbg)
 refine La (vH hc hn 6105) fun d hd=>?_
 rw [YP]
 refine La (Fr hc hn) fun s hs=>sZ hn hc (hs.mk2 rfl) fun b t rel s' hb ht hu hs'=>?_
 have htr:t.Reached.length<=1048576:=by have:=ht.r;omega
 rcases qW (n:=n) hb.sm htr hn with h|⟨g,L,hL,hin,h⟩
 ·obtain⟨c,hc0,e1,e2⟩:=h rel
  simp only [e1,e2,Am,bne_self_eq_false,Bool.or_self,cF,hc0,Bool.true_or,cT]
 ·rcases h rel with ⟨_,c,hc0,e1,e2⟩|⟨rb,e1,e2⟩
  ·simp only [e1,e2,Am,bne_self_eq_false,Bool.or_self,cF,hc0,Bool.true_or,cT]
  ·simp only [e1,e2,Am,bne_self_eq_false,Bool.or_self,cF,Bool.false_or]
   refine FY (fun _=>rfl) fun q=>La (tZ hc (hd.mk2 rfl) (k:=100) (by omega)) fun r ⟨⟨r0,r1⟩,_⟩=>?_
   obtain⟨b1,b2,b3⟩:=Iy.is rb
   have q2:rel.Setup<=900000000:=by
    have:=of_decide_eq_false q
    omega
   have w1:wrap .i64 (1+r.1)=1+r.1:=Ah (by omega) (by omega)
   have w2:wrap .i64 (rel.Setup+(1+r.1))=rel.Setup+(1+r.1):=Ah (by omega) (by omega)
   have hx1:=h ⟨rel.Setup+(1+r.1),rel.Hold,rel.Uncertainty⟩
   rw [Iy.of (by omega) b2 b3]at hx1
   obtain⟨_,_,f1⟩:=hx1.resolve_left fun h=>by cases h.1
   simp only [w1,w2,f1,Am,bne_self_eq_false,List.length_map,Bool.or_self,cF]
   refine loop (L:=fun m i (_:Unit)=>JA n _ (b,t,rel) (L.map fun x=>x.at_ rel,0) r (L.map fun x=>x.at_ ⟨rel.Setup+(1+r.1),rel.Hold,rel.Uncertainty⟩,0) _ m i) L.length (fun _ _=>True) (fun z=>z=some ()) ?_ ?_ n 0 () (by omega) (by omega) trivial
   ·intro m i _ hi _
    refine .inl ⟨(),trivial,?_⟩
    have k:=hin _ (List.getElem_mem hi)
    have m1:AI (L.map fun x=>x.at_ rel) (i:Int)=some (L[i].at_ rel):=by rw [AV (by simpa using hi)];simp
    have m2:AI (L.map fun x=>x.at_ ⟨rel.Setup+(1+r.1),rel.Hold,rel.Uncertainty⟩) (i:Int)=some (L[i].at_ ⟨rel.Setup+(1+r.1),rel.Hold,rel.Uncertainty⟩):=by rw [AV (by simpa using hi)];simp
    have dl:decide ((i:Int)<((L.map fun x=>x.at_ rel).length:Int))=true:=decide_eq_true (by simpa using hi)
    have o4:=kY (kind:=4) hb.sm htr rb g k hn (.inl rfl)
    have o5:=kY (kind:=5) hb.sm htr rb g k hn (.inr rfl)
    simp only [JA.eq_2,dl,cT,m1,m2,Am,wT i,w1]
    simp only [Yf,ZQ,YV.at_,o4,o5,Am]
    have hm:=WX (rel:=rel) (by_:=1+r.1) (R:=L[i].R) (D:=L[i].D) (C:=L[i].C)
    rw [w2]at hm
    cases e:L[i].k with
    |true=>
     simp only [e,show((4:Int)==4)=true from rfl,show((5:Int)==4)=false from rfl,beq_self_eq_true,show(false==true)=false from rfl,cT,cF,Bool.and_self,Am,hm,show((4:Int)==0)=false from rfl,Bool.false_and,show(true==false)=false from rfl]
    |false=>
     have h5:Tz ⟨rel.Setup+(1+r.1),rel.Hold,rel.Uncertainty⟩ false L[i].R L[i].D L[i].C=Tz rel false L[i].R L[i].D L[i].C:=rfl
     simp only [e,show((4:Int)==4)=true from rfl,show((5:Int)==4)=false from rfl,beq_self_eq_true,show(false==true)=false from rfl,cT,cF,Bool.and_self,Am,h5,show((4:Int)==0)=false from rfl,Bool.false_and,show(true==false)=false from rfl]
   ·intro m _ _
    have dn:decide ((L.length:Int)<((L.map fun x=>x.at_ rel).length:Int))=false:=decide_eq_false (by simp)
    simp only [JA.eq_2,dn,cF]
    rfl

end Go.Proofs.YthojemmmflaicaaGreatDoor
