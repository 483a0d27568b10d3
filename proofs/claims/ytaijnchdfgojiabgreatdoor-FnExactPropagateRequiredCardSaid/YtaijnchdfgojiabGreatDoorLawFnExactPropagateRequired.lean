/- The plain law behind FnExactPropagateRequired: the plain function answers true; no condition. -/
import Derived.Test.YtaijnchdfgojiabGreatDoorLawFnExactPropagateRequiredA
set_option linter.all false
set_option maxHeartbeats 4000000
namespace Go.Proofs.YtaijnchdfgojiabGreatDoor
open Go Go.RowKit Go.Eng
open Go.IntKind (wrap)
def GI(d:AQ)(q:Nat):Nat:=(CY d).findIdx (El q)
structure zY(d:AQ)(q k:Nat):Prop where
 lt:k<(CY d).length
 hit:El q (CY d)[k]=true
 only:∀j (h:j<(CY d).length),El q (CY d)[j]=true->j=k
theorem Mh{l:Ad}{d:AQ}(v:Cx l d){q:Nat}(hq:q<d.Nets.length):zY d q (GI d q):=by
 obtain⟨k,hk,a,b⟩:=Qh _ _ (kT v hq)
 have:GI d q=k:=by
  unfold GI
  rw [List.findIdx_eq hk]
  refine⟨a,fun j hj=>?_⟩
  cases c:El q ((CY d)[j]'(by omega))with
  |false=>rfl
  |true=>have:=b j (by omega) c;omega
 rw [this];exact⟨hk,a,b⟩
theorem AhX{n:Nat}{l:Ad}{d:AQ}(v:Cx l d){q:Nat}(hq:q<d.Nets.length)(hn:1048577<=n):eM n d (q:Int)=some (GI d q:Int):=by
 have hd:=Mh v hq
 have hl:=DF v.short v.few.1 v.few.2.2
 rw [eM,SE v.short v.few.1 v.few.2.2 hn,Ag]
 have hk:=hd.lt
 refine loop (L:=fun m i (_:Unit)=>Ll (q:Int) ((CY d).map Gv) (fun i26=>some (-1)) m i) ((CY d).map Gv).length (fun i _=>i<=GI d q) (fun o=>o=some (GI d q:Int)) ?_ ?_ n 0 () (by omega) (by simp;omega) (by omega)
 ·intro m i _ hi hI
  have hi2:i<(CY d).length:=by simpa using hi
  have e:((CY d).map Gv)[i]=Gv (CY d)[i]:=by simp
  simp only [Ll.eq_2,Cm hi,cT,AR hi,Ag,CT,e,wT i]
  have e2:((Gv (CY d)[i]).net_==(q:Int)&&(Gv (CY d)[i]).drives_)=El q (CY d)[i]:=rfl
  rw [e2]
  cases c:El q (CY d)[i]with
  |true=>rw [hd.only i hi2 c];exact .inr rfl
  |false=>
   refine .inl ⟨(),?_,rfl⟩
   rcases Nat.lt_or_ge i (GI d q)with h|h
   ·omega
   ·obtain rfl:i=GI d q:=by omega
    rw [hd.hit]at c;cases c
 ·intro m _ hI
  have:((CY d).map Gv).length=(CY d).length:=by simp
  omega
def Rm(a:Aq)(p:Int×Int):Bool:=cond (a.Kind==1) ((a.Sense==3)||((a.Sense==1)==(p.1==p.2))) (cond (a.Kind==2) (p.1==0) (cond (a.Kind==3) (p.1==1) false))
def UL(a:Aq):List (Int×Int):=[(0,0),(0,1),(1,0),(1,1)].filter (Rm a)
def jK(o k:Nat)(a:Aq):List AU:=(UL a).map fun t=>⟨2*((o:Int)+a.From)+t.1,2*((o:Int)+a.To)+t.2,1,(k:Int)⟩
def SG(b:AM)(i:Nat)(x:AX):List AU:=ER (jK (Eg b.Design i)) 0 (JN b x)
def gF(r:Int)(j:Nat)(s:Int):List AU:=[⟨2*r,2*s,2,(j:Int)⟩,⟨2*r+1,2*s+1,2,(j:Int)⟩]
def oC(d:AQ)(q:Nat):List AU:=ER (gF (GI d q:Int)) 0 (FW d (q:Int))
def Fx(b:AM):List AU:=ER (SG b) 0 b.Design.Instances++ER (fun q (_:ByteArray)=>oC b.Design q) 0 b.Design.Nets
theorem WE(a:Aq):(UL a).length<=4:=Nat.le_trans (List.length_filter_le _ _) (by simp)
theorem RE(o k:Nat)(a:Aq):(jK o k a).length<=4:=by unfold jK;rw [List.length_map];exact WE a
theorem LW{b:AM}(v:Bv b)(i:Nat){x:AX}(hx:x∈b.Design.Instances):(SG b i x).length<=32:=by
 obtain⟨j,hj,rfl⟩:=List.getElem_of_mem hx
 obtain⟨k,hk,_,gc,_,vc⟩:=v.design.inst_at hj
 have:=Dz (c:=4) (g:=jK (Eg b.Design i)) (JN b b.Design.Instances[j]) 0 fun j a _=>RE _ _ a
 have few:=vc.few
 unfold SG
 unfold JN at this ⊢
 rw [gc]at this ⊢
 simp only at this ⊢
 omega
theorem RH{l:Ad}{d:AQ}(v:Cx l d)(q:Nat):(oC d q).length<=156:=by
 have h1:=Dz (c:=2) (g:=gF (GI d q:Int)) (FW d (q:Int)) 0 fun j s _=>by simp [gF]
 have h2:=Fk (d:=d) (q:=(q:Int))
 have hl:=DF v.short v.few.1 v.few.2.2
 have h3:snk d (q:Int)<=78:=Nat.le_trans List.countP_le_length hl
 unfold oC;omega
theorem Oh{b:AM}(v:Bv b):(Fx b).length<=5128:=by
 have h1:=Dz (c:=32) (g:=SG b) b.Design.Instances 0 fun j x hx=>LW v j hx
 have h2:=Dz (c:=156) (g:=fun q (_:ByteArray)=>oC b.Design q) b.Design.Nets 0 fun j x _=>RH v.design j
 have:=v.design.few
 unfold Fx;rw [List.length_append];omega
theorem pL{n:Nat}{l:List AU}{f t a b kd k:Int}(hl:l.length<=10000000)(hf:0<=f∧f<=100000)(ht:0<=t∧t<=100000)(ha:0<=a∧a<=1)(hb:0<=b∧b<=1):Rs n l f t a b kd k=some (l++[⟨2*f+a,2*t+b,kd,k⟩]):=by
 rw [Rs,AY (x:=2*f) (by omega) (by omega),AY (x:=2*t) (by omega) (by omega),AY (by omega) (by omega),AY (by omega) (by omega),Bq (by simp;omega) (by omega),Ag]
theorem nX{n:Nat}{a:Aq}{f t k i:Int}{k2:List AU->Int->Option (List AU)}(hf:0<=f∧f<=100000)(ht:0<=t∧t<=100000)(hi:0<=i∧i<=1){l:List AU}(hl:l.length<=9000000)(m:Nat):
 FM n a f t k i k2 (m+3) l 0=k2 (l++([(i,0),(i,1)].filter (Rm a)).map fun p=>⟨2*f+p.1,2*t+p.2,1,k⟩) 2:=by
 have w1:wrap .i64 ((0:Int)+1)=1:=by decide
 have w2:wrap .i64 ((1:Int)+1)=2:=by decide
 have step:∀(m:Nat) (l:List AU) (j:Int),l.length<=9500000->0<=j->j<=1->FM n a f t k i k2 (m+1) l j=FM n a f t k i k2 m (l++([(i,j)].filter (Rm a)).map fun p=>⟨2*f+p.1,2*t+p.2,1,k⟩) (wrap .i64 (j+1)):=by
  intro m l j hl2 h0 h1
  have hp:=pL (n:=n) (l:=l) (f:=f) (t:=t) (a:=i) (b:=j) (kd:=1) (k:=k) (by omega) hf ht hi ⟨h0,h1⟩
  have dj:decide (j<=1)=true:=decide_eq_true h1
  simp only [FM.eq_2,dj,cT,hp,Ag,List.filter_cons,List.filter_nil,Rm]
  by_cases k1:a.Kind=1
  ·have e1:(a.Kind==1)=true:=by rw [beq_iff_eq];exact k1
   simp only [e1,cT]
   by_cases c:((a.Sense==3)||((a.Sense==1)==(i==j)))=true
   ·rw [c];simp
   ·have c:((a.Sense==3)||((a.Sense==1)==(i==j)))=false:=by simpa using c
    rw [c];simp
  ·have e1:(a.Kind==1)=false:=by rw [beq_eq_false_iff_ne];exact k1
   simp only [e1,cF]
   by_cases k2:a.Kind=2
   ·have e2:(a.Kind==2)=true:=by rw [beq_iff_eq];exact k2
    simp only [e2,cT]
    by_cases c:i=0
    ·subst c;simp
    ·have c:(i==0)=false:=by rw [beq_eq_false_iff_ne];exact c
     rw [c];simp
   ·have e2:(a.Kind==2)=false:=by rw [beq_eq_false_iff_ne];exact k2
    simp only [e2,cF]
    by_cases k3:a.Kind=3
    ·have e3:(a.Kind==3)=true:=by rw [beq_iff_eq];exact k3
     simp only [e3,cT]
     by_cases c:i=1
     ·subst c;simp
     ·have c:(i==1)=false:=by rw [beq_eq_false_iff_ne];exact c
      rw [c];simp
    ·have e3:(a.Kind==3)=false:=by rw [beq_eq_false_iff_ne];exact k3
     simp only [e3,cF];simp
 have hl3:∀j:Int,(([(i,j)].filter (Rm a)).map fun p:Int×Int=>(⟨2*f+p.1,2*t+p.2,1,k⟩:AU)).length<=1:=fun j=>by rw [List.length_map];exact Nat.le_trans (List.length_filter_le _ _) (by simp)
 rw [step (m+2) l 0 (by omega) (by omega) (by omega),w1,step (m+1) _ 1 (by have:=hl3 0;rw [List.length_append];omega) (by omega) (by omega),w2,FM.eq_2]
 have d2:decide ((2:Int)<=1)=false:=by decide
 rw [d2,cF,List.append_assoc,←List.map_append,←List.filter_append]
 rfl
theorem AlR{n:Nat}{a:Aq}{f t k:Int}(hf:0<=f∧f<=100000)(ht:0<=t∧t<=100000){l:List AU}(hl:l.length<=8000000)(hn:1048577<=n):
 F_i n l a f t k=some (l++(UL a).map fun p=>⟨2*f+p.1,2*t+p.2,1,k⟩):=by
 obtain⟨m,rfl⟩:∃m,n=m+3:=⟨n-3,by omega⟩
 have w1:wrap .i64 ((0:Int)+1)=1:=by decide
 have w2:wrap .i64 ((1:Int)+1)=2:=by decide
 have d0:decide ((0:Int)<=1)=true:=by decide
 have d1:decide ((1:Int)<=1)=true:=by decide
 have d2:decide ((2:Int)<=1)=false:=by decide
 have hl3:(([((0:Int),(0:Int)),(0,1)].filter (Rm a)).map fun p:Int×Int=>(⟨2*f+p.1,2*t+p.2,1,k⟩:AU)).length<=2:=by rw [List.length_map];exact Nat.le_trans (List.length_filter_le _ _) (by simp)
 rw [F_i,Me.eq_2,d0,cT,nX hf ht (by omega) (by omega),w1,Me.eq_2,d1,cT,nX hf ht (by omega) (by rw [List.length_append];omega),w2,Me.eq_2,d2,cF,List.append_assoc,←List.map_append,←List.filter_append]
 rfl
theorem Rt{c:Af}(vc:PM c){j:Nat}(hj:j<c.Arcs.length):(0<=c.Arcs[j].From∧c.Arcs[j].From<c.Pins.length)∧(0<=c.Arcs[j].To∧c.Arcs[j].To<c.Pins.length)∧(c.Arcs[j].Kind=1∧(1<=c.Arcs[j].Sense∧c.Arcs[j].Sense<=3)∨c.Arcs[j].Kind=2∨c.Arcs[j].Kind=3∨c.Arcs[j].Kind=4∨c.Arcs[j].Kind=5):=by
 have ar:=(vc.arcs j hj).1
 unfold Nz at ar
 refine⟨by omega,by omega,?_⟩
 obtain⟨_,ar⟩:=ar
 by_cases k1:c.Arcs[j].Kind=1
 ·rw [if_pos k1]at ar;exact .inl ⟨k1,ar.2.2.1⟩
 ·rw [if_neg k1]at ar
  by_cases k2:c.Arcs[j].Kind=2∨c.Arcs[j].Kind=3
  ·rcases k2 with k|k
   ·exact .inr (.inl k)
   ·exact .inr (.inr (.inl k))
  ·rw [if_neg k2]at ar
   by_cases k4:c.Arcs[j].Kind=4∨c.Arcs[j].Kind=5
   ·rcases k4 with k|k
    ·exact .inr (.inr (.inr (.inl k)))
    ·exact .inr (.inr (.inr (.inr k)))
   ·rw [if_neg k4]at ar;exact ar.elim
theorem Tf{a:Aq}(h:3<a.Kind):UL a=[]:=by
 have e1:(a.Kind==1)=false:=by rw [beq_eq_false_iff_ne];omega
 have e2:(a.Kind==2)=false:=by rw [beq_eq_false_iff_ne];omega
 have e3:(a.Kind==3)=false:=by rw [beq_eq_false_iff_ne];omega
 simp [UL,Rm,e1,e2,e3]
theorem qQ{n:Nat}{b:AM}(v:Bv b)(hn:1048577<=n):uK n b=some (Fx b):=by
 have vd:=v.design
 have few:=vd.few
 have hl:=DF vd.short vd.few.1 vd.few.2.2
 have hI:=Dz (c:=32) (g:=SG b) b.Design.Instances 0 fun j x hx=>LW v j hx
 rw [uK]
 rw [DL (xs:=b.Design.Instances) (L:=fun m s i=>KN n b (fun l44 i48=>(HZ n b (fun l55 i59=>(some l55)) n l44 0)) m s i) (k:=fun s=>HZ n b (fun l55 i59=>some l55) n s 0) (SG b) 32 0 (fun j x hx=>LW v j hx) (by omega) (by
  intro m i hi s hs
  obtain⟨k,hk,_,gc,hnl,vc⟩:=v.design.inst_at hi
  have fa:=vc.few
  have fp:=vc.pins.few
  have hoff:=(HQ (d:=b.Design) (q:=0) hi (by have:=(vd.inst _ (List.getElem_mem hi)).long vd.lib;omega)).lt
  simp only [KN.eq_2,Cm hi,cT,AR hi,gc,Ag,wT i]
  have ea:JN b b.Design.Instances[i]=b.Library.Cells[k].Arcs:=by unfold JN;rw [gc]
  rw [SG,ea]
  refine DL (xs:=b.Library.Cells[k].Arcs) (L:=fun m s j=>Kg n b (i:Int) b.Library.Cells[k] _ m s j) (k:=fun s=>KN n b (fun l44 i48=>(HZ n b (fun l55 i59=>(some l55)) n l44 0)) m s ((i+1:Nat):Int)) (jK (Eg b.Design i)) 4 s.length (fun j a _=>RE _ _ a) (by omega) ?_ ?_ n (by omega) s (by omega)
  ·intro m j hj s2 hs2
   obtain⟨⟨f0,f1⟩,⟨t0,t1⟩,kd⟩:=Rt vc hj
   simp only [Kg.eq_2,Cm hj,cT,AR hj,Ag,wT j]
   by_cases c:b.Library.Cells[k].Arcs[j].Kind<=3
   ·rw [decide_eq_true c,cT]
    obtain⟨F,eF⟩:=Int.eq_ofNat_of_zero_le f0
    have eF:b.Library.Cells[k].Arcs[j].From=(F:Int):=eF
    obtain⟨T,eT⟩:=Int.eq_ofNat_of_zero_le t0
    have eT:b.Library.Cells[k].Arcs[j].To=(T:Int):=eT
    have p1:=xO (n:=n) vd (q:=F) hi (by omega) hn
    have p2:=xO (n:=n) vd (q:=T) hi (by omega) hn
    rw [eF,eT,p1,Ag,p2,Ag,AlR (by omega) (by omega) (by omega) hn,Ag]
    congr 2
    unfold jK
    rw [eF,eT]
    simp
   ·rw [decide_eq_false c,cF]
    unfold jK
    rw [Tf (by omega),List.map_nil,List.append_nil]
  ·intro m s
   simp only [Kg.eq_2,DB,cF]) (by
  intro m s
  simp only [KN.eq_2,DB,cF]) n (by omega) [] (by simp)]
 rw [List.nil_append]
 rw [DL (xs:=b.Design.Nets) (L:=fun m s i=>HZ n b (fun l55 i59=>(some l55)) m s i) (k:=fun s=>some s) (fun q _=>oC b.Design q) 156 (ER (SG b) 0 b.Design.Instances).length (fun j x _=>RH vd j) (by omega) (by
  intro m i hi s hs
  have hd:=(Mh vd hi).lt
  have hsl:(FW b.Design (i:Int)).length<=78:=by
   rw [Fk];exact Nat.le_trans List.countP_le_length hl
  simp only [HZ.eq_2,Cm hi,cT,AhX vd hi hn,lV vd (i:Int) hn,Ag,wT i]
  refine DL (xs:=FW b.Design (i:Int)) (L:=fun m s j=>MV n (GI b.Design i:Int) (FW b.Design (i:Int)) _ m s j) (k:=fun s=>HZ n b (fun l55 i59=>(some l55)) m s ((i+1:Nat):Int)) (gF (GI b.Design i:Int)) 2 s.length (fun j a _=>by simp [gF]) (by omega) ?_ ?_ n (by omega) s (by omega)
  ·intro m j hj s2 hs2
   have hq:=Ki _ (List.getElem_mem hj)
   simp only [MV.eq_2,Cm hj,cT,AR hj,Ag,wT j]
   rw [pL (by omega) (by omega) (by omega) (by omega) (by omega),Ag,pL (by simp;omega) (by omega) (by omega) (by omega) (by omega),Ag]
   rw [List.append_assoc]
   congr 2
   simp [gF]
  ·intro m s
   simp only [MV.eq_2,DB,cF]) (by
  intro m s
  simp only [HZ.eq_2,DB,cF]) n (by omega) _ (Nat.le_refl _)]
 rfl
theorem Hd{α β:Type}(h:Nat->α->β):∀(xs:List α) (s:Nat),(ER (fun j q=>[h j q]) s xs).length=xs.length
 |[],_=>rfl
 |x::xs,s=>by simp [ER,Hd h xs (s+1)]
theorem Rr{α β:Type}(h:α->β):∀(xs:List α) (s:Nat),ER (fun _ q=>[h q]) s xs=xs.map h
 |[],_=>rfl
 |x::xs,s=>by simp [ER,Rr h xs (s+1)]
theorem Uj(i:Nat)(x:AX):(OA i x).length=x.Nets.length:=Hd (fun j q=>At.mk i j q ((j:Int)==(x.Nets.length:Int)-1)) x.Nets 0
theorem Xk{d:AQ}{i:Nat}(hi:i<d.Instances.length):Eg d (i+1)=Eg d i+d.Instances[i].Nets.length:=by
 unfold Eg;rw [Ik hi,List.length_append,Uj]
theorem WM{a:Aq}:∀p∈UL a,(0<=p.1∧p.1<=1)∧0<=p.2∧p.2<=1:=fun p hp=>by
 have:=(List.mem_filter.1 hp).1
 simp only [List.mem_cons,List.not_mem_nil,or_false]at this
 rcases this with rfl|rfl|rfl|rfl<;>simp
theorem Trn{n:Nat}{a:Aq}(h:a.Kind=1∧(1<=a.Sense∧a.Sense<=3)∨a.Kind=2∨a.Kind=3∨a.Kind=4∨a.Kind=5):aH n a=some ((UL a).map fun p=>(⟨p.1,p.2⟩:CA)):=by
 unfold aH
 rcases h with ⟨k,s⟩|k|k|k|k
 ·rcases(by omega:a.Sense=1∨a.Sense=2∨a.Sense=3)with s|s|s<;>simp [UL,Rm,k,s]
 all_goals simp [UL,Rm,k]
theorem AkM{n:Nat}{b:AM}(v:Bv b){i:Nat}(hi:i<b.Design.Instances.length)(hn:1048577<=n):F_v n b b.Design.Instances[i] (Eg b.Design i:Int)=some (SG b i b.Design.Instances[i]):=by
 have vd:=v.design
 have hl:=DF vd.short vd.few.1 vd.few.2.2
 obtain⟨k,hk,_,gc,hnl,vc⟩:=v.design.inst_at hi
 have fa:=vc.few
 have fp:=vc.pins.few
 have hoff:=(HQ (d:=b.Design) (q:=0) hi (by have:=(vd.inst _ (List.getElem_mem hi)).long vd.lib;omega)).lt
 have ea:JN b b.Design.Instances[i]=b.Library.Cells[k].Arcs:=by unfold JN;rw [gc]
 rw [F_v,gc,Ag,SG,ea]
 rw [DL (xs:=b.Library.Cells[k].Arcs) (L:=fun m s j=>KX n (Eg b.Design i:Int) b.Library.Cells[k] (fun l47 i51=>(some l47)) m s j) (k:=fun s=>some s) (jK (Eg b.Design i)) 4 0 (fun j a _=>RE _ _ a) (by omega) (by
  intro m j hj s hs
  obtain⟨⟨f0,f1⟩,⟨t0,t1⟩,kd⟩:=Rt vc hj
  simp only [KX.eq_2,Cm hj,cT,AR hj,Ag,Trn kd,wT j]
  have e:jK (Eg b.Design i) j b.Library.Cells[k].Arcs[j]=ER (fun _ (t:CA)=>[(⟨2*((Eg b.Design i:Int)+b.Library.Cells[k].Arcs[j].From)+t.e0,2*((Eg b.Design i:Int)+b.Library.Cells[k].Arcs[j].To)+t.e1,1,(j:Int)⟩:AU)]) 0 ((UL b.Library.Cells[k].Arcs[j]).map fun p=>(⟨p.1,p.2⟩:CA)):=by
   rw [Rr,List.map_map];rfl
  rw [e]
  have tl:=WE b.Library.Cells[k].Arcs[j]
  refine DL (xs:=(UL b.Library.Cells[k].Arcs[j]).map fun p=>(⟨p.1,p.2⟩:CA)) (L:=fun m s q=>Mt (Eg b.Design i:Int) (j:Int) b.Library.Cells[k].Arcs[j] ((UL b.Library.Cells[k].Arcs[j]).map fun p=>(⟨p.1,p.2⟩:CA)) _ m s q) (k:=fun s=>KX n (Eg b.Design i:Int) b.Library.Cells[k] (fun l47 i51=>(some l47)) m s ((j+1:Nat):Int)) _ 1 s.length (fun _ _ _=>by simp) (by rw [List.length_map];omega) ?_ ?_ n (by rw [List.length_map];omega) s (by omega)
  ·intro m q hq s2 hs2
   have hq2:q<(UL b.Library.Cells[k].Arcs[j]).length:=by simpa using hq
   have r:=WM _ (List.getElem_mem hq2)
   have e2:((UL b.Library.Cells[k].Arcs[j]).map fun p=>(⟨p.1,p.2⟩:CA))[q]=⟨(UL b.Library.Cells[k].Arcs[j])[q].1,(UL b.Library.Cells[k].Arcs[j])[q].2⟩:=by simp
   simp only [Mt.eq_2,Cm hq,cT,AR hq,Ag,e2,wT q]
   rw [AY (x:=(Eg b.Design i:Int)+b.Library.Cells[k].Arcs[j].From) (by omega) (by omega),AY (x:=(Eg b.Design i:Int)+b.Library.Cells[k].Arcs[j].To) (by omega) (by omega),AY (x:=2*((Eg b.Design i:Int)+b.Library.Cells[k].Arcs[j].From)) (by omega) (by omega),AY (x:=2*((Eg b.Design i:Int)+b.Library.Cells[k].Arcs[j].To)) (by omega) (by omega),AY (by omega) (by omega),AY (by omega) (by omega),Bq (by simp;omega) (by omega),Ag]
  ·intro m s
   simp only [Mt.eq_2,DB,cF]) (by
  intro m s
  simp only [KX.eq_2,DB,cF]) n (by omega) [] (by simp)]
 rw [List.nil_append]
def QC(d:AQ)(q j:Nat):List Int:=ER (fun i p=>if Ee (q:Int) p=true then [(i:Int)]else []) 0 ((CY d).take j)
theorem Yq(d:AQ)(q:Nat):QC d q (CY d).length=FW d (q:Int):=by unfold QC FW;rw [List.take_length]
theorem cM(d:AQ)(q j:Nat):(QC d q j).length<=j:=by
 have:=Dz (c:=1) (g:=fun i p=>if Ee (q:Int) p=true then [(i:Int)]else []) ((CY d).take j) 0 fun i p _=>by split<;>simp
 have h2:((CY d).take j).length<=j:=by simp;omega
 unfold QC;omega
def nM(N:Int)(br:List Int):Prop:=∀i,i<br.length->(0<=gd br i∧gd br i<=N-1)∧(0<i->gd br (i-1)<gd br i)
theorem Rs1{n:Nat}{br:List Int}{N:Int}(h:br.length<=1048576)(hN:0<=N∧N<=1048576)(hn:1048577<=n):BG (nM N br) (eL n br N):=by
 rw [eL]
 refine(Ei (L:=fun m i=>Jd n br N _ m i) (Q:=True) br.length 0 (fun i=>(0<=gd br i∧gd br i<=N-1)∧(0<i->gd br (i-1)<gd br i)) ?_ ?_ n 0 (by omega) (by omega) (by omega) (fun j _ h=>by omega)).iff ?_
 ·intro m i _ hi
  simp only [Jd.eq_2,Cm hi,cT,gI hi,Ag,IR,wT i,AY (x:=N-1) (by omega) (by omega)]
  by_cases c:0<=gd br i∧gd br i<=N-1
  ·have e:(decide (gd br i>=0)&&decide (gd br i<=N-1))=true:=NR.2 c
   rw [e]
   simp only [Bool.not_true,cF]
   by_cases c0:0<i
   ·have w1:wrap .i64 ((i:Int)-1)=((i-1:Nat):Int):=by rw [AY (by omega) (by omega)];omega
    simp only [decide_eq_true (show(i:Int)>0 by omega),cT,w1,gI (show i-1<br.length by omega),Ag]
    by_cases c1:gd br (i-1)<gd br i
    ·rw [decide_eq_false (show¬gd br (i-1)>=gd br i by omega),cF];exact .inl ⟨⟨c,fun _=>c1⟩,rfl⟩
    ·rw [decide_eq_true (show gd br (i-1)>=gd br i by omega),cT];exact .inr ⟨fun h=>c1 (h.2 c0),rfl⟩
   ·simp only [decide_eq_false (show¬(i:Int)>0 by omega),cF,Ag]
    exact .inl ⟨⟨c,fun h=>absurd h c0⟩,by trivial⟩
  ·have e:(decide (gd br i>=0)&&decide (gd br i<=N-1))=false:=by
    cases q:(decide (gd br i>=0)&&decide (gd br i<=N-1))with
    |false=>rfl
    |true=>exact absurd (NR.1 q) c
   rw [e]
   simp only [Bool.not_false,cT,Ag]
   exact .inr ⟨fun h=>c h.1,by trivial⟩
 ·intro m i h1 h2 _
  obtain rfl:i=br.length:=by omega
  simp only [Jd.eq_2,DB,cF]
  exact⟨true,rfl,by simp⟩
 ·exact⟨fun h i hi=>h.1 i (Nat.zero_le _) hi,fun h=>⟨fun i _ hi=>h i hi,trivial⟩⟩
theorem Rs2{n:Nat}{br:List Int}{v:BO}(h:br.length<=1048576)(hN:v.links_.length<=1048576)(hn:1048577<=n):BG (nM (v.links_.length:Int) br) (gO n v br):=by
 rw [gO,mL,Ag,AY (by omega) (by omega),AW h hn,Ag]
 have ha:(br.all fun k=>decide (k>=0)&&decide (k<=(v.links_.length:Int)-1))=true↔∀i,i<br.length->0<=gd br i∧gd br i<=(v.links_.length:Int)-1:=by
  rw [List.all_eq_true]
  refine⟨fun g i hi=>?_,fun g k hk=>?_⟩
  ·have:=g br[i] (List.getElem_mem hi)
   rw [gdX hi];exact NR.1 this
  ·obtain⟨i,hi,rfl⟩:=List.getElem_of_mem hk
   have:=g i hi
   rw [gdX hi]at this;exact NR.2 this
 cases c:(br.all fun k=>decide (k>=0)&&decide (k<=(v.links_.length:Int)-1))with
 |true=>
  have ha:=ha.1 c
  obtain⟨r,e,hr⟩:=Inc (n:=n) h hn
  rw [cT,e,Ag,Ag]
  exact⟨r,rfl,hr.trans ⟨fun g i hi=>⟨ha i hi,g i hi⟩,fun g i hi=>(g i hi).2⟩⟩
 |false=>
  rw [cF,Ag]
  refine⟨false,rfl,by simp,fun g=>?_⟩
  rw [ha.2 fun i hi=>(g i hi).1]at c;cases c
theorem AdP{n:Nat}{br:List Int}{x:Int}(h:br.length<=1048576)(hn:1048577<=n):bO n br x=some (br.any fun y=>y==x):=by
 rw [bO]
 refine loop (L:=fun m i (_:Unit)=>JP br x (fun i5=>some false) m i) br.length (fun i _=>(br.any fun y=>y==x)=((br.drop i).any fun y=>y==x)) (fun o=>o=some (br.any fun y=>y==x)) ?_ ?_ n 0 () (by omega) (by omega) (by simp)
 ·intro m i _ hi hI
  simp only [JP.eq_2,Cm hi,cT,AR hi,Ag,wT i]
  rw [List.drop_eq_getElem_cons hi,List.any_cons]at hI
  cases c:(br[i]==x)with
  |true=>rw [c,Bool.true_or]at hI;rw [hI];exact .inr rfl
  |false=>rw [c,Bool.false_or]at hI;exact .inl ⟨(),hI,rfl⟩
 ·intro m _ hI
  rw [List.drop_length]at hI
  simp only [JP.eq_2,DB,cF,hI,List.any_nil]
structure Vc(b:AM)(x:AU):Prop where
 from_:0<=x.From∧x.From<CE b
 to_:0<=x.To∧x.To<CE b
 arc:x.Kind=1->∃p y c a,AE (CY b.Design) (wrap .i64 (Int.tdiv x.To 2))=some p∧p∈CY b.Design∧AE b.Design.Instances p.instance_=some y∧AE b.Library.Cells y.Cell=some c∧AE c.Arcs x.Index=some a∧(a.Kind=1∨a.Kind=2∨a.Kind=3)
theorem Nw{b:AM}(v:Bv b):∀x∈Fx b,Vc b x:=by
 have vd:=v.design
 have hl:=DF vd.short vd.few.1 vd.few.2.2
 have nd:CE b=2*((CY b.Design).length:Int):=rfl
 intro x hx
 simp only [Fx,List.mem_append]at hx
 rcases hx with hx|hx
 ·refine DY (Q:=Vc b) b.Design.Instances 0 (fun i hi y hy=>?_) x hx
  rw [Nat.zero_add]at hy
  obtain⟨k,hk,_,gc,hnl,vc⟩:=vd.inst_at hi
  have ea:JN b b.Design.Instances[i]=b.Library.Cells[k].Arcs:=by unfold JN;rw [gc]
  rw [SG,ea]at hy
  refine DY (Q:=Vc b) _ 0 (fun j hj z hz=>?_) y hy
  rw [Nat.zero_add]at hz
  obtain⟨⟨f0,f1⟩,⟨t0,t1⟩,kd⟩:=Rt vc hj
  obtain⟨t,ht,rfl⟩:=List.mem_map.1 hz
  have tr:=WM t ht
  obtain⟨F,eF⟩:=Int.eq_ofNat_of_zero_le f0
  have eF:b.Library.Cells[k].Arcs[j].From=(F:Int):=eF
  obtain⟨T,eT⟩:=Int.eq_ofNat_of_zero_le t0
  have eT:b.Library.Cells[k].Arcs[j].To=(T:Int):=eT
  have b1:=(HQ (d:=b.Design) (q:=F) hi (by omega)).lt
  have pf:=HQ (d:=b.Design) (q:=T) hi (by omega)
  have b2:=pf.lt
  obtain⟨p,ep,hp⟩:=pf.hit
  have hp:(p.instance_==(i:Int)&&p.pin_==(T:Int))=true:=hp
  simp only [Bool.and_eq_true,beq_iff_eq]at hp
  have k3:¬3<b.Library.Cells[k].Arcs[j].Kind:=fun h=>by rw [Tf h]at ht;cases ht
  refine⟨?_,?_,fun _=>⟨p,b.Design.Instances[i],b.Library.Cells[k],b.Library.Cells[k].Arcs[j],?_,List.mem_of_getElem? ep,?_,gc,?_,by omega⟩⟩
  ·have h1:0<=2*((Eg b.Design i:Int)+b.Library.Cells[k].Arcs[j].From)+t.1∧2*((Eg b.Design i:Int)+b.Library.Cells[k].Arcs[j].From)+t.1<CE b:=by rw [eF];omega
   exact h1
  ·have h1:0<=2*((Eg b.Design i:Int)+b.Library.Cells[k].Arcs[j].To)+t.2∧2*((Eg b.Design i:Int)+b.Library.Cells[k].Arcs[j].To)+t.2<CE b:=by rw [eT];omega
   exact h1
  ·show AE (CY b.Design) (wrap .i64 (Int.tdiv (2*((Eg b.Design i:Int)+b.Library.Cells[k].Arcs[j].To)+t.2) 2))=some p
   rw [eT]
   have e1:Int.tdiv (2*((Eg b.Design i:Int)+(T:Int))+t.2) 2=((Eg b.Design i+T:Nat):Int):=by
    rw [Int.tdiv_eq_ediv_of_nonneg (by omega)];omega
   rw [e1,AY (by omega) (by omega),DJ];exact ep
  ·rw [hp.1];exact AR hi
  ·exact AR hj
 ·refine DY (Q:=Vc b) b.Design.Nets 0 (fun q hq y hy=>?_) x hx
  rw [Nat.zero_add]at hy
  have hd:=(Mh vd hq).lt
  refine DY (Q:=Vc b) _ 0 (fun j hj z hz=>?_) y hy
  have hs:=Ki _ (List.getElem_mem hj)
  simp only [gF,List.mem_cons,List.not_mem_nil,or_false]at hz
  rcases hz with rfl|rfl
  ·exact⟨⟨by show(0:Int)<=2*_;omega,by show(2:Int)*_<_;omega⟩,⟨by show(0:Int)<=2*_;omega,by show(2:Int)*_<_;omega⟩,fun h=>by have h:(2:Int)=1:=h;omega⟩
  ·exact⟨⟨by show(0:Int)<=2*_+1;omega,by show(2:Int)*_+1<_;omega⟩,⟨by show(0:Int)<=2*_+1;omega,by show(2:Int)*_+1<_;omega⟩,fun h=>by have h:(2:Int)=1:=h;omega⟩
theorem AiP{n:Nat}{l:Ad}{d:AQ}(v:Cx l d){p:At}(hp:p∈CY d):∃r,Vj n l d (Gv p)=some r:=by
 rw [Vj]
 by_cases c:p.instance_<0
 ·rw [decide_eq_true (show(Gv p).instance_<0 from c),cT];exact⟨_,rfl⟩
 ·obtain⟨x,c',pin,e1,e2,e3⟩:=v.place p hp (by omega)
  have e1:AE d.Instances (Gv p).instance_=some x:=e1
  have e3:AE c'.Pins (Gv p).pin_=some pin:=e3
  rw [decide_eq_false (show¬(Gv p).instance_<0 from c),cF,e1,Ag,e2,Ag,e3,Ag];exact⟨_,rfl⟩
theorem Ld1{n:Nat}{b:AM}(v:Bv b){i:Nat}(hi:i<b.Wires.length)(hn:1048577<=n):ET (fun r=>r.length=b.Wires[i].Parent.length) (iP n b (i:Int)):=by
 have vd:=v.design
 have vw:=v.wire i hi
 have hm:=vw.many
 have hP:=vw.cap
 have hl:=DF vd.short vd.few.1 vd.few.2.2
 have hsl:(FW b.Design (i:Int)).length=b.Wires[i].Sink.length:=by rw [Fk];have:=vw.sink;omega
 have hsn:snk b.Design (i:Int)<=78:=Nat.le_trans List.countP_le_length hl
 have hsn2:=Fk (d:=b.Design) (q:=(i:Int))
 rw [iP,AR hi,Ag,aW,Bq (by simp;omega) (by omega),Ag,Ag,SE vd.short vd.few.1 vd.few.2.2 hn,Ag,lV vd (i:Int) hn,Ag]
 refine Ko (L:=fun m j s=>IF n b b.Wires[i] ((CY b.Design).map Gv) (FW b.Design (i:Int)) _ m j s) (FW b.Design (i:Int)).length (fun _ s=>s.length=b.Wires[i].Parent.length) ?_ ?_ n _ (by omega) (by simp;omega)
 ·intro m j s hj hs
  have hj2:j<b.Wires[i].Sink.length:=by omega
  have hk:=vw.sinks j hj2
  have hq:=Ki _ (List.getElem_mem hj)
  obtain⟨a,ea⟩:=Fo (t:=s) hk.1 (by omega)
  obtain⟨p,ep,hp⟩:=HG (xs:=CY b.Design) hq.1 hq.2
  obtain⟨r,er⟩:=AiP (n:=n) vd (List.mem_of_getElem? hp)
  have ep2:AE ((CY b.Design).map Gv) (FW b.Design (i:Int))[j]=some (Gv p):=by
   obtain⟨N,hN⟩:=Int.eq_ofNat_of_zero_le hq.1
   have hN:(FW b.Design (i:Int))[j]=(N:Int):=hN
   rw [hN]at hp ⊢
   rw [DJ,List.getElem?_map]
   rw [Int.toNat_natCast]at hp
   rw [hp];rfl
  simp only [IF.eq_2,Cm hj,cT,AR hj,gI hj2,Ag,ea,ep2,er,wT j]
  exact⟨_,by simpa using hs,rfl⟩
 ·intro m s hs
  simp only [IF.eq_2,DB,cF]
  have wx:wrap .i64 ((s.length:Int)-1)=((s.length-1:Nat):Int):=by rw [AY (by omega) (by omega)];omega
  rw [wx]
  have key:∀(m k:Nat) (s:List Int),k<b.Wires[i].Parent.length->s.length=b.Wires[i].Parent.length->k<m->ET (fun r:List Int=>r.length=b.Wires[i].Parent.length) (IC b.Wires[i] (fun i92 l94=>(some l94)) m (k:Int) s):=by
   intro m
   induction m with
   |zero=>intro k s _ _ h;omega
   |succ m ih=>
    intro k s hk hs hm
    by_cases c:0<k
    ·have hd:decide ((k:Int)>0)=true:=decide_eq_true (by omega)
     have ht:=vw.tree k c hk
     obtain⟨a,ea⟩:=Fo (t:=s) ht.1 (by omega)
     have wk:wrap .i64 ((k:Int)-1)=((k-1:Nat):Int):=by rw [AY (by omega) (by omega)];omega
     simp only [IC.eq_2,hd,cT,gI hk,Ag,ea,gI (show k<s.length by omega),wk]
     exact ih (k-1) _ (by omega) (by simpa using hs) (by omega)
    ·have hd:decide ((k:Int)>0)=false:=decide_eq_false (by omega)
     simp only [IC.eq_2,hd,cF]
     exact⟨s,rfl,hs⟩
  exact key n (s.length-1) s (by omega) hs (by omega)
theorem Km{l:List Bool}{i:Nat}(h:i<l.length):AE l (i:Int)=some (gb l i):=by rw [AR h];simp [gb,h]
def cf(l:List Bool):Nat:=l.countP (fun b=>!b)
structure PH(L:List AU)(N:Nat):Prop where
 from_:∀k (h:k<L.length),0<=L[k].From∧L[k].From<(N:Int)
 to_:∀k (h:k<L.length),0<=L[k].To∧L[k].To<(N:Int)
theorem SB{b:AM}(v:Bv b):PH (Fx b) (2*(CY b.Design).length):=
 ⟨fun k h=>by have:=(Nw v _ (List.getElem_mem h)).from_;unfold CE at this;push_cast;omega,fun k h=>by have:=(Nw v _ (List.getElem_mem h)).to_;unfold CE at this;push_cast;omega⟩
theorem Lv1{n:Nat}{L:List AU}{br:List Int}(hl:L.length<=1048576)(hb:br.length<=1048576)(hn:1048577<=n):XL n L br=some (ER (fun k (_:AU)=>[!(br.any fun y=>y==(k:Int))]) 0 L):=by
 rw [XL]
 rw [DL (xs:=L) (L:=fun m s i=>JK n L br (fun l19 i23=>(some l19)) m s i) (k:=fun s=>some s) (fun k (_:AU)=>[!(br.any fun y=>y==(k:Int))]) 1 0 (fun _ _ _=>by simp) (by omega) (by
  intro m i hi s hs
  simp only [JK.eq_2,Cm hi,cT,AdP hb hn,Ag,wT i]
  rw [Bq (by simp;omega) (by omega),Ag]) (by
  intro m s
  simp only [JK.eq_2,DB,cF]) n (by omega) [] (by simp)]
 rw [List.nil_append]
theorem Yj{br:List Int}{i:Nat}(hi:i<br.length)(k:Int):((br.take (i+1)).any fun y=>y==k)=(((br.take i).any fun y=>y==k)||(br[i]==k)):=by
 rw [List.take_succ_eq_append_getElem hi,List.any_append];simp
theorem AfZ{n:Nat}{w:BO}{br:List Int}(hl:w.links_.length<=1048576)(hb:br.length<=1048576)(hr:nM (w.links_.length:Int) br)(hn:1048577<=n):∃lv,xA n w br=some ⟨w,lv⟩∧lv.length=w.links_.length∧∀k,k<w.links_.length->gb lv k= !(br.any fun y=>y==(k:Int)):=by
 rw [xA,Cf (by omega) (by omega),Ag]
 refine loop (L:=fun m i l=>MW w.links_.length _ m i l) (List.replicate w.links_.length false).length (fun i l=>l.length=w.links_.length∧∀k,k<i->gb l k=true) (fun o=>∃lv,o=some (⟨w,lv⟩:BS)∧lv.length=w.links_.length∧∀k,k<w.links_.length->gb lv k= !(br.any fun y=>y==(k:Int))) ?_ ?_ n 0 (List.replicate w.links_.length false) (by omega) (by simp;omega) ⟨by simp,fun k h=>absurd h (Nat.not_lt_zero k)⟩
 ·intro m i l hi ⟨h1,h2⟩
  have hi2:i<l.length:=by rw [h1];simpa using hi
  simp only [MW.eq_2,Cm hi,cT,Km hi2,Ag,Int.toNat_natCast,wT i]
  refine .inl ⟨_,⟨by simpa using h1,fun k hk=>?_⟩,rfl⟩
  rw [OE hi2]
  by_cases e:i=k
  ·rw [if_pos e]
  ·rw [if_neg e];exact h2 k (by omega)
 ·intro m l ⟨h1,h2⟩
  simp only [MW.eq_2,DB,cF]
  simp only [List.length_replicate]at h2
  refine loop (L:=fun m i l=>Mc br _ m i l) br.length (fun i l=>l.length=w.links_.length∧∀k,k<w.links_.length->gb l k= !((br.take i).any fun y=>y==(k:Int))) (fun o=>∃lv,o=some (⟨w,lv⟩:BS)∧lv.length=w.links_.length∧∀k,k<w.links_.length->gb lv k= !(br.any fun y=>y==(k:Int))) ?_ ?_ n 0 l (by omega) (by omega) ⟨h1,fun k hk=>by rw [h2 k hk];simp⟩
  ·intro m i l hi ⟨g1,g2⟩
   have hx:=(hr i hi).1
   rw [gdX hi]at hx
   obtain⟨X,eX⟩:=Int.eq_ofNat_of_zero_le hx.1
   have eX:br[i]=(X:Int):=eX
   have lX:X<l.length:=by omega
   simp only [Mc.eq_2,Cm hi,cT,AR hi,Ag,eX,Km lX,Int.toNat_natCast,wT i]
   refine .inl ⟨_,⟨by simpa using g1,fun k hk=>?_⟩,rfl⟩
   rw [OE lX,Yj hi,eX]
   by_cases e:X=k
   ·subst e;rw [if_pos rfl];simp
   ·have:((X:Int)==(k:Int))=false:=by rw [beq_eq_false_iff_ne];omega
    rw [if_neg e,g2 k hk,this,Bool.or_false]
  ·intro m l ⟨g1,g2⟩
   simp only [Mc.eq_2,DB,cF]
   refine⟨l,rfl,g1,fun k hk=>?_⟩
   rw [g2 k hk,List.take_length]
theorem WtT{n:Nat}{l:List Int}(h:Wi l)(x:Int)(hn:1048577<=n):∃(i:Nat) (a b:Int),lO n l x=some ((i:Int),a,b)∧((i<l.length∧a=1∧b=0)∨(i+1<l.length∧(1<=a∧a<=100000)∧(1<=b∧b<=100000))):=by
 have h1:=h.1
 have ci:=Sd h x
 have w1:wrap .i64 ((l.length:Int)-1)=((l.length-1:Nat):Int):=by rw [AY (by omega) (by omega)];omega
 have g0:AE l 0=some (gd l 0):=gI (l:=l) (i:=0) (by omega)
 have gL:AE l ((l.length-1:Nat):Int)=some (gd l (l.length-1)):=gI (by omega)
 rw [lO,g0,Ag,w1,gL,Ag]
 have key:∀(m i:Nat),i<l.length->i<m->(∀k,i<k->k<l.length->CO l x<gd l k)->∃(j:Nat) (a b:Int),Gw l x (gd l 0) (gd l (l.length-1)) (fun i23=>(some (0,1,0))) m (i:Int)=some ((j:Int),a,b)∧((j<l.length∧a=1∧b=0)∨(j+1<l.length∧(1<=a∧a<=100000)∧(1<=b∧b<=100000))):=by
  intro m
  induction m with
  |zero=>intro i _ h;omega
  |succ m ih=>
   intro i hi hm hk
   have d0:decide ((i:Int)>=0)=true:=decide_eq_true (by omega)
   rw [Gw.eq_2,d0,cT,gI hi,Ag,show min (max x (gd l 0)) (gd l (l.length-1))=CO l x from rfl]
   by_cases c:CO l x=gd l i
   ·rw [show(CO l x==gd l i)=true from beq_iff_eq.2 c,cT]
    exact⟨i,1,0,rfl,.inl ⟨hi,rfl,rfl⟩⟩
   ·rw [show(CO l x==gd l i)=false from beq_eq_false_iff_ne.2 c,cF,Ag]
    have r0:=h.2.1 i hi
    by_cases c2:CO l x>gd l i
    ·have hl:i+1<l.length:=by
      apply Nat.lt_of_not_le
      intro q
      have:i=l.length-1:=by omega
      subst this;omega
     have r1:=h.2.1 (i+1) hl
     have hc:=hk (i+1) (by omega) hl
     rw [decide_eq_true c2,cT,wS (by omega),gI hl,Ag,Ag,AY (by omega) (by omega),AY (by omega) (by omega)]
     exact⟨i,_,_,rfl,.inr ⟨hl,by omega,by omega⟩⟩
    ·have hp:0<i:=by
      apply Nat.pos_of_ne_zero
      intro q;subst q;omega
     have wi:wrap .i64 ((i:Int)-1)=((i-1:Nat):Int):=by rw [AY (by omega) (by omega)];omega
     rw [decide_eq_false c2,cF,wi]
     refine ih (i-1) (by omega) (by omega) fun k hk1 hk2=>?_
     by_cases q:k=i
     ·subst q;omega
     ·exact hk k (by omega) hk2
 exact key n (l.length-1) (by omega) (by omega) fun k h1 h2=>by omega
theorem yE{n:Nat}{s D mode:Int}(h:D≠0):∃r,Sg n s D mode=some r:=by
 have hz:(D==0)=false:=by rw [beq_eq_false_iff_ne];exact h
 rw [Sg,hz,cF,cF]
 cases(decide (Int.tmod s D<0))&&((mode==0))<;>cases(decide (Int.tmod s D>0))&&((mode==1))<;>exact⟨_,rfl⟩
theorem LkB{t:Ab}(v:VT t){i k u q:Nat}{w:Int}{U V:Int}{A:Int->Option Int}{B:Option Int}(hw:w>0->i+u<t.Slews.length∧k+q<t.Loads.length)(hU:U=(u:Int))(hV:V=(q:Int))(hq:q<=1)(hA:∀x,ET (fun _=>True) (A x))(hB:ET (fun _=>True) B):
 ET (fun _=>True) (cond (decide (w>0)) (Option.bind (AE t.Values (wrap .i64 (wrap .i64 (wrap .i64 (wrap .i64 ((i:Int)+U)*(t.Loads.length:Int))+(k:Int))+V))) A) B):=by
 have S4:=v.1.1.1.2
 have L4:=v.1.2.1.2
 have hlen:=v.2.1
 subst hU hV
 refine Dg (fun c=>?_) fun _=>hB
 obtain⟨h1,h2⟩:=hw (of_decide_eq_true c)
 have hb:=iS (S:=t.Slews.length) (L:=t.Loads.length) (i:=i+u) (k:=k+q) h1 h2
 rw [ixS (by omega) (by omega) (by omega) hq,gI (by omega),Ag]
 exact hA _
theorem RK{a c:Int}(h:wrap .i64 (a*c)>0):a≠0∧c≠0:=by
 constructor
 ·intro e;subst e;rw [Int.zero_mul]at h;exact absurd h (by decide)
 ·intro e;subst e;rw [Int.mul_zero]at h;exact absurd h (by decide)
structure WtO(l:List Int)(i:Nat)(a b:Int):Prop where
 lo:i<l.length
 hi:b≠0->i+1<l.length
theorem yP{t:Ab}(v:VT t){i k:Nat}{a b c d:Int}(h1:WtO t.Slews i a b)(h2:WtO t.Loads k c d){u:Int}(hu:u=0∨u=1){K:Int->Int->Option Int}(hK:∀s,ET (fun _=>True) (K s 2))(m:Nat)(s:Int):ET (fun _=>True) (Dt t ((i:Int),a,b) ((k:Int),c,d) u K (m+3) s 0):=by
 have w01:wrap .i64 (0+1)=1:=rfl
 have w12:wrap .i64 (1+1)=2:=rfl
 have l02:decide ((0:Int)<2)=true:=rfl
 have l12:decide ((1:Int)<2)=true:=rfl
 have l22:decide ((2:Int)<2)=false:=rfl
 have b00:((0:Int)==0)=true:=rfl
 have b10:((1:Int)==0)=false:=rfl
 have b01:((0:Int)==1)=false:=rfl
 have b11:((1:Int)==1)=true:=rfl
 have s3:∀s,ET (fun _=>True) (Dt t ((i:Int),a,b) ((k:Int),c,d) u K (m+1) s 2):=fun s=>by
  rw [Dt.eq_2,l22,cF];exact hK s
 have s2:∀s,ET (fun _=>True) (Dt t ((i:Int),a,b) ((k:Int),c,d) u K (m+2) s 1):=fun s=>by
  rw [Dt.eq_2,l12,cT,b10,cF,cF,w12]
  rcases hu with rfl|rfl
  ·rw [b01,cF]
   exact LkB v (u:=0) (q:=1) (fun h=>⟨h1.lo,h2.hi (RK h).2⟩) rfl rfl (by omega) (fun _=>s3 _) (s3 _)
  ·rw [b11,cT]
   exact LkB v (u:=1) (q:=1) (fun h=>⟨h1.hi (RK h).1,h2.hi (RK h).2⟩) rfl rfl (by omega) (fun _=>s3 _) (s3 _)
 rw [Dt.eq_2,l02,cT,b00,cT,cT,w01]
 rcases hu with rfl|rfl
 ·rw [b01,cF]
  exact LkB v (u:=0) (q:=0) (fun h=>⟨h1.lo,h2.lo⟩) rfl rfl (by omega) (fun _=>s2 _) (s2 _)
 ·rw [b11,cT]
  exact LkB v (u:=1) (q:=0) (fun h=>⟨h1.hi (RK h).1,h2.lo⟩) rfl rfl (by omega) (fun _=>s2 _) (s2 _)
theorem gU{l:List Int}{i:Nat}{a b:Int}(h:(i<l.length∧a=1∧b=0)∨(i+1<l.length∧(1<=a∧a<=100000)∧(1<=b∧b<=100000))):WtO l i a b∧0<wrap .i64 (a+b)∧wrap .i64 (a+b)<=200000:=by
 have e:wrap .i64 (a+b)=a+b:=AY (by omega) (by omega)
 rw [e]
 rcases h with ⟨h,rfl,rfl⟩|⟨h,h1,h2⟩
 ·exact⟨⟨h,fun c=>absurd rfl c⟩,by omega,by omega⟩
 ·exact⟨⟨by omega,fun _=>h⟩,by omega,by omega⟩
theorem LkT{n:Nat}{t:Ab}(v:VT t)(x y mode:Int)(hn:1048577<=n):ET (fun _=>True) (oU n t x y mode):=by
 obtain⟨i,a,b,e1,h1⟩:=WtT (n:=n) v.1.1 x hn
 obtain⟨k,c,d,e2,h2⟩:=WtT (n:=n) v.1.2 y hn
 obtain⟨o1,p1,p2⟩:=gU h1
 obtain⟨o2,q1,q2⟩:=gU h2
 obtain⟨m,rfl⟩:∃m,n=m+3:=⟨n-3,by omega⟩
 rw [oU,e1,e2,Ag,Ag]
 have w01:wrap .i64 (0+1)=1:=rfl
 have w12:wrap .i64 (1+1)=2:=rfl
 have l02:decide ((0:Int)<2)=true:=rfl
 have l12:decide ((1:Int)<2)=true:=rfl
 have l22:decide ((2:Int)<2)=false:=rfl
 rw [He.eq_2,l02,cT,w01]
 refine yP v o1 o2 (.inl rfl) (fun s=>?_) m 0
 rw [He.eq_2,l12,cT,w12]
 refine yP v o1 o2 (.inr rfl) (fun s=>?_) m _
 have em:=mw (a:=wrap .i64 (a+b)) (c:=wrap .i64 (c+d)) (by omega) (by omega)
 rw [He.eq_2,l22,cF]
 dsimp only
 rw [em]
 have:=Int.mul_pos p1 q1
 obtain⟨r,er⟩:=yE (n:=m+3) (s:=s) (D:=wrap .i64 (a+b)*wrap .i64 (c+d)) (mode:=mode) (by omega)
 rw [er]
 exact Bc trivial
theorem Dl1{n:Nat}{b:AM}(v:Bv b){i:Nat}(hi:i<b.Wires.length)(hn:1048577<=n):ET (fun r=>r.length=b.Wires[i].Parent.length) (YV n b (i:Int)):=by
 have vw:=v.wire i hi
 have hm:=vw.many
 rw [YV,AR hi,Ag]
 refine ET.bind (Ld1 v hi hn) fun ls _ hl=>?_
 refine Xz (L:=fun m j s=>II b.Wires[i] ls _ m s j) 1 ls.length (fun j s=>s.length=j) ?_ ?_ n [0] (by omega) (by omega) rfl
 ·intro m j s h1 hj hs
  have ht:=vw.tree j h1 (by omega)
  obtain⟨a,ea⟩:=Fo (t:=s) ht.1 (by omega)
  simp only [II.eq_2,Cm hj,cT,gI (show j<b.Wires[i].Parent.length by omega),Ag,ea,gI (show j<b.Wires[i].Res.length by have:=vw.res;omega),gI hj,wT j]
  rw [Bq (by simp;omega) (by omega),Ag]
  exact⟨_,by simp;omega,rfl⟩
 ·intro m s hs
  simp only [II.eq_2,DB,cF]
  exact⟨s,rfl,by omega⟩
theorem Rn{b:AM}(v:Bv b){i:Nat}(hi:i<b.Wires.length):b.Wires[i].Sink.length<=78:=by
 have vd:=v.design
 have hl:=DF vd.short vd.few.1 vd.few.2.2
 have h:snk b.Design (i:Int)<=78:=Nat.le_trans List.countP_le_length hl
 have:=(v.wire i hi).sink
 omega
theorem Sd1{n:Nat}{b:AM}(v:Bv b){i:Nat}(hi:i<b.Wires.length){mode:Int}(hn:1048577<=n):ET (fun r=>r.length=b.Wires[i].Sink.length) (Uu n b (i:Int) mode):=by
 have vw:=v.wire i hi
 have hm:=vw.many
 have hf:=Rn v hi
 rw [Uu]
 refine ET.bind (Dl1 v hi hn) fun ds _ hl=>?_
 refine Ko (L:=fun m j s=>GU n b (i:Int) mode ds _ m s j) b.Wires[i].Sink.length (fun j s=>s.length=j) ?_ ?_ n [] (by omega) rfl
 ·intro m j s hj hs
  have hk:=vw.sinks j hj
  obtain⟨a,ea⟩:=Fo (t:=ds) hk.1 (by omega)
  obtain⟨r,er⟩:=yE (n:=n) (s:=a) (D:=1000) (mode:=mode) (by omega)
  simp only [GU.eq_2,AR hi,Ag,Cm hj,cT,gI hj,ea,er,wT j]
  rw [Bq (by simp;omega) (by omega),Ag]
  exact⟨_,by simp;omega,rfl⟩
 ·intro m s hs
  simp only [GU.eq_2,AR hi,Ag,DB,cF]
  exact⟨s,rfl,hs⟩
theorem AkL{n:Nat}{x mode:Int}(hn:1048577<=n):ET (fun _=>True) (Yi n x mode):=by
 rw [Yi]
 have key:∀(m:Nat) (i j:Int),0<=i->i<=j->j<=2000000000->j-i<2^m->ET (fun _=>True) (Hz x (fun i3 i4=>(cond (((mode==1))&&(decide (wrap .i64 (i3*i3)<x))) (some (wrap .i64 (i3+1))) (some i3))) (m+1) i j):=by
  intro m
  induction m with
  |zero=>
   intro i j h0 h1 h2 h3
   have:i=j:=by simp at h3;omega
   subst this
   rw [Hz.eq_2,decide_eq_false (by omega),cF]
   exact Dg (fun _=>Bc trivial) fun _=>Bc trivial
  |succ m ih=>
   intro i j h0 h1 h2 h3
   rw [Int.pow_succ]at h3
   rw [Hz.eq_2]
   by_cases c:i<j
   ·have w1:wrap .i64 (i+j)=i+j:=AY (by omega) (by omega)
    have w2:wrap .i64 (i+j+1)=i+j+1:=AY (by omega) (by omega)
    have e:Int.tdiv (i+j+1) 2=(i+j+1)/2:=Int.tdiv_eq_ediv_of_nonneg (by omega)
    have w3:wrap .i64 ((i+j+1)/2)=(i+j+1)/2:=AY (by omega) (by omega)
    have w4:wrap .i64 ((i+j+1)/2-1)=(i+j+1)/2-1:=AY (by omega) (by omega)
    rw [decide_eq_true c,cT,w1,w2,e,w3,w4]
    exact Dg (fun _=>ih _ _ (by omega) (by omega) h2 (by omega)) fun _=>ih _ _ h0 (by omega) (by omega) (by omega)
   ·rw [decide_eq_false c,cF]
    exact Dg (fun _=>Bc trivial) fun _=>Bc trivial
 obtain⟨m,rfl⟩:∃m,n=m+1:=⟨n-1,by omega⟩
 refine key m 0 2000000000 (by omega) (by omega) (by omega) ?_
 have h1:(2:Int)^40<=2^m:=by
  have:=Nat.pow_le_pow_right (show 1<=2 by omega) (show 40<=m by omega)
  exact_mod_cast this
 have h2:(2:Int)^40=1099511627776:=by decide
 omega
theorem AfD{n:Nat}{b:AM}(v:Bv b){i:Nat}(hi:i<b.Wires.length){k slew mode:Int}(hk:0<=k∧k<(b.Wires[i].Sink.length:Int))(hn:1048577<=n):ET (fun _=>True) (eH n b (i:Int) k slew mode):=by
 have vw:=v.wire i hi
 rw [eH]
 refine ET.bind (Dl1 v hi hn) fun ds _ hl=>?_
 obtain⟨j,ej⟩:=Int.eq_ofNat_of_zero_le hk.1
 have ej:k=(j:Int):=ej
 subst ej
 have hj:j<b.Wires[i].Sink.length:=by omega
 have hs:=vw.sinks j hj
 obtain⟨a,ea⟩:=Fo (t:=ds) hs.1 (by omega)
 rw [AR hi,Ag,gI hj,Ag,ea,Ag]
 refine ET.bind (AkL hn) fun r _ _=>?_
 obtain⟨q,eq⟩:=yE (n:=n) (s:=r) (D:=1000) (mode:=mode) (by omega)
 rw [eq];exact Bc trivial
theorem mN{d:AQ}{q:Int}:∀x∈FW d q,∃t,∃h:t<(CY d).length,x=(t:Int)∧Ee q (CY d)[t]=true:=fun x hx=>
 DY (Q:=fun x=>∃t,∃h:t<(CY d).length,x=(t:Int)∧Ee q (CY d)[t]=true) (CY d) 0 (fun j hj y hy=>by
  rw [Nat.zero_add]at hy
  by_cases c:Ee q (CY d)[j]=true
  ·rw [if_pos c]at hy;exact⟨j,hj,List.mem_singleton.1 hy,c⟩
  ·rw [if_neg c]at hy;cases hy) x hx
structure iH(b:AM)(x:AU)(f t q j:Nat):Prop where
 kind:x.Kind=2
 from_:x.From=2*(f:Int)∨x.From=2*(f:Int)+1
 to_:x.To=2*(t:Int)∨x.To=2*(t:Int)+1
 YW:∃h:f<(CY b.Design).length,(CY b.Design)[f].drives_=true
 snk:∃h:t<(CY b.Design).length,(CY b.Design)[t].drives_=false∧(CY b.Design)[t].net_=(q:Int)
 ix:x.Index=(j:Int)
 sinks:∃h:q<b.Wires.length,j<b.Wires[q].Sink.length
theorem RP{b:AM}(v:Bv b):∀x∈Fx b,x.Kind=1∨∃f t q j,iH b x f t q j:=by
 have vd:=v.design
 intro x hx
 simp only [Fx,List.mem_append]at hx
 rcases hx with hx|hx
 ·refine .inl ?_
  refine DY (Q:=fun x:AU=>x.Kind=1) b.Design.Instances 0 (fun i hi y hy=>?_) x hx
  rw [SG]at hy
  refine DY (Q:=fun x:AU=>x.Kind=1) _ 0 (fun j hj z hz=>?_) y hy
  obtain⟨t,ht,rfl⟩:=List.mem_map.1 hz
  rfl
 ·refine .inr ?_
  refine DY (Q:=fun x:AU=>∃f t q j,iH b x f t q j) b.Design.Nets 0 (fun q hq y hy=>?_) x hx
  rw [Nat.zero_add]at hy
  have hd:=Mh vd hq
  refine DY (Q:=fun x:AU=>∃f t q j,iH b x f t q j) _ 0 (fun j hj z hz=>?_) y hy
  rw [Nat.zero_add]at hz
  obtain⟨t,ht,et,st⟩:=mN _ (List.getElem_mem hj)
  simp only [Ee,Bool.and_eq_true,beq_iff_eq,Bool.not_eq_true']at st
  have hdr:((CY b.Design)[GI b.Design q]'hd.lt).drives_=true:=by have:=hd.hit;simp only [El,Bool.and_eq_true]at this;exact this.2
  have hq2:q<b.Wires.length:=by rw [v.many];exact hq
  have hs:(FW b.Design (q:Int)).length=b.Wires[q].Sink.length:=by rw [Fk];have:=(v.wire q hq2).sink;omega
  simp only [gF,List.mem_cons,List.not_mem_nil,or_false]at hz
  rw [et]at hz
  rcases hz with rfl|rfl
  ·exact⟨GI b.Design q,t,q,j,rfl,.inl rfl,.inl rfl,⟨hd.lt,hdr⟩,⟨ht,st.2,st.1⟩,rfl,⟨hq2,by omega⟩⟩
  ·exact⟨GI b.Design q,t,q,j,rfl,.inr rfl,.inr rfl,⟨hd.lt,hdr⟩,⟨ht,st.2,st.1⟩,rfl,⟨hq2,by omega⟩⟩
theorem sO{n:Nat}{b:AM}(v:Bv b){x:AU}(ok:Vc b x)(k:x.Kind=1)(hn:1048577<=n):∃a z,Rf n b x=some (a,z)∧SH a.Delay true∧SH a.Slew true:=by
 have vd:=v.design
 obtain⟨p,y,c,a,g1,pm,g2,g3,g4,kd⟩:=ok.arc k
 have hp:=vd.net p pm
 have hW:=v.many
 obtain⟨N,hN⟩:=Int.eq_ofNat_of_zero_le hp.1
 have hN:p.net_=(N:Int):=hN
 have hNl:N<b.Wires.length:=by omega
 obtain⟨r,er,hr⟩:=Ld1 (n:=n) v hNl hn
 have hm:=(v.wire N hNl).many
 have g1':AE ((CY b.Design).map Gv) (wrap .i64 (Int.tdiv x.To 2))=some (Gv p):=by
  obtain⟨g0,g5,g6⟩:=EA g1
  obtain⟨M,hM⟩:=Int.eq_ofNat_of_zero_le g0
  have hM:wrap .i64 (Int.tdiv x.To 2)=(M:Int):=hM
  rw [hM]at g6 ⊢
  rw [DJ,List.getElem?_map]
  rw [Int.toNat_natCast]at g6
  rw [g6];rfl
 have g2':AE b.Design.Instances (Gv p).instance_=some y:=g2
 have hN':(Gv p).net_=(N:Int):=hN
 refine⟨a,gd r 0,?_,?_⟩
 ·rw [Rf,SE vd.short vd.few.1 vd.few.2.2 hn]
  simp only [Ag,g1',g2',g3,g4,hN',er]
  have e0:AE r 0=some (gd r 0):=gI (i:=0) (by omega)
  rw [e0];rfl
 ·obtain⟨_,_,c3⟩:=EA g3
  obtain⟨cl,ec⟩:=List.getElem?_eq_some_iff.1 c3
  obtain⟨_,_,a3⟩:=EA g4
  obtain⟨al,ea⟩:=List.getElem?_eq_some_iff.1 a3
  have vc:=vd.lib.cells _ cl
  rw [ec]at vc
  have ar:=(vc.arcs _ al).1
  rw [ea]at ar
  unfold Nz at ar
  obtain⟨_,ar⟩:=ar
  by_cases k1:a.Kind=1
  ·rw [if_pos k1]at ar;exact⟨ar.2.2.2.1,ar.2.2.2.2⟩
  ·rw [if_neg k1,if_pos (by omega)]at ar;exact⟨ar.2.2.2.1,ar.2.2.2.2⟩
theorem RQ{x:Int}(h:0<=x):0<=Int.tmod x 2∧Int.tmod x 2<2:=lH h (by omega)
theorem Zu{n:Nat}{b:AM}(v:Bv b){x:AU}{f t q j:Nat}(h:iH b x f t q j)(hn:1048577<=n):Xq n b x=some (q:Int):=by
 have vd:=v.design
 have hl:=DF vd.short vd.few.1 vd.few.2.2
 obtain⟨ht,_,hq⟩:=h.snk
 have e1:wrap .i64 (Int.tdiv x.To 2)=(t:Int):=by
  have h0:0<=x.To:=by have:=h.to_;omega
  have e:Int.tdiv x.To 2=(t:Int):=by rw [Int.tdiv_eq_ediv_of_nonneg h0];have:=h.to_;omega
  rw [e,AY (by omega) (by omega)]
 rw [Xq,SE vd.short vd.few.1 vd.few.2.2 hn,Ag,e1,AR (by simpa using ht),Ag,List.getElem_map]
 show some (CY b.Design)[t].net_=_
 rw [hq]
theorem Fac{n:Nat}{c:Ak}{k m:Int}:ET (fun _=>True) (Sx n c k m):=by
 rw [Sx]
 refine Dg (fun _=>Dg (fun _=>Bc trivial) fun _=>Bc trivial) fun _=>Dg (fun _=>Bc trivial) fun _=>Bc trivial
theorem AmB{n:Nat}{b:AM}(v:Bv b){x:AU}(hx:x∈Fx b){c:Ak}{s m:Int}(hn:1048577<=n):ET (fun _=>True) (QF n b c x s m):=by
 have ok:=Nw v x hx
 have dv:∀y:Int,ET (fun _=>True) (Option.bind (Sg n y 1000 m) fun r=>some r):=fun y=>by
  obtain⟨r,e⟩:=yE (n:=n) (s:=y) (D:=1000) (mode:=m) (by omega)
  rw [e];exact Bc trivial
 rw [QF]
 rcases RP v x hx with k|⟨f,t,q,j,h⟩
 ·rw [beq_iff_eq.2 k,cT]
  obtain⟨a,z,e,hd,_⟩:=sO (n:=n) v ok k hn
  rw [e,Ag]
  have pr:=RQ ok.to_.1
  exact ET.bind (ET.get pr.1 (by rw [hd.1];exact pr.2) hd.2) fun u _ hu=>ET.bind (LkT hu.1 _ _ _ hn) fun _ _ _=>ET.bind Fac fun _ _ _=>dv _
 ·have k:(x.Kind==1)=false:=by rw [beq_eq_false_iff_ne,h.kind];omega
  obtain⟨hq,hj⟩:=h.sinks
  rw [k,cF,Zu v h hn,Ag,h.ix]
  exact ET.bind (Sd1 v hq hn) fun r _ hr=>ET.bind (NH (by omega) (by omega)) fun _ _ _=>ET.bind Fac fun _ _ _=>dv _
theorem kS{n:Nat}{b:AM}(v:Bv b){x:AU}(hx:x∈Fx b){s m:Int}(hn:1048577<=n):ET (fun _=>True) (SR n b x s m):=by
 have ok:=Nw v x hx
 rw [SR]
 rcases RP v x hx with k|⟨f,t,q,j,h⟩
 ·rw [beq_iff_eq.2 k,cT]
  obtain⟨a,z,e,_,hd⟩:=sO (n:=n) v ok k hn
  rw [e,Ag]
  have pr:=RQ ok.to_.1
  exact ET.bind (ET.get pr.1 (by rw [hd.1];exact pr.2) hd.2) fun u _ hu=>ET.bind (LkT hu.1 _ _ _ hn) fun _ _ _=>Bc trivial
 ·have k:(x.Kind==1)=false:=by rw [beq_eq_false_iff_ne,h.kind];omega
  obtain⟨hq,hj⟩:=h.sinks
  rw [k,cF,Zu v h hn,Ag,h.ix]
  exact ET.bind (AfD v hq ⟨by omega,by omega⟩ hn) fun _ _ _=>Bc trivial
theorem AlS{n:Nat}{L:List AU}{lv:List Bool}{N:Nat}(hL:PH L N)(hlv:lv.length=L.length)(hl:L.length<=10000)(hN:N<=1000)(hn:1048577<=n):
 ET (fun r=>r.1.length<=N∧∀x∈r.1,0<=x∧x<(N:Int)) (nO n (N:Int) L lv):=by
 rw [nO,Cf (by omega) (by omega),Ag]
 refine fI (L:=fun m (p:List Int×List Bool)=>Fz n (N:Int) L lv _ m p.1 p.2) (fun p=>N-p.1.length) (fun p=>(p.1.length<=N∧p.2.length=N)∧∀x∈p.1,0<=x∧x<(N:Int)) (ET fun r=>r.1.length<=N∧∀x∈r.1,0<=x∧x<(N:Int)) ?_ n ([],List.replicate N false) (by simp;omega) ⟨⟨by simp,by simp⟩,by simp⟩
 rintro m ⟨o,l⟩ ⟨⟨h1,h2⟩,h3⟩ ih
 have h1:o.length<=N:=h1
 have h2:l.length=N:=h2
 simp only [Fz.eq_2]
 refine Dg (fun c=>?_) fun _=>Bc ⟨h1,h3⟩
 have c:o.length<N:=by have:=of_decide_eq_true c;omega
 rw [Cf (by omega) (by omega),Ag]
 refine Sb (L:=fun m' i (w:List Bool)=>FN L lv l _ m' i w) L.length (fun _ w=>w.length=N) (ET fun r=>r.1.length<=N∧∀x∈r.1,0<=x∧x<(N:Int)) ?_ ?_ n 0 (List.replicate N false) (by omega) (by omega) (by simp)
 ·intro m' i w hi hw kk
  have hf:=hL.from_ i hi
  have ht:=hL.to_ i hi
  simp only [FN.eq_2,Cm hi,cT,AR hi,AR (show i<lv.length by omega),Ag,wT i]
  refine ET.bind (A:=fun _=>True) (Dg (fun _=>ET.bind (NH hf.1 (by omega)) fun _ _ _=>Bc trivial) fun _=>Bc trivial) fun cc _ _=>Dg (fun _=>ET.bind (NH ht.1 (by omega)) fun _ _ _=>kk _ (by simpa using hw)) fun _=>kk w hw
 ·intro m' w hw
  simp only [FN.eq_2,DB,cF]
  have fin:∀i:Nat,i<=N->ET (fun r=>r.1.length<=N∧∀x∈r.1,0<=x∧x<(N:Int)) ((cond ((i:Int)==(N:Int)) (some (([]:List Int),false)) (Option.bind (Du o [(i:Int)] 8) fun z103=>(Fz n (N:Int) L lv (fun l33 l37=>(some (l33,true))) m z103 ((l.set ((i:Int)).toNat true)))))):=fun i hi=>
   Dg (fun _=>Bc ⟨by simp,by simp⟩) fun q=>by
    have q:=beq_eq_false_iff_ne.1 q
    rw [Bq (by simp;omega) (by omega),Ag]
    refine ih (o++[(i:Int)],_) ⟨⟨by simp;omega,by simpa using h2⟩,fun x hx=>?_⟩ (by simp;omega)
    rcases List.mem_append.1 hx with h|h
    ·exact h3 x h
    ·rw [List.mem_singleton.1 h];omega
  refine Sb (L:=fun m' i (_:Unit)=>FO (N:Int) l w _ m' i) N (fun _ _=>True) (ET fun r=>r.1.length<=N∧∀x∈r.1,0<=x∧x<(N:Int)) ?_ ?_ n 0 () (by omega) (by omega) trivial
  ·intro m'' i _ hi _ kk
   simp only [FO.eq_2,Cm hi,cT,AR (show i<l.length by omega),AR (show i<w.length by omega),Ag,wT i]
   refine ET.bind (A:=fun _=>True) (ET.bind (A:=fun _=>True) (Dg (fun _=>Bc trivial) fun _=>Bc trivial) fun _ _ _=>Bc trivial) fun cc _ _=>Dg (fun _=>kk () trivial) fun _=>fin i (by omega)
  ·intro m'' _ _
   simp only [FO.eq_2,DB,cF,Ag,beq_self_eq_true,cT]
   exact Bc ⟨by simp,by simp⟩
structure RU(L:List AU)(lv:List Bool)(o:List Int):Prop where
 nodup:∀i (h:i<o.length),o[i] ∉ o.take i
 pre:∀i (h:i<o.length) k (hk:k<L.length) (hv:k<lv.length),lv[k]=true->L[k].To=o[i]->L[k].From∈o.take i
theorem RU.snoc{L:List AU}{lv:List Bool}{o:List Int}{x:Int}(h:RU L lv o)(hx:x ∉ o)(hp:∀k (hk:k<L.length) (hv:k<lv.length),lv[k]=true->L[k].To=x->L[k].From∈o):RU L lv (o++[x]):=by
 refine⟨fun i hi=>?_,fun i hi k hk hv hl ht=>?_⟩
 ·by_cases c:i<o.length
  ·rw [List.getElem_append_left c,List.take_append_of_le_length (by omega)];exact h.nodup i c
  ·obtain rfl:i=o.length:=by simp at hi;omega
   simpa using hx
 ·by_cases c:i<o.length
  ·rw [List.getElem_append_left c]at ht
   rw [List.take_append_of_le_length (by omega)];exact h.pre i c k hk hv hl ht
  ·obtain rfl:i=o.length:=by simp at hi;omega
   have:L[k].To=x:=by simpa using ht
   simpa using hp k hk hv hl this
theorem AdM{n:Nat}{L:List AU}{lv:List Bool}{N:Nat}(hL:PH L N)(hlv:lv.length=L.length)(hl:L.length<=10000)(hN:N<=1000)(hn:1048577<=n):
 ET (fun r=>r.2=true->RU L lv r.1∧N<=r.1.length) (nO n (N:Int) L lv):=by
 rw [nO,Cf (by omega) (by omega),Ag]
 refine fI (L:=fun m (p:List Int×List Bool)=>Fz n (N:Int) L lv _ m p.1 p.2) (fun p=>N-p.1.length) (fun p=>(p.1.length<=N∧p.2.length=N)∧RU L lv p.1∧∀j (h:j<p.2.length),p.2[j]=true↔(j:Int)∈p.1) (ET fun r=>r.2=true->RU L lv r.1∧N<=r.1.length) ?_ n ([],List.replicate N false) (by simp;omega) ⟨⟨by simp,by simp⟩,⟨fun i h=>by simp at h,fun i h=>by simp at h⟩,fun j h=>by simp⟩
 rintro m ⟨o,l⟩ ⟨⟨h1,h2⟩,h3,h4⟩ ih
 have h1:o.length<=N:=h1
 have h2:l.length=N:=h2
 have h4:∀j (h:j<l.length),l[j]=true↔(j:Int)∈o:=h4
 simp only [Fz.eq_2]
 refine Dg (fun c=>?_) fun c=>Bc fun _=>⟨h3,by show N<=o.length;have c:¬(o.length:Int)<(N:Int):=of_decide_eq_false c;omega⟩
 have c:o.length<N:=by have:=of_decide_eq_true c;omega
 rw [Cf (by omega) (by omega),Ag]
 refine Sb (L:=fun m' i (w:List Bool)=>FN L lv l _ m' i w) L.length (fun i w=>w.length=N∧∀k (h:k<L.length) (hv:k<lv.length),k<i->lv[k]=true->L[k].From ∉ o->w[L[k].To.toNat]? =some true) (ET fun r=>r.2=true->RU L lv r.1∧N<=r.1.length) ?_ ?_ n 0 (List.replicate N false) (by omega) (by omega) ⟨by simp,fun k h hv hk=>by omega⟩
 ·rintro m' i w hi ⟨hw,hk⟩ kk
  have hf:=hL.from_ i hi
  have ht:=hL.to_ i hi
  have hiv:i<lv.length:=by omega
  obtain⟨f,ef⟩:=Int.eq_ofNat_of_zero_le hf.1
  have ef:L[i].From=(f:Int):=ef
  have hfl:f<l.length:=by omega
  simp only [FN.eq_2,Cm hi,cT,AR hi,AR hiv,Ag,wT i]
  refine ET.bind (A:=fun cc=>cc=false->¬(lv[i]=true∧L[i].From ∉ o)) (Dg (fun q=>?_) fun q=>Bc fun _ h=>by rw [q]at h;cases h.1) fun cc _ hcc=>Dg (fun _=>ET.bind (NH ht.1 (by omega)) fun _ _ _=>kk _ ⟨by simpa using hw,?_⟩) fun q=>kk w ⟨hw,?_⟩
  ·rw [ef,AR hfl,Ag]
   exact Bc fun h hh=>hh.2 ((h4 f hfl).1 (by simpa using h))
  ·intro k h hv hki hlvk hfo
   rw [List.getElem?_set]
   by_cases e:L[i].To.toNat=L[k].To.toNat
   ·rw [if_pos e,if_pos (by have:=hL.to_ i hi;omega)]
   ·rw [if_neg e]
    by_cases ek:k=i
    ·subst ek;exact absurd rfl e
    ·exact hk k h hv (by omega) hlvk hfo
  ·intro k h hv hki hlvk hfo
   by_cases ek:k=i
   ·subst ek;exact absurd ⟨hlvk,hfo⟩ (hcc q)
   ·exact hk k h hv (by omega) hlvk hfo
 ·rintro m' w ⟨hw,hk⟩
  simp only [FN.eq_2,DB,cF]
  refine Sb (L:=fun m' i (_:Unit)=>FO (N:Int) l w _ m' i) N (fun _ _=>True) (ET fun r=>r.2=true->RU L lv r.1∧N<=r.1.length) ?_ ?_ n 0 () (by omega) (by omega) trivial
  ·intro m'' i _ hi _ kk
   have hil:i<l.length:=by omega
   have hiw:i<w.length:=by omega
   simp only [FO.eq_2,Cm hi,cT,AR hil,AR hiw,Ag,wT i]
   cases hli:l[i]with
   |true=>simp only [cT,Ag];exact kk () trivial
   |false=>
    simp only [cF,Ag]
    cases hwi:w[i]with
    |true=>simp only [cT];exact kk () trivial
    |false=>
     simp only [cF,show((i:Int)==(N:Int))=false from beq_eq_false_iff_ne.2 (by omega),Ag,Int.toNat_natCast]
     rw [Bq (by simp;omega) (by omega),Ag]
     refine ih (o++[(i:Int)],l.set i true) ⟨⟨by simp;omega,by simpa using h2⟩,h3.snoc ?_ ?_,?_⟩ (by simp;omega)
     ·exact fun h=>by have:=(h4 i hil).2 h;rw [hli]at this;cases this
     ·intro k h hv hlvk hto
      by_cases hfo:L[k].From∈o
      ·exact hfo
      ·have:=hk k h hv h hlvk hfo
       rw [hto,Int.toNat_natCast,List.getElem?_eq_getElem hiw,hwi]at this;cases this
     ·intro j hj
      have hj2:j<l.length:=by simpa using hj
      have:=h4 j hj2
      show(l.set i true)[j]=true↔(j:Int)∈o++[(i:Int)]
      rw [List.getElem_set,List.mem_append,List.mem_singleton]
      by_cases e:i=j
      ·subst e;simp
      ·rw [if_neg e,this]
       exact⟨fun h=>.inl h,fun h=>h.elim id fun h=>by omega⟩
  ·intro m'' _ _
   simp only [FO.eq_2,DB,cF,Ag,beq_self_eq_true,cT]
   exact Bc fun h=>by cases h
abbrev lY(b:AM)(br:List Int):List Bool:=ER (fun k (_:AU)=>[!(br.any fun y=>y==(k:Int))]) 0 (Fx b)
theorem AlU{n:Nat}{l:Ad}{d:AQ}(v:Cx l d){p:At}(hp:p∈CY d):∃r,Vj n l d (Gv p)=some r∧eU n d l p=some r:=by
 rw [Vj,eU]
 by_cases c:p.instance_<0
 ·rw [decide_eq_true (show(Gv p).instance_<0 from c),decide_eq_true c,cT,cT];exact⟨_,rfl,rfl⟩
 ·obtain⟨x,c',pin,e1,e2,e3⟩:=v.place p hp (by omega)
  have e1':AE d.Instances (Gv p).instance_=some x:=e1
  have e3':AE c'.Pins (Gv p).pin_=some pin:=e3
  simp only [decide_eq_false (show¬(Gv p).instance_<0 from c),decide_eq_false c,cF,e1,e1',e2,e3,e3',Ag];exact⟨_,rfl,rfl⟩
theorem kP{d:AQ}{x:Int}(h0:0<=x)(h1:x<(CY d).length):∃p,AE (CY d) x=some p∧AE ((CY d).map Gv) x=some (Gv p)∧p∈CY d:=by
 obtain⟨p,ep,hp⟩:=HG (xs:=CY d) h0 h1
 refine⟨p,ep,?_,List.mem_of_getElem? hp⟩
 obtain⟨N,hN⟩:=Int.eq_ofNat_of_zero_le h0
 have hN:x=(N:Int):=hN
 rw [hN]at hp ⊢
 rw [DJ,List.getElem?_map]
 rw [Int.toNat_natCast]at hp
 rw [hp];rfl
theorem LdE{n:Nat}{b:AM}(v:Bv b){i:Nat}(hi:i<b.Wires.length)(hn:1048577<=n):∃r,iP n b (i:Int)=some r∧xG n b (i:Int)=some r∧r.length=b.Wires[i].Parent.length:=by
 have vd:=v.design
 have vw:=v.wire i hi
 have hm:=vw.many
 have hP:=vw.cap
 have hl:=DF vd.short vd.few.1 vd.few.2.2
 have hsl:(FW b.Design (i:Int)).length=b.Wires[i].Sink.length:=by rw [Fk];have:=vw.sink;omega
 have hsn:snk b.Design (i:Int)<=78:=Nat.le_trans List.countP_le_length hl
 have hsn2:=Fk (d:=b.Design) (q:=(i:Int))
 rw [iP,AR hi,Ag,aW,Bq (by simp;omega) (by omega),Ag,Ag,SE vd.short vd.few.1 vd.few.2.2 hn,Ag,lV vd (i:Int) hn,Ag]
 rw [xG,AR hi,Ag,lL,Bq (by simp;omega) (by omega),Ag,Ag,kR vd.short vd.few.1 vd.few.2.2 hn,Ag,AjW vd _ hn,Ag,List.nil_append]
 refine dP (L:=fun m j s=>IF n b b.Wires[i] ((CY b.Design).map Gv) (FW b.Design (i:Int)) _ m j s) (M:=fun m j s=>MR n b b.Wires[i] (CY b.Design) (FW b.Design (i:Int)) _ m j s) (FW b.Design (i:Int)).length (fun _ s t=>s=t∧s.length=b.Wires[i].Parent.length) (fun o o'=>∃r,o=some r∧o'=some r∧r.length=b.Wires[i].Parent.length) ?_ ?_ n 0 _ _ (by omega) (by omega) ⟨rfl,by omega⟩
 ·rintro m j s _ hj ⟨rfl,hs⟩
  have hj2:j<b.Wires[i].Sink.length:=by omega
  have hk:=vw.sinks j hj2
  have hq:=Ki _ (List.getElem_mem hj)
  obtain⟨a,ea⟩:=Fo (t:=s) hk.1 (by omega)
  obtain⟨p,ep,ep2,hp⟩:=kP hq.1 hq.2
  obtain⟨r,er,er2⟩:=AlU (n:=n) vd hp
  simp only [IF.eq_2,MR.eq_2,Cm hj,cT,AR hj,gI hj2,Ag,ea,ep,ep2,er,er2,wT j]
  exact⟨_,_,⟨rfl,by simpa using hs⟩,rfl,rfl⟩
 ·rintro m s _ ⟨rfl,hs⟩
  simp only [IF.eq_2,MR.eq_2,DB,cF]
  have wx:wrap .i64 ((s.length:Int)-1)=((s.length-1:Nat):Int):=by rw [AY (by omega) (by omega)];omega
  rw [wx]
  have key:∀(m k:Nat) (s:List Int),k<b.Wires[i].Parent.length->s.length=b.Wires[i].Parent.length->k<m->∃r:List Int,IC b.Wires[i] (fun _ l=>some l) m (k:Int) s=some r∧Mi b.Wires[i] (fun _ l=>some l) m (k:Int) s=some r∧r.length=b.Wires[i].Parent.length:=by
   intro m
   induction m with
   |zero=>intro k s _ _ h;omega
   |succ m ih=>
    intro k s hk hs hm
    by_cases c:0<k
    ·have hd:decide ((k:Int)>0)=true:=decide_eq_true (by omega)
     have ht:=vw.tree k c hk
     obtain⟨a,ea⟩:=Fo (t:=s) ht.1 (by omega)
     have wk:wrap .i64 ((k:Int)-1)=((k-1:Nat):Int):=by rw [AY (by omega) (by omega)];omega
     simp only [IC.eq_2,Mi.eq_2,hd,cT,gI hk,Ag,ea,gI (show k<s.length by omega),wk]
     exact ih (k-1) _ (by omega) (by simpa using hs) (by omega)
    ·have hd:decide ((k:Int)>0)=false:=decide_eq_false (by omega)
     simp only [IC.eq_2,Mi.eq_2,hd,cF]
     exact⟨s,rfl,rfl,hs⟩
  exact key n (s.length-1) s (by omega) hs (by omega)
theorem DlE{n:Nat}{b:AM}(v:Bv b){i:Nat}(hi:i<b.Wires.length)(hn:1048577<=n):∃r,YV n b (i:Int)=some r∧ZI n b (i:Int)=some r∧r.length=b.Wires[i].Parent.length:=by
 have vw:=v.wire i hi
 have hm:=vw.many
 have hR:=vw.res
 obtain⟨ls,e1,e2,hl⟩:=LdE (n:=n) v hi hn
 rw [YV,ZI,AR hi,Ag,Ag,e1,e2,Ag,Ag,Cf (by omega) (by omega),Ag]
 have:=dP (L:=fun m j s=>II b.Wires[i] ls (fun l _=>some l) m s (wrap .i64 (j+1))) (M:=fun m j s=>Jb b.Wires[i] ls (fun _ l=>some l) m (wrap .i64 (j+1)) s) (b.Wires[i].Parent.length-1) (fun j s t=>s.length=j+1∧t.length=b.Wires[i].Parent.length∧t.take (j+1)=s) (fun o o'=>∃r,o=some r∧o'=some r∧r.length=b.Wires[i].Parent.length) ?_ ?_ n 0 [0] (List.replicate ls.length 0) (by omega) (by omega) ?_
 ·rw [show wrap .i64 (((0:Nat):Int)+1)=1 by decide]at this
  exact this
 ·rintro m j s t hj ⟨h1,h2,h3⟩
  have hj1:j+1<b.Wires[i].Parent.length:=by omega
  have ht:=vw.tree (j+1) (by omega) hj1
  have wj:wrap .i64 ((j:Int)+1)=((j+1:Nat):Int):=wS (by omega)
  have hp:∃a,AE s (gd b.Wires[i].Parent (j+1))=some a∧AE t (gd b.Wires[i].Parent (j+1))=some a:=by
   obtain⟨N,hN⟩:=Int.eq_ofNat_of_zero_le ht.1
   have hN:gd b.Wires[i].Parent (j+1)=(N:Int):=hN
   rw [hN]
   have hNs:N<s.length:=by omega
   have hNt:N<t.length:=by omega
   refine⟨s[N],AR hNs,?_⟩
   rw [AR hNt]
   congr 1
   subst h3
   rw [List.getElem_take]
  obtain⟨a,ea,eb⟩:=hp
  simp only [wj,II.eq_2,Jb.eq_2,Cm (show j+1<ls.length by omega),Cm (show j+1<t.length by omega),cT,gI hj1,gI (show j+1<b.Wires[i].Res.length by omega),gI (show j+1<ls.length by omega),gI (show j+1<t.length by omega),Ag,ea,eb]
  rw [Bq (by simp;omega) (by omega),Ag]
  refine⟨_,_,⟨by simp;omega,by simpa using h2,?_⟩,rfl,rfl⟩
  rw [Int.toNat_natCast,List.take_set,List.take_succ_eq_append_getElem (by omega:j+1<t.length),h3]
  rw [List.set_append,if_neg (by omega)]
  simp [h1]
 ·rintro m s t ⟨h1,h2,h3⟩
  have wj:wrap .i64 (((b.Wires[i].Parent.length-1:Nat):Int)+1)=(ls.length:Int):=by rw [AY (by omega) (by omega)];omega
  have e:t=s:=by rw [←h3];rw [List.take_of_length_le (by omega)]
  subst e
  have dl:decide ((ls.length:Int)<(ls.length:Int))=false:=DB _
  have dt:decide ((ls.length:Int)<(t.length:Int))=false:=by rw [decide_eq_false];omega
  simp only [wj,II.eq_2,Jb.eq_2,dl,dt,cF]
  exact⟨t,rfl,rfl,h2⟩
 ·refine⟨rfl,by simp;omega,?_⟩
  rw [List.take_replicate]
  have:min (0+1) ls.length=1:=by omega
  rw [this];rfl
theorem ExE{n:Nat}{b:AM}(v:Bv b){i:Nat}(hi:i<b.Wires.length)(hn:1048577<=n):∃ds,YV n b (i:Int)=some ds∧ds.length=b.Wires[i].Parent.length∧eQ n b (i:Int)=some (b.Wires[i].Sink.map fun k=>gd ds k.toNat):=by
 have vw:=v.wire i hi
 have hf:=Rn v hi
 obtain⟨ds,e1,e2,hd⟩:=DlE (n:=n) v hi hn
 refine⟨ds,e1,hd,?_⟩
 rw [eQ,e2,Ag,AR hi,Ag]
 have:=DL (xs:=b.Wires[i].Sink) (L:=fun m s j=>Jq ds b.Wires[i] (fun l _=>some l) m s j) (k:=fun s=>some s) (fun _ (k:Int)=>[gd ds k.toNat]) 1 0 (fun _ _ _=>by simp) (by omega) (by
  intro m j hj s hs
  have hk:=vw.sinks j hj
  rw [gdX hj]at hk
  simp only [Jq.eq_2,Cm hj,cT,AR hj,Ag,Oe hk.1 (show b.Wires[i].Sink[j]<ds.length by omega),wT j]
  rw [Bq (by simp;omega) (by omega),Ag]) (by
  intro m s
  simp only [Jq.eq_2,DB,cF]) n (by omega) [] (by simp)
 rw [this,List.nil_append,Rr]
theorem Oz{α:Type}{l m:List α}{i:Nat}{d:α}(h:i<l.length):(l++m).getD i d=l.getD i d:=by
 rw [List.getD_eq_getElem?_getD,List.getD_eq_getElem?_getD,List.getElem?_append_left h]
def VwQ(n:Nat)(b:AM)(x:Int)(z:List Int)(q:Nat):Prop:=∀hq:q<b.Wires.length,∃ls ds,iP n b (q:Int)=some ls∧0<ls.length∧x=gd ls 0∧YV n b (q:Int)=some ds∧ds.length=b.Wires[q].Parent.length∧z=b.Wires[q].Sink.map fun k=>gd ds k.toNat
def VwD(n:Nat)(b:AM)(lo:List Int)(de:List (List Int))(j:Nat):Prop:=(lo.length=j∧de.length=j)∧∀q,q<j->VwQ n b (gd lo q) (de.getD q []) q
theorem VwD.snoc{n:Nat}{b:AM}{lo:List Int}{de:List (List Int)}{j:Nat}{x:Int}{z:List Int}(h:VwD n b lo de j)(k:VwQ n b x z j):VwD n b (lo++[x]) (de++[z]) (j+1):=by
 obtain⟨⟨h1,h2⟩,h3⟩:=h
 refine⟨⟨by simp;omega,by simp;omega⟩,fun q hq=>?_⟩
 by_cases c:q=j
 ·subst c
  have e1:gd (lo++[x]) q=x:=by subst h1;simp [gd]
  have e2:(de++[z]).getD q []=z:=by rw [←h2];simp
  rw [e1,e2];exact k
 ·have e1:gd (lo++[x]) q=gd lo q:=by unfold gd;rw [Oz (by omega)]
  have e2:(de++[z]).getD q []=de.getD q []:=by rw [Oz (by omega)]
  rw [e1,e2];exact h3 q (by omega)
structure Nh(n:Nat)(b:AM)(w:BO):Prop where
 blk:w.Block=b
 places:w.places_=CY b.Design
 links:w.links_=Fx b
 extras:w.extras_=[]
 data:VwD n b w.loads_ w.delays_ b.Wires.length
theorem Vw4{n:Nat}{b:AM}(v:Bv b)(hn:1048577<=n):ET (Nh n b) (F_5 n b):=by
 have vd:=v.design
 have f1:=vd.few.1;have f2:=vd.few.2.1
 have hl:=DF vd.short vd.few.1 vd.few.2.2
 have hW:=v.many
 have hI:=Dz (c:=32) (g:=SG b) b.Design.Instances 0 fun j x hx=>LW v j hx
 rw [F_5,kR vd.short vd.few.1 vd.few.2.2 hn,Ag]
 refine Ko (L:=fun m j (s:Int×List AU)=>Mj n b _ m s.1 j s.2) b.Design.Instances.length (fun j s=>s.1=(Eg b.Design j:Int)∧s.2=ER (SG b) 0 (b.Design.Instances.take j)) ?_ ?_ n ((0:Int),[]) (by omega) ⟨by simp [Eg,ER],by simp [ER]⟩
 ·intro m j s hj ⟨hs1,hs2⟩
  have hlen:=(vd.inst _ (List.getElem_mem hj)).long vd.lib
  have hoff:=(HQ (d:=b.Design) (q:=0) hj (by omega)).lt
  have hsl:=Dz (c:=32) (g:=SG b) (b.Design.Instances.take j) 0 fun i x hx=>LW v i (List.mem_of_mem_take hx)
  have htl:(b.Design.Instances.take j).length=j:=by simp;omega
  have h32:=LW v j (List.getElem_mem hj)
  simp only [Mj.eq_2,Cm hj,cT,AR hj,Ag,hs1,hs2,AkM v hj hn,Pm,wT j]
  rw [Bq (by omega) (by omega),Ag,AY (by omega) (by omega)]
  exact⟨((Eg b.Design (j+1):Int),ER (SG b) 0 (b.Design.Instances.take (j+1))),⟨rfl,rfl⟩,by rw [Ik hj,Xk hj];rfl⟩
 ·intro m s ⟨_,hs2⟩
  rw [List.take_length]at hs2
  simp only [Mj.eq_2,DB,cF]
  rw [Cf (by omega) (by omega),Ag,Cf (by omega) (by omega),Ag,hs2]
  refine Ko (L:=fun m j (s:List Int×List (List Int))=>KJ (CY b.Design) _ m j s.1 s.2) (CY b.Design).length (fun j s=>(s.1.length=b.Wires.length∧s.2.length=b.Wires.length)∧(∀q (h:q<s.2.length),s.2[q]=QC b.Design q j)∧∀q,q<b.Wires.length->GI b.Design q<j->gd s.1 q=(GI b.Design q:Int)) ?_ ?_ n (List.replicate b.Wires.length 0,List.replicate b.Wires.length []) (by omega) ⟨⟨by simp,by simp⟩,fun q h=>by simp [QC,ER],fun q _ h=>by omega⟩
  ·intro m j s hj ⟨⟨h1,h2⟩,h3,h4⟩
   have hp:=vd.net _ (List.getElem_mem hj)
   obtain⟨N,hN⟩:=Int.eq_ofNat_of_zero_le hp.1
   have hN:(CY b.Design)[j].net_=(N:Int):=hN
   have hNl:N<b.Wires.length:=by omega
   obtain⟨a,ea⟩:=Fo (t:=s.1) (i:=(N:Int)) (by omega) (by omega)
   have ey:AE s.2 (N:Int)=some s.2[N]:=AR (by omega)
   have hyl:=cM b.Design N j
   simp only [KJ.eq_2,Cm hj,cT,AR hj,Ag,hN,ea,ey,h3 N (by omega),Int.toNat_natCast,wT j]
   cases hdr:(CY b.Design)[j].drives_ with
   |true=>
    rw [cT]
    refine⟨(s.1.set N (j:Int),s.2),⟨⟨by simpa using h1,h2⟩,fun q hq=>?_,fun q hq hlt=>?_⟩,rfl⟩
    ·have:Ee (q:Int) (CY b.Design)[j]=false:=by simp [Ee,hdr]
     rw [h3 q hq];unfold QC
     rw [Ik hj,this];simp
    ·have hd:=Mh vd (q:=q) (by omega)
     rw [HS (by omega)]
     by_cases c:N=q
     ·subst c
      rw [if_pos rfl,hd.only j hj (by simp [El,hN,hdr])]
     ·rw [if_neg c]
      refine h4 q hq ?_
      rcases Nat.lt_or_ge (GI b.Design q) j with h|h
      ·exact h
      ·exfalso
       have ej:GI b.Design q=j:=by omega
       have hh:=hd.hit
       simp only [El,Bool.and_eq_true,beq_iff_eq]at hh
       have h5:=hh.1
       simp only [ej]at h5
       rw [hN]at h5;omega
   |false=>
    rw [cF,Bq (by simp;omega) (by omega),Ag]
    refine⟨(s.1,s.2.set N (QC b.Design N j++[(j:Int)])),⟨⟨h1,by simpa using h2⟩,fun q hq=>?_,fun q hq hlt=>?_⟩,rfl⟩
    ·simp only [List.length_set]at hq
     rw [List.getElem_set]
     unfold QC
     rw [Ik hj]
     by_cases c:N=q
     ·subst c
      have:Ee (N:Int) (CY b.Design)[j]=true:=by simp [Ee,hN,hdr]
      rw [if_pos rfl,this];simp
     ·have:Ee (q:Int) (CY b.Design)[j]=false:=by
       have:((N:Int)==(q:Int))=false:=by rw [beq_eq_false_iff_ne];omega
       simp [Ee,hN,this]
      rw [if_neg c,this,h3 q (by omega)];simp [QC]
    ·have hd:=Mh vd (q:=q) (by omega)
     refine h4 q hq ?_
     rcases Nat.lt_or_ge (GI b.Design q) j with h|h
     ·exact h
     ·exfalso
      have ej:GI b.Design q=j:=by omega
      have hh:=hd.hit
      simp only [El,Bool.and_eq_true]at hh
      have h5:=hh.2
      simp only [ej]at h5
      rw [hdr]at h5;cases h5
  ·intro m t ⟨⟨h1,h2⟩,h3,h4⟩
   simp only [KJ.eq_2,DB,cF]
   refine Ko (L:=fun m j (s:(List AU×List Int)×List (List Int))=>KO n b t.1 t.2 _ m j s.1.1 s.1.2 s.2) b.Wires.length (fun j u=>(u.1.1=ER (SG b) 0 b.Design.Instances++ER (fun q (_:ByteArray)=>oC b.Design q) 0 (b.Design.Nets.take j)∧u.1.2.length=j)∧VwD n b u.1.2 u.2 j) ?_ ?_ n ((ER (SG b) 0 b.Design.Instances,[]),[]) (by omega) ⟨⟨by simp [ER],rfl⟩,⟨rfl,rfl⟩,fun q h=>absurd h (Nat.not_lt_zero q)⟩
   ·intro m j u hj ⟨⟨g1,g2⟩,g3⟩
    obtain⟨r,es,er,hr⟩:=LdE (n:=n) v hj hn
    obtain⟨ds,ed,hds,ez⟩:=ExE (n:=n) v hj hn
    have g4:=g3.1.2
    have hlq:=(v.wire j hj).sink
    have hm:=(v.wire j hj).many
    have e0:AE r 0=some (gd r 0):=gI (i:=0) (by omega)
    have hj2:j<t.2.length:=by omega
    have hjN:j<b.Design.Nets.length:=by omega
    have hd:=(Mh vd hjN).lt
    have a1:AE t.1 (j:Int)=some (GI b.Design j:Int):=by rw [gI (by omega),h4 j hj hd]
    have hsk:t.2[j]=FW b.Design (j:Int):=by rw [h3 j hj2,Yq]
    have hgl:u.1.1.length<=448+156*j:=by
     have q1:=Dz (c:=156) (g:=fun q (_:ByteArray)=>oC b.Design q) (b.Design.Nets.take j) 0 fun i x _=>RH vd i
     have q2:(b.Design.Nets.take j).length=j:=by simp;omega
     rw [g1,List.length_append];omega
    have hsl:(FW b.Design (j:Int)).length<=78:=by
     rw [Fk];exact Nat.le_trans List.countP_le_length hl
    simp only [KO.eq_2,Cm hj,cT,Ag,er,e0,ez,AR hj2,hsk]
    rw [Bq (by simp;omega) (by omega),Ag,Bq (by simp;omega) (by omega),Ag,wT j]
    refine⟨((u.1.1++oC b.Design j,u.1.2++[gd r 0]),u.2++[b.Wires[j].Sink.map fun k=>gd ds k.toNat]),⟨⟨?_,by simp;omega⟩,g3.snoc fun _=>⟨r,ds,es,by omega,rfl,ed,hds,rfl⟩⟩,?_⟩
    ·rw [g1,Ik hjN,List.append_assoc]
    ·refine DL (xs:=FW b.Design (j:Int)) (L:=fun m' s k=>MQ n t.1 (j:Int) (FW b.Design (j:Int)) _ m' k s) (k:=fun s=>KO n b t.1 t.2 _ m ((j+1:Nat):Int) s (u.1.2++[gd r 0]) (u.2++[b.Wires[j].Sink.map fun k=>gd ds k.toNat])) (gF (GI b.Design j:Int)) 2 u.1.1.length (fun j a _=>by simp [gF]) (by omega) ?_ ?_ n (by omega) u.1.1 (by omega)
     ·intro m k hk s hs
      have hq:=Ki _ (List.getElem_mem hk)
      obtain⟨n',rfl⟩:∃n',n=n'+3:=⟨n-3,by omega⟩
      have w1:wrap .i64 ((0:Int)+1)=1:=by decide
      have w2:wrap .i64 ((1:Int)+1)=2:=by decide
      simp only [MQ.eq_2,Cm hk,cT,AR hk,Ag,wT k]
      rw [Mb.eq_2,show decide ((0:Int)<2)=true from rfl,cT,a1,Ag,AY (x:=2*(GI b.Design j:Int)) (by omega) (by omega),AY (x:=2*(FW b.Design (j:Int))[k]) (by omega) (by omega),AY (x:=2*(GI b.Design j:Int)+0) (by omega) (by omega),AY (x:=2*(FW b.Design (j:Int))[k]+0) (by omega) (by omega),Bq (by simp;omega) (by omega),Ag,w1,Mb.eq_2,show decide ((1:Int)<2)=true from rfl,cT,a1,Ag,AY (x:=2*(GI b.Design j:Int)) (by omega) (by omega),AY (x:=2*(FW b.Design (j:Int))[k]) (by omega) (by omega),AY (x:=2*(GI b.Design j:Int)+1) (by omega) (by omega),AY (x:=2*(FW b.Design (j:Int))[k]+1) (by omega) (by omega),Bq (by simp;omega) (by omega),Ag,w2,Mb.eq_2,show decide ((2:Int)<2)=false from rfl,cF,List.append_assoc]
      congr 1
      simp [gF]
     ·intro m s
      simp only [MQ.eq_2,DB,cF]
   ·intro m u ⟨⟨g1,_⟩,g3⟩
    simp only [KO.eq_2,DB,cF]
    refine⟨_,rfl,⟨rfl,rfl,?_,rfl,g3⟩⟩
    show u.1.1=Fx b
    rw [g1,hW,List.take_length];rfl
theorem Nh.at{n:Nat}{b:AM}{w:BO}(h:Nh n b w){q:Nat}(hq:q<b.Wires.length):∃ls ds,iP n b (q:Int)=some ls∧0<ls.length∧AE w.loads_ (q:Int)=some (gd ls 0)∧YV n b (q:Int)=some ds∧ds.length=b.Wires[q].Parent.length∧AE w.delays_ (q:Int)=some (b.Wires[q].Sink.map fun k=>gd ds k.toNat):=by
 obtain⟨⟨h1,h2⟩,h3⟩:=h.data
 obtain⟨ls,ds,e1,e2,e3,e4,e5,e6⟩:=h3 q hq hq
 refine⟨ls,ds,e1,e2,?_,e4,e5,?_⟩
 ·rw [gI (by omega),e3]
 ·rw [AR (by omega:q<w.delays_.length),←e6]
  simp [List.getD_eq_getElem?_getD,show q<w.delays_.length by omega]
theorem AhQ{n:Nat}{c:Ak}{k m:Int}:∃r,Sx n c k m=some r∧Xa n c k m=some r:=by
 rw [Sx,Xa]
 cases(k==1)<;>cases(m==0)<;>exact⟨_,rfl,rfl⟩
theorem AbO{n:Nat}{p f m:Int}:∃r,(Option.bind (Sg n (wrap .i64 (p*f)) 1000 m) fun r=>some r)=some r∧(Option.bind (XX n p f m) fun r=>some r)=some r:=by
 obtain⟨r,e1,e2⟩:=Dv (n:=n) (s:=wrap .i64 (p*f)) (D:=1000) (mode:=m) (by omega)
 rw [XX,e1,e2];exact⟨r,rfl,rfl⟩
theorem xT{n:Nat}{b:AM}(v:Bv b){w:BO}(h:Nh n b w){x:AU}(ok:Vc b x)(k:x.Kind=1)(hn:1048577<=n):
 ∃a z,∃N:Nat,Rf n b x=some (a,z)∧XM n w x=some a∧RZ n w x=some (N:Int)∧AE w.loads_ (N:Int)=some z∧SH a.Delay true∧SH a.Slew true:=by
 have vd:=v.design
 obtain⟨a0,z0,e0,d0,s0⟩:=sO (n:=n) v ok k hn
 obtain⟨p,y,c,a,g1,pm,g2,g3,g4,kd⟩:=ok.arc k
 have hp:=vd.net p pm
 have hW:=v.many
 obtain⟨N,hN⟩:=Int.eq_ofNat_of_zero_le hp.1
 have hN:p.net_=(N:Int):=hN
 have hNl:N<b.Wires.length:=by omega
 obtain⟨ls,ds,l1,l2,l3,_⟩:=h.at hNl
 have g1':AE ((CY b.Design).map Gv) (wrap .i64 (Int.tdiv x.To 2))=some (Gv p):=by
  obtain⟨g0,g5,g6⟩:=EA g1
  obtain⟨M,hM⟩:=Int.eq_ofNat_of_zero_le g0
  have hM:wrap .i64 (Int.tdiv x.To 2)=(M:Int):=hM
  rw [hM]at g6 ⊢
  rw [DJ,List.getElem?_map]
  rw [Int.toNat_natCast]at g6
  rw [g6];rfl
 have g2':AE b.Design.Instances (Gv p).instance_=some y:=g2
 have hN':(Gv p).net_=(N:Int):=hN
 have es:Rf n b x=some (a,gd ls 0):=by
  rw [Rf,SE vd.short vd.few.1 vd.few.2.2 hn]
  have q0:AE ls 0=some (gd ls 0):=gI (i:=0) l2
  simp only [Ag,g1',g2',g3,g4,hN',l1]
  rw [q0];rfl
 rw [es]at e0
 obtain⟨rfl,rfl⟩:=Prod.mk.inj (Option.some.inj e0)
 refine⟨a,gd ls 0,N,es,?_,?_,l3,d0,s0⟩
 ·rw [XM,h.places,h.blk,g1]
  simp only [Ag,g2,g3,g4]
 ·rw [RZ,h.places,g1,Ag,hN]
theorem AbH{n:Nat}{b:AM}(v:Bv b){w:BO}(hv:Nh n b w){x:AU}{f t q j:Nat}(h:iH b x f t q j):RZ n w x=some (q:Int):=by
 have vd:=v.design
 have hl:=DF vd.short vd.few.1 vd.few.2.2
 obtain⟨ht,_,hq⟩:=h.snk
 have e1:wrap .i64 (Int.tdiv x.To 2)=(t:Int):=by
  have h0:0<=x.To:=by have:=h.to_;omega
  have e:Int.tdiv x.To 2=(t:Int):=by rw [Int.tdiv_eq_ediv_of_nonneg h0];have:=h.to_;omega
  rw [e,AY (by omega) (by omega)]
 rw [RZ,hv.places,e1,AR ht,Ag,hq]
theorem SdE{n:Nat}{b:AM}(v:Bv b){i:Nat}(hi:i<b.Wires.length){mode:Int}{ds:List Int}(e:YV n b (i:Int)=some ds)(hd:ds.length=b.Wires[i].Parent.length)(hn:1048577<=n):
 ∃r,Uu n b (i:Int) mode=some r∧r.length=b.Wires[i].Sink.length∧∀j (hj:j<b.Wires[i].Sink.length),Sg n (gd ds (b.Wires[i].Sink[j]).toNat) 1000 mode=some (gd r j):=by
 have vw:=v.wire i hi
 have hm:=vw.many
 have hf:=Rn v hi
 rw [Uu,e,Ag]
 refine loop (L:=fun m j s=>GU n b (i:Int) mode ds _ m s j) b.Wires[i].Sink.length (fun j s=>s.length=j∧∀k (hk:k<b.Wires[i].Sink.length),k<j->Sg n (gd ds (b.Wires[i].Sink[k]).toNat) 1000 mode=some (gd s k)) (fun o=>∃r,o=some r∧r.length=b.Wires[i].Sink.length∧∀j (hj:j<b.Wires[i].Sink.length),Sg n (gd ds (b.Wires[i].Sink[j]).toNat) 1000 mode=some (gd r j)) ?_ ?_ n 0 [] (by omega) (by omega) ⟨rfl,fun k hk h=>absurd h (Nat.not_lt_zero k)⟩
 ·rintro m j s hj ⟨h1,h2⟩
  have hk:=vw.sinks j hj
  rw [gdX hj]at hk
  obtain⟨r,er⟩:=yE (n:=n) (s:=gd ds (b.Wires[i].Sink[j]).toNat) (D:=1000) (mode:=mode) (by omega)
  simp only [GU.eq_2,AR hi,Ag,Cm hj,cT,AR hj,Oe hk.1 (show b.Wires[i].Sink[j]<ds.length by omega),er,wT j]
  rw [Bq (by simp;omega) (by omega),Ag]
  refine .inl ⟨_,⟨by simp;omega,fun k hk2 hkj=>?_⟩,rfl⟩
  by_cases c:k=j
  ·subst c
   rw [er];congr 1;subst h1;simp [gd]
  ·rw [h2 k hk2 (by omega)];congr 1;unfold gd;rw [Oz (by omega)]
 ·rintro m s ⟨h1,h2⟩
  simp only [GU.eq_2,AR hi,Ag,DB,cF]
  exact⟨s,rfl,h1,fun j hj=>h2 j hj hj⟩
theorem jV{n:Nat}{b:AM}(v:Bv b){w:BO}(hv:Nh n b w){x:AU}(hx:x∈Fx b){k:Int}(hk:AE w.links_ k=some x){c:Ak}{s m:Int}(hn:1048577<=n):∃r,QF n b c x s m=some r∧TZ n w c k s m=some r:=by
 have ok:=Nw v x hx
 rw [QF,TZ,hk,Ag]
 obtain⟨fa,f1,f2⟩:=AhQ (n:=n) (c:=c) (k:=x.Kind) (m:=m)
 rcases RP v x hx with k|⟨f,t,q,j,h⟩
 ·obtain⟨a,z,N,e1,e2,e3,e4,hd,_⟩:=xT v hv ok k hn
  have pr:=RQ ok.to_.1
  obtain⟨u,eu,hu⟩:=ET.get (Q:=fun u=>VT u∧(true=true->_)) pr.1 (by rw [hd.1];exact pr.2) hd.2
  obtain⟨r,r1,r2⟩:=Lk (n:=n) hu.1 s z m hn
  rw [e3,Ag,beq_iff_eq.2 k,cT,cT,e1,Ag,e2,Ag]
  simp only [eu,Ag,e4,r1,r2,f1,f2]
  exact AbO
 ·have k1:(x.Kind==1)=false:=by rw [beq_eq_false_iff_ne,h.kind];omega
  obtain⟨hq,hj⟩:=h.sinks
  obtain⟨ls,ds,_,_,_,l1,l2,l3⟩:=hv.at hq
  obtain⟨sd,s1,s2,s3⟩:=SdE (mode:=m) v hq l1 l2 hn
  have hs3:=s3 j hj
  obtain⟨r,r1,r2⟩:=Dv (n:=n) (s:=gd ds (b.Wires[q].Sink[j]).toNat) (D:=1000) (mode:=m) (by omega)
  rw [r1]at hs3
  obtain rfl:=Option.some.inj hs3
  have em:AE (b.Wires[q].Sink.map fun k=>gd ds k.toNat) (j:Int)=some (gd ds (b.Wires[q].Sink[j]).toNat):=by
   rw [AR (by simpa using hj),List.getElem_map]
  rw [AbH v hv h,Ag,k1,cF,cF,Zu v h hn,Ag,s1,Ag,h.ix,gI (by omega),Ag,l3,Ag,em,Ag]
  simp only [r2,Ag,f1,f2]
  exact AbO
theorem AdV{n:Nat}{x:Int}(hn:1048577<=n):ET (fun _=>True) (Zr n x):=by
 rw [Zr]
 have key:∀(m:Nat) (i j:Int),0<=i->i<=j->j<=3000000000->j-i<2^m->ET (fun _=>True) (Hv x (fun i _=>some i) (m+1) i j):=by
  intro m
  induction m with
  |zero=>
   intro i j h0 h1 h2 h3
   have:i=j:=by simp at h3;omega
   subst this
   rw [Hv.eq_2,decide_eq_false (by omega),cF]
   exact Bc trivial
  |succ m ih=>
   intro i j h0 h1 h2 h3
   rw [Int.pow_succ]at h3
   rw [Hv.eq_2]
   by_cases c:i<j
   ·have w1:wrap .i64 (i+j)=i+j:=AY (by omega) (by omega)
    have w2:wrap .i64 (i+j+1)=i+j+1:=AY (by omega) (by omega)
    have e:Int.tdiv (i+j+1) 2=(i+j+1)/2:=Int.tdiv_eq_ediv_of_nonneg (by omega)
    have w3:wrap .i64 ((i+j+1)/2)=(i+j+1)/2:=AY (by omega) (by omega)
    have w4:wrap .i64 ((i+j+1)/2-1)=(i+j+1)/2-1:=AY (by omega) (by omega)
    rw [decide_eq_true c,cT,w1,w2,e,w3,w4]
    exact Dg (fun _=>ih _ _ (by omega) (by omega) h2 (by omega)) fun _=>ih _ _ h0 (by omega) (by omega) (by omega)
   ·rw [decide_eq_false c,cF]
    exact Bc trivial
 obtain⟨m,rfl⟩:∃m,n=m+1:=⟨n-1,by omega⟩
 refine key m 0 3000000000 (by omega) (by omega) (by omega) ?_
 have h1:(2:Int)^40<=2^m:=by
  have:=Nat.pow_le_pow_right (show 1<=2 by omega) (show 40<=m by omega)
  exact_mod_cast this
 have h2:(2:Int)^40=1099511627776:=by decide
 omega
theorem AgY{n:Nat}{s d m:Int}(hn:1048577<=n):ET (fun _=>True) (fZ n s d m):=by
 rw [fZ]
 refine ET.bind (AdV hn) fun r _ _=>Dg (fun _=>Bc trivial) fun _=>?_
 obtain⟨q,_,e⟩:=Dv (n:=n) (s:=r) (D:=500) (mode:=m) (by omega)
 rw [e];exact Bc trivial
theorem lG{n:Nat}{b:AM}(v:Bv b){w:BO}(hv:Nh n b w){x:AU}(hx:x∈Fx b){k:Int}(hk:AE w.links_ k=some x){s m:Int}(hn:1048577<=n):ET (fun _=>True) (OX n w k s m):=by
 have ok:=Nw v x hx
 rw [OX,hk,Ag]
 rcases RP v x hx with k|⟨f,t,q,j,h⟩
 ·obtain⟨a,z,N,_,e2,e3,e4,_,hd⟩:=xT v hv ok k hn
  have pr:=RQ ok.to_.1
  rw [e3,Ag,beq_iff_eq.2 k,cT,e2,Ag,e4]
  refine ET.bind (ET.get pr.1 (by rw [hd.1];exact pr.2) hd.2) fun u _ hu=>?_
  obtain⟨r,_,r2⟩:=Lk (n:=n) hu.1 s z m hn
  rw [Ag,r2];exact Bc trivial
 ·have k1:(x.Kind==1)=false:=by rw [beq_eq_false_iff_ne,h.kind];omega
  obtain⟨hq,hj⟩:=h.sinks
  obtain⟨ls,ds,_,_,_,l1,l2,l3⟩:=hv.at hq
  rw [AbH v hv h,Ag,k1,cF,l3,Ag,h.ix,AR (by simpa using hj),Ag]
  exact ET.bind (AgY hn) fun _ _ _=>Bc trivial
theorem AjU{n:Nat}{b:AM}(v:Bv b){w:BO}(hv:Nh n b w){x:AU}(hx:x∈Fx b){k:Int}(hk:AE w.links_ k=some x){c:Ak}{s:AO}(hn:1048577<=n):∃d z z',iF n b c x s=some (d,z)∧iD n w c k s=some (d,z'):=by
 obtain⟨a1,p1,q1⟩:=jV (c:=c) (s:=s.Early) (m:=0) v hv hx hk hn
 obtain⟨a2,p2,q2⟩:=jV (c:=c) (s:=s.Early) (m:=1) v hv hx hk hn
 obtain⟨a3,p3,q3⟩:=jV (c:=c) (s:=s.Late) (m:=0) v hv hx hk hn
 obtain⟨a4,p4,q4⟩:=jV (c:=c) (s:=s.Late) (m:=1) v hv hx hk hn
 obtain⟨b1,g1,_⟩:=kS (s:=s.Early) (m:=0) v hx hn
 obtain⟨b2,g2,_⟩:=kS (s:=s.Early) (m:=1) v hx hn
 obtain⟨b3,g3,_⟩:=kS (s:=s.Late) (m:=0) v hx hn
 obtain⟨b4,g4,_⟩:=kS (s:=s.Late) (m:=1) v hx hn
 obtain⟨c1,h1,_⟩:=lG (s:=s.Early) (m:=0) v hv hx hk hn
 obtain⟨c2,h2,_⟩:=lG (s:=s.Early) (m:=1) v hv hx hk hn
 obtain⟨c3,h3,_⟩:=lG (s:=s.Late) (m:=0) v hv hx hk hn
 obtain⟨c4,h4,_⟩:=lG (s:=s.Late) (m:=1) v hv hx hk hn
 rw [iF,iD]
 have he:(decide ((w.extras_.length:Int)>0))=false:=by rw [hv.extras];rfl
 simp only [p1,p2,p3,p4,q1,q2,q3,q4,g1,g2,g3,g4,h1,h2,h3,h4,hk,Ag,he,Bool.false_and,cF]
 exact⟨_,_,_,rfl,rfl⟩
def RS(L:List AU)(k:Nat):Int:=match L[k]? with
 |some x=>x.To
 |none=>0
def NE(L:List AU)(k:Nat):Int:=match L[k]? with
 |some x=>x.From
 |none=>0
theorem RM{L:List AU}{k:Nat}(h:k<L.length):RS L k=L[k].To:=by simp [RS,h]
theorem Jc{L:List AU}{k:Nat}(h:k<L.length):NE L k=L[k].From:=by simp [NE,h]
def Mk(p:Nat->Bool)(N:Nat):List Int:=((List.range N).filter p).map fun k:Nat=>(k:Int)
theorem GZ(p:Nat->Bool)(i:Nat):Mk p (i+1)=Mk p i++(if p i=true then [(i:Int)]else []):=by
 unfold Mk
 rw [List.range_succ,List.filter_append,List.map_append]
 by_cases h:p i=true
 ·simp [h]
 ·simp [h]
theorem NZ(p:Nat->Bool)(N:Nat):(Mk p N).length<=N:=by
 unfold Mk;rw [List.length_map];exact Nat.le_trans (List.length_filter_le _ _) (by simp)
theorem WG{p:Nat->Bool}{N:Nat}{x:Int}(h:x∈Mk p N):∃k,k<N∧x=(k:Int)∧p k=true:=by
 obtain⟨k,hk,rfl⟩:=List.mem_map.1 h
 obtain⟨h1,h2⟩:=List.mem_filter.1 hk
 exact⟨k,List.mem_range.1 h1,rfl,h2⟩
theorem QN(p:Nat->Bool)(f:Nat->Bool)(N:Nat):(Mk p N).countP (fun k=>f k.toNat)=(List.range N).countP fun k=>f k&&p k:=by
 unfold Mk
 rw [List.countP_map,List.countP_filter]
 rfl
theorem AaT{n:Nat}{g:BS}{u:Int}(hl:g.view_.links_.length<=1048576)(hv:g.live_.length=g.view_.links_.length)(hn:1048577<=n):Vq n g u=some (Mk (fun k=>gb g.live_ k&&(NE g.view_.links_ k==u)) g.view_.links_.length):=by
 rw [Vq,mU]
 have:HF n g u (fun l31 i35=>(some l31)) n (([]:List Int)) 0=some (Mk (fun k=>gb g.live_ k&&(NE g.view_.links_ k==u)) g.view_.links_.length):=by
  refine loop (L:=fun m i s=>HF n g u (fun l _=>some l) m s i) g.view_.links_.length (fun i s=>s=Mk (fun k=>gb g.live_ k&&(NE g.view_.links_ k==u)) i) (fun o=>o=some (Mk (fun k=>gb g.live_ k&&(NE g.view_.links_ k==u)) g.view_.links_.length)) ?_ ?_ n 0 [] (by omega) (by omega) rfl
  ·rintro m i s hi rfl
   have hs:=NZ (fun k=>gb g.live_ k&&(NE g.view_.links_ k==u)) i
   simp only [HF.eq_2,Cm hi,cT,AR hi,Km (show i<g.live_.length by omega),Ag,nI,wT i]
   cases c:gb g.live_ i with
   |false=>
    refine .inl ⟨_,rfl,?_⟩
    rw [cF,Ag,cF,GZ];simp [c]
   |true=>
    rw [cT,Ag]
    cases e:(g.view_.links_[i].From==u)with
    |false=>refine .inl ⟨_,rfl,?_⟩;rw [cF,GZ];simp [c,Jc hi,e]
    |true=>
     refine .inl ⟨_,rfl,?_⟩
     rw [cT,Bq (by simp;omega) (by omega),Ag,GZ];simp [c,Jc hi,e]
  ·rintro m s rfl
   simp only [HF.eq_2,DB,cF]
 rw [this,Ag]
theorem AdT{n:Nat}{g:BS}(hl:g.view_.links_.length<=1048576)(hv:g.live_.length=g.view_.links_.length)(hn:1048577<=n):Zh n g=some (Mk (fun k=>gb g.live_ k) g.view_.links_.length):=by
 rw [Zh]
 refine loop (L:=fun m i s=>Hl n g (fun l _=>some l) m s i) g.view_.links_.length (fun i s=>s=Mk (fun k=>gb g.live_ k) i) (fun o=>o=some (Mk (fun k=>gb g.live_ k) g.view_.links_.length)) ?_ ?_ n 0 [] (by omega) (by omega) rfl
 ·rintro m i s hi rfl
  have hs:=NZ (fun k=>gb g.live_ k) i
  simp only [Hl.eq_2,Cm hi,cT,AR hi,Km (show i<g.live_.length by omega),Ag,jB,wT i]
  cases c:gb g.live_ i with
  |false=>refine .inl ⟨_,rfl,?_⟩;rw [cF,Ag,cF,GZ];simp [c]
  |true=>refine .inl ⟨_,rfl,?_⟩;rw [cT,Ag,cT,Bq (by simp;omega) (by omega),Ag,GZ];simp [c]
 ·rintro m s rfl
  simp only [Hl.eq_2,DB,cF]
def Jo(L:List AU)(lv l:List Bool)(q:Int)(i:Nat):Nat:=(List.range i).countP fun k=>gb lv k&&(RS L k==q)&& !gb l (NE L k).toNat
theorem Nt(L:List AU)(lv l:List Bool)(q:Int)(i:Nat):Jo L lv l q (i+1)=Jo L lv l q i+(if (gb lv i&&(RS L i==q)&& !gb l (NE L i).toNat)=true then 1 else 0):=by
 unfold Jo;rw [List.range_succ,List.countP_append,List.countP_singleton]
theorem jP(L:List AU)(lv l:List Bool)(q:Int)(i:Nat):Jo L lv l q i<=i:=by
 unfold Jo;exact Nat.le_trans List.countP_le_length (by simp)
theorem Ot{α:Type}{p q r:α->Bool}:∀{xs:List α},(∀x∈xs,(p x).toNat+(q x).toNat=(r x).toNat)->xs.countP p+xs.countP q=xs.countP r
 |[],_=>rfl
 |x::xs,h=>by
  have h1:=Ot (xs:=xs) fun y hy=>h y (List.mem_cons_of_mem _ hy)
  have h2:=h x List.mem_cons_self
  have e:∀b:Bool,(if b=true then 1 else 0)=b.toNat:=by decide
  rw [List.countP_cons,List.countP_cons,List.countP_cons,e,e,e];omega
theorem gA{L:List AU}{lv l:List Bool}{q:Int}{x:Nat}(hx:x<l.length)(hf:gb l x=false)(hL:∀k,k<L.length->0<=NE L k):Jo L lv (l.set x true) q L.length+(List.range L.length).countP (fun k=>(RS L k==q)&&(gb lv k&&(NE L k==(x:Int))))=Jo L lv l q L.length:=by
 unfold Jo
 refine Ot fun k hk=>?_
 have hk:=hL k (List.mem_range.1 hk)
 rw [OE hx]
 cases gb lv k with
 |false=>simp
 |true=>
  cases(RS L k==q)with
  |false=>simp
  |true=>
   by_cases e:x=(NE L k).toNat
   ·have e2:(NE L k==(x:Int))=true:=by rw [beq_iff_eq];omega
    rw [if_pos e,e2,←e,hf];rfl
   ·have e2:(NE L k==(x:Int))=false:=by rw [beq_eq_false_iff_ne];omega
    rw [if_neg e,e2];cases gb l (NE L k).toNat<;>rfl
def oA(P:Nat->Prop)(N x:Nat):Prop:=x<=N∧(∀q,q<x->¬P q)∧(x<N->P x)
theorem oA.uniq{P:Nat->Prop}{N x y:Nat}(h:oA P N x)(k:oA P N y):x=y:=by
 rcases Nat.lt_trichotomy x y with c|c|c
 ·exact absurd (h.2.2 (by have:=k.1;omega)) (k.2.1 x c)
 ·exact c
 ·exact absurd (k.2.2 (by have:=h.1;omega)) (h.2.1 y c)
theorem AlK{n:Nat}{op:List Int}(hl:op.length<=1048576)(hn:1048577<=n):∃x,oA (fun q=>gd op q=0) op.length x∧cL n op 0=some (if x<op.length then(x:Int)else-1):=by
 rw [cL]
 refine loop (L:=fun m i (_:Unit)=>Ji op 0 (fun _=>some (-1)) m i) op.length (fun i _=>∀q,q<i->¬gd op q=0) (fun o=>∃x,oA (fun q=>gd op q=0) op.length x∧o=some (if x<op.length then(x:Int)else-1)) ?_ ?_ n 0 () (by omega) (by omega) (fun q h=>absurd h (Nat.not_lt_zero q))
 ·intro m i _ hi h
  simp only [Ji.eq_2,Cm hi,cT,gI hi,Ag,wT i]
  cases c:((0:Int)==gd op i)with
  |true=>
   have c:=beq_iff_eq.1 c
   exact .inr ⟨i,⟨by omega,h,fun _=>c.symm⟩,by rw [cT,if_pos hi]⟩
  |false=>
   have c:=beq_eq_false_iff_ne.1 c
   refine .inl ⟨(),fun q hq=>?_,rfl⟩
   by_cases e:q=i
   ·subst e;exact fun z=>c z.symm
   ·exact h q (by omega)
 ·intro m _ h
  simp only [Ji.eq_2,DB,cF]
  exact⟨op.length,⟨Nat.le_refl _,h,fun z=>by omega⟩,by rw [if_neg (by omega)]⟩
theorem NxS{N:Nat}{l w:List Bool}{K:Int->Option (List Int×Bool)}(h1:l.length=N)(h2:w.length=N)(hN:N<=1000)(m:Nat)(hm:1048577<=m):∃x,oA (fun q=>gb l q=false∧gb w q=false) N x∧FO (N:Int) l w K m 0=K (x:Int):=by
 refine loop (L:=fun m i (_:Unit)=>FO (N:Int) l w K m i) N (fun i _=>∀q,q<i->¬(gb l q=false∧gb w q=false)) (fun o=>∃x,oA (fun q=>gb l q=false∧gb w q=false) N x∧o=K (x:Int)) ?_ ?_ m 0 () (by omega) (by omega) (fun q h=>absurd h (Nat.not_lt_zero q))
 ·intro m i _ hi h
  simp only [FO.eq_2,Cm hi,cT,Km (show i<l.length by omega),Km (show i<w.length by omega),Ag,wT i]
  cases a:gb l i with
  |true=>
   refine .inl ⟨(),fun q hq=>?_,rfl⟩
   by_cases e:q=i
   ·subst e;rw [a];simp
   ·exact h q (by omega)
  |false=>
   cases c:gb w i with
   |true=>
    refine .inl ⟨(),fun q hq=>?_,rfl⟩
    by_cases e:q=i
    ·subst e;rw [c];simp
    ·exact h q (by omega)
   |false=>exact .inr ⟨i,⟨by omega,h,fun _=>⟨a,c⟩⟩,rfl⟩
 ·intro m _ h
  simp only [FO.eq_2,DB,cF,Ag]
  exact⟨N,⟨Nat.le_refl _,h,fun z=>by omega⟩,rfl⟩
theorem AeX{N:Nat}{L:List AU}{lv l:List Bool}(hL:PH L N)(hlv:lv.length=L.length)(hl:L.length<=10000)(h2:l.length=N){K:Int->List Bool->Option (List Int×Bool)}{m:Nat}(hm:1048577<=m):∃w:List Bool,w.length=N∧(∀q,q<N->gb w q=decide (0<Jo L lv l (q:Int) L.length))∧∃j,FN L lv l K m 0 (List.replicate N false)=K j w:=by
 refine loop (L:=fun m i w=>FN L lv l K m i w) L.length (fun i w=>w.length=N∧∀q,q<N->gb w q=decide (0<Jo L lv l (q:Int) i)) (fun o=>∃w:List Bool,w.length=N∧(∀q,q<N->gb w q=decide (0<Jo L lv l (q:Int) L.length))∧∃j,o=K j w) ?_ ?_ m 0 (List.replicate N false) (by omega) (by omega) ⟨by simp,fun q hq=>by simp [Jo,gb,hq]⟩
 ·rintro m i w hi ⟨g1,g2⟩
  have hf:=hL.from_ i hi
  have ht:=hL.to_ i hi
  obtain⟨F,eF⟩:=Int.eq_ofNat_of_zero_le hf.1
  have eF:L[i].From=(F:Int):=eF
  obtain⟨T,eT⟩:=Int.eq_ofNat_of_zero_le ht.1
  have eT:L[i].To=(T:Int):=eT
  simp only [FN.eq_2,Cm hi,cT,AR hi,Km (show i<lv.length by omega),Ag,eF,eT,Km (show F<l.length by omega),Km (show T<w.length by omega),Int.toNat_natCast,wT i]
  have key:∀c:Bool,(gb lv i&& !gb l F)=c->∀q:Nat,(gb lv i&&(RS L i==(q:Int))&& !gb l (NE L i).toNat)=(c&&decide (T=q)):=fun c hc q=>by
   rw [RM hi,Jc hi,eF,eT,Int.toNat_natCast,←hc]
   by_cases e:T=q
   ·subst e;simp
   ·have:((T:Int)==(q:Int))=false:=by rw [beq_eq_false_iff_ne];omega
    rw [this,decide_eq_false e];simp
  cases c:gb lv i with
  |false=>
   refine .inl ⟨w,⟨g1,fun q hq=>?_⟩,rfl⟩
   rw [g2 q hq,Nt,key false (by rw [c];rfl)];simp
  |true=>
   cases d:gb l F with
   |true=>
    refine .inl ⟨w,⟨g1,fun q hq=>?_⟩,rfl⟩
    rw [g2 q hq,Nt,key false (by rw [c,d];rfl)];simp
   |false=>
    refine .inl ⟨w.set T true,⟨by simpa using g1,fun q hq=>?_⟩,rfl⟩
    rw [OE (by omega),Nt,key true (by rw [c,d];rfl),g2 q hq]
    by_cases e:T=q
    ·simp [e]
    ·simp [e]
 ·rintro m w ⟨g1,g2⟩
  simp only [FN.eq_2,DB,cF]
  exact⟨w,g1,g2,_,rfl⟩
theorem AjZ{N:Nat}{g:BS}(hL:PH g.view_.links_ N)(hl:g.view_.links_.length<=10000){r:List Int}(hr:r.length<=10000)(hk:∀x∈r,0<=x∧x<(g.view_.links_.length:Int)){op:List Int}(ho:op.length=N)(hb:∀q,q<N->0<=gd op q∧gd op q<=10000){K:Int->List Int->Option (List Int×Bool)}{m:Nat}(hm:1048577<=m):
 ∃op':List Int,op'.length=N∧(∀q,q<N->gd op' q=gd op q+(r.countP fun k=>RS g.view_.links_ k.toNat==(q:Int)))∧∃j,KQ g r K m 0 op=K j op':=by
 refine loop (L:=fun m i s=>KQ g r K m i s) r.length (fun i s=>s.length=N∧∀q,q<N->gd s q=gd op q+((r.take i).countP fun k=>RS g.view_.links_ k.toNat==(q:Int))) (fun o=>∃op':List Int,op'.length=N∧(∀q,q<N->gd op' q=gd op q+(r.countP fun k=>RS g.view_.links_ k.toNat==(q:Int)))∧∃j,o=K j op') ?_ ?_ m 0 op (by omega) (by omega) ⟨ho,fun q _=>by simp⟩
 ·rintro m i s hi ⟨h1,h2⟩
  have hx:=hk _ (List.getElem_mem hi)
  obtain⟨k,ek⟩:=Int.eq_ofNat_of_zero_le hx.1
  have ek:r[i]=(k:Int):=ek
  have hkl:k<g.view_.links_.length:=by omega
  have ht:=hL.to_ k hkl
  obtain⟨T,eT⟩:=Int.eq_ofNat_of_zero_le ht.1
  have eT:g.view_.links_[k].To=(T:Int):=eT
  have hT:=h2 T (by omega)
  have hbT:=hb T (by omega)
  have hc:((r.take i).countP fun k=>RS g.view_.links_ k.toNat==(T:Int))<=10000:=Nat.le_trans List.countP_le_length (by simp;omega)
  simp only [KQ.eq_2,Cm hi,cT,AR hi,ek,AR hkl,Ag,eT,gI (show T<s.length by omega),Int.toNat_natCast,wT i]
  refine .inl ⟨_,⟨by simpa using h1,fun q hq=>?_⟩,rfl⟩
  rw [HS (by omega),List.take_succ_eq_append_getElem hi,List.countP_append,List.countP_singleton,ek,Int.toNat_natCast,RM hkl,eT]
  by_cases e:T=q
  ·subst e
   rw [if_pos rfl,AY (by omega) (by omega),hT];simp;omega
  ·have:((T:Int)==(q:Int))=false:=by rw [beq_eq_false_iff_ne];omega
   rw [if_neg e,h2 q hq,this];simp
 ·rintro m s ⟨h1,h2⟩
  simp only [KQ.eq_2,DB,cF]
  rw [List.take_length]at h2
  exact⟨s,h1,h2,_,rfl⟩
theorem AlD{N:Nat}{g:BS}(hL:PH g.view_.links_ N)(hl:g.view_.links_.length<=10000){r:List Int}(hr:r.length<=10000)(hk:∀x∈r,0<=x∧x<(g.view_.links_.length:Int)){op:List Int}(ho:op.length=N)(hb:∀q,q<N-> -1<=gd op q∧gd op q<=10000){K:Int->List Int->Option (List Int×Bool)}{m:Nat}(hm:1048577<=m):
 ∃op':List Int,op'.length=N∧(∀q,q<N->gd op' q=gd op q-(r.countP fun k=>RS g.view_.links_ k.toNat==(q:Int)))∧∃j,KT g r K m 0 op=K j op':=by
 refine loop (L:=fun m i s=>KT g r K m i s) r.length (fun i s=>s.length=N∧∀q,q<N->gd s q=gd op q-((r.take i).countP fun k=>RS g.view_.links_ k.toNat==(q:Int))) (fun o=>∃op':List Int,op'.length=N∧(∀q,q<N->gd op' q=gd op q-(r.countP fun k=>RS g.view_.links_ k.toNat==(q:Int)))∧∃j,o=K j op') ?_ ?_ m 0 op (by omega) (by omega) ⟨ho,fun q _=>by simp⟩
 ·rintro m i s hi ⟨h1,h2⟩
  have hx:=hk _ (List.getElem_mem hi)
  obtain⟨k,ek⟩:=Int.eq_ofNat_of_zero_le hx.1
  have ek:r[i]=(k:Int):=ek
  have hkl:k<g.view_.links_.length:=by omega
  have ht:=hL.to_ k hkl
  obtain⟨T,eT⟩:=Int.eq_ofNat_of_zero_le ht.1
  have eT:g.view_.links_[k].To=(T:Int):=eT
  have hT:=h2 T (by omega)
  have hbT:=hb T (by omega)
  have hc:((r.take i).countP fun k=>RS g.view_.links_ k.toNat==(T:Int))<=10000:=Nat.le_trans List.countP_le_length (by simp;omega)
  simp only [KT.eq_2,Cm hi,cT,AR hi,ek,AR hkl,Ag,eT,gI (show T<s.length by omega),Int.toNat_natCast,wT i]
  refine .inl ⟨_,⟨by simpa using h1,fun q hq=>?_⟩,rfl⟩
  rw [HS (by omega),List.take_succ_eq_append_getElem hi,List.countP_append,List.countP_singleton,ek,Int.toNat_natCast,RM hkl,eT]
  by_cases e:T=q
  ·subst e
   rw [if_pos rfl,AY (by omega) (by omega),hT];simp;omega
  ·have:((T:Int)==(q:Int))=false:=by rw [beq_eq_false_iff_ne];omega
   rw [if_neg e,h2 q hq,this];simp
 ·rintro m s ⟨h1,h2⟩
  simp only [KT.eq_2,DB,cF]
  rw [List.take_length]at h2
  exact⟨s,h1,h2,_,rfl⟩
structure OrI(L:List AU)(lv:List Bool)(N:Nat)(o:List Int)(l:List Bool)(op:List Int):Prop where
 len:l.length=N
 olen:op.length=N
 old:∀q,q<N->gb l q=true->gd op q= -1∧Jo L lv l (q:Int) L.length=0
 new:∀q,q<N->gb l q=false->gd op q=(Jo L lv l (q:Int) L.length:Int)
theorem AiJ{n:Nat}{g:BS}{N:Nat}(hL:PH g.view_.links_ N)(hv:g.live_.length=g.view_.links_.length)(hl:g.view_.links_.length<=10000)(hN:N<=1000)(hp:QG n g.view_=some (N:Int))(hn:1048577<=n):∃r,nO n (N:Int) g.view_.links_ g.live_=some r∧yT n g=some r∧r.1.length<=N:=by
 rw [nO,yT,hp,Cf (by omega) (by omega),Ag,Ag,Cf (by omega) (by omega),Ag,AdT (by omega) hv hn,Ag]
 have hcl:=jP g.view_.links_ g.live_
 obtain⟨op0,a1,a2,j0,a3⟩:=AjZ (g:=g) hL hl (r:=Mk (fun k=>gb g.live_ k) g.view_.links_.length) (Nat.le_trans (NZ _ _) hl) (fun x hx=>by obtain⟨k,h1,rfl,_⟩:=WG hx;omega) (op:=List.replicate N 0) (by simp) (fun q hq=>by rw [Mw];omega) (K:=fun i57 l60=>(KI n g l60 (fun l69 i73 l76=>(some (l69,true))) n (([]:List Int)) 0 l60)) (m:=n) hn
 rw [a3]
 have key:∀(m i:Nat) (o:List Int) (l:List Bool) (op:List Int),i<=N->N-i<m->o.length=i->OrI g.view_.links_ g.live_ N o l op->
  ∃r,Fz n (N:Int) g.view_.links_ g.live_ (fun l32 l36=>(some (l32,true))) m o l=some r∧KI n g op0 (fun l69 i73 l76=>(some (l69,true))) m o (i:Int) op=some r∧r.1.length<=N:=by
  intro m
  induction m with
  |zero=>intro i o l op _ h;omega
  |succ m ih=>
   intro i o l op hi hm ho I
   rw [Fz.eq_2,KI.eq_2,ho,a1]
   by_cases c:i<N
   ·rw [Cm c,cT,cT,Cf (by omega) (by omega),Ag]
    obtain⟨w,w1,w2,jw,ew⟩:=AeX (lv:=g.live_) (l:=l) hL hv hl I.len (K:=fun i56 l59=>(FO (N:Int) l l59 (fun i65=>(cond (i65==(N:Int)) (some (([]:List Int),false)) (Option.bind (AE l i65) fun x82=>(Option.bind (Du o [i65] 8) fun z106=>(Fz n (N:Int) g.view_.links_ g.live_ (fun l32 l36=>(some (l32,true))) m z106 ((l.set (i65).toNat true))))))) n 0)) (m:=n) hn
    rw [ew]
    obtain⟨x,hx,ex⟩:=NxS (K:=fun i65=>(cond (i65==(N:Int)) (some (([]:List Int),false)) (Option.bind (AE l i65) fun x82=>(Option.bind (Du o [i65] 8) fun z106=>(Fz n (N:Int) g.view_.links_ g.live_ (fun l32 l36=>(some (l32,true))) m z106 ((l.set (i65).toNat true))))))) I.len w1 hN n hn
    rw [ex]
    obtain⟨y,hy,ey⟩:=AlK (n:=n) (op:=op) (by have:=I.olen;omega) hn
    have hxy:oA (fun q=>gb l q=false∧gb w q=false) N y:=by
     rw [I.olen]at hy
     refine⟨hy.1,fun q hq=>?_,fun hq=>?_⟩
     ·have hqN:q<N:=by have:=hy.1;omega
      have h0:=hy.2.1 q hq
      rintro ⟨h1,h2⟩
      rw [w2 q hqN]at h2
      have h2:=of_decide_eq_false h2
      have:=I.new q hqN h1
      exact h0 (by show gd op q=0;omega)
     ·have h0:gd op y=0:=hy.2.2 hq
      cases c2:gb l y with
      |true=>have:=(I.old y hq c2).1;omega
      |false=>
       have:=I.new y hq c2
       exact⟨c2,by rw [w2 y hq];exact decide_eq_false (by omega)⟩
    obtain rfl:=hx.uniq hxy
    rw [ey,Ag,I.olen]
    by_cases d:x<N
    ·have e1:((x:Int)==(N:Int))=false:=by rw [beq_eq_false_iff_ne];omega
     have e2:decide ((x:Int)<0)=false:=decide_eq_false (by omega)
     rw [if_pos d,e1,e2,cF,cF,Km (by have:=I.len;omega),Ag,gI (show x<op.length by have:=I.olen;omega),Ag,Bq (by simp;omega) (by omega),Ag,Ag,AaT (by omega) hv hn,Ag,Int.toNat_natCast]
     have hready:=hx.2.2 d
     have hc0:Jo g.view_.links_ g.live_ l (x:Int) g.view_.links_.length=0:=by
      have h2:=hready.2
      rw [w2 x d]at h2
      have h2:=of_decide_eq_false h2;omega
     have opb:∀q,q<N-> -1<=gd (op.set x (-1)) q∧gd (op.set x (-1)) q<=10000:=fun q hq=>by
      rw [HS (by have:=I.olen;omega)]
      by_cases e:x=q
      ·rw [if_pos e];omega
      ·rw [if_neg e]
       cases c2:gb l q with
       |true=>have:=(I.old q hq c2).1;omega
       |false=>have:=I.new q hq c2;have:=hcl l (q:Int) g.view_.links_.length;omega
     obtain⟨op2,b1,b2,j2,b3⟩:=AlD (g:=g) hL hl (r:=Mk (fun k=>gb g.live_ k&&(NE g.view_.links_ k==(x:Int))) g.view_.links_.length) (Nat.le_trans (NZ _ _) hl) (fun z hz=>by obtain⟨k,h1,rfl,_⟩:=WG hz;omega) (op:=op.set x (-1)) (by simpa using I.olen) opb (K:=fun i140 l143=>(KI n g op0 (fun l69 i73 l76=>(some (l69,true))) m (o++[(x:Int)]) (wrap .i64 ((i:Int)+1)) l143)) (m:=n) hn
     rw [b3,wS (by omega)]
     have hF:∀k,k<g.view_.links_.length->0<=NE g.view_.links_ k:=fun k hk=>by rw [Jc hk];exact(hL.from_ k hk).1
     have hs:∀q:Nat,Jo g.view_.links_ g.live_ (l.set x true) (q:Int) g.view_.links_.length+((Mk (fun k=>gb g.live_ k&&(NE g.view_.links_ k==(x:Int))) g.view_.links_.length).countP fun k=>RS g.view_.links_ k.toNat==(q:Int))=Jo g.view_.links_ g.live_ l (q:Int) g.view_.links_.length:=fun q=>by
      rw [QN _ (fun k=>RS g.view_.links_ k==(q:Int))]
      exact gA (by have:=I.len;omega) hready.1 hF
     refine ih (i+1) (o++[(x:Int)]) (l.set x true) op2 (by omega) (by omega) (by simp [ho]) ⟨by simpa using I.len,b1,fun q hq hb=>?_,fun q hq hb=>?_⟩
     ·rw [OE (by have:=I.len;omega)]at hb
      have b2q:=b2 q hq
      have hsq:=hs q
      rw [HS (by have:=I.olen;omega)]at b2q
      by_cases e:x=q
      ·subst e
       rw [if_pos rfl]at b2q
       exact⟨by omega,by omega⟩
      ·rw [if_neg e]at b2q hb
       have:=I.old q hq hb
       exact⟨by omega,by omega⟩
     ·rw [OE (by have:=I.len;omega)]at hb
      have b2q:=b2 q hq
      have hsq:=hs q
      rw [HS (by have:=I.olen;omega)]at b2q
      by_cases e:x=q
      ·rw [if_pos e]at hb;cases hb
      ·rw [if_neg e]at b2q hb
       have:=I.new q hq hb
       omega
    ·have hxN:x=N:=by have:=hx.1;omega
     have e1:((x:Int)==(N:Int))=true:=by rw [beq_iff_eq];omega
     have e2:decide ((-1:Int)<0)=true:=rfl
     rw [if_neg d,e1,e2,cT,cT]
     exact⟨_,rfl,rfl,by simp⟩
   ·have e:i=N:=by omega
    rw [e,DB,cF,cF]
    exact⟨_,rfl,rfl,by show o.length<=N;omega⟩
 refine key n 0 [] (List.replicate N false) op0 (by omega) (by omega) rfl ⟨by simp,a1,fun q hq hb=>?_,fun q hq _=>?_⟩
 ·rw [show gb (List.replicate N false) q=false by simp [gb,hq]]at hb;cases hb
 ·rw [a2 q hq,Mw,QN _ (fun k=>RS g.view_.links_ k==(q:Int))]
  have:((List.range g.view_.links_.length).countP fun k=>(RS g.view_.links_ k==(q:Int))&&gb g.live_ k)=Jo g.view_.links_ g.live_ (List.replicate N false) (q:Int) g.view_.links_.length:=by
   unfold Jo
   refine List.countP_congr fun k hk=>?_
   have hk:=List.mem_range.1 hk
   have hf:=hL.from_ k hk
   have:gb (List.replicate N false) (NE g.view_.links_ k).toNat=false:=by
    rw [Jc hk];simp [gb,show(g.view_.links_[k].From).toNat<N by omega]
   rw [this,Bool.not_false,Bool.and_true,Bool.and_comm]
  rw [this];simp
theorem AgV{n:Nat}{c:Ak}(h:c.Name.size<=1048576)(hn:1048577<=n):∃r,dQ n c=some r∧ZN n c=some r:=by
 rw [dQ,ZN,Nm1 h hn]
 obtain⟨k,rfl⟩:∃k,n=k+5:=⟨n-5,by omega⟩
 have w0:wrap .i64 ((0:Int)+1)=1:=by decide
 have w1:wrap .i64 ((1:Int)+1)=2:=by decide
 have w2:wrap .i64 ((2:Int)+1)=3:=by decide
 have w3:wrap .i64 ((3:Int)+1)=4:=by decide
 have g0:AE [c.CellEarly,c.CellLate,c.WireEarly,c.WireLate] 0=some c.CellEarly:=rfl
 have g1:AE [c.CellEarly,c.CellLate,c.WireEarly,c.WireLate] 1=some c.CellLate:=rfl
 have g2:AE [c.CellEarly,c.CellLate,c.WireEarly,c.WireLate] 2=some c.WireEarly:=rfl
 have g3:AE [c.CellEarly,c.CellLate,c.WireEarly,c.WireLate] 3=some c.WireLate:=rfl
 have dl:(([c.CellEarly,c.CellLate,c.WireEarly,c.WireLate].length:Nat):Int)=4:=rfl
 simp only [NP.eq_2,dl,show decide ((0:Int)<4)=true from rfl,show decide ((1:Int)<4)=true from rfl,show decide ((2:Int)<4)=true from rfl,show decide ((3:Int)<4)=true from rfl,show decide ((4:Int)<4)=false from rfl,cT,cF,g0,g1,g2,g3,w0,w1,w2,w3,Ag,IR,Nm2 h hn,Yx]
 refine⟨EK c.Name&&(decide (c.CellEarly>=100)&&decide (c.CellEarly<=c.CellLate)&&decide (c.CellLate<=5000))&&(decide (c.WireEarly>=100)&&decide (c.WireEarly<=c.WireLate)&&decide (c.WireLate<=5000)),?_,?_⟩
 ·cases h1:(decide (c.CellEarly>=100)&&decide (c.CellEarly<=5000))<;>cases h2:(decide (c.CellLate>=100)&&decide (c.CellLate<=5000))<;>cases h3:(decide (c.WireEarly>=100)&&decide (c.WireEarly<=5000))<;>cases h4:(decide (c.WireLate>=100)&&decide (c.WireLate<=5000))<;>cases EK c.Name<;>simp only [Bool.not_true,Bool.not_false,cT,cF,Bool.true_and,Bool.false_and]<;>congr 1<;>rw [Bool.eq_iff_iff]<;>simp at h1 h2 h3 h4 ⊢ <;>omega
 ·cases EK c.Name<;>cases(decide (c.CellEarly>=100)&&decide (c.CellEarly<=c.CellLate)&&decide (c.CellLate<=5000))<;>rfl
theorem Wh{p:Nat->Bool}{i:Nat}(h:p i=true):∀{N:Nat},i<N->(Mk p N)[(Mk p i).length]? =some (i:Int)
 |0,h0=>by omega
 |N+1,h0=>by
  rw [GZ]
  by_cases e:i=N
  ·subst e;rw [h,if_pos rfl];simp
  ·have ih:=Wh h (N:=N) (by omega)
   rw [List.getElem?_append_left (List.getElem?_eq_some_iff.1 ih).1];exact ih
theorem wO{p:Nat->Bool}{i N:Nat}(h:p i=true)(hi:i<N):(Mk p i).length<(Mk p N).length∧AE (Mk p N) ((Mk p i).length:Int)=some (i:Int):=by
 have g:=Wh h hi
 exact⟨(List.getElem?_eq_some_iff.1 g).1,by rw [DJ];exact g⟩
theorem yY{m:Nat}{K:Bool->Int->Int->Int->Int->Option (Bool×AJ)}{xs:List AJ}{node:Int}(hl:xs.length<=1048576)(hn:1048577<=m):
 ((∀k (_:k<xs.length),xs[k].Node≠node)∧IA xs node K m false 0 0 0 0=K false (xs.length:Int) 0 0 0)∨∃k,∃h:k<xs.length,xs[k].Node=node∧IA xs node K m false 0 0 0 0=K true (xs.length:Int) xs[k].Node xs[k].Required.Early xs[k].Required.Late:=by
 refine loop (L:=fun m i (s:Bool×Int×Int×Int)=>IA xs node K m s.1 i s.2.1 s.2.2.1 s.2.2.2) xs.length
  (fun i s=>((∀k (_:k<xs.length),k<i->xs[k].Node≠node)∧s=(false,0,0,0))∨∃k,∃h:k<xs.length,xs[k].Node=node∧s=(true,xs[k].Node,xs[k].Required.Early,xs[k].Required.Late))
  (fun o=>((∀k (_:k<xs.length),xs[k].Node≠node)∧o=K false (xs.length:Int) 0 0 0)∨∃k,∃h:k<xs.length,xs[k].Node=node∧o=K true (xs.length:Int) xs[k].Node xs[k].Required.Early xs[k].Required.Late) ?_ ?_ m 0 (false,0,0,0) (by omega) (by omega) (.inl ⟨fun k _ h=>by omega,rfl⟩)
 ·intro m i s hi hs
  simp only [IA.eq_2,Cm hi,cT,AR hi,Ag,wT i]
  cases e:(xs[i].Node==node)with
  |true=>exact .inl ⟨(true,xs[i].Node,xs[i].Required.Early,xs[i].Required.Late),.inr ⟨i,hi,beq_iff_eq.1 e,rfl⟩,rfl⟩
  |false=>
   refine .inl ⟨s,?_,rfl⟩
   rcases hs with ⟨h1,h2⟩|h
   ·refine .inl ⟨fun k hk hki=>?_,h2⟩
    by_cases c:k=i
    ·subst c;exact beq_eq_false_iff_ne.1 e
    ·exact h1 k hk (by omega)
   ·exact .inr h
 ·intro m s hs
  simp only [IA.eq_2,DB,cF]
  rcases hs with ⟨h1,rfl⟩|⟨k,hk,h1,rfl⟩
  ·exact .inl ⟨fun k hk=>h1 k hk hk,rfl⟩
  ·exact .inr ⟨k,hk,h1,rfl⟩
theorem AhO{n:Nat}{xs:List AJ}{node:Int}(hl:xs.length<=1048576)(hn:1048577<=n):
 ((∀k (_:k<xs.length),xs[k].Node≠node)∧Xj n xs node=some (-1))∨∃k,∃h:k<xs.length,xs[k].Node=node∧Xj n xs node=some (k:Int):=by
 rw [Xj]
 refine loop (L:=fun m i (_:Unit)=>Jh n xs node (fun _=>some (-1)) m i) xs.length
  (fun i _=>∀k (_:k<xs.length),k<i->xs[k].Node≠node)
  (fun o=>((∀k (_:k<xs.length),xs[k].Node≠node)∧o=some (-1))∨∃k,∃h:k<xs.length,xs[k].Node=node∧o=some (k:Int)) ?_ ?_ n 0 () (by omega) (by omega) (fun k _ h=>by omega)
 ·intro m i _ hi hs
  simp only [Jh.eq_2,Cm hi,cT,AR hi,Ag,jM,wT i]
  cases e:(xs[i].Node==node)with
  |true=>exact .inr (.inr ⟨i,hi,beq_iff_eq.1 e,rfl⟩)
  |false=>
   refine .inl ⟨(),fun k hk hki=>?_,rfl⟩
   by_cases c:k=i
   ·subst c;exact beq_eq_false_iff_ne.1 e
   ·exact hs k hk (by omega)
 ·intro m _ hs
  simp only [Jh.eq_2,DB,cF]
  exact .inl ⟨fun k hk=>hs k hk hk,trivial⟩
theorem fU{b:AM}{xs:List AJ}(h:∀i (h:i<xs.length),Rb b xs i xs[i]):∀(j i:Nat),i<j->j<xs.length->SN xs i<SN xs j
 |0,i,h0,_=>by omega
 |j+1,i,h0,h1=>by
  have u:=(h (j+1) h1).up
  have e:=Ls h1
  have es:j+1-1=j:=rfl
  rw [es]at u
  by_cases c:i=j
  ·subst c;omega
  ·have:=fU h j i (by omega) (by omega);omega
theorem uS{b:AM}{xs:List AJ}(h:∀i (h:i<xs.length),Rb b xs i xs[i]){i j:Nat}(hi:i<xs.length)(hj:j<xs.length)(e:xs[i].Node=xs[j].Node):i=j:=by
 rcases Nat.lt_trichotomy i j with c|c|c
 ·have:=fU h j i c hj;rw [Ls hi,Ls hj]at this;omega
 ·exact c
 ·have:=fU h i j c hi;rw [Ls hi,Ls hj]at this;omega
theorem NI{α:Type}{t:List α}{i:Int}(h0:0<=i)(h1:i<t.length):∃x,AE t i=some x:=by
 obtain⟨x,e,_⟩:=HG h0 h1;exact⟨x,e⟩
theorem LkL{n:Nat}{b:AM}(v:Bv b){g:BS}(hg:Nh n b g.view_)(hv:g.live_.length=(Fx b).length){c:Ak}{t:Ap}{x:BL}(ht:(t.Slew.length:Int)=CE b)(hx1:(x.Bound.length:Int)=CE b)(hx2:(x.Required.length:Int)=CE b){node:Int}(h0:0<=node∧node<CE b)(hn:1048577<=n):
 ∀(m m' i:Nat) (q:Bool) (a e l:Int),i<=(Fx b).length->(Fx b).length-i<m->(Fx b).length-i<m'->(q=true->a=node)->∃(q':Bool) (s':AJ),HW n b c (Fx b) g.live_ t x node (fun q103 i104 i111 i112 i113=>(some (q103,(AJ.mk i111 ((AO.mk i112 i113)))))) m q (i:Int) a e l=some (q',s')∧
  FZ n g c t x node (Mk (fun k=>gb g.live_ k&&(NE (Fx b) k==node)) (Fx b).length) (fun i144 i153 i154 i155 q157=>(cond (!q157) (some (false,(AJ.mk 0 ((AO.mk 0 0))))) (some (true,(AJ.mk i153 ((AO.mk i154 i155))))))) m' ((Mk (fun k=>gb g.live_ k&&(NE (Fx b) k==node)) i).length:Int) node e l q=some (q',cond q' s' (AJ.mk 0 ((AO.mk 0 0)))):=by
 have hlv:=hg.links
 have hL:=SB v
 have hll:=Oh v
 intro m
 induction m with
 |zero=>intro m' i q a e l _ h;omega
 |succ m ih=>
  intro m' i q a e l hi hm hm' hq
  obtain⟨p,rfl⟩:∃p,m'=p+1:=⟨m'-1,by omega⟩
  by_cases c1:i<(Fx b).length
  ·rw [HW.eq_2,Cm c1,cT,AR c1,Ag,Km (show i<g.live_.length by omega),Ag,wS (by omega)]
   have hT:=hL.to_ i c1
   cases d:(gb g.live_ i&&(NE (Fx b) i==node))with
   |false=>
    have e1:(!gb g.live_ i||((Fx b)[i].From !=node))=true:=by
     rw [Jc c1]at d
     cases e0:gb g.live_ i with
     |false=>rfl
     |true=>rw [e0,Bool.true_and]at d;simp only [bne,d];rfl
    have e2:(Mk (fun k=>gb g.live_ k&&(NE (Fx b) k==node)) (i+1)).length=(Mk (fun k=>gb g.live_ k&&(NE (Fx b) k==node)) i).length:=by rw [GZ,d];simp
    rw [e1,cT,Ag,cT]
    have:=ih (p+1) (i+1) q a e l (by omega) (by omega) (by omega) hq
    rw [e2]at this
    exact this
   |true=>
    obtain⟨s1,s2⟩:=wO (p:=fun k=>gb g.live_ k&&(NE (Fx b) k==node)) (i:=i) (N:=(Fx b).length) d c1
    have s3:=NZ (fun k=>gb g.live_ k&&(NE (Fx b) k==node)) i
    have e1:(!gb g.live_ i||((Fx b)[i].From !=node))=false:=by
     rw [Jc c1]at d
     have:=Bool.and_eq_true_iff.1 d
     rw [this.1];simp only [bne,this.2];rfl
    have e2:(Mk (fun k=>gb g.live_ k&&(NE (Fx b) k==node)) (i+1)).length=(Mk (fun k=>gb g.live_ k&&(NE (Fx b) k==node)) i).length+1:=by rw [GZ,d];simp
    obtain⟨B,eB⟩:=NI (t:=x.Bound) (i:=(Fx b)[i].To) hT.1 (by unfold CE at hx1;omega)
    rw [e1,cF,eB,Ag,Ag,FZ.eq_2,Cm s1,cT,s2,Ag,hlv,AR c1,Ag,eB,Ag,wS (by omega)]
    have go:=fun q a e l hq=>ih p (i+1) q a e l (by omega) (by omega) (by omega) hq
    rw [e2]at go
    cases B with
    |false=>exact go q a e l hq
    |true=>
     obtain⟨R,eR⟩:=NI (t:=x.Required) (i:=(Fx b)[i].To) hT.1 (by unfold CE at hx2;omega)
     obtain⟨S,eS⟩:=NI (t:=t.Slew) (i:=node) h0.1 (by omega)
     obtain⟨D,z,z',f1,f2⟩:=AjU (n:=n) (x:=(Fx b)[i]) (k:=(i:Int)) (c:=c) (s:=S) v hg (List.getElem_mem c1) (by rw [hlv,AR c1]) hn
     rw [Bool.not_true,cF,cT,eS,Ag,Ag,f1,f2,Ag,Ag,eR,Ag,Ag,Ag,Ag,Wy]
     cases q with
     |false=>exact go true node _ _ fun _=>rfl
     |true=>
      rw [cT,Bool.not_true,cF,Ag,Int.max_comm,Int.min_comm]
      exact go true node _ _ fun _=>rfl
  ·have ei:i=(Fx b).length:=by omega
   rw [ei,HW.eq_2,FZ.eq_2,DB,DB,cF,cF]
   refine⟨q,_,rfl,?_⟩
   cases q with
   |false=>rfl
   |true=>rw [hq rfl];rfl
theorem AjD{n:Nat}{b:AM}(v:Bv b){g:BS}(hg:Nh n b g.view_)(hv:g.live_.length=(Fx b).length){c:Ak}{t:Ap}{x:BL}{tg:List AJ}(hl:tg.length<=1048576)(hT:∀i (h:i<tg.length),Rb b tg i tg[i])(ht0:(t.Reached.length:Int)=CE b)(ht:(t.Slew.length:Int)=CE b)(hx1:(x.Bound.length:Int)=CE b)(hx2:(x.Required.length:Int)=CE b){node:Int}(h0:0<=node∧node<CE b)(hn:1048577<=n):
 ∃(q:Bool) (s:AJ),yW n b c (Fx b) g.live_ t tg x node=some (q,s)∧cE n g c t tg x node=some (q,cond q s (AJ.mk 0 ((AO.mk 0 0)))):=by
 have hll:=Oh v
 rw [yW,cE]
 obtain⟨r,er⟩:=NI (t:=t.Reached) (i:=node) h0.1 (by omega)
 rw [er,Ag,Ag]
 cases r with
 |false=>exact⟨false,_,rfl,rfl⟩
 |true=>
  have hfr:=AaT (n:=n) (g:=g) (u:=node) (by rw [hg.links];omega) (by rw [hg.links];exact hv) hn
  rw [hg.links]at hfr
  rw [Bool.not_true,cF,cF,hfr]
  have go:=fun q a e l hq=>LkL (c:=c) v hg hv ht hx1 hx2 h0 hn n n 0 q a e l (by omega) (by omega) (by omega) hq
  have s0:((Mk (fun k=>gb g.live_ k&&(NE (Fx b) k==node)) 0).length:Int)=0:=rfl
  rw [s0]at go
  rcases AhO (n:=n) (xs:=tg) (node:=node) hl hn with ⟨a1,a2⟩|⟨k,hk,a1,a2⟩
  ·rw [a2,Ag,show decide ((-1:Int)>=0)=false from rfl,cF,Ag]
   rcases yY (m:=n) (K:=fun q89 i90 i97 i98 i99=>(HW n b c (Fx b) g.live_ t x node (fun q103 i104 i111 i112 i113=>(some (q103,(AJ.mk i111 ((AO.mk i112 i113)))))) n q89 0 i97 i98 i99)) (xs:=tg) (node:=node) hl hn with ⟨_,b2⟩|⟨k,hk,b1,_⟩
   ·rw [b2];exact go false 0 0 0 fun h=>by cases h
   ·exact absurd b1 (a1 k hk)
  ·rw [a2,Ag,decide_eq_true (show(k:Int)>=0 by omega),cT,AR hk,Ag,Wy,Bool.not_false,cT,Ag,Ag]
   rcases yY (m:=n) (K:=fun q89 i90 i97 i98 i99=>(HW n b c (Fx b) g.live_ t x node (fun q103 i104 i111 i112 i113=>(some (q103,(AJ.mk i111 ((AO.mk i112 i113)))))) n q89 0 i97 i98 i99)) (xs:=tg) (node:=node) hl hn with ⟨b1,_⟩|⟨k',hk',b1,b2⟩
   ·exact absurd a1 (b1 k hk)
   ·obtain rfl:=uS hT hk hk' (a1.trans b1.symm)
    rw [b2,a1]
    exact go true node _ _ fun _=>rfl
theorem Ww{α:Type}(f:Nat->Bool):∀(xs:List α) (s k:Nat),k<xs.length->gb (ER (fun j (_:α)=>[f j]) s xs) k=f (s+k)
 |[],_,_,h=>absurd h (Nat.not_lt_zero _)
 |_::_,s,0,_=>rfl
 |_::xs,s,k+1,h=>by
  have:=Ww f xs (s+1) k (by simpa using h)
  rw [show s+(k+1)=s+1+k by omega,←this];rfl
theorem AfU{n:Nat}{b:AM}{w:BO}{br:List Int}(hw:w.links_=Fx b)(hl:(Fx b).length<=1048576)(hb:br.length<=1048576)(hr:nM ((Fx b).length:Int) br)(hn:1048577<=n):xA n w br=some ⟨w,lY b br⟩:=by
 obtain⟨lv,f0,l0,e0⟩:=AfZ (n:=n) (w:=w) (br:=br) (by rw [hw];omega) hb (by rw [hw];exact hr) hn
 rw [hw]at l0 e0
 have:lv=lY b br:=sY (l0.trans (Hd _ _ _).symm) fun j hj=>by
  rw [e0 j (by omega),Ww (fun k=>!(br.any fun y=>y==(k:Int))) (Fx b) 0 j (by omega),Nat.zero_add]
 rw [f0,this]
theorem AgO{n:Nat}{s:AO}:VB n s=some (Lg s):=by
 simp only [VB,Rh,Li,Ag,CT];rfl
theorem AjV{n:Nat}{s:AO}:Vo n s=some (Lg s):=by
 simp only [Vo,IR,Ag,CT];rfl
def zS:AO:=⟨0,0⟩
theorem Qm{α:Type}{l:List α}{x:Int}{v:α}(h:AE l x=some v):l.set x.toNat v=l:=by
 obtain⟨h0,h1,h2⟩:=EA h
 refine List.ext_getElem? fun j=>?_
 rw [List.getElem?_set]
 by_cases e:x.toNat=j
 ·subst e
  have hl:x.toNat<l.length:=(List.getElem?_eq_some_iff.1 h2).1
  rw [if_pos rfl,if_pos hl,h2]
 ·rw [if_neg e]
theorem Ov{α:Type}{l:List α}{x y:Int}{v u:α}(hx:0<=x)(hne:x≠y)(h:AE l y=some v):AE (l.set x.toNat u) y=some v:=by
 obtain⟨h0,h1,h2⟩:=EA h
 obtain⟨Y,rfl⟩:=Int.eq_ofNat_of_zero_le h0
 rw [DJ,List.getElem?_set,if_neg (by omega)]
 rw [Int.toNat_natCast]at h2;exact h2
theorem RqL{n:Nat}{b:AM}(v:Bv b){g:BS}(hg:Nh n b g.view_)(hv:g.live_.length=(Fx b).length){c:Ak}{t:Ap}{tg:List AJ}(hl:tg.length<=1048576)(hT:∀i (h:i<tg.length),Rb b tg i tg[i])(ht0:(t.Reached.length:Int)=CE b)(ht:(t.Slew.length:Int)=CE b)
 {od:List Int} (hod:∀x∈od,0<=x∧x<CE b) (hlen:od.length<=1000) (hnd:∀i (h:i<od.length),od[i] ∉ od.take i) (hn:1048577<=n):
 ∀(i m m':Nat) (l1:List Bool) (l2:List AO),i<=od.length->i<m->i<m'->(l1.length:Int)=CE b->(l2.length:Int)=CE b->(∀k (_:k<od.length),k<i->AE l1 od[k]=some false∧AE l2 od[k]=some zS)->
  (∃x:BL,(x.Bound.length:Int)=CE b∧(x.Required.length:Int)=CE b∧HJ n b c t tg (od,0) (Fx b) g.live_ (fun i723 l732 l734=>(some ((BL.mk l732 l734),0))) m ((i:Int)-1) l1 l2=some (x,0)∧HO n g c t tg od (fun i727 l741 l743=>(some ((BL.mk l741 l743),true))) m' ((i:Int)-1) l1 l2=some (x,true))∨
  (HJ n b c t tg (od,0) (Fx b) g.live_ (fun i723 l732 l734=>(some ((BL.mk l732 l734),0))) m ((i:Int)-1) l1 l2=some (⟨[],[]⟩,3)∧HO n g c t tg od (fun i727 l741 l743=>(some ((BL.mk l741 l743),true))) m' ((i:Int)-1) l1 l2=some (⟨[],[]⟩,false))
 |0,m,m',l1,l2,_,hm,hm',h1,h2,_=>by
  obtain⟨p,rfl⟩:∃p,m=p+1:=⟨m-1,by omega⟩
  obtain⟨p',rfl⟩:∃p,m'=p+1:=⟨m'-1,by omega⟩
  refine .inl ⟨⟨l1,l2⟩,h1,h2,?_,?_⟩
  ·rw [HJ.eq_2];rfl
  ·rw [HO.eq_2];rfl
 |i+1,m,m',l1,l2,hi,hm,hm',h1,h2,hd=>by
  obtain⟨p,rfl⟩:∃p,m=p+1:=⟨m-1,by omega⟩
  obtain⟨p',rfl⟩:∃p,m'=p+1:=⟨m'-1,by omega⟩
  have hio:i<od.length:=by omega
  have ei:(((i+1:Nat):Int)-1)=(i:Int):=by omega
  have hx:=hod _ (List.getElem_mem hio)
  have hw:wrap .i64 ((i:Int)-1)=(i:Int)-1:=AY (by omega) (by omega)
  obtain⟨d1,d2⟩:=hd i hio (by omega)
  obtain⟨q,s,a1,a2⟩:=AjD (c:=c) (t:=t) (x:=⟨l1,l2⟩) (tg:=tg) v hg hv hl hT ht0 ht h1 h2 hx hn
  have hne:∀k (hk:k<od.length),k<i->od[i]≠od[k]:=fun k hk hki e=>hnd i hio (e▸List.mem_take_iff_getElem.2 ⟨k,by omega,rfl⟩)
  rw [ei,HJ.eq_2,HO.eq_2,decide_eq_true (show(i:Int)>=0 by omega),cT,cT,AR hio,Ag,Ag,a1,a2,Ag,Ag,AgO,Ag,hw]
  cases q with
  |false=>
   have ez:Lg (AJ.mk 0 (AO.mk 0 0)).Required=true:=by decide
   rw [cF,Bool.not_false,cT,ez,Bool.not_true,cF,d1,Ag,d2,Ag]
   have e1:l1.set (od[i]).toNat false=l1:=Qm d1
   have e2:l2.set (od[i]).toNat (AJ.mk 0 (AO.mk 0 0)).Required=l2:=Qm d2
   rw [e1,e2]
   exact RqL v hg hv hl hT ht0 ht hod hlen hnd hn i p p' l1 l2 (by omega) (by omega) (by omega) h1 h2 fun k hk hki=>hd k hk (by omega)
  |true=>
   rw [cT,Bool.not_true,cF,AjV,Ag]
   cases Lg s.Required with
   |false=>exact .inr ⟨rfl,rfl⟩
   |true=>
    rw [Bool.not_true,cF,cF,d1,Ag,d2,Ag,Ag,Ag]
    exact RqL v hg hv hl hT ht0 ht hod hlen hnd hn i p p' _ _ (by omega) (by omega) (by omega) (by simpa using h1) (by simpa using h2) fun k hk hki=>
     ⟨Ov hx.1 (hne k hk hki) (hd k hk (by omega)).1,Ov hx.1 (hne k hk hki) (hd k hk (by omega)).2⟩
structure AeF(n:Nat)(b:AM)(c:Ak)(br:List Int)(t:Ap)(tg:List AJ)(w:BO)(od:List Int):Prop where
 blk:Bv b
 tim:wH b t
 tgs:∀i (h:i<tg.length),Rb b tg i tg[i]
 vw:Nh n b w
 odl:od.length<=2*(CY b.Design).length
 rng:∀x∈od,0<=x∧x<((2*(CY b.Design).length:Nat):Int)
 top:RU (Fx b) (lY b br) od
 full:2*(CY b.Design).length<=od.length
 code:PF n b c br t tg=some (od,0)
 graph:Oa n b c br t tg=some (some ⟨w,lY b br⟩,od,0)
structure AfX(n:Nat)(b:AM)(c:Ak)(br:List Int)(t:Ap)(tg:List AJ)(k:Int):Prop where
 bad:(k !=0)=true
 graph:Oa n b c br t tg=some (none,[],k)
 spec:PF n b c br t tg=some ([],k)
theorem NRr{n:Nat}{b:AM}{c:Ak}{br:List Int}{t:Ap}{tg:List AJ}(hb:bA b)(hc:c.Name.size<=1048576)(hbr:br.length<=1048576)(ht:t.Reached.length<=1048576)(htg:tg.length<=1048576)(hn:1048577<=n):
 (∃w od,AeF n b c br t tg w od)∨∃k,AfX n b c br t tg k:=by
 obtain⟨cb,e1,hc1⟩:=Bk1 hb hn
 obtain⟨cb2,e2,hc2⟩:=Bk2 hb hn
 obtain rfl:cb=cb2:=by rw [Bool.eq_iff_iff,hc1,hc2]
 cases cb with
 |false=>exact .inr ⟨1,rfl,by rw [Oa,e2];rfl,by rw [PF,e1];rfl⟩
 |true=>
  have v:=hc1.1 rfl
  have vd:=v.design
  have hl:=DF vd.short vd.few.1 vd.few.2.2
  have hL:=Oh v
  have wc:CE b=((2*(CY b.Design).length:Nat):Int):=by unfold CE;omega
  obtain⟨w0,ew,hw0⟩:=Vw4 (n:=n) v hn
  have hw:Nh n b ⟨b,w0.places_,w0.links_,w0.loads_,w0.delays_,w0.extras_⟩:=⟨rfl,hw0.places,hw0.links,hw0.extras,hw0.data⟩
  have hwl:(⟨b,w0.places_,w0.links_,w0.loads_,w0.delays_,w0.extras_⟩:BO).links_=Fx b:=hw.links
  obtain⟨co,c1,c2⟩:=AgV (n:=n) hc hn
  obtain⟨p,f1,hp⟩:=Tm1 (b:=b) ht hn
  obtain⟨p2,f2,hp2⟩:=Tm2 (r:=⟨b,w0.places_,w0.links_,w0.loads_,w0.delays_,w0.extras_⟩) v hw.places ht hn
  obtain rfl:p=p2:=by rw [Bool.eq_iff_iff,hp,hp2]
  obtain⟨r,r1,hr⟩:=Rs1 (n:=n) (br:=br) (N:=((Fx b).length:Int)) hbr (by omega) hn
  obtain⟨r',r2,hr2⟩:=Rs2 (n:=n) (br:=br) (v:=⟨b,w0.places_,w0.links_,w0.loads_,w0.delays_,w0.extras_⟩) hbr (by rw [hwl];omega) hn
  rw [hwl]at hr2
  obtain rfl:r=r':=by rw [Bool.eq_iff_iff,hr,hr2]
  obtain⟨u,u1,hu⟩:=Tg1 (xs:=tg) v htg hn
  obtain⟨u',u2,hu2⟩:=Tg2 (r:=⟨b,w0.places_,w0.links_,w0.loads_,w0.delays_,w0.extras_⟩) v hw.places htg hn
  obtain rfl:u=u':=by rw [Bool.eq_iff_iff,hu,hu2]
  cases co with
  |false=>exact .inr ⟨1,rfl,by rw [Oa];simp only [e2,Bool.or_false,Bool.not_true,cF,c2,Ag,Bool.not_false,cT],by rw [PF];simp only [e1,Bool.not_true,cF,c1,Ag,Bool.not_false,cT]⟩
  |true=>
   cases p with
   |false=>exact .inr ⟨1,rfl,by rw [Oa];simp only [e2,Bool.or_false,Bool.not_true,cF,c2,Ag,ew,f2,Bool.not_false,cT],by rw [PF];simp only [e1,Bool.not_true,cF,c1,Ag,dV v hn,f1,Bool.not_false,cT]⟩
   |true=>
    have i1:PF n b c br t tg=(Option.bind (Uk n b br) fun r71=>(Option.bind (cond (r71 !=0) (some true) (Option.bind (YO n b tg) fun r77=>(some (!r77)))) fun c77=>(cond c77 (some (([]:List Int),2)) (Option.bind (bR n b br) fun r102=>(some (r102.1,r102.2)))))):=by
     rw [PF];simp only [e1,Bool.not_true,cF,c1,Ag,dV v hn,f1]
    have i2:Uk n b br=some (cond r 0 2):=by
     rw [Uk];simp only [e1,Bool.not_true,cF,Ag,qQ v hn,r1];cases r<;>rfl
    cases r with
    |false=>exact .inr ⟨2,rfl,by rw [Oa];simp only [e2,Bool.or_false,Bool.not_true,cF,c2,Ag,ew,f2,r2,Bool.not_false,cT],by rw [i1,i2];rfl⟩
    |true=>
     cases u with
     |false=>exact .inr ⟨2,rfl,by rw [Oa];simp only [e2,Bool.or_false,Bool.not_true,cF,c2,Ag,ew,f2,r2,u2,Bool.not_false,cT],by rw [i1,i2];simp only [cT,Ag,bne_self_eq_false,cF,u1,Bool.not_false]⟩
     |true=>
      have i4:=AfU (n:=n) (w:=⟨b,w0.places_,w0.links_,w0.loads_,w0.delays_,w0.extras_⟩) hwl (by omega) hbr (hr.1 rfl) hn
      have i5:=jJ (n:=n) (r:=⟨b,w0.places_,w0.links_,w0.loads_,w0.delays_,w0.extras_⟩) v hw.places
      obtain⟨od,o1,o2,o3⟩:=AiJ (n:=n) (g:=⟨⟨b,w0.places_,w0.links_,w0.loads_,w0.delays_,w0.extras_⟩,lY b br⟩) (N:=2*(CY b.Design).length) (by rw [hwl];exact SB v) (by rw [hwl];exact Hd _ _ _) (by rw [hwl];omega) (by omega) (by rw [←wc];exact i5) hn
      rw [hwl,←wc]at o1
      have j1:PF n b c br t tg=some (cond od.2 (od.1,0) ([],7)):=by
       rw [i1,i2];simp only [cT,Ag,bne_self_eq_false,cF,u1,Bool.not_true,bR,i2,qQ v hn,dV v hn,Lv1 (n:=n) (L:=Fx b) (br:=br) (by omega) hbr hn,o1]
       cases od.2<;>rfl
      have j2:Oa n b c br t tg=cond (!od.2) (some (none,([]:List Int),7)) (some (some ⟨⟨b,w0.places_,w0.links_,w0.loads_,w0.delays_,w0.extras_⟩,lY b br⟩,od.1,0)):=by
       rw [Oa];simp only [e2,Bool.or_false,Bool.not_true,cF,c2,Ag,ew,f2,r2,u2,i4,o2]
      cases z:od.2 with
      |false=>rw [z]at j1 j2;exact .inr ⟨7,rfl,j2,j1⟩
      |true=>
       rw [z]at j1 j2
       have o1':=o1
       rw [wc]at o1'
       obtain⟨r3,s1,s2⟩:=AlS (n:=n) (lv:=lY b br) (SB v) (Hd _ _ _) (by omega) (by omega) hn
       obtain⟨r4,s3,s4⟩:=AdM (n:=n) (lv:=lY b br) (SB v) (Hd _ _ _) (by omega) (by omega) hn
       obtain rfl:od=r3:=Option.some.inj (o1'.symm.trans s1)
       obtain rfl:od=r4:=Option.some.inj (o1'.symm.trans s3)
       exact .inl ⟨_,od.1,v,hp.1 rfl,hu.1 rfl,hw,o3,s2.2,(s4 z).1,(s4 z).2,j1,j2⟩
theorem PrE{n:Nat}{b:AM}{c:Ak}{br:List Int}{t:Ap}{tg:List AJ}(hb:bA b)(hc:c.Name.size<=1048576)(hbr:br.length<=1048576)(ht:t.Reached.length<=1048576)(htg:tg.length<=1048576)(hn:1048577<=n):
 ∃(x:BL) (k:Int),(x.Bound.length<=1048576∧x.Required.length<=1048576)∧bW n b c br t tg=some (x,k)∧XO n b c br t tg=some (x,k):=by
 rw [bW,XO]
 rcases NRr (c:=c) (t:=t) (tg:=tg) hb hc hbr ht htg hn with ⟨w,od,h⟩|⟨k,h⟩
 ·have v:=h.blk
  have vd:=v.design
  have hl:=DF vd.short vd.few.1 vd.few.2.2
  have hL:=Oh v
  have wc:CE b=((2*(CY b.Design).length:Nat):Int):=by unfold CE;omega
  have hw:Nh n b ⟨b,w.places_,w.links_,w.loads_,w.delays_,w.extras_⟩:=⟨rfl,h.vw.places,h.vw.links,h.vw.extras,h.vw.data⟩
  have i5:=jJ (n:=n) (r:=⟨b,w.places_,w.links_,w.loads_,w.delays_,w.extras_⟩) v hw.places
  have hodl:=h.odl
  have z1:∀x:Int,0<=x∧x<CE b->AE (List.replicate (2*(CY b.Design).length) false) x=some false∧AE (List.replicate (2*(CY b.Design).length) (AO.mk 0 0)) x=some zS:=fun x hx=>by
   obtain⟨N,rfl⟩:=Int.eq_ofNat_of_zero_le hx.1
   have hN:N<2*(CY b.Design).length:=by omega
   rw [DJ,DJ]
   constructor
   ·simp [hN]
   ·simp [hN,zS]
  have hrng:∀x∈od,0<=x∧x<CE b:=fun x hx=>by rw [wc];exact h.rng x hx
  have wl:wrap .i64 ((od.length:Int)-1)=(od.length:Int)-1:=AY (by omega) (by omega)
  have key:=RqL (g:=⟨⟨b,w.places_,w.links_,w.loads_,w.delays_,w.extras_⟩,lY b br⟩) (c:=c) (t:=t) (tg:=tg) (od:=od) v hw (Hd _ _ _) htg h.tgs h.tim.reached h.tim.slew hrng (by omega) h.top.nodup hn od.length n n (List.replicate (2*(CY b.Design).length) false) (List.replicate (2*(CY b.Design).length) (AO.mk 0 0)) (Nat.le_refl _) (by omega) (by omega) (by rw [wc];simp) (by rw [wc];simp) (fun k hk _=>z1 _ (hrng _ (List.getElem_mem hk)))
  simp only [h.code,h.graph,Ag,bne_self_eq_false,cF,UJ,qQ v hn,Lv1 (n:=n) (L:=Fx b) (br:=br) (by omega) hbr hn,dV v hn,kU,i5]
  rw [wc,Cf (by omega) (by omega),Ag,Cf (by omega) (by omega),Ag,Ag,Ag,wl]
  rcases key with ⟨x,x1,x2,k1,k2⟩|⟨k1,k2⟩
  ·refine⟨x,0,⟨by rw [wc]at x1;omega,by rw [wc]at x2;omega⟩,k1,?_⟩
   rw [k2];rfl
  ·refine⟨⟨[],[]⟩,3,⟨by simp,by simp⟩,k1,?_⟩
   rw [k2];rfl
 ·refine⟨⟨[],[]⟩,k,⟨by simp,by simp⟩,?_,?_⟩
  ·rw [h.spec,Ag,h.bad,cT]
  ·rw [h.graph,Ag]
   simp only [UJ,h.bad,cT]
theorem Pt{a:AM}{c:Ak}{br:List Int}{t:Ap}{tg:List AJ}(hR:Oj a)(hC:Pq c)(hB:br.length<=9223372036854775807∧∀x∈br,Ku .i64 x)(hL:Ou t)(hG:(fun xs=>xs.length<=9223372036854775807∧∀x∈xs,NL x) tg):∃n,jH n a c br t tg=some true:=by
 obtain⟨n,hn⟩:∃n,1048577<=n:=⟨_,Nat.le_refl _⟩
 refine⟨n,?_⟩
 rw [jH]
 by_cases hbl:(br.length:Int)>1048576
 ·rw [decide_eq_true hbl];rfl
 rw [decide_eq_false hbl,cF]
 obtain⟨r,e,hr,hs⟩:=lW (n:=n) (left:=1048576) hR (by omega) (by omega) hn
 rw [e,Ag]
 by_cases h0:r<0
 ·rw [decide_eq_true h0];rfl
 have hS:=hs (by omega)
 obtain⟨r1,e1,hr1,hs1⟩:=bF (n:=n) (left:=r) hC (by omega) (by omega) hn
 rw [decide_eq_false h0,cF,e1,Ag]
 by_cases h1:r1<0
 ·rw [decide_eq_true h1];rfl
 have hCo:=hs1 (by omega)
 obtain⟨r2,e2,hr2,hs2⟩:=Zy (n:=n) (left:=r1) hL (by omega) (by omega) hn
 rw [decide_eq_false h1,cF,e2,Ag]
 by_cases h2:r2<0
 ·rw [decide_eq_true h2];rfl
 have hT:=hs2 (by omega)
 obtain⟨r3,e3,hr3,hs3⟩:=Xy (n:=n) (left:=r2) hG (by omega) (by omega) hn
 rw [decide_eq_false h2,cF,e3,Ag]
 by_cases h3:r3<0
 ·rw [decide_eq_true h3];rfl
 have hTg:=hs3 (by omega)
 have hI:(fun xs=>xs.length<=1048576∧∀x∈xs,(fun _=>True) x) br:=⟨by omega,fun _ _=>trivial⟩
 obtain⟨x,cd,hx,g1,g2⟩:=PrE (n:=n) (c:=c) (br:=br) (t:=t) (tg:=tg) (IU.b hS) hCo.1 (by omega) hT.1.1 hTg.1 hn
 have hX:PI x:=⟨⟨hx.1,fun _ _=>trivial⟩,hx.2,fun _ _=>⟨trivial,trivial⟩⟩
 obtain⟨_,k1,m1,u1,v1⟩:=Yg (n:=n) (left:=1048576) (k:=1) hR (by omega) (by omega) hn e (by omega) (by omega) (by omega)
 obtain⟨q2,m2,u2,v2⟩:=cB (n:=n) (a:=br) (k:=k1) (by omega) (by omega) (by omega) hn
 obtain⟨q3,m3,u3,v3⟩:=bN (n:=n) (k:=q2.1) hT (by omega) (by omega) hn
 obtain⟨q4,m4,u4,v4⟩:=Xf (n:=n) (a:=tg) (k:=q3.1) hTg.1 (by omega) (by omega) hn
 obtain⟨q5,m5,u5,v5,z5⟩:=mJ (n:=n) (a:=x) (k:=1) hX (by omega) (by omega) hn
 simp only [decide_eq_false h3,cF,mW hS hn,ZR hCo hn,Zg hT hn,XI hTg hn,FA hI hn,Ag,g1,g2,bne_self_eq_false,Bool.or_self,Bool.or_false,lS hS hn,fQ hT hn,kX hX hn,Xd hTg hn,FE hI hn,Bool.not_true,m1,m2,m3,m4,decide_eq_false (show¬q4.1<0 by omega),m5,z5,decide_eq_false (show¬q5.1<0 by omega)]

end Go.Proofs.YtaijnchdfgojiabGreatDoor
