/- The plain law behind FnExactNodeNeeds: the plain function answers true; no condition. -/
import Derived.Test.YtaijnchdfgojiaaGreatDoorLawFnExactNodeNeedsA
set_option linter.all false
set_option maxHeartbeats 4000000
namespace Go.Proofs.YtaijnchdfgojiaaGreatDoor
open Go Go.RowKit Go.Eng
open Go.IntKind (wrap)
def fQ(o k:Nat)(a:Ap):List AS:=(Sw a).map fun t=>⟨2*((o:Int)+a.From)+t.1,2*((o:Int)+a.To)+t.2,1,(k:Int)⟩
def Qp(b:AO)(i:Nat)(x:AV):List AS:=EF (fQ (ET b.Design i)) 0 (IX b x)
def bC(r:Int)(j:Nat)(s:Int):List AS:=[⟨2*r,2*s,2,(j:Int)⟩,⟨2*r+1,2*s+1,2,(j:Int)⟩]
def kW(d:AQ)(q:Nat):List AS:=EF (bC (Fh d q:Int)) 0 (Ez d (q:Int))
def Ff(b:AO):List AS:=EF (Qp b) 0 b.Design.Instances++EF (fun q (_:ByteArray)=>kW b.Design q) 0 b.Design.Nets
theorem Up(a:Ap):(Sw a).length<=4:=Nat.le_trans (List.length_filter_le _ _) (by simp)
theorem QQ(o k:Nat)(a:Ap):(fQ o k a).length<=4:=by unfold fQ;rw [List.length_map];exact Up a
theorem Ko{b:AO}(v:Bs b)(i:Nat){x:AV}(hx:x∈b.Design.Instances):(Qp b i x).length<=32:=by
 obtain⟨j,hj,rfl⟩:=List.getElem_of_mem hx
 obtain⟨k,hk,_,gc,_,vc⟩:=v.design.inst_at hj
 have:=Do (c:=4) (g:=fQ (ET b.Design i)) (IX b b.Design.Instances[j]) 0 fun j a _=>QQ _ _ a
 have few:=vc.few
 unfold Qp
 unfold IX at this ⊢
 rw [gc]at this ⊢
 simp only at this ⊢
 omega
theorem QS{l:Ad}{d:AQ}(v:Cj l d)(q:Nat):(kW d q).length<=156:=by
 have h1:=Do (c:=2) (g:=bC (Fh d q:Int)) (Ez d (q:Int)) 0 fun j s _=>by simp [bC]
 have h2:=FQ (d:=d) (q:=(q:Int))
 have hl:=Cp v.short v.few.1 v.few.2.2
 have h3:snk d (q:Int)<=78:=Nat.le_trans List.countP_le_length hl
 unfold kW;omega
theorem Nc{b:AO}(v:Bs b):(Ff b).length<=5128:=by
 have h1:=Do (c:=32) (g:=Qp b) b.Design.Instances 0 fun j x hx=>Ko v j hx
 have h2:=Do (c:=156) (g:=fun q (_:ByteArray)=>kW b.Design q) b.Design.Nets 0 fun j x _=>QS v.design j
 have:=v.design.few
 unfold Ff;rw [List.length_append];omega
theorem lE{n:Nat}{l:List AS}{f t a b kd k:Int}(hl:l.length<=10000000)(hf:0<=f∧f<=100000)(ht:0<=t∧t<=100000)(ha:0<=a∧a<=1)(hb:0<=b∧b<=1):Ps n l f t a b kd k=some (l++[⟨2*f+a,2*t+b,kd,k⟩]):=by
 rw [Ps,Ac (x:=2*f) (by omega) (by omega),Ac (x:=2*t) (by omega) (by omega),Ac (by omega) (by omega),Ac (by omega) (by omega),CC (by simp;omega) (by omega),Ai]
theorem kJ{n:Nat}{a:Ap}{f t k i:Int}{k2:List AS->Int->Option (List AS)}(hf:0<=f∧f<=100000)(ht:0<=t∧t<=100000)(hi:0<=i∧i<=1){l:List AS}(hl:l.length<=9000000)(m:Nat):
 Ex n a f t k i k2 (m+3) l 0=k2 (l++([(i,0),(i,1)].filter (Pv a)).map fun p=>⟨2*f+p.1,2*t+p.2,1,k⟩) 2:=by
 have w1:wrap .i64 ((0:Int)+1)=1:=by decide
 have w2:wrap .i64 ((1:Int)+1)=2:=by decide
 have step:∀(m:Nat) (l:List AS) (j:Int),l.length<=9500000->0<=j->j<=1->Ex n a f t k i k2 (m+1) l j=Ex n a f t k i k2 m (l++([(i,j)].filter (Pv a)).map fun p=>⟨2*f+p.1,2*t+p.2,1,k⟩) (wrap .i64 (j+1)):=by
  intro m l j hl2 h0 h1
  have hp:=lE (n:=n) (l:=l) (f:=f) (t:=t) (a:=i) (b:=j) (kd:=1) (k:=k) (by omega) hf ht hi ⟨h0,h1⟩
  have dj:decide (j<=1)=true:=decide_eq_true h1
  simp only [Ex.eq_2,dj,cT,hp,Ai,List.filter_cons,List.filter_nil,Pv]
  by_cases k1:a.Kind=1
  ·have e1:(a.Kind==1)=true:=by rw [beq_iff_eq];exact k1
   simp only [e1,cT]
   by_cases c:((a.Sense==3)||((a.Sense==1)==(i==j)))=true
   ·rw [c];simp
   ·have c:((a.Sense==3)||((a.Sense==1)==(i==j)))=false:=by simpa using c
    rw [c];simp
  ·have e1:(a.Kind==1)=false:=by rw [beq_eq_false_iff_ne];exact k1
   simp only [e1,cF]
   by_cases k2:a.Kind=2
   ·have e2:(a.Kind==2)=true:=by rw [beq_iff_eq];exact k2
    simp only [e2,cT]
    by_cases c:i=0
    ·subst c;simp
    ·have c:(i==0)=false:=by rw [beq_eq_false_iff_ne];exact c
     rw [c];simp
   ·have e2:(a.Kind==2)=false:=by rw [beq_eq_false_iff_ne];exact k2
    simp only [e2,cF]
    by_cases k3:a.Kind=3
    ·have e3:(a.Kind==3)=true:=by rw [beq_iff_eq];exact k3
     simp only [e3,cT]
     by_cases c:i=1
     ·subst c;simp
     ·have c:(i==1)=false:=by rw [beq_eq_false_iff_ne];exact c
      rw [c];simp
    ·have e3:(a.Kind==3)=false:=by rw [beq_eq_false_iff_ne];exact k3
     simp only [e3,cF];simp
 have hl3:∀j:Int,(([(i,j)].filter (Pv a)).map fun p:Int×Int=>(⟨2*f+p.1,2*t+p.2,1,k⟩:AS)).length<=1:=fun j=>by rw [List.length_map];exact Nat.le_trans (List.length_filter_le _ _) (by simp)
 rw [step (m+2) l 0 (by omega) (by omega) (by omega),w1,step (m+1) _ 1 (by have:=hl3 0;rw [List.length_append];omega) (by omega) (by omega),w2,Ex.eq_2]
 have d2:decide ((2:Int)<=1)=false:=by decide
 rw [d2,cF,List.append_assoc,←List.map_append,←List.filter_append]
 rfl
theorem AgO{n:Nat}{a:Ap}{f t k:Int}(hf:0<=f∧f<=100000)(ht:0<=t∧t<=100000){l:List AS}(hl:l.length<=8000000)(hn:1048577<=n):
 tX n l a f t k=some (l++(Sw a).map fun p=>⟨2*f+p.1,2*t+p.2,1,k⟩):=by
 obtain⟨m,rfl⟩:∃m,n=m+3:=⟨n-3,by omega⟩
 have w1:wrap .i64 ((0:Int)+1)=1:=by decide
 have w2:wrap .i64 ((1:Int)+1)=2:=by decide
 have d0:decide ((0:Int)<=1)=true:=by decide
 have d1:decide ((1:Int)<=1)=true:=by decide
 have d2:decide ((2:Int)<=1)=false:=by decide
 have hl3:(([((0:Int),(0:Int)),(0,1)].filter (Pv a)).map fun p:Int×Int=>(⟨2*f+p.1,2*t+p.2,1,k⟩:AS)).length<=2:=by rw [List.length_map];exact Nat.le_trans (List.length_filter_le _ _) (by simp)
 rw [tX,Lt.eq_2,d0,cT,kJ hf ht (by omega) (by omega),w1,Lt.eq_2,d1,cT,kJ hf ht (by omega) (by rw [List.length_append];omega),w2,Lt.eq_2,d2,cF,List.append_assoc,←List.map_append,←List.filter_append]
 rfl
theorem QG{c:Af}(vc:Oa c){j:Nat}(hj:j<c.Arcs.length):(0<=c.Arcs[j].From∧c.Arcs[j].From<c.Pins.length)∧(0<=c.Arcs[j].To∧c.Arcs[j].To<c.Pins.length)∧(c.Arcs[j].Kind=1∧(1<=c.Arcs[j].Sense∧c.Arcs[j].Sense<=3)∨c.Arcs[j].Kind=2∨c.Arcs[j].Kind=3∨c.Arcs[j].Kind=4∨c.Arcs[j].Kind=5):=by
 have ar:=(vc.arcs j hj).1
 unfold Mh at ar
 refine⟨by omega,by omega,?_⟩
 obtain⟨_,ar⟩:=ar
 by_cases k1:c.Arcs[j].Kind=1
 ·rw [if_pos k1]at ar;exact .inl ⟨k1,ar.2.2.1⟩
 ·rw [if_neg k1]at ar
  by_cases k2:c.Arcs[j].Kind=2∨c.Arcs[j].Kind=3
  ·rcases k2 with k|k
   ·exact .inr (.inl k)
   ·exact .inr (.inr (.inl k))
  ·rw [if_neg k2]at ar
   by_cases k4:c.Arcs[j].Kind=4∨c.Arcs[j].Kind=5
   ·rcases k4 with k|k
    ·exact .inr (.inr (.inr (.inl k)))
    ·exact .inr (.inr (.inr (.inr k)))
   ·rw [if_neg k4]at ar;exact ar.elim
theorem Rn{a:Ap}(h:3<a.Kind):Sw a=[]:=by
 have e1:(a.Kind==1)=false:=by rw [beq_eq_false_iff_ne];omega
 have e2:(a.Kind==2)=false:=by rw [beq_eq_false_iff_ne];omega
 have e3:(a.Kind==3)=false:=by rw [beq_eq_false_iff_ne];omega
 simp [Sw,Pv,e1,e2,e3]
theorem nI{n:Nat}{b:AO}(v:Bs b)(hn:1048577<=n):rV n b=some (Ff b):=by
 have vd:=v.design
 have few:=vd.few
 have hl:=Cp vd.short vd.few.1 vd.few.2.2
 have hI:=Do (c:=32) (g:=Qp b) b.Design.Instances 0 fun j x hx=>Ko v j hx
 rw [rV]
 rw [Cr (xs:=b.Design.Instances) (L:=fun m s i=>Ja n b (fun l44 i48=>(Gu n b (fun l55 i59=>(some l55)) n l44 0)) m s i) (k:=fun s=>Gu n b (fun l55 i59=>some l55) n s 0) (Qp b) 32 0 (fun j x hx=>Ko v j hx) (by omega) (by
  intro m i hi s hs
  obtain⟨k,hk,_,gc,hnl,vc⟩:=v.design.inst_at hi
  have fa:=vc.few
  have fp:=vc.pins.few
  have hoff:=(Gf (d:=b.Design) (q:=0) hi (by have:=(vd.inst _ (List.getElem_mem hi)).long vd.lib;omega)).lt
  simp only [Ja.eq_2,DP hi,cT,AU hi,gc,Ai,wT i]
  have ea:IX b b.Design.Instances[i]=b.Library.Cells[k].Arcs:=by unfold IX;rw [gc]
  rw [Qp,ea]
  refine Cr (xs:=b.Library.Cells[k].Arcs) (L:=fun m s j=>Jb n b (i:Int) b.Library.Cells[k] _ m s j) (k:=fun s=>Ja n b (fun l44 i48=>(Gu n b (fun l55 i59=>(some l55)) n l44 0)) m s ((i+1:Nat):Int)) (fQ (ET b.Design i)) 4 s.length (fun j a _=>QQ _ _ a) (by omega) ?_ ?_ n (by omega) s (by omega)
  ·intro m j hj s2 hs2
   obtain⟨⟨f0,f1⟩,⟨t0,t1⟩,kd⟩:=QG vc hj
   simp only [Jb.eq_2,DP hj,cT,AU hj,Ai,wT j]
   by_cases c:b.Library.Cells[k].Arcs[j].Kind<=3
   ·rw [decide_eq_true c,cT]
    obtain⟨F,eF⟩:=Int.eq_ofNat_of_zero_le f0
    have eF:b.Library.Cells[k].Arcs[j].From=(F:Int):=eF
    obtain⟨T,eT⟩:=Int.eq_ofNat_of_zero_le t0
    have eT:b.Library.Cells[k].Arcs[j].To=(T:Int):=eT
    have p1:=tA (n:=n) vd (q:=F) hi (by omega) hn
    have p2:=tA (n:=n) vd (q:=T) hi (by omega) hn
    rw [eF,eT,p1,Ai,p2,Ai,AgO (by omega) (by omega) (by omega) hn,Ai]
    congr 2
    unfold fQ
    rw [eF,eT]
    simp
   ·rw [decide_eq_false c,cF]
    unfold fQ
    rw [Rn (by omega),List.map_nil,List.append_nil]
  ·intro m s
   simp only [Jb.eq_2,Dc,cF]) (by
  intro m s
  simp only [Ja.eq_2,Dc,cF]) n (by omega) [] (by simp)]
 rw [List.nil_append]
 rw [Cr (xs:=b.Design.Nets) (L:=fun m s i=>Gu n b (fun l55 i59=>(some l55)) m s i) (k:=fun s=>some s) (fun q _=>kW b.Design q) 156 (EF (Qp b) 0 b.Design.Instances).length (fun j x _=>QS vd j) (by omega) (by
  intro m i hi s hs
  have hd:=(Lz vd hi).lt
  have hsl:(Ez b.Design (i:Int)).length<=78:=by
   rw [FQ];exact Nat.le_trans List.countP_le_length hl
  simp only [Gu.eq_2,DP hi,cT,zX vd hi hn,fM vd (i:Int) hn,Ai,wT i]
  refine Cr (xs:=Ez b.Design (i:Int)) (L:=fun m s j=>LX n (Fh b.Design i:Int) (Ez b.Design (i:Int)) _ m s j) (k:=fun s=>Gu n b (fun l55 i59=>(some l55)) m s ((i+1:Nat):Int)) (bC (Fh b.Design i:Int)) 2 s.length (fun j a _=>by simp [bC]) (by omega) ?_ ?_ n (by omega) s (by omega)
  ·intro m j hj s2 hs2
   have hq:=KQ _ (List.getElem_mem hj)
   simp only [LX.eq_2,DP hj,cT,AU hj,Ai,wT j]
   rw [lE (by omega) (by omega) (by omega) (by omega) (by omega),Ai,lE (by simp;omega) (by omega) (by omega) (by omega) (by omega),Ai]
   rw [List.append_assoc]
   congr 2
   simp [bC]
  ·intro m s
   simp only [LX.eq_2,Dc,cF]) (by
  intro m s
  simp only [Gu.eq_2,Dc,cF]) n (by omega) _ (Nat.le_refl _)]
 rfl
theorem Jr{α β:Type}(h:Nat->α->β):∀(xs:List α) (s:Nat),(EF (fun j q=>[h j q]) s xs).length=xs.length
 |[],_=>rfl
 |x::xs,s=>by simp [EF,Jr h xs (s+1)]
theorem QB{α β:Type}(h:α->β):∀(xs:List α) (s:Nat),EF (fun _ q=>[h q]) s xs=xs.map h
 |[],_=>rfl
 |x::xs,s=>by simp [EF,QB h xs (s+1)]
theorem Tt(i:Nat)(x:AV):(Mi i x).length=x.Nets.length:=Jr (fun j q=>An.mk i j q ((j:Int)==(x.Nets.length:Int)-1)) x.Nets 0
theorem Vj{d:AQ}{i:Nat}(hi:i<d.Instances.length):ET d (i+1)=ET d i+d.Instances[i].Nets.length:=by
 unfold ET;rw [Hu hi,List.length_append,Tt]
theorem VF{a:Ap}:∀p∈Sw a,(0<=p.1∧p.1<=1)∧0<=p.2∧p.2<=1:=fun p hp=>by
 have:=(List.mem_filter.1 hp).1
 simp only [List.mem_cons,List.not_mem_nil,or_false]at this
 rcases this with rfl|rfl|rfl|rfl<;>simp
theorem Trn{n:Nat}{a:Ap}(h:a.Kind=1∧(1<=a.Sense∧a.Sense<=3)∨a.Kind=2∨a.Kind=3∨a.Kind=4∨a.Kind=5):dY n a=some ((Sw a).map fun p=>(⟨p.1,p.2⟩:Bu)):=by
 unfold dY
 rcases h with ⟨k,s⟩|k|k|k|k
 ·rcases(by omega:a.Sense=1∨a.Sense=2∨a.Sense=3)with s|s|s<;>simp [Sw,Pv,k,s]
 all_goals simp [Sw,Pv,k]
theorem AeE{n:Nat}{b:AO}(v:Bs b){i:Nat}(hi:i<b.Design.Instances.length)(hn:1048577<=n):uJ n b b.Design.Instances[i] (ET b.Design i:Int)=some (Qp b i b.Design.Instances[i]):=by
 have vd:=v.design
 have hl:=Cp vd.short vd.few.1 vd.few.2.2
 obtain⟨k,hk,_,gc,hnl,vc⟩:=v.design.inst_at hi
 have fa:=vc.few
 have fp:=vc.pins.few
 have hoff:=(Gf (d:=b.Design) (q:=0) hi (by have:=(vd.inst _ (List.getElem_mem hi)).long vd.lib;omega)).lt
 have ea:IX b b.Design.Instances[i]=b.Library.Cells[k].Arcs:=by unfold IX;rw [gc]
 rw [uJ,gc,Ai,Qp,ea]
 rw [Cr (xs:=b.Library.Cells[k].Arcs) (L:=fun m s j=>JV n (ET b.Design i:Int) b.Library.Cells[k] (fun l47 i51=>(some l47)) m s j) (k:=fun s=>some s) (fQ (ET b.Design i)) 4 0 (fun j a _=>QQ _ _ a) (by omega) (by
  intro m j hj s hs
  obtain⟨⟨f0,f1⟩,⟨t0,t1⟩,kd⟩:=QG vc hj
  simp only [JV.eq_2,DP hj,cT,AU hj,Ai,Trn kd,wT j]
  have e:fQ (ET b.Design i) j b.Library.Cells[k].Arcs[j]=EF (fun _ (t:Bu)=>[(⟨2*((ET b.Design i:Int)+b.Library.Cells[k].Arcs[j].From)+t.e0,2*((ET b.Design i:Int)+b.Library.Cells[k].Arcs[j].To)+t.e1,1,(j:Int)⟩:AS)]) 0 ((Sw b.Library.Cells[k].Arcs[j]).map fun p=>(⟨p.1,p.2⟩:Bu)):=by
   rw [QB,List.map_map];rfl
  rw [e]
  have tl:=Up b.Library.Cells[k].Arcs[j]
  refine Cr (xs:=(Sw b.Library.Cells[k].Arcs[j]).map fun p=>(⟨p.1,p.2⟩:Bu)) (L:=fun m s q=>LU (ET b.Design i:Int) (j:Int) b.Library.Cells[k].Arcs[j] ((Sw b.Library.Cells[k].Arcs[j]).map fun p=>(⟨p.1,p.2⟩:Bu)) _ m s q) (k:=fun s=>JV n (ET b.Design i:Int) b.Library.Cells[k] (fun l47 i51=>(some l47)) m s ((j+1:Nat):Int)) _ 1 s.length (fun _ _ _=>by simp) (by rw [List.length_map];omega) ?_ ?_ n (by rw [List.length_map];omega) s (by omega)
  ·intro m q hq s2 hs2
   have hq2:q<(Sw b.Library.Cells[k].Arcs[j]).length:=by simpa using hq
   have r:=VF _ (List.getElem_mem hq2)
   have e2:((Sw b.Library.Cells[k].Arcs[j]).map fun p=>(⟨p.1,p.2⟩:Bu))[q]=⟨(Sw b.Library.Cells[k].Arcs[j])[q].1,(Sw b.Library.Cells[k].Arcs[j])[q].2⟩:=by simp
   simp only [LU.eq_2,DP hq,cT,AU hq,Ai,e2,wT q]
   rw [Ac (x:=(ET b.Design i:Int)+b.Library.Cells[k].Arcs[j].From) (by omega) (by omega),Ac (x:=(ET b.Design i:Int)+b.Library.Cells[k].Arcs[j].To) (by omega) (by omega),Ac (x:=2*((ET b.Design i:Int)+b.Library.Cells[k].Arcs[j].From)) (by omega) (by omega),Ac (x:=2*((ET b.Design i:Int)+b.Library.Cells[k].Arcs[j].To)) (by omega) (by omega),Ac (by omega) (by omega),Ac (by omega) (by omega),CC (by simp;omega) (by omega),Ai]
  ·intro m s
   simp only [LU.eq_2,Dc,cF]) (by
  intro m s
  simp only [JV.eq_2,Dc,cF]) n (by omega) [] (by simp)]
 rw [List.nil_append]
def Ox(d:AQ)(q j:Nat):List Int:=EF (fun i p=>if EP (q:Int) p=true then [(i:Int)]else []) 0 ((Ce d).take j)
theorem XX(d:AQ)(q:Nat):Ox d q (Ce d).length=Ez d (q:Int):=by unfold Ox Ez;rw [List.take_length]
theorem XZ(d:AQ)(q j:Nat):(Ox d q j).length<=j:=by
 have:=Do (c:=1) (g:=fun i p=>if EP (q:Int) p=true then [(i:Int)]else []) ((Ce d).take j) 0 fun i p _=>by split<;>simp
 have h2:((Ce d).take j).length<=j:=by simp;omega
 unfold Ox;omega
def jO(N:Int)(br:List Int):Prop:=∀i,i<br.length->(0<=gd br i∧gd br i<=N-1)∧(0<i->gd br (i-1)<gd br i)
theorem Rs1{n:Nat}{br:List Int}{N:Int}(h:br.length<=1048576)(hN:0<=N∧N<=1048576)(hn:1048577<=n):BF (jO N br) (ZM n br N):=by
 rw [ZM]
 refine(EH (L:=fun m i=>IM n br N _ m i) (Q:=True) br.length 0 (fun i=>(0<=gd br i∧gd br i<=N-1)∧(0<i->gd br (i-1)<gd br i)) ?_ ?_ n 0 (by omega) (by omega) (by omega) (fun j _ h=>by omega)).iff ?_
 ·intro m i _ hi
  simp only [IM.eq_2,DP hi,cT,gI hi,Ai,Gx,wT i,Ac (x:=N-1) (by omega) (by omega)]
  by_cases c:0<=gd br i∧gd br i<=N-1
  ·have e:(decide (gd br i>=0)&&decide (gd br i<=N-1))=true:=LV.2 c
   rw [e]
   simp only [Bool.not_true,cF]
   by_cases c0:0<i
   ·have w1:wrap .i64 ((i:Int)-1)=((i-1:Nat):Int):=by rw [Ac (by omega) (by omega)];omega
    simp only [decide_eq_true (show(i:Int)>0 by omega),cT,w1,gI (show i-1<br.length by omega),Ai]
    by_cases c1:gd br (i-1)<gd br i
    ·rw [decide_eq_false (show¬gd br (i-1)>=gd br i by omega),cF];exact .inl ⟨⟨c,fun _=>c1⟩,rfl⟩
    ·rw [decide_eq_true (show gd br (i-1)>=gd br i by omega),cT];exact .inr ⟨fun h=>c1 (h.2 c0),rfl⟩
   ·simp only [decide_eq_false (show¬(i:Int)>0 by omega),cF,Ai]
    exact .inl ⟨⟨c,fun h=>absurd h c0⟩,by trivial⟩
  ·have e:(decide (gd br i>=0)&&decide (gd br i<=N-1))=false:=by
    cases q:(decide (gd br i>=0)&&decide (gd br i<=N-1))with
    |false=>rfl
    |true=>exact absurd (LV.1 q) c
   rw [e]
   simp only [Bool.not_false,cT,Ai]
   exact .inr ⟨fun h=>c h.1,by trivial⟩
 ·intro m i h1 h2 _
  obtain rfl:i=br.length:=by omega
  simp only [IM.eq_2,Dc,cF]
  exact⟨true,rfl,by simp⟩
 ·exact⟨fun h i hi=>h.1 i (Nat.zero_le _) hi,fun h=>⟨fun i _ hi=>h i hi,trivial⟩⟩
theorem Rs2{n:Nat}{br:List Int}{v:BD}(h:br.length<=1048576)(hN:v.links_.length<=1048576)(hn:1048577<=n):BF (jO (v.links_.length:Int) br) (dV n v br):=by
 rw [dV,iK,Ai,Ac (by omega) (by omega),AW h hn,Ai]
 have ha:(br.all fun k=>decide (k>=0)&&decide (k<=(v.links_.length:Int)-1))=true↔∀i,i<br.length->0<=gd br i∧gd br i<=(v.links_.length:Int)-1:=by
  rw [List.all_eq_true]
  refine⟨fun g i hi=>?_,fun g k hk=>?_⟩
  ·have:=g br[i] (List.getElem_mem hi)
   rw [uC hi];exact LV.1 this
  ·obtain⟨i,hi,rfl⟩:=List.getElem_of_mem hk
   have:=g i hi
   rw [uC hi]at this;exact LV.2 this
 cases c:(br.all fun k=>decide (k>=0)&&decide (k<=(v.links_.length:Int)-1))with
 |true=>
  have ha:=ha.1 c
  obtain⟨r,e,hr⟩:=Inc (n:=n) h hn
  rw [cT,e,Ai,Ai]
  exact⟨r,rfl,hr.trans ⟨fun g i hi=>⟨ha i hi,g i hi⟩,fun g i hi=>(g i hi).2⟩⟩
 |false=>
  rw [cF,Ai]
  refine⟨false,rfl,by simp,fun g=>?_⟩
  rw [ha.2 fun i hi=>(g i hi).1]at c;cases c
theorem zR{n:Nat}{br:List Int}{x:Int}(h:br.length<=1048576)(hn:1048577<=n):aN n br x=some (br.any fun y=>y==x):=by
 rw [aN]
 refine loop (L:=fun m i (_:Unit)=>Iw br x (fun i5=>some false) m i) br.length (fun i _=>(br.any fun y=>y==x)=((br.drop i).any fun y=>y==x)) (fun o=>o=some (br.any fun y=>y==x)) ?_ ?_ n 0 () (by omega) (by omega) (by simp)
 ·intro m i _ hi hI
  simp only [Iw.eq_2,DP hi,cT,AU hi,Ai,wT i]
  rw [List.drop_eq_getElem_cons hi,List.any_cons]at hI
  cases c:(br[i]==x)with
  |true=>rw [c,Bool.true_or]at hI;rw [hI];exact .inr rfl
  |false=>rw [c,Bool.false_or]at hI;exact .inl ⟨(),hI,rfl⟩
 ·intro m _ hI
  rw [List.drop_length]at hI
  simp only [Iw.eq_2,Dc,cF,hI,List.any_nil]
structure Tg(b:AO)(x:AS):Prop where
 from_:0<=x.From∧x.From<Bq b
 to_:0<=x.To∧x.To<Bq b
 arc:x.Kind=1->∃p y c a,AG (Ce b.Design) (wrap .i64 (Int.tdiv x.To 2))=some p∧p∈Ce b.Design∧AG b.Design.Instances p.instance_=some y∧AG b.Library.Cells y.Cell=some c∧AG c.Arcs x.Index=some a∧(a.Kind=1∨a.Kind=2∨a.Kind=3)
theorem Om{b:AO}(v:Bs b):∀x∈Ff b,Tg b x:=by
 have vd:=v.design
 have hl:=Cp vd.short vd.few.1 vd.few.2.2
 have nd:Bq b=2*((Ce b.Design).length:Int):=rfl
 intro x hx
 simp only [Ff,List.mem_append]at hx
 rcases hx with hx|hx
 ·refine DH (Q:=Tg b) b.Design.Instances 0 (fun i hi y hy=>?_) x hx
  rw [Nat.zero_add]at hy
  obtain⟨k,hk,_,gc,hnl,vc⟩:=vd.inst_at hi
  have ea:IX b b.Design.Instances[i]=b.Library.Cells[k].Arcs:=by unfold IX;rw [gc]
  rw [Qp,ea]at hy
  refine DH (Q:=Tg b) _ 0 (fun j hj z hz=>?_) y hy
  rw [Nat.zero_add]at hz
  obtain⟨⟨f0,f1⟩,⟨t0,t1⟩,kd⟩:=QG vc hj
  obtain⟨t,ht,rfl⟩:=List.mem_map.1 hz
  have tr:=VF t ht
  obtain⟨F,eF⟩:=Int.eq_ofNat_of_zero_le f0
  have eF:b.Library.Cells[k].Arcs[j].From=(F:Int):=eF
  obtain⟨T,eT⟩:=Int.eq_ofNat_of_zero_le t0
  have eT:b.Library.Cells[k].Arcs[j].To=(T:Int):=eT
  have b1:=(Gf (d:=b.Design) (q:=F) hi (by omega)).lt
  have pf:=Gf (d:=b.Design) (q:=T) hi (by omega)
  have b2:=pf.lt
  obtain⟨p,ep,hp⟩:=pf.hit
  have hp:(p.instance_==(i:Int)&&p.pin_==(T:Int))=true:=hp
  simp only [Bool.and_eq_true,beq_iff_eq]at hp
  have k3:¬3<b.Library.Cells[k].Arcs[j].Kind:=fun h=>by rw [Rn h]at ht;cases ht
  refine⟨?_,?_,fun _=>⟨p,b.Design.Instances[i],b.Library.Cells[k],b.Library.Cells[k].Arcs[j],?_,List.mem_of_getElem? ep,?_,gc,?_,by omega⟩⟩
  ·have h1:0<=2*((ET b.Design i:Int)+b.Library.Cells[k].Arcs[j].From)+t.1∧2*((ET b.Design i:Int)+b.Library.Cells[k].Arcs[j].From)+t.1<Bq b:=by rw [eF];omega
   exact h1
  ·have h1:0<=2*((ET b.Design i:Int)+b.Library.Cells[k].Arcs[j].To)+t.2∧2*((ET b.Design i:Int)+b.Library.Cells[k].Arcs[j].To)+t.2<Bq b:=by rw [eT];omega
   exact h1
  ·show AG (Ce b.Design) (wrap .i64 (Int.tdiv (2*((ET b.Design i:Int)+b.Library.Cells[k].Arcs[j].To)+t.2) 2))=some p
   rw [eT]
   have e1:Int.tdiv (2*((ET b.Design i:Int)+(T:Int))+t.2) 2=((ET b.Design i+T:Nat):Int):=by
    rw [Int.tdiv_eq_ediv_of_nonneg (by omega)];omega
   rw [e1,Ac (by omega) (by omega),EA];exact ep
  ·rw [hp.1];exact AU hi
  ·exact AU hj
 ·refine DH (Q:=Tg b) b.Design.Nets 0 (fun q hq y hy=>?_) x hx
  rw [Nat.zero_add]at hy
  have hd:=(Lz vd hq).lt
  refine DH (Q:=Tg b) _ 0 (fun j hj z hz=>?_) y hy
  have hs:=KQ _ (List.getElem_mem hj)
  simp only [bC,List.mem_cons,List.not_mem_nil,or_false]at hz
  rcases hz with rfl|rfl
  ·exact⟨⟨by show(0:Int)<=2*_;omega,by show(2:Int)*_<_;omega⟩,⟨by show(0:Int)<=2*_;omega,by show(2:Int)*_<_;omega⟩,fun h=>by have h:(2:Int)=1:=h;omega⟩
  ·exact⟨⟨by show(0:Int)<=2*_+1;omega,by show(2:Int)*_+1<_;omega⟩,⟨by show(0:Int)<=2*_+1;omega,by show(2:Int)*_+1<_;omega⟩,fun h=>by have h:(2:Int)=1:=h;omega⟩
theorem AbB{n:Nat}{l:Ad}{d:AQ}(v:Cj l d){p:An}(hp:p∈Ce d):∃r,TV n l d (GD p)=some r:=by
 rw [TV]
 by_cases c:p.instance_<0
 ·rw [decide_eq_true (show(GD p).instance_<0 from c),cT];exact⟨_,rfl⟩
 ·obtain⟨x,c',pin,e1,e2,e3⟩:=v.place p hp (by omega)
  have e1:AG d.Instances (GD p).instance_=some x:=e1
  have e3:AG c'.Pins (GD p).pin_=some pin:=e3
  rw [decide_eq_false (show¬(GD p).instance_<0 from c),cF,e1,Ai,e2,Ai,e3,Ai];exact⟨_,rfl⟩
theorem Ld1{n:Nat}{b:AO}(v:Bs b){i:Nat}(hi:i<b.Wires.length)(hn:1048577<=n):Gc (fun r=>r.length=b.Wires[i].Parent.length) (eD n b (i:Int)):=by
 have vd:=v.design
 have vw:=v.wire i hi
 have hm:=vw.many
 have hP:=vw.cap
 have hl:=Cp vd.short vd.few.1 vd.few.2.2
 have hsl:(Ez b.Design (i:Int)).length=b.Wires[i].Sink.length:=by rw [FQ];have:=vw.sink;omega
 have hsn:snk b.Design (i:Int)<=78:=Nat.le_trans List.countP_le_length hl
 have hsn2:=FQ (d:=b.Design) (q:=(i:Int))
 rw [eD,AU hi,Ai,Xy,CC (by simp;omega) (by omega),Ai,Ai,Qn vd.short vd.few.1 vd.few.2.2 hn,Ai,fM vd (i:Int) hn,Ai]
 refine ML (L:=fun m j s=>Hf n b b.Wires[i] ((Ce b.Design).map GD) (Ez b.Design (i:Int)) _ m j s) (Ez b.Design (i:Int)).length (fun _ s=>s.length=b.Wires[i].Parent.length) ?_ ?_ n _ (by omega) (by simp;omega)
 ·intro m j s hj hs
  have hj2:j<b.Wires[i].Sink.length:=by omega
  have hk:=vw.sinks j hj2
  have hq:=KQ _ (List.getElem_mem hj)
  obtain⟨a,ea⟩:=Fu (t:=s) hk.1 (by omega)
  obtain⟨p,ep,hp⟩:=GX (xs:=Ce b.Design) hq.1 hq.2
  obtain⟨r,er⟩:=AbB (n:=n) vd (List.mem_of_getElem? hp)
  have ep2:AG ((Ce b.Design).map GD) (Ez b.Design (i:Int))[j]=some (GD p):=by
   obtain⟨N,hN⟩:=Int.eq_ofNat_of_zero_le hq.1
   have hN:(Ez b.Design (i:Int))[j]=(N:Int):=hN
   rw [hN]at hp ⊢
   rw [EA,List.getElem?_map]
   rw [Int.toNat_natCast]at hp
   rw [hp];rfl
  simp only [Hf.eq_2,DP hj,cT,AU hj,gI hj2,Ai,ea,ep2,er,wT j]
  exact⟨_,by simpa using hs,rfl⟩
 ·intro m s hs
  simp only [Hf.eq_2,Dc,cF]
  have wx:wrap .i64 ((s.length:Int)-1)=((s.length-1:Nat):Int):=by rw [Ac (by omega) (by omega)];omega
  rw [wx]
  have key:∀(m k:Nat) (s:List Int),k<b.Wires[i].Parent.length->s.length=b.Wires[i].Parent.length->k<m->Gc (fun r:List Int=>r.length=b.Wires[i].Parent.length) (Ha b.Wires[i] (fun i92 l94=>(some l94)) m (k:Int) s):=by
   intro m
   induction m with
   |zero=>intro k s _ _ h;omega
   |succ m ih=>
    intro k s hk hs hm
    by_cases c:0<k
    ·have hd:decide ((k:Int)>0)=true:=decide_eq_true (by omega)
     have ht:=vw.tree k c hk
     obtain⟨a,ea⟩:=Fu (t:=s) ht.1 (by omega)
     have wk:wrap .i64 ((k:Int)-1)=((k-1:Nat):Int):=by rw [Ac (by omega) (by omega)];omega
     simp only [Ha.eq_2,hd,cT,gI hk,Ai,ea,gI (show k<s.length by omega),wk]
     exact ih (k-1) _ (by omega) (by simpa using hs) (by omega)
    ·have hd:decide ((k:Int)>0)=false:=decide_eq_false (by omega)
     simp only [Ha.eq_2,hd,cF]
     exact⟨s,rfl,hs⟩
  exact key n (s.length-1) s (by omega) hs (by omega)
theorem JU{l:List Bool}{i:Nat}(h:i<l.length):AG l (i:Int)=some (gb l i):=by rw [AU h];simp [gb,h]
def Ed(L:List AS)(lv:List Bool)(u w:Int):Prop:=∃k,∃h:k<L.length,gb lv k=true∧L[k].From=u∧L[k].To=w
inductive Wr(L:List AS)(lv:List Bool)(src:Int->Prop):Int->Prop
 |src {u:Int}:src u->Wr L lv src u
 |step {u w:Int}:Wr L lv src u->Ed L lv u w->Wr L lv src w
theorem Wr.mono{L:List AS}{lv:List Bool}{s t:Int->Prop}(h:∀u,s u->t u){v:Int}(r:Wr L lv s v):Wr L lv t v:=by
 induction r with
 |src h1=>exact .src (h _ h1)
 |step _ e ih=>exact .step ih e
def cf(l:List Bool):Nat:=l.countP (fun b=>!b)
structure Rk(L:List AS)(N:Nat):Prop where
 from_:∀k (h:k<L.length),0<=L[k].From∧L[k].From<(N:Int)
 to_:∀k (h:k<L.length),0<=L[k].To∧L[k].To<(N:Int)
theorem UP{b:AO}(v:Bs b):Rk (Ff b) (2*(Ce b.Design).length):=
 ⟨fun k h=>by have:=(Om v _ (List.getElem_mem h)).from_;unfold Bq at this;push_cast;omega,fun k h=>by have:=(Om v _ (List.getElem_mem h)).to_;unfold Bq at this;push_cast;omega⟩
theorem Lv1{n:Nat}{L:List AS}{br:List Int}(hl:L.length<=1048576)(hb:br.length<=1048576)(hn:1048577<=n):Vi n L br=some (EF (fun k (_:AS)=>[!(br.any fun y=>y==(k:Int))]) 0 L):=by
 rw [Vi]
 rw [Cr (xs:=L) (L:=fun m s i=>Ih n L br (fun l19 i23=>(some l19)) m s i) (k:=fun s=>some s) (fun k (_:AS)=>[!(br.any fun y=>y==(k:Int))]) 1 0 (fun _ _ _=>by simp) (by omega) (by
  intro m i hi s hs
  simp only [Ih.eq_2,DP hi,cT,zR hb hn,Ai,wT i]
  rw [CC (by simp;omega) (by omega),Ai]) (by
  intro m s
  simp only [Ih.eq_2,Dc,cF]) n (by omega) [] (by simp)]
 rw [List.nil_append]
theorem XP{br:List Int}{i:Nat}(hi:i<br.length)(k:Int):((br.take (i+1)).any fun y=>y==k)=(((br.take i).any fun y=>y==k)||(br[i]==k)):=by
 rw [List.take_succ_eq_append_getElem hi,List.any_append];simp
theorem AeR{n:Nat}{w:BD}{br:List Int}(hl:w.links_.length<=1048576)(hb:br.length<=1048576)(hr:jO (w.links_.length:Int) br)(hn:1048577<=n):∃lv,sF n w br=some ⟨w,lv⟩∧lv.length=w.links_.length∧∀k,k<w.links_.length->gb lv k= !(br.any fun y=>y==(k:Int)):=by
 rw [sF,DX (by omega) (by omega),Ai]
 refine loop (L:=fun m i l=>Ls w.links_.length _ m i l) (List.replicate w.links_.length false).length (fun i l=>l.length=w.links_.length∧∀k,k<i->gb l k=true) (fun o=>∃lv,o=some (⟨w,lv⟩:BY)∧lv.length=w.links_.length∧∀k,k<w.links_.length->gb lv k= !(br.any fun y=>y==(k:Int))) ?_ ?_ n 0 (List.replicate w.links_.length false) (by omega) (by simp;omega) ⟨by simp,fun k h=>absurd h (Nat.not_lt_zero k)⟩
 ·intro m i l hi ⟨h1,h2⟩
  have hi2:i<l.length:=by rw [h1];simpa using hi
  simp only [Ls.eq_2,DP hi,cT,JU hi2,Ai,Int.toNat_natCast,wT i]
  refine .inl ⟨_,⟨by simpa using h1,fun k hk=>?_⟩,rfl⟩
  rw [Mp hi2]
  by_cases e:i=k
  ·rw [if_pos e]
  ·rw [if_neg e];exact h2 k (by omega)
 ·intro m l ⟨h1,h2⟩
  simp only [Ls.eq_2,Dc,cF]
  simp only [List.length_replicate]at h2
  refine loop (L:=fun m i l=>Ly br _ m i l) br.length (fun i l=>l.length=w.links_.length∧∀k,k<w.links_.length->gb l k= !((br.take i).any fun y=>y==(k:Int))) (fun o=>∃lv,o=some (⟨w,lv⟩:BY)∧lv.length=w.links_.length∧∀k,k<w.links_.length->gb lv k= !(br.any fun y=>y==(k:Int))) ?_ ?_ n 0 l (by omega) (by omega) ⟨h1,fun k hk=>by rw [h2 k hk];simp⟩
  ·intro m i l hi ⟨g1,g2⟩
   have hx:=(hr i hi).1
   rw [uC hi]at hx
   obtain⟨X,eX⟩:=Int.eq_ofNat_of_zero_le hx.1
   have eX:br[i]=(X:Int):=eX
   have lX:X<l.length:=by omega
   simp only [Ly.eq_2,DP hi,cT,AU hi,Ai,eX,JU lX,Int.toNat_natCast,wT i]
   refine .inl ⟨_,⟨by simpa using g1,fun k hk=>?_⟩,rfl⟩
   rw [Mp lX,XP hi,eX]
   by_cases e:X=k
   ·subst e;rw [if_pos rfl];simp
   ·have:((X:Int)==(k:Int))=false:=by rw [beq_eq_false_iff_ne];omega
    rw [if_neg e,g2 k hk,this,Bool.or_false]
  ·intro m l ⟨g1,g2⟩
   simp only [Ly.eq_2,Dc,cF]
   refine⟨l,rfl,g1,fun k hk=>?_⟩
   rw [g2 k hk,List.take_length]
def Vn(C:Nat->Prop)(i:Nat)(l:List Int):Prop:=l.length<=i∧l.Pairwise (fun a b=>a<b)∧∀x,x∈l↔∃k:Nat,x=(k:Int)∧k<i∧C k
theorem Vn.yes{C:Nat->Prop}{i:Nat}{l:List Int}(h:Vn C i l)(c:C i):Vn C (i+1) (l++[(i:Int)]):=by
 obtain⟨h1,h2,h3⟩:=h
 refine⟨by simp;omega,List.pairwise_append.2 ⟨h2,List.pairwise_singleton ..,fun a ha b hb=>?_⟩,fun x=>?_⟩
 ·obtain⟨k,e,hk,_⟩:=(h3 a).1 ha
  rw [List.mem_singleton.1 hb];omega
 ·rw [List.mem_append,List.mem_singleton,h3 x]
  constructor
  ·rintro (⟨k,e,hk,ck⟩|e)
   ·exact⟨k,e,by omega,ck⟩
   ·exact⟨i,e,by omega,c⟩
  ·rintro ⟨k,e,hk,ck⟩
   by_cases q:k=i
   ·right;rw [e,q]
   ·exact .inl ⟨k,e,by omega,ck⟩
theorem Vn.no{C:Nat->Prop}{i:Nat}{l:List Int}(h:Vn C i l)(c:¬C i):Vn C (i+1) l:=by
 obtain⟨h1,h2,h3⟩:=h
 refine⟨by omega,h2,fun x=>?_⟩
 rw [h3 x]
 constructor
 ·rintro ⟨k,e,hk,ck⟩;exact⟨k,e,by omega,ck⟩
 ·rintro ⟨k,e,hk,ck⟩
  exact⟨k,e,by have:k≠i:=fun q=>c (q▸ck);omega,ck⟩
def vU(x:AV):Prop:=x.Name.size<=1000∧1<=x.Nets.length∧x.Nets.length<=5
structure jU(d:AQ):Prop where
 inst:d.Instances.length<=6∧∀x∈d.Instances,vU x
 nets:(3<=d.Nets.length∧d.Nets.length<=9)∧∀x∈d.Nets,x.size<=1000
 ports:(3<=d.Ports.length∧d.Ports.length<=5)∧∀p∈d.Ports,p.Name.size<=1000
theorem jU.short{d:AQ}(h:jU d):∀x∈d.Instances,x.Nets.length<=5:=fun x hx=>(h.inst.2 x hx).2.2
theorem Wr.trans{L:List AS}{lv:List Bool}{u v:Int}{w:Int}(h1:Wr L lv (fun x=>x=u) v)(h2:Wr L lv (fun x=>x=v) w):Wr L lv (fun x=>x=u) w:=by
 induction h2 with
 |src e=>have e:_=v:=e;subst e;exact h1
 |step _ e ih=>exact .step ih e
theorem Wr.one{L:List AS}{lv:List Bool}{u w:Int}(e:Ed L lv u w):Wr L lv (fun x=>x=u) w:=.step (.src rfl) e
theorem WtT{n:Nat}{l:List Int}(h:VA l)(x:Int)(hn:1048577<=n):∃(i:Nat) (a b:Int),jE n l x=some ((i:Int),a,b)∧((i<l.length∧a=1∧b=0)∨(i+1<l.length∧(1<=a∧a<=100000)∧(1<=b∧b<=100000))):=by
 have h1:=h.1
 have ci:=RQ h x
 have w1:wrap .i64 ((l.length:Int)-1)=((l.length-1:Nat):Int):=by rw [Ac (by omega) (by omega)];omega
 have g0:AG l 0=some (gd l 0):=gI (l:=l) (i:=0) (by omega)
 have gL:AG l ((l.length-1:Nat):Int)=some (gd l (l.length-1)):=gI (by omega)
 rw [jE,g0,Ai,w1,gL,Ai]
 have key:∀(m i:Nat),i<l.length->i<m->(∀k,i<k->k<l.length->CH l x<gd l k)->∃(j:Nat) (a b:Int),GL l x (gd l 0) (gd l (l.length-1)) (fun i23=>(some (0,1,0))) m (i:Int)=some ((j:Int),a,b)∧((j<l.length∧a=1∧b=0)∨(j+1<l.length∧(1<=a∧a<=100000)∧(1<=b∧b<=100000))):=by
  intro m
  induction m with
  |zero=>intro i _ h;omega
  |succ m ih=>
   intro i hi hm hk
   have d0:decide ((i:Int)>=0)=true:=decide_eq_true (by omega)
   rw [GL.eq_2,d0,cT,gI hi,Ai,show min (max x (gd l 0)) (gd l (l.length-1))=CH l x from rfl]
   by_cases c:CH l x=gd l i
   ·rw [show(CH l x==gd l i)=true from beq_iff_eq.2 c,cT]
    exact⟨i,1,0,rfl,.inl ⟨hi,rfl,rfl⟩⟩
   ·rw [show(CH l x==gd l i)=false from beq_eq_false_iff_ne.2 c,cF,Ai]
    have r0:=h.2.1 i hi
    by_cases c2:CH l x>gd l i
    ·have hl:i+1<l.length:=by
      apply Nat.lt_of_not_le
      intro q
      have:i=l.length-1:=by omega
      subst this;omega
     have r1:=h.2.1 (i+1) hl
     have hc:=hk (i+1) (by omega) hl
     rw [decide_eq_true c2,cT,wS (by omega),gI hl,Ai,Ai,Ac (by omega) (by omega),Ac (by omega) (by omega)]
     exact⟨i,_,_,rfl,.inr ⟨hl,by omega,by omega⟩⟩
    ·have hp:0<i:=by
      apply Nat.pos_of_ne_zero
      intro q;subst q;omega
     have wi:wrap .i64 ((i:Int)-1)=((i-1:Nat):Int):=by rw [Ac (by omega) (by omega)];omega
     rw [decide_eq_false c2,cF,wi]
     refine ih (i-1) (by omega) (by omega) fun k hk1 hk2=>?_
     by_cases q:k=i
     ·subst q;omega
     ·exact hk k (by omega) hk2
 exact key n (l.length-1) (by omega) (by omega) fun k h1 h2=>by omega
theorem DvT{n:Nat}{s D mode:Int}(h:D≠0):∃r,LF n s D mode=some r:=by
 have hz:(D==0)=false:=by rw [beq_eq_false_iff_ne];exact h
 rw [LF,hz,cF,cF]
 cases(decide (Int.tmod s D<0))&&((mode==0))<;>cases(decide (Int.tmod s D>0))&&((mode==1))<;>exact⟨_,rfl⟩
theorem yZ{t:Aa}(v:VT t){i k u q:Nat}{w:Int}{U V:Int}{A:Int->Option Int}{B:Option Int}(hw:w>0->i+u<t.Slews.length∧k+q<t.Loads.length)(hU:U=(u:Int))(hV:V=(q:Int))(hq:q<=1)(hA:∀x,Gc (fun _=>True) (A x))(hB:Gc (fun _=>True) B):
 Gc (fun _=>True) (cond (decide (w>0)) (Option.bind (AG t.Values (wrap .i64 (wrap .i64 (wrap .i64 (wrap .i64 ((i:Int)+U)*(t.Loads.length:Int))+(k:Int))+V))) A) B):=by
 have S4:=v.1.1.1.2
 have L4:=v.1.2.1.2
 have hlen:=v.2.1
 subst hU hV
 refine Ki (fun c=>?_) fun _=>hB
 obtain⟨h1,h2⟩:=hw (of_decide_eq_true c)
 have hb:=eI (S:=t.Slews.length) (L:=t.Loads.length) (i:=i+u) (k:=k+q) h1 h2
 rw [tC (by omega) (by omega) (by omega) hq,gI (by omega),Ai]
 exact hA _
theorem QY{a c:Int}(h:wrap .i64 (a*c)>0):a≠0∧c≠0:=by
 constructor
 ·intro e;subst e;rw [Int.zero_mul]at h;exact absurd h (by decide)
 ·intro e;subst e;rw [Int.mul_zero]at h;exact absurd h (by decide)
structure WtO(l:List Int)(i:Nat)(a b:Int):Prop where
 lo:i<l.length
 hi:b≠0->i+1<l.length
theorem uX{t:Aa}(v:VT t){i k:Nat}{a b c d:Int}(h1:WtO t.Slews i a b)(h2:WtO t.Loads k c d){u:Int}(hu:u=0∨u=1){K:Int->Int->Option Int}(hK:∀s,Gc (fun _=>True) (K s 2))(m:Nat)(s:Int):Gc (fun _=>True) (Dh t ((i:Int),a,b) ((k:Int),c,d) u K (m+3) s 0):=by
 have w01:wrap .i64 (0+1)=1:=rfl
 have w12:wrap .i64 (1+1)=2:=rfl
 have l02:decide ((0:Int)<2)=true:=rfl
 have l12:decide ((1:Int)<2)=true:=rfl
 have l22:decide ((2:Int)<2)=false:=rfl
 have b00:((0:Int)==0)=true:=rfl
 have b10:((1:Int)==0)=false:=rfl
 have b01:((0:Int)==1)=false:=rfl
 have b11:((1:Int)==1)=true:=rfl
 have s3:∀s,Gc (fun _=>True) (Dh t ((i:Int),a,b) ((k:Int),c,d) u K (m+1) s 2):=fun s=>by
  rw [Dh.eq_2,l22,cF];exact hK s
 have s2:∀s,Gc (fun _=>True) (Dh t ((i:Int),a,b) ((k:Int),c,d) u K (m+2) s 1):=fun s=>by
  rw [Dh.eq_2,l12,cT,b10,cF,cF,w12]
  rcases hu with rfl|rfl
  ·rw [b01,cF]
   exact yZ v (u:=0) (q:=1) (fun h=>⟨h1.lo,h2.hi (QY h).2⟩) rfl rfl (by omega) (fun _=>s3 _) (s3 _)
  ·rw [b11,cT]
   exact yZ v (u:=1) (q:=1) (fun h=>⟨h1.hi (QY h).1,h2.hi (QY h).2⟩) rfl rfl (by omega) (fun _=>s3 _) (s3 _)
 rw [Dh.eq_2,l02,cT,b00,cT,cT,w01]
 rcases hu with rfl|rfl
 ·rw [b01,cF]
  exact yZ v (u:=0) (q:=0) (fun h=>⟨h1.lo,h2.lo⟩) rfl rfl (by omega) (fun _=>s2 _) (s2 _)
 ·rw [b11,cT]
  exact yZ v (u:=1) (q:=0) (fun h=>⟨h1.hi (QY h).1,h2.lo⟩) rfl rfl (by omega) (fun _=>s2 _) (s2 _)
theorem cH{l:List Int}{i:Nat}{a b:Int}(h:(i<l.length∧a=1∧b=0)∨(i+1<l.length∧(1<=a∧a<=100000)∧(1<=b∧b<=100000))):WtO l i a b∧0<wrap .i64 (a+b)∧wrap .i64 (a+b)<=200000:=by
 have e:wrap .i64 (a+b)=a+b:=Ac (by omega) (by omega)
 rw [e]
 rcases h with ⟨h,rfl,rfl⟩|⟨h,h1,h2⟩
 ·exact⟨⟨h,fun c=>absurd rfl c⟩,by omega,by omega⟩
 ·exact⟨⟨by omega,fun _=>h⟩,by omega,by omega⟩
theorem LkT{n:Nat}{t:Aa}(v:VT t)(x y mode:Int)(hn:1048577<=n):Gc (fun _=>True) (kI n t x y mode):=by
 obtain⟨i,a,b,e1,h1⟩:=WtT (n:=n) v.1.1 x hn
 obtain⟨k,c,d,e2,h2⟩:=WtT (n:=n) v.1.2 y hn
 obtain⟨o1,p1,p2⟩:=cH h1
 obtain⟨o2,q1,q2⟩:=cH h2
 obtain⟨m,rfl⟩:∃m,n=m+3:=⟨n-3,by omega⟩
 rw [kI,e1,e2,Ai,Ai]
 have w01:wrap .i64 (0+1)=1:=rfl
 have w12:wrap .i64 (1+1)=2:=rfl
 have l02:decide ((0:Int)<2)=true:=rfl
 have l12:decide ((1:Int)<2)=true:=rfl
 have l22:decide ((2:Int)<2)=false:=rfl
 rw [Gl.eq_2,l02,cT,w01]
 refine uX v o1 o2 (.inl rfl) (fun s=>?_) m 0
 rw [Gl.eq_2,l12,cT,w12]
 refine uX v o1 o2 (.inr rfl) (fun s=>?_) m _
 have em:=mw (a:=wrap .i64 (a+b)) (c:=wrap .i64 (c+d)) (by omega) (by omega)
 rw [Gl.eq_2,l22,cF]
 dsimp only
 rw [em]
 have:=Int.mul_pos p1 q1
 obtain⟨r,er⟩:=DvT (n:=m+3) (s:=s) (D:=wrap .i64 (a+b)*wrap .i64 (c+d)) (mode:=mode) (by omega)
 rw [er]
 exact Df trivial
theorem Dl1{n:Nat}{b:AO}(v:Bs b){i:Nat}(hi:i<b.Wires.length)(hn:1048577<=n):Gc (fun r=>r.length=b.Wires[i].Parent.length) (Wp n b (i:Int)):=by
 have vw:=v.wire i hi
 have hm:=vw.many
 rw [Wp,AU hi,Ai]
 refine Gc.bind (Ld1 v hi hn) fun ls _ hl=>?_
 refine Vy (L:=fun m j s=>HZ b.Wires[i] ls _ m s j) 1 ls.length (fun j s=>s.length=j) ?_ ?_ n [0] (by omega) (by omega) rfl
 ·intro m j s h1 hj hs
  have ht:=vw.tree j h1 (by omega)
  obtain⟨a,ea⟩:=Fu (t:=s) ht.1 (by omega)
  simp only [HZ.eq_2,DP hj,cT,gI (show j<b.Wires[i].Parent.length by omega),Ai,ea,gI (show j<b.Wires[i].Res.length by have:=vw.res;omega),gI hj,wT j]
  rw [CC (by simp;omega) (by omega),Ai]
  exact⟨_,by simp;omega,rfl⟩
 ·intro m s hs
  simp only [HZ.eq_2,Dc,cF]
  exact⟨s,rfl,by omega⟩
theorem Um{b:AO}(v:Bs b){i:Nat}(hi:i<b.Wires.length):b.Wires[i].Sink.length<=78:=by
 have vd:=v.design
 have hl:=Cp vd.short vd.few.1 vd.few.2.2
 have h:snk b.Design (i:Int)<=78:=Nat.le_trans List.countP_le_length hl
 have:=(v.wire i hi).sink
 omega
theorem AeD{n:Nat}{x mode:Int}(hn:1048577<=n):Gc (fun _=>True) (XE n x mode):=by
 rw [XE]
 have key:∀(m:Nat) (i j:Int),0<=i->i<=j->j<=2000000000->j-i<2^m->Gc (fun _=>True) (HE x (fun i3 i4=>(cond (((mode==1))&&(decide (wrap .i64 (i3*i3)<x))) (some (wrap .i64 (i3+1))) (some i3))) (m+1) i j):=by
  intro m
  induction m with
  |zero=>
   intro i j h0 h1 h2 h3
   have:i=j:=by simp at h3;omega
   subst this
   rw [HE.eq_2,decide_eq_false (by omega),cF]
   exact Ki (fun _=>Df trivial) fun _=>Df trivial
  |succ m ih=>
   intro i j h0 h1 h2 h3
   rw [Int.pow_succ]at h3
   rw [HE.eq_2]
   by_cases c:i<j
   ·have w1:wrap .i64 (i+j)=i+j:=Ac (by omega) (by omega)
    have w2:wrap .i64 (i+j+1)=i+j+1:=Ac (by omega) (by omega)
    have e:Int.tdiv (i+j+1) 2=(i+j+1)/2:=Int.tdiv_eq_ediv_of_nonneg (by omega)
    have w3:wrap .i64 ((i+j+1)/2)=(i+j+1)/2:=Ac (by omega) (by omega)
    have w4:wrap .i64 ((i+j+1)/2-1)=(i+j+1)/2-1:=Ac (by omega) (by omega)
    rw [decide_eq_true c,cT,w1,w2,e,w3,w4]
    exact Ki (fun _=>ih _ _ (by omega) (by omega) h2 (by omega)) fun _=>ih _ _ h0 (by omega) (by omega) (by omega)
   ·rw [decide_eq_false c,cF]
    exact Ki (fun _=>Df trivial) fun _=>Df trivial
 obtain⟨m,rfl⟩:∃m,n=m+1:=⟨n-1,by omega⟩
 refine key m 0 2000000000 (by omega) (by omega) (by omega) ?_
 have h1:(2:Int)^40<=2^m:=by
  have:=Nat.pow_le_pow_right (show 1<=2 by omega) (show 40<=m by omega)
  exact_mod_cast this
 have h2:(2:Int)^40=1099511627776:=by decide
 omega
theorem AdD{n:Nat}{b:AO}(v:Bs b){i:Nat}(hi:i<b.Wires.length){k slew mode:Int}(hk:0<=k∧k<(b.Wires[i].Sink.length:Int))(hn:1048577<=n):Gc (fun _=>True) (ZD n b (i:Int) k slew mode):=by
 have vw:=v.wire i hi
 rw [ZD]
 refine Gc.bind (Dl1 v hi hn) fun ds _ hl=>?_
 obtain⟨j,ej⟩:=Int.eq_ofNat_of_zero_le hk.1
 have ej:k=(j:Int):=ej
 subst ej
 have hj:j<b.Wires[i].Sink.length:=by omega
 have hs:=vw.sinks j hj
 obtain⟨a,ea⟩:=Fu (t:=ds) hs.1 (by omega)
 rw [AU hi,Ai,gI hj,Ai,ea,Ai]
 refine Gc.bind (AeD hn) fun r _ _=>?_
 obtain⟨q,eq⟩:=DvT (n:=n) (s:=r) (D:=1000) (mode:=mode) (by omega)
 rw [eq];exact Df trivial
theorem gM{d:AQ}{q:Int}:∀x∈Ez d q,∃t,∃h:t<(Ce d).length,x=(t:Int)∧EP q (Ce d)[t]=true:=fun x hx=>
 DH (Q:=fun x=>∃t,∃h:t<(Ce d).length,x=(t:Int)∧EP q (Ce d)[t]=true) (Ce d) 0 (fun j hj y hy=>by
  rw [Nat.zero_add]at hy
  by_cases c:EP q (Ce d)[j]=true
  ·rw [if_pos c]at hy;exact⟨j,hj,List.mem_singleton.1 hy,c⟩
  ·rw [if_neg c]at hy;cases hy) x hx
structure dX(b:AO)(x:AS)(f t q j:Nat):Prop where
 kind:x.Kind=2
 from_:x.From=2*(f:Int)∨x.From=2*(f:Int)+1
 to_:x.To=2*(t:Int)∨x.To=2*(t:Int)+1
 Wu:∃h:f<(Ce b.Design).length,(Ce b.Design)[f].drives_=true
 snk:∃h:t<(Ce b.Design).length,(Ce b.Design)[t].drives_=false∧(Ce b.Design)[t].net_=(q:Int)
 ix:x.Index=(j:Int)
 sinks:∃h:q<b.Wires.length,j<b.Wires[q].Sink.length
theorem UK{b:AO}(v:Bs b):∀x∈Ff b,x.Kind=1∨∃f t q j,dX b x f t q j:=by
 have vd:=v.design
 intro x hx
 simp only [Ff,List.mem_append]at hx
 rcases hx with hx|hx
 ·refine .inl ?_
  refine DH (Q:=fun x:AS=>x.Kind=1) b.Design.Instances 0 (fun i hi y hy=>?_) x hx
  rw [Qp]at hy
  refine DH (Q:=fun x:AS=>x.Kind=1) _ 0 (fun j hj z hz=>?_) y hy
  obtain⟨t,ht,rfl⟩:=List.mem_map.1 hz
  rfl
 ·refine .inr ?_
  refine DH (Q:=fun x:AS=>∃f t q j,dX b x f t q j) b.Design.Nets 0 (fun q hq y hy=>?_) x hx
  rw [Nat.zero_add]at hy
  have hd:=Lz vd hq
  refine DH (Q:=fun x:AS=>∃f t q j,dX b x f t q j) _ 0 (fun j hj z hz=>?_) y hy
  rw [Nat.zero_add]at hz
  obtain⟨t,ht,et,st⟩:=gM _ (List.getElem_mem hj)
  simp only [EP,Bool.and_eq_true,beq_iff_eq,Bool.not_eq_true']at st
  have hdr:((Ce b.Design)[Fh b.Design q]'hd.lt).drives_=true:=by have:=hd.hit;simp only [EX,Bool.and_eq_true]at this;exact this.2
  have hq2:q<b.Wires.length:=by rw [v.many];exact hq
  have hs:(Ez b.Design (q:Int)).length=b.Wires[q].Sink.length:=by rw [FQ];have:=(v.wire q hq2).sink;omega
  simp only [bC,List.mem_cons,List.not_mem_nil,or_false]at hz
  rw [et]at hz
  rcases hz with rfl|rfl
  ·exact⟨Fh b.Design q,t,q,j,rfl,.inl rfl,.inl rfl,⟨hd.lt,hdr⟩,⟨ht,st.2,st.1⟩,rfl,⟨hq2,by omega⟩⟩
  ·exact⟨Fh b.Design q,t,q,j,rfl,.inr rfl,.inr rfl,⟨hd.lt,hdr⟩,⟨ht,st.2,st.1⟩,rfl,⟨hq2,by omega⟩⟩
theorem xJ{n:Nat}{b:AO}(v:Bs b){x:AS}(ok:Tg b x)(k:x.Kind=1)(hn:1048577<=n):∃a z,Pw n b x=some (a,z)∧Qq a.Delay true∧Qq a.Slew true:=by
 have vd:=v.design
 obtain⟨p,y,c,a,g1,pm,g2,g3,g4,kd⟩:=ok.arc k
 have hp:=vd.net p pm
 have hW:=v.many
 obtain⟨N,hN⟩:=Int.eq_ofNat_of_zero_le hp.1
 have hN:p.net_=(N:Int):=hN
 have hNl:N<b.Wires.length:=by omega
 obtain⟨r,er,hr⟩:=Ld1 (n:=n) v hNl hn
 have hm:=(v.wire N hNl).many
 have g1':AG ((Ce b.Design).map GD) (wrap .i64 (Int.tdiv x.To 2))=some (GD p):=by
  obtain⟨g0,g5,g6⟩:=EQ g1
  obtain⟨M,hM⟩:=Int.eq_ofNat_of_zero_le g0
  have hM:wrap .i64 (Int.tdiv x.To 2)=(M:Int):=hM
  rw [hM]at g6 ⊢
  rw [EA,List.getElem?_map]
  rw [Int.toNat_natCast]at g6
  rw [g6];rfl
 have g2':AG b.Design.Instances (GD p).instance_=some y:=g2
 have hN':(GD p).net_=(N:Int):=hN
 refine⟨a,gd r 0,?_,?_⟩
 ·rw [Pw,Qn vd.short vd.few.1 vd.few.2.2 hn]
  simp only [Ai,g1',g2',g3,g4,hN',er]
  have e0:AG r 0=some (gd r 0):=gI (i:=0) (by omega)
  rw [e0];rfl
 ·obtain⟨_,_,c3⟩:=EQ g3
  obtain⟨cl,ec⟩:=List.getElem?_eq_some_iff.1 c3
  obtain⟨_,_,a3⟩:=EQ g4
  obtain⟨al,ea⟩:=List.getElem?_eq_some_iff.1 a3
  have vc:=vd.lib.cells _ cl
  rw [ec]at vc
  have ar:=(vc.arcs _ al).1
  rw [ea]at ar
  unfold Mh at ar
  obtain⟨_,ar⟩:=ar
  by_cases k1:a.Kind=1
  ·rw [if_pos k1]at ar;exact⟨ar.2.2.2.1,ar.2.2.2.2⟩
  ·rw [if_neg k1,if_pos (by omega)]at ar;exact⟨ar.2.2.2.1,ar.2.2.2.2⟩
theorem UL{x:Int}(h:0<=x):0<=Int.tmod x 2∧Int.tmod x 2<2:=fA h (by omega)
theorem kP{n:Nat}{b:AO}(v:Bs b){x:AS}{f t q j:Nat}(h:dX b x f t q j)(hn:1048577<=n):WS n b x=some (q:Int):=by
 have vd:=v.design
 have hl:=Cp vd.short vd.few.1 vd.few.2.2
 obtain⟨ht,_,hq⟩:=h.snk
 have e1:wrap .i64 (Int.tdiv x.To 2)=(t:Int):=by
  have h0:0<=x.To:=by have:=h.to_;omega
  have e:Int.tdiv x.To 2=(t:Int):=by rw [Int.tdiv_eq_ediv_of_nonneg h0];have:=h.to_;omega
  rw [e,Ac (by omega) (by omega)]
 rw [WS,Qn vd.short vd.few.1 vd.few.2.2 hn,Ai,e1,AU (by simpa using ht),Ai,List.getElem_map]
 show some (Ce b.Design)[t].net_=_
 rw [hq]
theorem jA{n:Nat}{b:AO}(v:Bs b){x:AS}(hx:x∈Ff b){s m:Int}(hn:1048577<=n):Gc (fun _=>True) (Rz n b x s m):=by
 have ok:=Om v x hx
 rw [Rz]
 rcases UK v x hx with k|⟨f,t,q,j,h⟩
 ·rw [beq_iff_eq.2 k,cT]
  obtain⟨a,z,e,_,hd⟩:=xJ (n:=n) v ok k hn
  rw [e,Ai]
  have pr:=UL ok.to_.1
  exact Gc.bind (Gc.get pr.1 (by rw [hd.1];exact pr.2) hd.2) fun u _ hu=>Gc.bind (LkT hu.1 _ _ _ hn) fun _ _ _=>Df trivial
 ·have k:(x.Kind==1)=false:=by rw [beq_eq_false_iff_ne,h.kind];omega
  obtain⟨hq,hj⟩:=h.sinks
  rw [k,cF,kP v h hn,Ai,h.ix]
  exact Gc.bind (AdD v hq ⟨by omega,by omega⟩ hn) fun _ _ _=>Df trivial
def ct(l:List Bool):Nat:=l.countP fun b=>b
theorem qF{b:AO}{t:Am}(vt:cR b t){x:Int}(h0:0<=x)(h1:x<=Bq b-1):-1000000000<=(Ny t x).Early∧(Ny t x).Early<=(Ny t x).Late∧(Ny t x).Late<=1000000000:=by
 have r:=vt.reached;have a:=vt.arr;have s:=vt.slew
 obtain⟨q,rfl⟩:=Int.eq_ofNat_of_zero_le h0
 have h1:(q:Int)<=Bq b-1:=h1
 have e:=vt.each q (by omega) (by omega) (by omega)
 have ea:Ny t (q:Int)=t.Arrival[q]'(by omega):=by unfold Ny;simp [show q<t.Arrival.length by omega]
 show-1000000000<=(Ny t (q:Int)).Early∧(Ny t (q:Int)).Early<=(Ny t (q:Int)).Late∧(Ny t (q:Int)).Late<=1000000000
 rw [ea]
 simp only [Ra,Nx,FU,Bool.not_eq_true',Bool.or_eq_false_iff,Bool.not_eq_false',Bool.and_eq_true,decide_eq_true_eq]at e
 omega
structure SpB(s:AX):Prop where
 lo:-1000000000<=s.Early
 mid:s.Early<=s.Late
 hi:s.Late<=1000000000
theorem SpB.arr{b:AO}{t:Am}(vt:cR b t){x:Int}(h0:0<=x)(h1:x<=Bq b-1):SpB (Ny t x):=by
 obtain⟨a,b,c⟩:=qF vt h0 h1
 exact⟨a,b,c⟩
def iF(x:BA)(q:Int):Bool:=x.Bound.getD q.toNat false
def jD(x:BA)(q:Int):AX:=x.Required.getD q.toNat ⟨0,0⟩
structure cV(L:List AS)(lv:List Bool)(o:List Int):Prop where
 nodup:∀i (h:i<o.length),o[i] ∉ o.take i
 pre:∀i (h:i<o.length) k (hk:k<L.length) (hv:k<lv.length),lv[k]=true->L[k].To=o[i]->L[k].From∈o.take i
theorem cV.snoc{L:List AS}{lv:List Bool}{o:List Int}{x:Int}(h:cV L lv o)(hx:x ∉ o)(hp:∀k (hk:k<L.length) (hv:k<lv.length),lv[k]=true->L[k].To=x->L[k].From∈o):cV L lv (o++[x]):=by
 refine⟨fun i hi=>?_,fun i hi k hk hv hl ht=>?_⟩
 ·by_cases c:i<o.length
  ·rw [List.getElem_append_left c,List.take_append_of_le_length (by omega)];exact h.nodup i c
  ·obtain rfl:i=o.length:=by simp at hi;omega
   simpa using hx
 ·by_cases c:i<o.length
  ·rw [List.getElem_append_left c]at ht
   rw [List.take_append_of_le_length (by omega)];exact h.pre i c k hk hv hl ht
  ·obtain rfl:i=o.length:=by simp at hi;omega
   have:L[k].To=x:=by simpa using ht
   simpa using hp k hk hv hl this
abbrev mY(b:AO)(br:List Int):List Bool:=EF (fun k (_:AS)=>[!(br.any fun y=>y==(k:Int))]) 0 (Ff b)
def Lvk(L:List AS)(lv:List Bool)(x:AS):Prop:=∃k,∃h:k<L.length,∃hv:k<lv.length,lv[k]=true∧L[k]=x
def wM(t:Am)(x:Int):AX:=t.Slew.getD x.toNat ⟨0,0⟩
def NdE(n:Nat)(b:AO)(c:Aj)(lv:List Bool)(t:Am)(tg:List AJ)(x:BA)(k:Int)(s:AX):Prop:=
 (∃i,∃h:i<tg.length,tg[i].Node=k)∨((∃y,Lvk (Ff b) lv y∧y.From=k∧iF x y.To=true∧∃d z,UV n b c y (wM t k)=some (d,z)∧s.Early=wrap .i64 ((jD x y.To).Early-d.Early))∧(∃y,Lvk (Ff b) lv y∧y.From=k∧iF x y.To=true∧∃d z,UV n b c y (wM t k)=some (d,z)∧s.Late=wrap .i64 ((jD x y.To).Late-d.Late)))
theorem NdE.mono{n:Nat}{b:AO}(v:Bs b){c:Aj}{lv:List Bool}{t:Am}{tg:List AJ}{x x2:BA}{k:Int}{s:AX}(h:NdE n b c lv t tg x k s)(hm:∀q,0<=q->iF x q=true->iF x2 q=true∧jD x2 q=jD x q):NdE n b c lv t tg x2 k s:=by
 have hin:=UP v
 have tp:∀y,Lvk (Ff b) lv y->0<=y.To:=fun y ⟨j,hj,_,_,e⟩=>e▸(hin.to_ j hj).1
 rcases h with h|⟨⟨y,a,b2,c2,d,z,e,f⟩,⟨y2,a2,b3,c3,d2,z2,e2,f2⟩⟩
 ·exact .inl h
 ·obtain⟨m1,m2⟩:=hm _ (tp y a) c2
  obtain⟨m3,m4⟩:=hm _ (tp y2 a2) c3
  exact .inr ⟨⟨y,a,b2,m1,d,z,e,by rw [m2];exact f⟩,⟨y2,a2,b3,m3,d2,z2,e2,by rw [m4];exact f2⟩⟩
theorem cV.drop{L:List AS}{lv:List Bool}{o:List Int}(h:cV L lv o){i:Nat}(hi:i<o.length):o[i] ∉ o.drop (i+1):=fun hm=>by
 obtain⟨j,hj,e⟩:=List.getElem_of_mem hm
 have hj2:i+1+j<o.length:=by simp at hj;omega
 rw [List.getElem_drop]at e
 refine h.nodup (i+1+j) hj2 ?_
 rw [e]
 exact List.mem_take_iff_getElem.2 ⟨i,by omega,rfl⟩
theorem AgU{n:Nat}{l:Ad}{d:AQ}(v:Cj l d){p:An}(hp:p∈Ce d):∃r,TV n l d (GD p)=some r∧bY n d l p=some r:=by
 rw [TV,bY]
 by_cases c:p.instance_<0
 ·rw [decide_eq_true (show(GD p).instance_<0 from c),decide_eq_true c,cT,cT];exact⟨_,rfl,rfl⟩
 ·obtain⟨x,c',pin,e1,e2,e3⟩:=v.place p hp (by omega)
  have e1':AG d.Instances (GD p).instance_=some x:=e1
  have e3':AG c'.Pins (GD p).pin_=some pin:=e3
  simp only [decide_eq_false (show¬(GD p).instance_<0 from c),decide_eq_false c,cF,e1,e1',e2,e3,e3',Ai];exact⟨_,rfl,rfl⟩
theorem iX{d:AQ}{x:Int}(h0:0<=x)(h1:x<(Ce d).length):∃p,AG (Ce d) x=some p∧AG ((Ce d).map GD) x=some (GD p)∧p∈Ce d:=by
 obtain⟨p,ep,hp⟩:=GX (xs:=Ce d) h0 h1
 refine⟨p,ep,?_,List.mem_of_getElem? hp⟩
 obtain⟨N,hN⟩:=Int.eq_ofNat_of_zero_le h0
 have hN:x=(N:Int):=hN
 rw [hN]at hp ⊢
 rw [EA,List.getElem?_map]
 rw [Int.toNat_natCast]at hp
 rw [hp];rfl
theorem LdE{n:Nat}{b:AO}(v:Bs b){i:Nat}(hi:i<b.Wires.length)(hn:1048577<=n):∃r,eD n b (i:Int)=some r∧sL n b (i:Int)=some r∧r.length=b.Wires[i].Parent.length:=by
 have vd:=v.design
 have vw:=v.wire i hi
 have hm:=vw.many
 have hP:=vw.cap
 have hl:=Cp vd.short vd.few.1 vd.few.2.2
 have hsl:(Ez b.Design (i:Int)).length=b.Wires[i].Sink.length:=by rw [FQ];have:=vw.sink;omega
 have hsn:snk b.Design (i:Int)<=78:=Nat.le_trans List.countP_le_length hl
 have hsn2:=FQ (d:=b.Design) (q:=(i:Int))
 rw [eD,AU hi,Ai,Xy,CC (by simp;omega) (by omega),Ai,Ai,Qn vd.short vd.few.1 vd.few.2.2 hn,Ai,fM vd (i:Int) hn,Ai]
 rw [sL,AU hi,Ai,fT,CC (by simp;omega) (by omega),Ai,Ai,iZ vd.short vd.few.1 vd.few.2.2 hn,Ai,AdE vd _ hn,Ai,List.nil_append]
 refine YT (L:=fun m j s=>Hf n b b.Wires[i] ((Ce b.Design).map GD) (Ez b.Design (i:Int)) _ m j s) (M:=fun m j s=>La n b b.Wires[i] (Ce b.Design) (Ez b.Design (i:Int)) _ m j s) (Ez b.Design (i:Int)).length (fun _ s t=>s=t∧s.length=b.Wires[i].Parent.length) (fun o o'=>∃r,o=some r∧o'=some r∧r.length=b.Wires[i].Parent.length) ?_ ?_ n 0 _ _ (by omega) (by omega) ⟨rfl,by omega⟩
 ·rintro m j s _ hj ⟨rfl,hs⟩
  have hj2:j<b.Wires[i].Sink.length:=by omega
  have hk:=vw.sinks j hj2
  have hq:=KQ _ (List.getElem_mem hj)
  obtain⟨a,ea⟩:=Fu (t:=s) hk.1 (by omega)
  obtain⟨p,ep,ep2,hp⟩:=iX hq.1 hq.2
  obtain⟨r,er,er2⟩:=AgU (n:=n) vd hp
  simp only [Hf.eq_2,La.eq_2,DP hj,cT,AU hj,gI hj2,Ai,ea,ep,ep2,er,er2,wT j]
  exact⟨_,_,⟨rfl,by simpa using hs⟩,rfl,rfl⟩
 ·rintro m s _ ⟨rfl,hs⟩
  simp only [Hf.eq_2,La.eq_2,Dc,cF]
  have wx:wrap .i64 ((s.length:Int)-1)=((s.length-1:Nat):Int):=by rw [Ac (by omega) (by omega)];omega
  rw [wx]
  have key:∀(m k:Nat) (s:List Int),k<b.Wires[i].Parent.length->s.length=b.Wires[i].Parent.length->k<m->∃r:List Int,Ha b.Wires[i] (fun _ l=>some l) m (k:Int) s=some r∧Lq b.Wires[i] (fun _ l=>some l) m (k:Int) s=some r∧r.length=b.Wires[i].Parent.length:=by
   intro m
   induction m with
   |zero=>intro k s _ _ h;omega
   |succ m ih=>
    intro k s hk hs hm
    by_cases c:0<k
    ·have hd:decide ((k:Int)>0)=true:=decide_eq_true (by omega)
     have ht:=vw.tree k c hk
     obtain⟨a,ea⟩:=Fu (t:=s) ht.1 (by omega)
     have wk:wrap .i64 ((k:Int)-1)=((k-1:Nat):Int):=by rw [Ac (by omega) (by omega)];omega
     simp only [Ha.eq_2,Lq.eq_2,hd,cT,gI hk,Ai,ea,gI (show k<s.length by omega),wk]
     exact ih (k-1) _ (by omega) (by simpa using hs) (by omega)
    ·have hd:decide ((k:Int)>0)=false:=decide_eq_false (by omega)
     simp only [Ha.eq_2,Lq.eq_2,hd,cF]
     exact⟨s,rfl,rfl,hs⟩
  exact key n (s.length-1) s (by omega) hs (by omega)
theorem DlE{n:Nat}{b:AO}(v:Bs b){i:Nat}(hi:i<b.Wires.length)(hn:1048577<=n):∃r,Wp n b (i:Int)=some r∧bK n b (i:Int)=some r∧r.length=b.Wires[i].Parent.length:=by
 have vw:=v.wire i hi
 have hm:=vw.many
 have hR:=vw.res
 obtain⟨ls,e1,e2,hl⟩:=LdE (n:=n) v hi hn
 rw [Wp,bK,AU hi,Ai,Ai,e1,e2,Ai,Ai,DX (by omega) (by omega),Ai]
 have:=YT (L:=fun m j s=>HZ b.Wires[i] ls (fun l _=>some l) m s (wrap .i64 (j+1))) (M:=fun m j s=>Hy b.Wires[i] ls (fun _ l=>some l) m (wrap .i64 (j+1)) s) (b.Wires[i].Parent.length-1) (fun j s t=>s.length=j+1∧t.length=b.Wires[i].Parent.length∧t.take (j+1)=s) (fun o o'=>∃r,o=some r∧o'=some r∧r.length=b.Wires[i].Parent.length) ?_ ?_ n 0 [0] (List.replicate ls.length 0) (by omega) (by omega) ?_
 ·rw [show wrap .i64 (((0:Nat):Int)+1)=1 by decide]at this
  exact this
 ·rintro m j s t hj ⟨h1,h2,h3⟩
  have hj1:j+1<b.Wires[i].Parent.length:=by omega
  have ht:=vw.tree (j+1) (by omega) hj1
  have wj:wrap .i64 ((j:Int)+1)=((j+1:Nat):Int):=wS (by omega)
  have hp:∃a,AG s (gd b.Wires[i].Parent (j+1))=some a∧AG t (gd b.Wires[i].Parent (j+1))=some a:=by
   obtain⟨N,hN⟩:=Int.eq_ofNat_of_zero_le ht.1
   have hN:gd b.Wires[i].Parent (j+1)=(N:Int):=hN
   rw [hN]
   have hNs:N<s.length:=by omega
   have hNt:N<t.length:=by omega
   refine⟨s[N],AU hNs,?_⟩
   rw [AU hNt]
   congr 1
   subst h3
   rw [List.getElem_take]
  obtain⟨a,ea,eb⟩:=hp
  simp only [wj,HZ.eq_2,Hy.eq_2,DP (show j+1<ls.length by omega),DP (show j+1<t.length by omega),cT,gI hj1,gI (show j+1<b.Wires[i].Res.length by omega),gI (show j+1<ls.length by omega),gI (show j+1<t.length by omega),Ai,ea,eb]
  rw [CC (by simp;omega) (by omega),Ai]
  refine⟨_,_,⟨by simp;omega,by simpa using h2,?_⟩,rfl,rfl⟩
  rw [Int.toNat_natCast,List.take_set,List.take_succ_eq_append_getElem (by omega:j+1<t.length),h3]
  rw [List.set_append,if_neg (by omega)]
  simp [h1]
 ·rintro m s t ⟨h1,h2,h3⟩
  have wj:wrap .i64 (((b.Wires[i].Parent.length-1:Nat):Int)+1)=(ls.length:Int):=by rw [Ac (by omega) (by omega)];omega
  have e:t=s:=by rw [←h3];rw [List.take_of_length_le (by omega)]
  subst e
  have dl:decide ((ls.length:Int)<(ls.length:Int))=false:=Dc _
  have dt:decide ((ls.length:Int)<(t.length:Int))=false:=by rw [decide_eq_false];omega
  simp only [wj,HZ.eq_2,Hy.eq_2,dl,dt,cF]
  exact⟨t,rfl,rfl,h2⟩
 ·refine⟨rfl,by simp;omega,?_⟩
  rw [List.take_replicate]
  have:min (0+1) ls.length=1:=by omega
  rw [this];rfl
theorem ExE{n:Nat}{b:AO}(v:Bs b){i:Nat}(hi:i<b.Wires.length)(hn:1048577<=n):∃ds,Wp n b (i:Int)=some ds∧ds.length=b.Wires[i].Parent.length∧dB n b (i:Int)=some (b.Wires[i].Sink.map fun k=>gd ds k.toNat):=by
 have vw:=v.wire i hi
 have hf:=Um v hi
 obtain⟨ds,e1,e2,hd⟩:=DlE (n:=n) v hi hn
 refine⟨ds,e1,hd,?_⟩
 rw [dB,e2,Ai,AU hi,Ai]
 have:=Cr (xs:=b.Wires[i].Sink) (L:=fun m s j=>Iy ds b.Wires[i] (fun l _=>some l) m s j) (k:=fun s=>some s) (fun _ (k:Int)=>[gd ds k.toNat]) 1 0 (fun _ _ _=>by simp) (by omega) (by
  intro m j hj s hs
  have hk:=vw.sinks j hj
  rw [uC hj]at hk
  simp only [Iy.eq_2,DP hj,cT,AU hj,Ai,NU hk.1 (show b.Wires[i].Sink[j]<ds.length by omega),wT j]
  rw [CC (by simp;omega) (by omega),Ai]) (by
  intro m s
  simp only [Iy.eq_2,Dc,cF]) n (by omega) [] (by simp)
 rw [this,List.nil_append,QB]
theorem OD{α:Type}{l m:List α}{i:Nat}{d:α}(h:i<l.length):(l++m).getD i d=l.getD i d:=by
 rw [List.getD_eq_getElem?_getD,List.getD_eq_getElem?_getD,List.getElem?_append_left h]
def VwQ(n:Nat)(b:AO)(x:Int)(z:List Int)(q:Nat):Prop:=∀hq:q<b.Wires.length,∃ls ds,eD n b (q:Int)=some ls∧0<ls.length∧x=gd ls 0∧Wp n b (q:Int)=some ds∧ds.length=b.Wires[q].Parent.length∧z=b.Wires[q].Sink.map fun k=>gd ds k.toNat
def yO(n:Nat)(b:AO)(lo:List Int)(de:List (List Int))(j:Nat):Prop:=(lo.length=j∧de.length=j)∧∀q,q<j->VwQ n b (gd lo q) (de.getD q []) q
theorem yO.snoc{n:Nat}{b:AO}{lo:List Int}{de:List (List Int)}{j:Nat}{x:Int}{z:List Int}(h:yO n b lo de j)(k:VwQ n b x z j):yO n b (lo++[x]) (de++[z]) (j+1):=by
 obtain⟨⟨h1,h2⟩,h3⟩:=h
 refine⟨⟨by simp;omega,by simp;omega⟩,fun q hq=>?_⟩
 by_cases c:q=j
 ·subst c
  have e1:gd (lo++[x]) q=x:=by subst h1;simp [gd]
  have e2:(de++[z]).getD q []=z:=by rw [←h2];simp
  rw [e1,e2];exact k
 ·have e1:gd (lo++[x]) q=gd lo q:=by unfold gd;rw [OD (by omega)]
  have e2:(de++[z]).getD q []=de.getD q []:=by rw [OD (by omega)]
  rw [e1,e2];exact h3 q (by omega)
structure NB(n:Nat)(b:AO)(w:BD):Prop where
 blk:w.Block=b
 places:w.places_=Ce b.Design
 links:w.links_=Ff b
 extras:w.extras_=[]
 data:yO n b w.loads_ w.delays_ b.Wires.length
theorem Vw4{n:Nat}{b:AO}(v:Bs b)(hn:1048577<=n):Gc (NB n b) (uM n b):=by
 have vd:=v.design
 have f1:=vd.few.1;have f2:=vd.few.2.1
 have hl:=Cp vd.short vd.few.1 vd.few.2.2
 have hW:=v.many
 have hI:=Do (c:=32) (g:=Qp b) b.Design.Instances 0 fun j x hx=>Ko v j hx
 rw [uM,iZ vd.short vd.few.1 vd.few.2.2 hn,Ai]
 refine ML (L:=fun m j (s:Int×List AS)=>Lj n b _ m s.1 j s.2) b.Design.Instances.length (fun j s=>s.1=(ET b.Design j:Int)∧s.2=EF (Qp b) 0 (b.Design.Instances.take j)) ?_ ?_ n ((0:Int),[]) (by omega) ⟨by simp [ET,EF],by simp [EF]⟩
 ·intro m j s hj ⟨hs1,hs2⟩
  have hlen:=(vd.inst _ (List.getElem_mem hj)).long vd.lib
  have hoff:=(Gf (d:=b.Design) (q:=0) hj (by omega)).lt
  have hsl:=Do (c:=32) (g:=Qp b) (b.Design.Instances.take j) 0 fun i x hx=>Ko v i (List.mem_of_mem_take hx)
  have htl:(b.Design.Instances.take j).length=j:=by simp;omega
  have h32:=Ko v j (List.getElem_mem hj)
  simp only [Lj.eq_2,DP hj,cT,AU hj,Ai,hs1,hs2,AeE v hj hn,Nt,wT j]
  rw [CC (by omega) (by omega),Ai,Ac (by omega) (by omega)]
  exact⟨((ET b.Design (j+1):Int),EF (Qp b) 0 (b.Design.Instances.take (j+1))),⟨rfl,rfl⟩,by rw [Hu hj,Vj hj];rfl⟩
 ·intro m s ⟨_,hs2⟩
  rw [List.take_length]at hs2
  simp only [Lj.eq_2,Dc,cF]
  rw [DX (by omega) (by omega),Ai,DX (by omega) (by omega),Ai,hs2]
  refine ML (L:=fun m j (s:List Int×List (List Int))=>KE (Ce b.Design) _ m j s.1 s.2) (Ce b.Design).length (fun j s=>(s.1.length=b.Wires.length∧s.2.length=b.Wires.length)∧(∀q (h:q<s.2.length),s.2[q]=Ox b.Design q j)∧∀q,q<b.Wires.length->Fh b.Design q<j->gd s.1 q=(Fh b.Design q:Int)) ?_ ?_ n (List.replicate b.Wires.length 0,List.replicate b.Wires.length []) (by omega) ⟨⟨by simp,by simp⟩,fun q h=>by simp [Ox,EF],fun q _ h=>by omega⟩
  ·intro m j s hj ⟨⟨h1,h2⟩,h3,h4⟩
   have hp:=vd.net _ (List.getElem_mem hj)
   obtain⟨N,hN⟩:=Int.eq_ofNat_of_zero_le hp.1
   have hN:(Ce b.Design)[j].net_=(N:Int):=hN
   have hNl:N<b.Wires.length:=by omega
   obtain⟨a,ea⟩:=Fu (t:=s.1) (i:=(N:Int)) (by omega) (by omega)
   have ey:AG s.2 (N:Int)=some s.2[N]:=AU (by omega)
   have hyl:=XZ b.Design N j
   simp only [KE.eq_2,DP hj,cT,AU hj,Ai,hN,ea,ey,h3 N (by omega),Int.toNat_natCast,wT j]
   cases hdr:(Ce b.Design)[j].drives_ with
   |true=>
    rw [cT]
    refine⟨(s.1.set N (j:Int),s.2),⟨⟨by simpa using h1,h2⟩,fun q hq=>?_,fun q hq hlt=>?_⟩,rfl⟩
    ·have:EP (q:Int) (Ce b.Design)[j]=false:=by simp [EP,hdr]
     rw [h3 q hq];unfold Ox
     rw [Hu hj,this];simp
    ·have hd:=Lz vd (q:=q) (by omega)
     rw [Gi (by omega)]
     by_cases c:N=q
     ·subst c
      rw [if_pos rfl,hd.only j hj (by simp [EX,hN,hdr])]
     ·rw [if_neg c]
      refine h4 q hq ?_
      rcases Nat.lt_or_ge (Fh b.Design q) j with h|h
      ·exact h
      ·exfalso
       have ej:Fh b.Design q=j:=by omega
       have hh:=hd.hit
       simp only [EX,Bool.and_eq_true,beq_iff_eq]at hh
       have h5:=hh.1
       simp only [ej]at h5
       rw [hN]at h5;omega
   |false=>
    rw [cF,CC (by simp;omega) (by omega),Ai]
    refine⟨(s.1,s.2.set N (Ox b.Design N j++[(j:Int)])),⟨⟨h1,by simpa using h2⟩,fun q hq=>?_,fun q hq hlt=>?_⟩,rfl⟩
    ·simp only [List.length_set]at hq
     rw [List.getElem_set]
     unfold Ox
     rw [Hu hj]
     by_cases c:N=q
     ·subst c
      have:EP (N:Int) (Ce b.Design)[j]=true:=by simp [EP,hN,hdr]
      rw [if_pos rfl,this];simp
     ·have:EP (q:Int) (Ce b.Design)[j]=false:=by
       have:((N:Int)==(q:Int))=false:=by rw [beq_eq_false_iff_ne];omega
       simp [EP,hN,this]
      rw [if_neg c,this,h3 q (by omega)];simp [Ox]
    ·have hd:=Lz vd (q:=q) (by omega)
     refine h4 q hq ?_
     rcases Nat.lt_or_ge (Fh b.Design q) j with h|h
     ·exact h
     ·exfalso
      have ej:Fh b.Design q=j:=by omega
      have hh:=hd.hit
      simp only [EX,Bool.and_eq_true]at hh
      have h5:=hh.2
      simp only [ej]at h5
      rw [hdr]at h5;cases h5
  ·intro m t ⟨⟨h1,h2⟩,h3,h4⟩
   simp only [KE.eq_2,Dc,cF]
   refine ML (L:=fun m j (s:(List AS×List Int)×List (List Int))=>JP n b t.1 t.2 _ m j s.1.1 s.1.2 s.2) b.Wires.length (fun j u=>(u.1.1=EF (Qp b) 0 b.Design.Instances++EF (fun q (_:ByteArray)=>kW b.Design q) 0 (b.Design.Nets.take j)∧u.1.2.length=j)∧yO n b u.1.2 u.2 j) ?_ ?_ n ((EF (Qp b) 0 b.Design.Instances,[]),[]) (by omega) ⟨⟨by simp [EF],rfl⟩,⟨rfl,rfl⟩,fun q h=>absurd h (Nat.not_lt_zero q)⟩
   ·intro m j u hj ⟨⟨g1,g2⟩,g3⟩
    obtain⟨r,es,er,hr⟩:=LdE (n:=n) v hj hn
    obtain⟨ds,ed,hds,ez⟩:=ExE (n:=n) v hj hn
    have g4:=g3.1.2
    have hlq:=(v.wire j hj).sink
    have hm:=(v.wire j hj).many
    have e0:AG r 0=some (gd r 0):=gI (i:=0) (by omega)
    have hj2:j<t.2.length:=by omega
    have hjN:j<b.Design.Nets.length:=by omega
    have hd:=(Lz vd hjN).lt
    have a1:AG t.1 (j:Int)=some (Fh b.Design j:Int):=by rw [gI (by omega),h4 j hj hd]
    have hsk:t.2[j]=Ez b.Design (j:Int):=by rw [h3 j hj2,XX]
    have hgl:u.1.1.length<=448+156*j:=by
     have q1:=Do (c:=156) (g:=fun q (_:ByteArray)=>kW b.Design q) (b.Design.Nets.take j) 0 fun i x _=>QS vd i
     have q2:(b.Design.Nets.take j).length=j:=by simp;omega
     rw [g1,List.length_append];omega
    have hsl:(Ez b.Design (j:Int)).length<=78:=by
     rw [FQ];exact Nat.le_trans List.countP_le_length hl
    simp only [JP.eq_2,DP hj,cT,Ai,er,e0,ez,AU hj2,hsk]
    rw [CC (by simp;omega) (by omega),Ai,CC (by simp;omega) (by omega),Ai,wT j]
    refine⟨((u.1.1++kW b.Design j,u.1.2++[gd r 0]),u.2++[b.Wires[j].Sink.map fun k=>gd ds k.toNat]),⟨⟨?_,by simp;omega⟩,g3.snoc fun _=>⟨r,ds,es,by omega,rfl,ed,hds,rfl⟩⟩,?_⟩
    ·rw [g1,Hu hjN,List.append_assoc]
    ·refine Cr (xs:=Ez b.Design (j:Int)) (L:=fun m' s k=>Lc n t.1 (j:Int) (Ez b.Design (j:Int)) _ m' k s) (k:=fun s=>JP n b t.1 t.2 _ m ((j+1:Nat):Int) s (u.1.2++[gd r 0]) (u.2++[b.Wires[j].Sink.map fun k=>gd ds k.toNat])) (bC (Fh b.Design j:Int)) 2 u.1.1.length (fun j a _=>by simp [bC]) (by omega) ?_ ?_ n (by omega) u.1.1 (by omega)
     ·intro m k hk s hs
      have hq:=KQ _ (List.getElem_mem hk)
      obtain⟨n',rfl⟩:∃n',n=n'+3:=⟨n-3,by omega⟩
      have w1:wrap .i64 ((0:Int)+1)=1:=by decide
      have w2:wrap .i64 ((1:Int)+1)=2:=by decide
      simp only [Lc.eq_2,DP hk,cT,AU hk,Ai,wT k]
      rw [LY.eq_2,show decide ((0:Int)<2)=true from rfl,cT,a1,Ai,Ac (x:=2*(Fh b.Design j:Int)) (by omega) (by omega),Ac (x:=2*(Ez b.Design (j:Int))[k]) (by omega) (by omega),Ac (x:=2*(Fh b.Design j:Int)+0) (by omega) (by omega),Ac (x:=2*(Ez b.Design (j:Int))[k]+0) (by omega) (by omega),CC (by simp;omega) (by omega),Ai,w1,LY.eq_2,show decide ((1:Int)<2)=true from rfl,cT,a1,Ai,Ac (x:=2*(Fh b.Design j:Int)) (by omega) (by omega),Ac (x:=2*(Ez b.Design (j:Int))[k]) (by omega) (by omega),Ac (x:=2*(Fh b.Design j:Int)+1) (by omega) (by omega),Ac (x:=2*(Ez b.Design (j:Int))[k]+1) (by omega) (by omega),CC (by simp;omega) (by omega),Ai,w2,LY.eq_2,show decide ((2:Int)<2)=false from rfl,cF,List.append_assoc]
      congr 1
      simp [bC]
     ·intro m s
      simp only [Lc.eq_2,Dc,cF]
   ·intro m u ⟨⟨g1,_⟩,g3⟩
    simp only [JP.eq_2,Dc,cF]
    refine⟨_,rfl,⟨rfl,rfl,?_,rfl,g3⟩⟩
    show u.1.1=Ff b
    rw [g1,hW,List.take_length];rfl
theorem NB.at{n:Nat}{b:AO}{w:BD}(h:NB n b w){q:Nat}(hq:q<b.Wires.length):∃ls ds,eD n b (q:Int)=some ls∧0<ls.length∧AG w.loads_ (q:Int)=some (gd ls 0)∧Wp n b (q:Int)=some ds∧ds.length=b.Wires[q].Parent.length∧AG w.delays_ (q:Int)=some (b.Wires[q].Sink.map fun k=>gd ds k.toNat):=by
 obtain⟨⟨h1,h2⟩,h3⟩:=h.data
 obtain⟨ls,ds,e1,e2,e3,e4,e5,e6⟩:=h3 q hq hq
 refine⟨ls,ds,e1,e2,?_,e4,e5,?_⟩
 ·rw [gI (by omega),e3]
 ·rw [AU (by omega:q<w.delays_.length),←e6]
  simp [List.getD_eq_getElem?_getD,show q<w.delays_.length by omega]
theorem zL{n:Nat}{c:Aj}{k m:Int}:∃r,Vq n c k m=some r∧Vw n c k m=some r:=by
 rw [Vq,Vw]
 cases(k==1)<;>cases(m==0)<;>exact⟨_,rfl,rfl⟩
theorem vE{n:Nat}{p f m:Int}:∃r,(Option.bind (LF n (wrap .i64 (p*f)) 1000 m) fun r=>some r)=some r∧(Option.bind (WQ n p f m) fun r=>some r)=some r:=by
 obtain⟨r,e1,e2⟩:=Dv (n:=n) (s:=wrap .i64 (p*f)) (D:=1000) (mode:=m) (by omega)
 rw [WQ,e1,e2];exact⟨r,rfl,rfl⟩
theorem tG{n:Nat}{b:AO}(v:Bs b){w:BD}(h:NB n b w){x:AS}(ok:Tg b x)(k:x.Kind=1)(hn:1048577<=n):
 ∃a z,∃N:Nat,Pw n b x=some (a,z)∧Wm n w x=some a∧QF n w x=some (N:Int)∧AG w.loads_ (N:Int)=some z∧Qq a.Delay true∧Qq a.Slew true:=by
 have vd:=v.design
 obtain⟨a0,z0,e0,d0,s0⟩:=xJ (n:=n) v ok k hn
 obtain⟨p,y,c,a,g1,pm,g2,g3,g4,kd⟩:=ok.arc k
 have hp:=vd.net p pm
 have hW:=v.many
 obtain⟨N,hN⟩:=Int.eq_ofNat_of_zero_le hp.1
 have hN:p.net_=(N:Int):=hN
 have hNl:N<b.Wires.length:=by omega
 obtain⟨ls,ds,l1,l2,l3,_⟩:=h.at hNl
 have g1':AG ((Ce b.Design).map GD) (wrap .i64 (Int.tdiv x.To 2))=some (GD p):=by
  obtain⟨g0,g5,g6⟩:=EQ g1
  obtain⟨M,hM⟩:=Int.eq_ofNat_of_zero_le g0
  have hM:wrap .i64 (Int.tdiv x.To 2)=(M:Int):=hM
  rw [hM]at g6 ⊢
  rw [EA,List.getElem?_map]
  rw [Int.toNat_natCast]at g6
  rw [g6];rfl
 have g2':AG b.Design.Instances (GD p).instance_=some y:=g2
 have hN':(GD p).net_=(N:Int):=hN
 have es:Pw n b x=some (a,gd ls 0):=by
  rw [Pw,Qn vd.short vd.few.1 vd.few.2.2 hn]
  have q0:AG ls 0=some (gd ls 0):=gI (i:=0) l2
  simp only [Ai,g1',g2',g3,g4,hN',l1]
  rw [q0];rfl
 rw [es]at e0
 obtain⟨rfl,rfl⟩:=Prod.mk.inj (Option.some.inj e0)
 refine⟨a,gd ls 0,N,es,?_,?_,l3,d0,s0⟩
 ·rw [Wm,h.places,h.blk,g1]
  simp only [Ai,g2,g3,g4]
 ·rw [QF,h.places,g1,Ai,hN]
theorem uS{n:Nat}{b:AO}(v:Bs b){w:BD}(hv:NB n b w){x:AS}{f t q j:Nat}(h:dX b x f t q j):QF n w x=some (q:Int):=by
 have vd:=v.design
 have hl:=Cp vd.short vd.few.1 vd.few.2.2
 obtain⟨ht,_,hq⟩:=h.snk
 have e1:wrap .i64 (Int.tdiv x.To 2)=(t:Int):=by
  have h0:0<=x.To:=by have:=h.to_;omega
  have e:Int.tdiv x.To 2=(t:Int):=by rw [Int.tdiv_eq_ediv_of_nonneg h0];have:=h.to_;omega
  rw [e,Ac (by omega) (by omega)]
 rw [QF,hv.places,e1,AU ht,Ai,hq]
theorem SdE{n:Nat}{b:AO}(v:Bs b){i:Nat}(hi:i<b.Wires.length){mode:Int}{ds:List Int}(e:Wp n b (i:Int)=some ds)(hd:ds.length=b.Wires[i].Parent.length)(hn:1048577<=n):
 ∃r,Zh n b (i:Int) mode=some r∧r.length=b.Wires[i].Sink.length∧∀j (hj:j<b.Wires[i].Sink.length),LF n (gd ds (b.Wires[i].Sink[j]).toNat) 1000 mode=some (gd r j):=by
 have vw:=v.wire i hi
 have hm:=vw.many
 have hf:=Um v hi
 rw [Zh,e,Ai]
 refine loop (L:=fun m j s=>IW n b (i:Int) mode ds _ m s j) b.Wires[i].Sink.length (fun j s=>s.length=j∧∀k (hk:k<b.Wires[i].Sink.length),k<j->LF n (gd ds (b.Wires[i].Sink[k]).toNat) 1000 mode=some (gd s k)) (fun o=>∃r,o=some r∧r.length=b.Wires[i].Sink.length∧∀j (hj:j<b.Wires[i].Sink.length),LF n (gd ds (b.Wires[i].Sink[j]).toNat) 1000 mode=some (gd r j)) ?_ ?_ n 0 [] (by omega) (by omega) ⟨rfl,fun k hk h=>absurd h (Nat.not_lt_zero k)⟩
 ·rintro m j s hj ⟨h1,h2⟩
  have hk:=vw.sinks j hj
  rw [uC hj]at hk
  obtain⟨r,er⟩:=DvT (n:=n) (s:=gd ds (b.Wires[i].Sink[j]).toNat) (D:=1000) (mode:=mode) (by omega)
  simp only [IW.eq_2,AU hi,Ai,DP hj,cT,AU hj,NU hk.1 (show b.Wires[i].Sink[j]<ds.length by omega),er,wT j]
  rw [CC (by simp;omega) (by omega),Ai]
  refine .inl ⟨_,⟨by simp;omega,fun k hk2 hkj=>?_⟩,rfl⟩
  by_cases c:k=j
  ·subst c
   rw [er];congr 1;subst h1;simp [gd]
  ·rw [h2 k hk2 (by omega)];congr 1;unfold gd;rw [OD (by omega)]
 ·rintro m s ⟨h1,h2⟩
  simp only [IW.eq_2,AU hi,Ai,Dc,cF]
  exact⟨s,rfl,h1,fun j hj=>h2 j hj hj⟩
theorem gH{n:Nat}{b:AO}(v:Bs b){w:BD}(hv:NB n b w){x:AS}(hx:x∈Ff b){k:Int}(hk:AG w.links_ k=some x){c:Aj}{s m:Int}(hn:1048577<=n):∃r,Rm n b c x s m=some r∧SY n w c k s m=some r:=by
 have ok:=Om v x hx
 rw [Rm,SY,hk,Ai]
 obtain⟨fa,f1,f2⟩:=zL (n:=n) (c:=c) (k:=x.Kind) (m:=m)
 rcases UK v x hx with k|⟨f,t,q,j,h⟩
 ·obtain⟨a,z,N,e1,e2,e3,e4,hd,_⟩:=tG v hv ok k hn
  have pr:=UL ok.to_.1
  obtain⟨u,eu,hu⟩:=Gc.get (Q:=fun u=>VT u∧(true=true->_)) pr.1 (by rw [hd.1];exact pr.2) hd.2
  obtain⟨r,r1,r2⟩:=Lk (n:=n) hu.1 s z m hn
  rw [e3,Ai,beq_iff_eq.2 k,cT,cT,e1,Ai,e2,Ai]
  simp only [eu,Ai,e4,r1,r2,f1,f2]
  exact vE
 ·have k1:(x.Kind==1)=false:=by rw [beq_eq_false_iff_ne,h.kind];omega
  obtain⟨hq,hj⟩:=h.sinks
  obtain⟨ls,ds,_,_,_,l1,l2,l3⟩:=hv.at hq
  obtain⟨sd,s1,s2,s3⟩:=SdE (mode:=m) v hq l1 l2 hn
  have hs3:=s3 j hj
  obtain⟨r,r1,r2⟩:=Dv (n:=n) (s:=gd ds (b.Wires[q].Sink[j]).toNat) (D:=1000) (mode:=m) (by omega)
  rw [r1]at hs3
  obtain rfl:=Option.some.inj hs3
  have em:AG (b.Wires[q].Sink.map fun k=>gd ds k.toNat) (j:Int)=some (gd ds (b.Wires[q].Sink[j]).toNat):=by
   rw [AU (by simpa using hj),List.getElem_map]
  rw [uS v hv h,Ai,k1,cF,cF,kP v h hn,Ai,s1,Ai,h.ix,gI (by omega),Ai,l3,Ai,em,Ai]
  simp only [r2,Ai,f1,f2]
  exact vE
theorem AaF{n:Nat}{x:Int}(hn:1048577<=n):Gc (fun _=>True) (Xn n x):=by
 rw [Xn]
 have key:∀(m:Nat) (i j:Int),0<=i->i<=j->j<=3000000000->j-i<2^m->Gc (fun _=>True) (HC x (fun i _=>some i) (m+1) i j):=by
  intro m
  induction m with
  |zero=>
   intro i j h0 h1 h2 h3
   have:i=j:=by simp at h3;omega
   subst this
   rw [HC.eq_2,decide_eq_false (by omega),cF]
   exact Df trivial
  |succ m ih=>
   intro i j h0 h1 h2 h3
   rw [Int.pow_succ]at h3
   rw [HC.eq_2]
   by_cases c:i<j
   ·have w1:wrap .i64 (i+j)=i+j:=Ac (by omega) (by omega)
    have w2:wrap .i64 (i+j+1)=i+j+1:=Ac (by omega) (by omega)
    have e:Int.tdiv (i+j+1) 2=(i+j+1)/2:=Int.tdiv_eq_ediv_of_nonneg (by omega)
    have w3:wrap .i64 ((i+j+1)/2)=(i+j+1)/2:=Ac (by omega) (by omega)
    have w4:wrap .i64 ((i+j+1)/2-1)=(i+j+1)/2-1:=Ac (by omega) (by omega)
    rw [decide_eq_true c,cT,w1,w2,e,w3,w4]
    exact Ki (fun _=>ih _ _ (by omega) (by omega) h2 (by omega)) fun _=>ih _ _ h0 (by omega) (by omega) (by omega)
   ·rw [decide_eq_false c,cF]
    exact Df trivial
 obtain⟨m,rfl⟩:∃m,n=m+1:=⟨n-1,by omega⟩
 refine key m 0 3000000000 (by omega) (by omega) (by omega) ?_
 have h1:(2:Int)^40<=2^m:=by
  have:=Nat.pow_le_pow_right (show 1<=2 by omega) (show 40<=m by omega)
  exact_mod_cast this
 have h2:(2:Int)^40=1099511627776:=by decide
 omega
theorem AfU{n:Nat}{s d m:Int}(hn:1048577<=n):Gc (fun _=>True) (YC n s d m):=by
 rw [YC]
 refine Gc.bind (AaF hn) fun r _ _=>Ki (fun _=>Df trivial) fun _=>?_
 obtain⟨q,_,e⟩:=Dv (n:=n) (s:=r) (D:=500) (mode:=m) (by omega)
 rw [e];exact Df trivial
theorem eV{n:Nat}{b:AO}(v:Bs b){w:BD}(hv:NB n b w){x:AS}(hx:x∈Ff b){k:Int}(hk:AG w.links_ k=some x){s m:Int}(hn:1048577<=n):Gc (fun _=>True) (NQ n w k s m):=by
 have ok:=Om v x hx
 rw [NQ,hk,Ai]
 rcases UK v x hx with k|⟨f,t,q,j,h⟩
 ·obtain⟨a,z,N,_,e2,e3,e4,_,hd⟩:=tG v hv ok k hn
  have pr:=UL ok.to_.1
  rw [e3,Ai,beq_iff_eq.2 k,cT,e2,Ai,e4]
  refine Gc.bind (Gc.get pr.1 (by rw [hd.1];exact pr.2) hd.2) fun u _ hu=>?_
  obtain⟨r,_,r2⟩:=Lk (n:=n) hu.1 s z m hn
  rw [Ai,r2];exact Df trivial
 ·have k1:(x.Kind==1)=false:=by rw [beq_eq_false_iff_ne,h.kind];omega
  obtain⟨hq,hj⟩:=h.sinks
  obtain⟨ls,ds,_,_,_,l1,l2,l3⟩:=hv.at hq
  rw [uS v hv h,Ai,k1,cF,l3,Ai,h.ix,AU (by simpa using hj),Ai]
  exact Gc.bind (AfU hn) fun _ _ _=>Df trivial
theorem AdA{n:Nat}{b:AO}(v:Bs b){w:BD}(hv:NB n b w){x:AS}(hx:x∈Ff b){k:Int}(hk:AG w.links_ k=some x){c:Aj}{s:AX}(hn:1048577<=n):∃d z z',UV n b c x s=some (d,z)∧dC n w c k s=some (d,z'):=by
 obtain⟨a1,p1,q1⟩:=gH (c:=c) (s:=s.Early) (m:=0) v hv hx hk hn
 obtain⟨a2,p2,q2⟩:=gH (c:=c) (s:=s.Early) (m:=1) v hv hx hk hn
 obtain⟨a3,p3,q3⟩:=gH (c:=c) (s:=s.Late) (m:=0) v hv hx hk hn
 obtain⟨a4,p4,q4⟩:=gH (c:=c) (s:=s.Late) (m:=1) v hv hx hk hn
 obtain⟨b1,g1,_⟩:=jA (s:=s.Early) (m:=0) v hx hn
 obtain⟨b2,g2,_⟩:=jA (s:=s.Early) (m:=1) v hx hn
 obtain⟨b3,g3,_⟩:=jA (s:=s.Late) (m:=0) v hx hn
 obtain⟨b4,g4,_⟩:=jA (s:=s.Late) (m:=1) v hx hn
 obtain⟨c1,h1,_⟩:=eV (s:=s.Early) (m:=0) v hv hx hk hn
 obtain⟨c2,h2,_⟩:=eV (s:=s.Early) (m:=1) v hv hx hk hn
 obtain⟨c3,h3,_⟩:=eV (s:=s.Late) (m:=0) v hv hx hk hn
 obtain⟨c4,h4,_⟩:=eV (s:=s.Late) (m:=1) v hv hx hk hn
 rw [UV,dC]
 have he:(decide ((w.extras_.length:Int)>0))=false:=by rw [hv.extras];rfl
 simp only [p1,p2,p3,p4,q1,q2,q3,q4,g1,g2,g3,g4,h1,h2,h3,h4,hk,Ai,he,Bool.false_and,cF]
 exact⟨_,_,_,rfl,rfl⟩
def Qi(L:List AS)(k:Nat):Int:=match L[k]? with
 |some x=>x.To
 |none=>0
def MF(L:List AS)(k:Nat):Int:=match L[k]? with
 |some x=>x.From
 |none=>0
theorem Qd{L:List AS}{k:Nat}(h:k<L.length):Qi L k=L[k].To:=by simp [Qi,h]
theorem IF{L:List AS}{k:Nat}(h:k<L.length):MF L k=L[k].From:=by simp [MF,h]
def MB(p:Nat->Bool)(N:Nat):List Int:=((List.range N).filter p).map fun k:Nat=>(k:Int)
theorem Fv(p:Nat->Bool)(i:Nat):MB p (i+1)=MB p i++(if p i=true then [(i:Int)]else []):=by
 unfold MB
 rw [List.range_succ,List.filter_append,List.map_append]
 by_cases h:p i=true
 ·simp [h]
 ·simp [h]
theorem MU(p:Nat->Bool)(N:Nat):(MB p N).length<=N:=by
 unfold MB;rw [List.length_map];exact Nat.le_trans (List.length_filter_le _ _) (by simp)
theorem Uv{p:Nat->Bool}{N:Nat}{x:Int}(h:x∈MB p N):∃k,k<N∧x=(k:Int)∧p k=true:=by
 obtain⟨k,hk,rfl⟩:=List.mem_map.1 h
 obtain⟨h1,h2⟩:=List.mem_filter.1 hk
 exact⟨k,List.mem_range.1 h1,rfl,h2⟩
theorem PP(p:Nat->Bool)(f:Nat->Bool)(N:Nat):(MB p N).countP (fun k=>f k.toNat)=(List.range N).countP fun k=>f k&&p k:=by
 unfold MB
 rw [List.countP_map,List.countP_filter]
 rfl
theorem tL{n:Nat}{g:BY}{u:Int}(hl:g.view_.links_.length<=1048576)(hv:g.live_.length=g.view_.links_.length)(hn:1048577<=n):TS n g u=some (MB (fun k=>gb g.live_ k&&(MF g.view_.links_ k==u)) g.view_.links_.length):=by
 rw [TS,gK]
 have:GV n g u (fun l31 i35=>(some l31)) n (([]:List Int)) 0=some (MB (fun k=>gb g.live_ k&&(MF g.view_.links_ k==u)) g.view_.links_.length):=by
  refine loop (L:=fun m i s=>GV n g u (fun l _=>some l) m s i) g.view_.links_.length (fun i s=>s=MB (fun k=>gb g.live_ k&&(MF g.view_.links_ k==u)) i) (fun o=>o=some (MB (fun k=>gb g.live_ k&&(MF g.view_.links_ k==u)) g.view_.links_.length)) ?_ ?_ n 0 [] (by omega) (by omega) rfl
  ·rintro m i s hi rfl
   have hs:=MU (fun k=>gb g.live_ k&&(MF g.view_.links_ k==u)) i
   simp only [GV.eq_2,DP hi,cT,AU hi,JU (show i<g.live_.length by omega),Ai,hY,wT i]
   cases c:gb g.live_ i with
   |false=>
    refine .inl ⟨_,rfl,?_⟩
    rw [cF,Ai,cF,Fv];simp [c]
   |true=>
    rw [cT,Ai]
    cases e:(g.view_.links_[i].From==u)with
    |false=>refine .inl ⟨_,rfl,?_⟩;rw [cF,Fv];simp [c,IF hi,e]
    |true=>
     refine .inl ⟨_,rfl,?_⟩
     rw [cT,CC (by simp;omega) (by omega),Ai,Fv];simp [c,IF hi,e]
  ·rintro m s rfl
   simp only [GV.eq_2,Dc,cF]
 rw [this,Ai]
theorem AaA{n:Nat}{g:BY}(hl:g.view_.links_.length<=1048576)(hv:g.live_.length=g.view_.links_.length)(hn:1048577<=n):Yc n g=some (MB (fun k=>gb g.live_ k) g.view_.links_.length):=by
 rw [Yc]
 refine loop (L:=fun m i s=>HD n g (fun l _=>some l) m s i) g.view_.links_.length (fun i s=>s=MB (fun k=>gb g.live_ k) i) (fun o=>o=some (MB (fun k=>gb g.live_ k) g.view_.links_.length)) ?_ ?_ n 0 [] (by omega) (by omega) rfl
 ·rintro m i s hi rfl
  have hs:=MU (fun k=>gb g.live_ k) i
  simp only [HD.eq_2,DP hi,cT,AU hi,JU (show i<g.live_.length by omega),Ai,eO,wT i]
  cases c:gb g.live_ i with
  |false=>refine .inl ⟨_,rfl,?_⟩;rw [cF,Ai,cF,Fv];simp [c]
  |true=>refine .inl ⟨_,rfl,?_⟩;rw [cT,Ai,cT,CC (by simp;omega) (by omega),Ai,Fv];simp [c]
 ·rintro m s rfl
  simp only [HD.eq_2,Dc,cF]
def Ib(L:List AS)(lv l:List Bool)(q:Int)(i:Nat):Nat:=(List.range i).countP fun k=>gb lv k&&(Qi L k==q)&& !gb l (MF L k).toNat
theorem Mt(L:List AS)(lv l:List Bool)(q:Int)(i:Nat):Ib L lv l q (i+1)=Ib L lv l q i+(if (gb lv i&&(Qi L i==q)&& !gb l (MF L i).toNat)=true then 1 else 0):=by
 unfold Ib;rw [List.range_succ,List.countP_append,List.countP_singleton]
theorem fV(L:List AS)(lv l:List Bool)(q:Int)(i:Nat):Ib L lv l q i<=i:=by
 unfold Ib;exact Nat.le_trans List.countP_le_length (by simp)
theorem Nm{α:Type}{p q r:α->Bool}:∀{xs:List α},(∀x∈xs,(p x).toNat+(q x).toNat=(r x).toNat)->xs.countP p+xs.countP q=xs.countP r
 |[],_=>rfl
 |x::xs,h=>by
  have h1:=Nm (xs:=xs) fun y hy=>h y (List.mem_cons_of_mem _ hy)
  have h2:=h x List.mem_cons_self
  have e:∀b:Bool,(if b=true then 1 else 0)=b.toNat:=by decide
  rw [List.countP_cons,List.countP_cons,List.countP_cons,e,e,e];omega
theorem aP{L:List AS}{lv l:List Bool}{q:Int}{x:Nat}(hx:x<l.length)(hf:gb l x=false)(hL:∀k,k<L.length->0<=MF L k):Ib L lv (l.set x true) q L.length+(List.range L.length).countP (fun k=>(Qi L k==q)&&(gb lv k&&(MF L k==(x:Int))))=Ib L lv l q L.length:=by
 unfold Ib
 refine Nm fun k hk=>?_
 have hk:=hL k (List.mem_range.1 hk)
 rw [Mp hx]
 cases gb lv k with
 |false=>simp
 |true=>
  cases(Qi L k==q)with
  |false=>simp
  |true=>
   by_cases e:x=(MF L k).toNat
   ·have e2:(MF L k==(x:Int))=true:=by rw [beq_iff_eq];omega
    rw [if_pos e,e2,←e,hf];rfl
   ·have e2:(MF L k==(x:Int))=false:=by rw [beq_eq_false_iff_ne];omega
    rw [if_neg e,e2];cases gb l (MF L k).toNat<;>rfl
def kQ(P:Nat->Prop)(N x:Nat):Prop:=x<=N∧(∀q,q<x->¬P q)∧(x<N->P x)
theorem kQ.uniq{P:Nat->Prop}{N x y:Nat}(h:kQ P N x)(k:kQ P N y):x=y:=by
 rcases Nat.lt_trichotomy x y with c|c|c
 ·exact absurd (h.2.2 (by have:=k.1;omega)) (k.2.1 x c)
 ·exact c
 ·exact absurd (k.2.2 (by have:=h.1;omega)) (h.2.1 y c)
theorem AgE{n:Nat}{op:List Int}(hl:op.length<=1048576)(hn:1048577<=n):∃x,kQ (fun q=>gd op q=0) op.length x∧dW n op 0=some (if x<op.length then(x:Int)else-1):=by
 rw [dW]
 refine loop (L:=fun m i (_:Unit)=>JF op 0 (fun _=>some (-1)) m i) op.length (fun i _=>∀q,q<i->¬gd op q=0) (fun o=>∃x,kQ (fun q=>gd op q=0) op.length x∧o=some (if x<op.length then(x:Int)else-1)) ?_ ?_ n 0 () (by omega) (by omega) (fun q h=>absurd h (Nat.not_lt_zero q))
 ·intro m i _ hi h
  simp only [JF.eq_2,DP hi,cT,gI hi,Ai,wT i]
  cases c:((0:Int)==gd op i)with
  |true=>
   have c:=beq_iff_eq.1 c
   exact .inr ⟨i,⟨by omega,h,fun _=>c.symm⟩,by rw [cT,if_pos hi]⟩
  |false=>
   have c:=beq_eq_false_iff_ne.1 c
   refine .inl ⟨(),fun q hq=>?_,rfl⟩
   by_cases e:q=i
   ·subst e;exact fun z=>c z.symm
   ·exact h q (by omega)
 ·intro m _ h
  simp only [JF.eq_2,Dc,cF]
  exact⟨op.length,⟨Nat.le_refl _,h,fun z=>by omega⟩,by rw [if_neg (by omega)]⟩
theorem NxS{N:Nat}{l w:List Bool}{K:Int->Option (List Int×Bool)}(h1:l.length=N)(h2:w.length=N)(hN:N<=1000)(m:Nat)(hm:1048577<=m):∃x,kQ (fun q=>gb l q=false∧gb w q=false) N x∧IQ (N:Int) l w K m 0=K (x:Int):=by
 refine loop (L:=fun m i (_:Unit)=>IQ (N:Int) l w K m i) N (fun i _=>∀q,q<i->¬(gb l q=false∧gb w q=false)) (fun o=>∃x,kQ (fun q=>gb l q=false∧gb w q=false) N x∧o=K (x:Int)) ?_ ?_ m 0 () (by omega) (by omega) (fun q h=>absurd h (Nat.not_lt_zero q))
 ·intro m i _ hi h
  simp only [IQ.eq_2,DP hi,cT,JU (show i<l.length by omega),JU (show i<w.length by omega),Ai,wT i]
  cases a:gb l i with
  |true=>
   refine .inl ⟨(),fun q hq=>?_,rfl⟩
   by_cases e:q=i
   ·subst e;rw [a];simp
   ·exact h q (by omega)
  |false=>
   cases c:gb w i with
   |true=>
    refine .inl ⟨(),fun q hq=>?_,rfl⟩
    by_cases e:q=i
    ·subst e;rw [c];simp
    ·exact h q (by omega)
   |false=>exact .inr ⟨i,⟨by omega,h,fun _=>⟨a,c⟩⟩,rfl⟩
 ·intro m _ h
  simp only [IQ.eq_2,Dc,cF,Ai]
  exact⟨N,⟨Nat.le_refl _,h,fun z=>by omega⟩,rfl⟩
theorem AcQ{N:Nat}{L:List AS}{lv l:List Bool}(hL:Rk L N)(hlv:lv.length=L.length)(hl:L.length<=10000)(h2:l.length=N){K:Int->List Bool->Option (List Int×Bool)}{m:Nat}(hm:1048577<=m):∃w:List Bool,w.length=N∧(∀q,q<N->gb w q=decide (0<Ib L lv l (q:Int) L.length))∧∃j,Ip L lv l K m 0 (List.replicate N false)=K j w:=by
 refine loop (L:=fun m i w=>Ip L lv l K m i w) L.length (fun i w=>w.length=N∧∀q,q<N->gb w q=decide (0<Ib L lv l (q:Int) i)) (fun o=>∃w:List Bool,w.length=N∧(∀q,q<N->gb w q=decide (0<Ib L lv l (q:Int) L.length))∧∃j,o=K j w) ?_ ?_ m 0 (List.replicate N false) (by omega) (by omega) ⟨by simp,fun q hq=>by simp [Ib,gb,hq]⟩
 ·rintro m i w hi ⟨g1,g2⟩
  have hf:=hL.from_ i hi
  have ht:=hL.to_ i hi
  obtain⟨F,eF⟩:=Int.eq_ofNat_of_zero_le hf.1
  have eF:L[i].From=(F:Int):=eF
  obtain⟨T,eT⟩:=Int.eq_ofNat_of_zero_le ht.1
  have eT:L[i].To=(T:Int):=eT
  simp only [Ip.eq_2,DP hi,cT,AU hi,JU (show i<lv.length by omega),Ai,eF,eT,JU (show F<l.length by omega),JU (show T<w.length by omega),Int.toNat_natCast,wT i]
  have key:∀c:Bool,(gb lv i&& !gb l F)=c->∀q:Nat,(gb lv i&&(Qi L i==(q:Int))&& !gb l (MF L i).toNat)=(c&&decide (T=q)):=fun c hc q=>by
   rw [Qd hi,IF hi,eF,eT,Int.toNat_natCast,←hc]
   by_cases e:T=q
   ·subst e;simp
   ·have:((T:Int)==(q:Int))=false:=by rw [beq_eq_false_iff_ne];omega
    rw [this,decide_eq_false e];simp
  cases c:gb lv i with
  |false=>
   refine .inl ⟨w,⟨g1,fun q hq=>?_⟩,rfl⟩
   rw [g2 q hq,Mt,key false (by rw [c];rfl)];simp
  |true=>
   cases d:gb l F with
   |true=>
    refine .inl ⟨w,⟨g1,fun q hq=>?_⟩,rfl⟩
    rw [g2 q hq,Mt,key false (by rw [c,d];rfl)];simp
   |false=>
    refine .inl ⟨w.set T true,⟨by simpa using g1,fun q hq=>?_⟩,rfl⟩
    rw [Mp (by omega),Mt,key true (by rw [c,d];rfl),g2 q hq]
    by_cases e:T=q
    ·simp [e]
    ·simp [e]
 ·rintro m w ⟨g1,g2⟩
  simp only [Ip.eq_2,Dc,cF]
  exact⟨w,g1,g2,_,rfl⟩
theorem AdI{N:Nat}{g:BY}(hL:Rk g.view_.links_ N)(hl:g.view_.links_.length<=10000){r:List Int}(hr:r.length<=10000)(hk:∀x∈r,0<=x∧x<(g.view_.links_.length:Int)){op:List Int}(ho:op.length=N)(hb:∀q,q<N->0<=gd op q∧gd op q<=10000){K:Int->List Int->Option (List Int×Bool)}{m:Nat}(hm:1048577<=m):
 ∃op':List Int,op'.length=N∧(∀q,q<N->gd op' q=gd op q+(r.countP fun k=>Qi g.view_.links_ k.toNat==(q:Int)))∧∃j,Jf g r K m 0 op=K j op':=by
 refine loop (L:=fun m i s=>Jf g r K m i s) r.length (fun i s=>s.length=N∧∀q,q<N->gd s q=gd op q+((r.take i).countP fun k=>Qi g.view_.links_ k.toNat==(q:Int))) (fun o=>∃op':List Int,op'.length=N∧(∀q,q<N->gd op' q=gd op q+(r.countP fun k=>Qi g.view_.links_ k.toNat==(q:Int)))∧∃j,o=K j op') ?_ ?_ m 0 op (by omega) (by omega) ⟨ho,fun q _=>by simp⟩
 ·rintro m i s hi ⟨h1,h2⟩
  have hx:=hk _ (List.getElem_mem hi)
  obtain⟨k,ek⟩:=Int.eq_ofNat_of_zero_le hx.1
  have ek:r[i]=(k:Int):=ek
  have hkl:k<g.view_.links_.length:=by omega
  have ht:=hL.to_ k hkl
  obtain⟨T,eT⟩:=Int.eq_ofNat_of_zero_le ht.1
  have eT:g.view_.links_[k].To=(T:Int):=eT
  have hT:=h2 T (by omega)
  have hbT:=hb T (by omega)
  have hc:((r.take i).countP fun k=>Qi g.view_.links_ k.toNat==(T:Int))<=10000:=Nat.le_trans List.countP_le_length (by simp;omega)
  simp only [Jf.eq_2,DP hi,cT,AU hi,ek,AU hkl,Ai,eT,gI (show T<s.length by omega),Int.toNat_natCast,wT i]
  refine .inl ⟨_,⟨by simpa using h1,fun q hq=>?_⟩,rfl⟩
  rw [Gi (by omega),List.take_succ_eq_append_getElem hi,List.countP_append,List.countP_singleton,ek,Int.toNat_natCast,Qd hkl,eT]
  by_cases e:T=q
  ·subst e
   rw [if_pos rfl,Ac (by omega) (by omega),hT];simp;omega
  ·have:((T:Int)==(q:Int))=false:=by rw [beq_eq_false_iff_ne];omega
   rw [if_neg e,h2 q hq,this];simp
 ·rintro m s ⟨h1,h2⟩
  simp only [Jf.eq_2,Dc,cF]
  rw [List.take_length]at h2
  exact⟨s,h1,h2,_,rfl⟩
theorem AfG{N:Nat}{g:BY}(hL:Rk g.view_.links_ N)(hl:g.view_.links_.length<=10000){r:List Int}(hr:r.length<=10000)(hk:∀x∈r,0<=x∧x<(g.view_.links_.length:Int)){op:List Int}(ho:op.length=N)(hb:∀q,q<N-> -1<=gd op q∧gd op q<=10000){K:Int->List Int->Option (List Int×Bool)}{m:Nat}(hm:1048577<=m):
 ∃op':List Int,op'.length=N∧(∀q,q<N->gd op' q=gd op q-(r.countP fun k=>Qi g.view_.links_ k.toNat==(q:Int)))∧∃j,Jo g r K m 0 op=K j op':=by
 refine loop (L:=fun m i s=>Jo g r K m i s) r.length (fun i s=>s.length=N∧∀q,q<N->gd s q=gd op q-((r.take i).countP fun k=>Qi g.view_.links_ k.toNat==(q:Int))) (fun o=>∃op':List Int,op'.length=N∧(∀q,q<N->gd op' q=gd op q-(r.countP fun k=>Qi g.view_.links_ k.toNat==(q:Int)))∧∃j,o=K j op') ?_ ?_ m 0 op (by omega) (by omega) ⟨ho,fun q _=>by simp⟩
 ·rintro m i s hi ⟨h1,h2⟩
  have hx:=hk _ (List.getElem_mem hi)
  obtain⟨k,ek⟩:=Int.eq_ofNat_of_zero_le hx.1
  have ek:r[i]=(k:Int):=ek
  have hkl:k<g.view_.links_.length:=by omega
  have ht:=hL.to_ k hkl
  obtain⟨T,eT⟩:=Int.eq_ofNat_of_zero_le ht.1
  have eT:g.view_.links_[k].To=(T:Int):=eT
  have hT:=h2 T (by omega)
  have hbT:=hb T (by omega)
  have hc:((r.take i).countP fun k=>Qi g.view_.links_ k.toNat==(T:Int))<=10000:=Nat.le_trans List.countP_le_length (by simp;omega)
  simp only [Jo.eq_2,DP hi,cT,AU hi,ek,AU hkl,Ai,eT,gI (show T<s.length by omega),Int.toNat_natCast,wT i]
  refine .inl ⟨_,⟨by simpa using h1,fun q hq=>?_⟩,rfl⟩
  rw [Gi (by omega),List.take_succ_eq_append_getElem hi,List.countP_append,List.countP_singleton,ek,Int.toNat_natCast,Qd hkl,eT]
  by_cases e:T=q
  ·subst e
   rw [if_pos rfl,Ac (by omega) (by omega),hT];simp;omega
  ·have:((T:Int)==(q:Int))=false:=by rw [beq_eq_false_iff_ne];omega
   rw [if_neg e,h2 q hq,this];simp
 ·rintro m s ⟨h1,h2⟩
  simp only [Jo.eq_2,Dc,cF]
  rw [List.take_length]at h2
  exact⟨s,h1,h2,_,rfl⟩
structure OrI(L:List AS)(lv:List Bool)(N:Nat)(o:List Int)(l:List Bool)(op:List Int):Prop where
 len:l.length=N
 olen:op.length=N
 old:∀q,q<N->gb l q=true->gd op q= -1∧Ib L lv l (q:Int) L.length=0
 new:∀q,q<N->gb l q=false->gd op q=(Ib L lv l (q:Int) L.length:Int)
theorem AaU{n:Nat}{g:BY}{N:Nat}(hL:Rk g.view_.links_ N)(hv:g.live_.length=g.view_.links_.length)(hl:g.view_.links_.length<=10000)(hN:N<=1000)(hp:PB n g.view_=some (N:Int))(hn:1048577<=n):∃r,wC n (N:Int) g.view_.links_ g.live_=some r∧vI n g=some r∧r.1.length<=N:=by
 rw [wC,vI,hp,DX (by omega) (by omega),Ai,Ai,DX (by omega) (by omega),Ai,AaA (by omega) hv hn,Ai]
 have hcl:=fV g.view_.links_ g.live_
 obtain⟨op0,a1,a2,j0,a3⟩:=AdI (g:=g) hL hl (r:=MB (fun k=>gb g.live_ k) g.view_.links_.length) (Nat.le_trans (MU _ _) hl) (fun x hx=>by obtain⟨k,h1,rfl,_⟩:=Uv hx;omega) (op:=List.replicate N 0) (by simp) (fun q hq=>by rw [Lo];omega) (K:=fun i57 l60=>(JN n g l60 (fun l69 i73 l76=>(some (l69,true))) n (([]:List Int)) 0 l60)) (m:=n) hn
 rw [a3]
 have key:∀(m i:Nat) (o:List Int) (l:List Bool) (op:List Int),i<=N->N-i<m->o.length=i->OrI g.view_.links_ g.live_ N o l op->
  ∃r,Jt n (N:Int) g.view_.links_ g.live_ (fun l32 l36=>(some (l32,true))) m o l=some r∧JN n g op0 (fun l69 i73 l76=>(some (l69,true))) m o (i:Int) op=some r∧r.1.length<=N:=by
  intro m
  induction m with
  |zero=>intro i o l op _ h;omega
  |succ m ih=>
   intro i o l op hi hm ho I
   rw [Jt.eq_2,JN.eq_2,ho,a1]
   by_cases c:i<N
   ·rw [DP c,cT,cT,DX (by omega) (by omega),Ai]
    obtain⟨w,w1,w2,jw,ew⟩:=AcQ (lv:=g.live_) (l:=l) hL hv hl I.len (K:=fun i56 l59=>(IQ (N:Int) l l59 (fun i65=>(cond (i65==(N:Int)) (some (([]:List Int),false)) (Option.bind (AG l i65) fun x82=>(Option.bind (Dm o [i65] 8) fun z106=>(Jt n (N:Int) g.view_.links_ g.live_ (fun l32 l36=>(some (l32,true))) m z106 ((l.set (i65).toNat true))))))) n 0)) (m:=n) hn
    rw [ew]
    obtain⟨x,hx,ex⟩:=NxS (K:=fun i65=>(cond (i65==(N:Int)) (some (([]:List Int),false)) (Option.bind (AG l i65) fun x82=>(Option.bind (Dm o [i65] 8) fun z106=>(Jt n (N:Int) g.view_.links_ g.live_ (fun l32 l36=>(some (l32,true))) m z106 ((l.set (i65).toNat true))))))) I.len w1 hN n hn
    rw [ex]
    obtain⟨y,hy,ey⟩:=AgE (n:=n) (op:=op) (by have:=I.olen;omega) hn
    have hxy:kQ (fun q=>gb l q=false∧gb w q=false) N y:=by
     rw [I.olen]at hy
     refine⟨hy.1,fun q hq=>?_,fun hq=>?_⟩
     ·have hqN:q<N:=by have:=hy.1;omega
      have h0:=hy.2.1 q hq
      rintro ⟨h1,h2⟩
      rw [w2 q hqN]at h2
      have h2:=of_decide_eq_false h2
      have:=I.new q hqN h1
      exact h0 (by show gd op q=0;omega)
     ·have h0:gd op y=0:=hy.2.2 hq
      cases c2:gb l y with
      |true=>have:=(I.old y hq c2).1;omega
      |false=>
       have:=I.new y hq c2
       exact⟨c2,by rw [w2 y hq];exact decide_eq_false (by omega)⟩
    obtain rfl:=hx.uniq hxy
    rw [ey,Ai,I.olen]
    by_cases d:x<N
    ·have e1:((x:Int)==(N:Int))=false:=by rw [beq_eq_false_iff_ne];omega
     have e2:decide ((x:Int)<0)=false:=decide_eq_false (by omega)
     rw [if_pos d,e1,e2,cF,cF,JU (by have:=I.len;omega),Ai,gI (show x<op.length by have:=I.olen;omega),Ai,CC (by simp;omega) (by omega),Ai,Ai,tL (by omega) hv hn,Ai,Int.toNat_natCast]
     have hready:=hx.2.2 d
     have hc0:Ib g.view_.links_ g.live_ l (x:Int) g.view_.links_.length=0:=by
      have h2:=hready.2
      rw [w2 x d]at h2
      have h2:=of_decide_eq_false h2;omega
     have opb:∀q,q<N-> -1<=gd (op.set x (-1)) q∧gd (op.set x (-1)) q<=10000:=fun q hq=>by
      rw [Gi (by have:=I.olen;omega)]
      by_cases e:x=q
      ·rw [if_pos e];omega
      ·rw [if_neg e]
       cases c2:gb l q with
       |true=>have:=(I.old q hq c2).1;omega
       |false=>have:=I.new q hq c2;have:=hcl l (q:Int) g.view_.links_.length;omega
     obtain⟨op2,b1,b2,j2,b3⟩:=AfG (g:=g) hL hl (r:=MB (fun k=>gb g.live_ k&&(MF g.view_.links_ k==(x:Int))) g.view_.links_.length) (Nat.le_trans (MU _ _) hl) (fun z hz=>by obtain⟨k,h1,rfl,_⟩:=Uv hz;omega) (op:=op.set x (-1)) (by simpa using I.olen) opb (K:=fun i140 l143=>(JN n g op0 (fun l69 i73 l76=>(some (l69,true))) m (o++[(x:Int)]) (wrap .i64 ((i:Int)+1)) l143)) (m:=n) hn
     rw [b3,wS (by omega)]
     have hF:∀k,k<g.view_.links_.length->0<=MF g.view_.links_ k:=fun k hk=>by rw [IF hk];exact(hL.from_ k hk).1
     have hs:∀q:Nat,Ib g.view_.links_ g.live_ (l.set x true) (q:Int) g.view_.links_.length+((MB (fun k=>gb g.live_ k&&(MF g.view_.links_ k==(x:Int))) g.view_.links_.length).countP fun k=>Qi g.view_.links_ k.toNat==(q:Int))=Ib g.view_.links_ g.live_ l (q:Int) g.view_.links_.length:=fun q=>by
      rw [PP _ (fun k=>Qi g.view_.links_ k==(q:Int))]
      exact aP (by have:=I.len;omega) hready.1 hF
     refine ih (i+1) (o++[(x:Int)]) (l.set x true) op2 (by omega) (by omega) (by simp [ho]) ⟨by simpa using I.len,b1,fun q hq hb=>?_,fun q hq hb=>?_⟩
     ·rw [Mp (by have:=I.len;omega)]at hb
      have b2q:=b2 q hq
      have hsq:=hs q
      rw [Gi (by have:=I.olen;omega)]at b2q
      by_cases e:x=q
      ·subst e
       rw [if_pos rfl]at b2q
       exact⟨by omega,by omega⟩
      ·rw [if_neg e]at b2q hb
       have:=I.old q hq hb
       exact⟨by omega,by omega⟩
     ·rw [Mp (by have:=I.len;omega)]at hb
      have b2q:=b2 q hq
      have hsq:=hs q
      rw [Gi (by have:=I.olen;omega)]at b2q
      by_cases e:x=q
      ·rw [if_pos e]at hb;cases hb
      ·rw [if_neg e]at b2q hb
       have:=I.new q hq hb
       omega
    ·have hxN:x=N:=by have:=hx.1;omega
     have e1:((x:Int)==(N:Int))=true:=by rw [beq_iff_eq];omega
     have e2:decide ((-1:Int)<0)=true:=rfl
     rw [if_neg d,e1,e2,cT,cT]
     exact⟨_,rfl,rfl,by simp⟩
   ·have e:i=N:=by omega
    rw [e,Dc,cF,cF]
    exact⟨_,rfl,rfl,by show o.length<=N;omega⟩
 refine key n 0 [] (List.replicate N false) op0 (by omega) (by omega) rfl ⟨by simp,a1,fun q hq hb=>?_,fun q hq _=>?_⟩
 ·rw [show gb (List.replicate N false) q=false by simp [gb,hq]]at hb;cases hb
 ·rw [a2 q hq,Lo,PP _ (fun k=>Qi g.view_.links_ k==(q:Int))]
  have:((List.range g.view_.links_.length).countP fun k=>(Qi g.view_.links_ k==(q:Int))&&gb g.live_ k)=Ib g.view_.links_ g.live_ (List.replicate N false) (q:Int) g.view_.links_.length:=by
   unfold Ib
   refine List.countP_congr fun k hk=>?_
   have hk:=List.mem_range.1 hk
   have hf:=hL.from_ k hk
   have:gb (List.replicate N false) (MF g.view_.links_ k).toNat=false:=by
    rw [IF hk];simp [gb,show(g.view_.links_[k].From).toNat<N by omega]
   rw [this,Bool.not_false,Bool.and_true,Bool.and_comm]
  rw [this];simp
theorem AfS{n:Nat}{c:Aj}(h:c.Name.size<=1048576)(hn:1048577<=n):∃r,ZR n c=some r∧aF n c=some r:=by
 rw [ZR,aF,Nm1 h hn]
 obtain⟨k,rfl⟩:∃k,n=k+5:=⟨n-5,by omega⟩
 have w0:wrap .i64 ((0:Int)+1)=1:=by decide
 have w1:wrap .i64 ((1:Int)+1)=2:=by decide
 have w2:wrap .i64 ((2:Int)+1)=3:=by decide
 have w3:wrap .i64 ((3:Int)+1)=4:=by decide
 have g0:AG [c.CellEarly,c.CellLate,c.WireEarly,c.WireLate] 0=some c.CellEarly:=rfl
 have g1:AG [c.CellEarly,c.CellLate,c.WireEarly,c.WireLate] 1=some c.CellLate:=rfl
 have g2:AG [c.CellEarly,c.CellLate,c.WireEarly,c.WireLate] 2=some c.WireEarly:=rfl
 have g3:AG [c.CellEarly,c.CellLate,c.WireEarly,c.WireLate] 3=some c.WireLate:=rfl
 have dl:(([c.CellEarly,c.CellLate,c.WireEarly,c.WireLate].length:Nat):Int)=4:=rfl
 simp only [MI.eq_2,dl,show decide ((0:Int)<4)=true from rfl,show decide ((1:Int)<4)=true from rfl,show decide ((2:Int)<4)=true from rfl,show decide ((3:Int)<4)=true from rfl,show decide ((4:Int)<4)=false from rfl,cT,cF,g0,g1,g2,g3,w0,w1,w2,w3,Ai,Gx,zB h hn,Zb]
 refine⟨EC c.Name&&(decide (c.CellEarly>=100)&&decide (c.CellEarly<=c.CellLate)&&decide (c.CellLate<=5000))&&(decide (c.WireEarly>=100)&&decide (c.WireEarly<=c.WireLate)&&decide (c.WireLate<=5000)),?_,?_⟩
 ·cases h1:(decide (c.CellEarly>=100)&&decide (c.CellEarly<=5000))<;>cases h2:(decide (c.CellLate>=100)&&decide (c.CellLate<=5000))<;>cases h3:(decide (c.WireEarly>=100)&&decide (c.WireEarly<=5000))<;>cases h4:(decide (c.WireLate>=100)&&decide (c.WireLate<=5000))<;>cases EC c.Name<;>simp only [Bool.not_true,Bool.not_false,cT,cF,Bool.true_and,Bool.false_and]<;>congr 1<;>rw [Bool.eq_iff_iff]<;>simp at h1 h2 h3 h4 ⊢ <;>omega
 ·cases EC c.Name<;>cases(decide (c.CellEarly>=100)&&decide (c.CellEarly<=c.CellLate)&&decide (c.CellLate<=5000))<;>rfl
theorem Uz{p:Nat->Bool}{i:Nat}(h:p i=true):∀{N:Nat},i<N->(MB p N)[(MB p i).length]? =some (i:Int)
 |0,h0=>by omega
 |N+1,h0=>by
  rw [Fv]
  by_cases e:i=N
  ·subst e;rw [h,if_pos rfl];simp
  ·have ih:=Uz h (N:=N) (by omega)
   rw [List.getElem?_append_left (List.getElem?_eq_some_iff.1 ih).1];exact ih
theorem rQ{p:Nat->Bool}{i N:Nat}(h:p i=true)(hi:i<N):(MB p i).length<(MB p N).length∧AG (MB p N) ((MB p i).length:Int)=some (i:Int):=by
 have g:=Uz h hi
 exact⟨(List.getElem?_eq_some_iff.1 g).1,by rw [EA];exact g⟩
theorem vX{m:Nat}{K:Bool->Int->Int->Int->Int->Option (Bool×AJ)}{xs:List AJ}{node:Int}(hl:xs.length<=1048576)(hn:1048577<=m):
 ((∀k (_:k<xs.length),xs[k].Node≠node)∧HW xs node K m false 0 0 0 0=K false (xs.length:Int) 0 0 0)∨∃k,∃h:k<xs.length,xs[k].Node=node∧HW xs node K m false 0 0 0 0=K true (xs.length:Int) xs[k].Node xs[k].Required.Early xs[k].Required.Late:=by
 refine loop (L:=fun m i (s:Bool×Int×Int×Int)=>HW xs node K m s.1 i s.2.1 s.2.2.1 s.2.2.2) xs.length
  (fun i s=>((∀k (_:k<xs.length),k<i->xs[k].Node≠node)∧s=(false,0,0,0))∨∃k,∃h:k<xs.length,xs[k].Node=node∧s=(true,xs[k].Node,xs[k].Required.Early,xs[k].Required.Late))
  (fun o=>((∀k (_:k<xs.length),xs[k].Node≠node)∧o=K false (xs.length:Int) 0 0 0)∨∃k,∃h:k<xs.length,xs[k].Node=node∧o=K true (xs.length:Int) xs[k].Node xs[k].Required.Early xs[k].Required.Late) ?_ ?_ m 0 (false,0,0,0) (by omega) (by omega) (.inl ⟨fun k _ h=>by omega,rfl⟩)
 ·intro m i s hi hs
  simp only [HW.eq_2,DP hi,cT,AU hi,Ai,wT i]
  cases e:(xs[i].Node==node)with
  |true=>exact .inl ⟨(true,xs[i].Node,xs[i].Required.Early,xs[i].Required.Late),.inr ⟨i,hi,beq_iff_eq.1 e,rfl⟩,rfl⟩
  |false=>
   refine .inl ⟨s,?_,rfl⟩
   rcases hs with ⟨h1,h2⟩|h
   ·refine .inl ⟨fun k hk hki=>?_,h2⟩
    by_cases c:k=i
    ·subst c;exact beq_eq_false_iff_ne.1 e
    ·exact h1 k hk (by omega)
   ·exact .inr h
 ·intro m s hs
  simp only [HW.eq_2,Dc,cF]
  rcases hs with ⟨h1,rfl⟩|⟨k,hk,h1,rfl⟩
  ·exact .inl ⟨fun k hk=>h1 k hk hk,rfl⟩
  ·exact .inr ⟨k,hk,h1,rfl⟩
theorem AgV{n:Nat}{xs:List AJ}{node:Int}(hl:xs.length<=1048576)(hn:1048577<=n):
 ((∀k (_:k<xs.length),xs[k].Node≠node)∧Va n xs node=some (-1))∨∃k,∃h:k<xs.length,xs[k].Node=node∧Va n xs node=some (k:Int):=by
 rw [Va]
 refine loop (L:=fun m i (_:Unit)=>JB n xs node (fun _=>some (-1)) m i) xs.length
  (fun i _=>∀k (_:k<xs.length),k<i->xs[k].Node≠node)
  (fun o=>((∀k (_:k<xs.length),xs[k].Node≠node)∧o=some (-1))∨∃k,∃h:k<xs.length,xs[k].Node=node∧o=some (k:Int)) ?_ ?_ n 0 () (by omega) (by omega) (fun k _ h=>by omega)
 ·intro m i _ hi hs
  simp only [JB.eq_2,DP hi,cT,AU hi,Ai,fE,wT i]
  cases e:(xs[i].Node==node)with
  |true=>exact .inr (.inr ⟨i,hi,beq_iff_eq.1 e,rfl⟩)
  |false=>
   refine .inl ⟨(),fun k hk hki=>?_,rfl⟩
   by_cases c:k=i
   ·subst c;exact beq_eq_false_iff_ne.1 e
   ·exact hs k hk (by omega)
 ·intro m _ hs
  simp only [JB.eq_2,Dc,cF]
  exact .inl ⟨fun k hk=>hs k hk hk,trivial⟩
theorem aJ{b:AO}{xs:List AJ}(h:∀i (h:i<xs.length),Sh b xs i xs[i]):∀(j i:Nat),i<j->j<xs.length->RA xs i<RA xs j
 |0,i,h0,_=>by omega
 |j+1,i,h0,h1=>by
  have u:=(h (j+1) h1).up
  have e:=Kk h1
  have es:j+1-1=j:=rfl
  rw [es]at u
  by_cases c:i=j
  ·subst c;omega
  ·have:=aJ h j i (by omega) (by omega);omega
theorem nV{b:AO}{xs:List AJ}(h:∀i (h:i<xs.length),Sh b xs i xs[i]){i j:Nat}(hi:i<xs.length)(hj:j<xs.length)(e:xs[i].Node=xs[j].Node):i=j:=by
 rcases Nat.lt_trichotomy i j with c|c|c
 ·have:=aJ h j i c hj;rw [Kk hi,Kk hj]at this;omega
 ·exact c
 ·have:=aJ h i j c hi;rw [Kk hi,Kk hj]at this;omega
theorem MT{α:Type}{t:List α}{i:Int}(h0:0<=i)(h1:i<t.length):∃x,AG t i=some x:=by
 obtain⟨x,e,_⟩:=GX h0 h1;exact⟨x,e⟩
theorem LkL{n:Nat}{b:AO}(v:Bs b){g:BY}(hg:NB n b g.view_)(hv:g.live_.length=(Ff b).length){c:Aj}{t:Am}{x:BA}(ht:(t.Slew.length:Int)=Bq b)(hx1:(x.Bound.length:Int)=Bq b)(hx2:(x.Required.length:Int)=Bq b){node:Int}(h0:0<=node∧node<Bq b)(hn:1048577<=n):
 ∀(m m' i:Nat) (q:Bool) (a e l:Int),i<=(Ff b).length->(Ff b).length-i<m->(Ff b).length-i<m'->(q=true->a=node)->∃(q':Bool) (s':AJ),Gv n b c (Ff b) g.live_ t x node (fun q103 i104 i111 i112 i113=>(some (q103,(AJ.mk i111 ((AX.mk i112 i113)))))) m q (i:Int) a e l=some (q',s')∧
  FG n g c t x node (MB (fun k=>gb g.live_ k&&(MF (Ff b) k==node)) (Ff b).length) (fun i144 i153 i154 i155 q157=>(cond (!q157) (some (false,(AJ.mk 0 ((AX.mk 0 0))))) (some (true,(AJ.mk i153 ((AX.mk i154 i155))))))) m' ((MB (fun k=>gb g.live_ k&&(MF (Ff b) k==node)) i).length:Int) node e l q=some (q',cond q' s' (AJ.mk 0 ((AX.mk 0 0)))):=by
 have hlv:=hg.links
 have hL:=UP v
 have hll:=Nc v
 intro m
 induction m with
 |zero=>intro m' i q a e l _ h;omega
 |succ m ih=>
  intro m' i q a e l hi hm hm' hq
  obtain⟨p,rfl⟩:∃p,m'=p+1:=⟨m'-1,by omega⟩
  by_cases c1:i<(Ff b).length
  ·rw [Gv.eq_2,DP c1,cT,AU c1,Ai,JU (show i<g.live_.length by omega),Ai,wS (by omega)]
   have hT:=hL.to_ i c1
   cases d:(gb g.live_ i&&(MF (Ff b) i==node))with
   |false=>
    have e1:(!gb g.live_ i||((Ff b)[i].From !=node))=true:=by
     rw [IF c1]at d
     cases e0:gb g.live_ i with
     |false=>rfl
     |true=>rw [e0,Bool.true_and]at d;simp only [bne,d];rfl
    have e2:(MB (fun k=>gb g.live_ k&&(MF (Ff b) k==node)) (i+1)).length=(MB (fun k=>gb g.live_ k&&(MF (Ff b) k==node)) i).length:=by rw [Fv,d];simp
    rw [e1,cT,Ai,cT]
    have:=ih (p+1) (i+1) q a e l (by omega) (by omega) (by omega) hq
    rw [e2]at this
    exact this
   |true=>
    obtain⟨s1,s2⟩:=rQ (p:=fun k=>gb g.live_ k&&(MF (Ff b) k==node)) (i:=i) (N:=(Ff b).length) d c1
    have s3:=MU (fun k=>gb g.live_ k&&(MF (Ff b) k==node)) i
    have e1:(!gb g.live_ i||((Ff b)[i].From !=node))=false:=by
     rw [IF c1]at d
     have:=Bool.and_eq_true_iff.1 d
     rw [this.1];simp only [bne,this.2];rfl
    have e2:(MB (fun k=>gb g.live_ k&&(MF (Ff b) k==node)) (i+1)).length=(MB (fun k=>gb g.live_ k&&(MF (Ff b) k==node)) i).length+1:=by rw [Fv,d];simp
    obtain⟨B,eB⟩:=MT (t:=x.Bound) (i:=(Ff b)[i].To) hT.1 (by unfold Bq at hx1;omega)
    rw [e1,cF,eB,Ai,Ai,FG.eq_2,DP s1,cT,s2,Ai,hlv,AU c1,Ai,eB,Ai,wS (by omega)]
    have go:=fun q a e l hq=>ih p (i+1) q a e l (by omega) (by omega) (by omega) hq
    rw [e2]at go
    cases B with
    |false=>exact go q a e l hq
    |true=>
     obtain⟨R,eR⟩:=MT (t:=x.Required) (i:=(Ff b)[i].To) hT.1 (by unfold Bq at hx2;omega)
     obtain⟨S,eS⟩:=MT (t:=t.Slew) (i:=node) h0.1 (by omega)
     obtain⟨D,z,z',f1,f2⟩:=AdA (n:=n) (x:=(Ff b)[i]) (k:=(i:Int)) (c:=c) (s:=S) v hg (List.getElem_mem c1) (by rw [hlv,AU c1]) hn
     rw [Bool.not_true,cF,cT,eS,Ai,Ai,f1,f2,Ai,Ai,eR,Ai,Ai,Ai,Ai,WM]
     cases q with
     |false=>exact go true node _ _ fun _=>rfl
     |true=>
      rw [cT,Bool.not_true,cF,Ai,Int.max_comm,Int.min_comm]
      exact go true node _ _ fun _=>rfl
  ·have ei:i=(Ff b).length:=by omega
   rw [ei,Gv.eq_2,FG.eq_2,Dc,Dc,cF,cF]
   refine⟨q,_,rfl,?_⟩
   cases q with
   |false=>rfl
   |true=>rw [hq rfl];rfl
theorem AcC{n:Nat}{b:AO}(v:Bs b){g:BY}(hg:NB n b g.view_)(hv:g.live_.length=(Ff b).length){c:Aj}{t:Am}{x:BA}{tg:List AJ}(hl:tg.length<=1048576)(hT:∀i (h:i<tg.length),Sh b tg i tg[i])(ht0:(t.Reached.length:Int)=Bq b)(ht:(t.Slew.length:Int)=Bq b)(hx1:(x.Bound.length:Int)=Bq b)(hx2:(x.Required.length:Int)=Bq b){node:Int}(h0:0<=node∧node<Bq b)(hn:1048577<=n):
 ∃(q:Bool) (s:AJ),sN n b c (Ff b) g.live_ t tg x node=some (q,s)∧Zi n g c t tg x node=some (q,cond q s (AJ.mk 0 ((AX.mk 0 0)))):=by
 have hll:=Nc v
 rw [sN,Zi]
 obtain⟨r,er⟩:=MT (t:=t.Reached) (i:=node) h0.1 (by omega)
 rw [er,Ai,Ai]
 cases r with
 |false=>exact⟨false,_,rfl,rfl⟩
 |true=>
  have hfr:=tL (n:=n) (g:=g) (u:=node) (by rw [hg.links];omega) (by rw [hg.links];exact hv) hn
  rw [hg.links]at hfr
  rw [Bool.not_true,cF,cF,hfr]
  have go:=fun q a e l hq=>LkL (c:=c) v hg hv ht hx1 hx2 h0 hn n n 0 q a e l (by omega) (by omega) (by omega) hq
  have s0:((MB (fun k=>gb g.live_ k&&(MF (Ff b) k==node)) 0).length:Int)=0:=rfl
  rw [s0]at go
  rcases AgV (n:=n) (xs:=tg) (node:=node) hl hn with ⟨a1,a2⟩|⟨k,hk,a1,a2⟩
  ·rw [a2,Ai,show decide ((-1:Int)>=0)=false from rfl,cF,Ai]
   rcases vX (m:=n) (K:=fun q89 i90 i97 i98 i99=>(Gv n b c (Ff b) g.live_ t x node (fun q103 i104 i111 i112 i113=>(some (q103,(AJ.mk i111 ((AX.mk i112 i113)))))) n q89 0 i97 i98 i99)) (xs:=tg) (node:=node) hl hn with ⟨_,b2⟩|⟨k,hk,b1,_⟩
   ·rw [b2];exact go false 0 0 0 fun h=>by cases h
   ·exact absurd b1 (a1 k hk)
  ·rw [a2,Ai,decide_eq_true (show(k:Int)>=0 by omega),cT,AU hk,Ai,WM,Bool.not_false,cT,Ai,Ai]
   rcases vX (m:=n) (K:=fun q89 i90 i97 i98 i99=>(Gv n b c (Ff b) g.live_ t x node (fun q103 i104 i111 i112 i113=>(some (q103,(AJ.mk i111 ((AX.mk i112 i113)))))) n q89 0 i97 i98 i99)) (xs:=tg) (node:=node) hl hn with ⟨b1,_⟩|⟨k',hk',b1,b2⟩
   ·exact absurd a1 (b1 k hk)
   ·obtain rfl:=nV hT hk hk' (a1.trans b1.symm)
    rw [b2,a1]
    exact go true node _ _ fun _=>rfl
theorem VQ{α:Type}(f:Nat->Bool):∀(xs:List α) (s k:Nat),k<xs.length->gb (EF (fun j (_:α)=>[f j]) s xs) k=f (s+k)
 |[],_,_,h=>absurd h (Nat.not_lt_zero _)
 |_::_,s,0,_=>rfl
 |_::xs,s,k+1,h=>by
  have:=VQ f xs (s+1) k (by simpa using h)
  rw [show s+(k+1)=s+1+k by omega,←this];rfl
theorem AeK{n:Nat}{b:AO}{w:BD}{br:List Int}(hw:w.links_=Ff b)(hl:(Ff b).length<=1048576)(hb:br.length<=1048576)(hr:jO ((Ff b).length:Int) br)(hn:1048577<=n):sF n w br=some ⟨w,mY b br⟩:=by
 obtain⟨lv,f0,l0,e0⟩:=AeR (n:=n) (w:=w) (br:=br) (by rw [hw];omega) hb (by rw [hw];exact hr) hn
 rw [hw]at l0 e0
 have:lv=mY b br:=rJ (l0.trans (Jr _ _ _).symm) fun j hj=>by
  rw [e0 j (by omega),VQ (fun k=>!(br.any fun y=>y==(k:Int))) (Ff b) 0 j (by omega),Nat.zero_add]
 rw [f0,this]
theorem AfL{n:Nat}{s:AX}:QM n s=some (FU s):=by
 simp only [QM,PC,JL,Ai,CG];rfl
theorem AdC{n:Nat}{s:AX}:Qc n s=some (FU s):=by
 simp only [Qc,Gx,Ai,CG];rfl
structure AcR(n:Nat)(b:AO)(c:Aj)(br:List Int)(t:Am)(tg:List AJ)(x:BA)(w:BD)(od:List Int):Prop where
 blk:Bs b
 tim:cR b t
 nds:aC b x
 tgs:∀i (h:i<tg.length),Sh b tg i tg[i]
 vw:NB n b w
 odl:od.length<=2*(Ce b.Design).length
 isb:PI n b=some true
 need:Se n (Bq b) x=some true
 code:Ov n b c br t tg=some (od,0)
 graph:Ml n b c br t tg x=some (some ⟨w,mY b br⟩,od,0)
structure AaP(n:Nat)(b:AO)(c:Aj)(br:List Int)(t:Am)(tg:List AJ)(x:BA)(k:Int):Prop where
 bad:(k !=0)=true
 graph:Ml n b c br t tg x=some (none,[],k)
 spec:(PI n b=some false∧k=1)∨(Bs b∧PI n b=some true∧((Se n (Bq b) x=some false∧k=1)∨(Se n (Bq b) x=some true∧Ov n b c br t tg=some ([],k))))
theorem NGr{n:Nat}{b:AO}{c:Aj}{br:List Int}{t:Am}{tg:List AJ}{x:BA}(hb:cM b)(hc:c.Name.size<=1048576)(hbr:br.length<=1048576)(ht:t.Reached.length<=1048576)(hx:x.Bound.length<=1048576)(htg:tg.length<=1048576)(hn:1048577<=n):
 (∃w od,AcR n b c br t tg x w od)∨∃k,AaP n b c br t tg x k:=by
 obtain⟨cb,e1,hc1⟩:=Bk1 hb hn
 obtain⟨cb2,e2,hc2⟩:=Bk2 hb hn
 obtain rfl:cb=cb2:=by rw [Bool.eq_iff_iff,hc1,hc2]
 cases cb with
 |false=>exact .inr ⟨1,rfl,by rw [Ml,e2];rfl,.inl ⟨e1,rfl⟩⟩
 |true=>
  have v:=hc1.1 rfl
  have vd:=v.design
  have hl:=Cp vd.short vd.few.1 vd.few.2.2
  have hL:=Nc v
  have wc:Bq b=((2*(Ce b.Design).length:Nat):Int):=by unfold Bq;omega
  obtain⟨w0,ew,hw0⟩:=Vw4 (n:=n) v hn
  have hw:NB n b ⟨b,w0.places_,w0.links_,w0.loads_,w0.delays_,w0.extras_⟩:=⟨rfl,hw0.places,hw0.links,hw0.extras,hw0.data⟩
  have hwl:(⟨b,w0.places_,w0.links_,w0.loads_,w0.delays_,w0.extras_⟩:BD).links_=Ff b:=hw.links
  obtain⟨co,c1,c2⟩:=AfS (n:=n) hc hn
  obtain⟨p,f1,hp⟩:=Tm1 (b:=b) ht hn
  obtain⟨p2,f2,hp2⟩:=Tm2 (r:=⟨b,w0.places_,w0.links_,w0.loads_,w0.delays_,w0.extras_⟩) v hw.places ht hn
  obtain rfl:p=p2:=by rw [Bool.eq_iff_iff,hp,hp2]
  obtain⟨q,g1,hq⟩:=Ns1 (b:=b) hx hn
  obtain⟨q2,g2,hq2⟩:=Ns2 (r:=⟨b,w0.places_,w0.links_,w0.loads_,w0.delays_,w0.extras_⟩) v hw.places hx hn
  obtain rfl:q=q2:=by rw [Bool.eq_iff_iff,hq,hq2]
  obtain⟨r,r1,hr⟩:=Rs1 (n:=n) (br:=br) (N:=((Ff b).length:Int)) hbr (by omega) hn
  obtain⟨r',r2,hr2⟩:=Rs2 (n:=n) (br:=br) (v:=⟨b,w0.places_,w0.links_,w0.loads_,w0.delays_,w0.extras_⟩) hbr (by rw [hwl];omega) hn
  rw [hwl]at hr2
  obtain rfl:r=r':=by rw [Bool.eq_iff_iff,hr,hr2]
  obtain⟨u,u1,hu⟩:=Tg1 (xs:=tg) v htg hn
  obtain⟨u',u2,hu2⟩:=Tg2 (r:=⟨b,w0.places_,w0.links_,w0.loads_,w0.delays_,w0.extras_⟩) v hw.places htg hn
  obtain rfl:u=u':=by rw [Bool.eq_iff_iff,hu,hu2]
  cases q with
  |false=>
   refine .inr ⟨1,rfl,?_,.inr ⟨v,e1,.inl ⟨g1,rfl⟩⟩⟩
   rw [Ml]
   simp only [e2,Bool.not_true,cF,c2,Ai,ew,f2,g2]
   cases co with
   |false=>rfl
   |true=>cases p<;>rfl
  |true=>
   cases co with
   |false=>exact .inr ⟨1,rfl,by rw [Ml];simp only [e2,Bool.not_true,cF,c2,Ai,Bool.not_false,cT],.inr ⟨v,e1,.inr ⟨g1,by rw [Ov];simp only [e1,Bool.not_true,cF,c1,Ai,Bool.not_false,cT]⟩⟩⟩
   |true=>
    cases p with
    |false=>exact .inr ⟨1,rfl,by rw [Ml];simp only [e2,Bool.not_true,cF,c2,Ai,ew,f2,Bool.not_false,cT],.inr ⟨v,e1,.inr ⟨g1,by rw [Ov];simp only [e1,Bool.not_true,cF,c1,Ai,TZ v hn,f1,Bool.not_false,cT]⟩⟩⟩
    |true=>
     have i1:Ov n b c br t tg=(Option.bind (TF n b br) fun r71=>(Option.bind (cond (r71 !=0) (some true) (Option.bind (WJ n b tg) fun r77=>(some (!r77)))) fun c77=>(cond c77 (some (([]:List Int),2)) (Option.bind (ZJ n b br) fun r102=>(some (r102.1,r102.2)))))):=by
      rw [Ov];simp only [e1,Bool.not_true,cF,c1,Ai,TZ v hn,f1]
     have i2:TF n b br=some (cond r 0 2):=by
      rw [TF];simp only [e1,Bool.not_true,cF,Ai,nI v hn,r1];cases r<;>rfl
     cases r with
     |false=>exact .inr ⟨2,rfl,by rw [Ml];simp only [e2,Bool.not_true,cF,c2,Ai,ew,f2,g2,r2,Bool.not_false,cT],.inr ⟨v,e1,.inr ⟨g1,by rw [i1,i2];rfl⟩⟩⟩
     |true=>
      cases u with
      |false=>exact .inr ⟨2,rfl,by rw [Ml];simp only [e2,Bool.not_true,cF,c2,Ai,ew,f2,g2,r2,u2,Bool.not_false,cT],.inr ⟨v,e1,.inr ⟨g1,by rw [i1,i2];simp only [cT,Ai,bne_self_eq_false,cF,u1,Bool.not_false]⟩⟩⟩
      |true=>
       have i4:=AeK (n:=n) (w:=⟨b,w0.places_,w0.links_,w0.loads_,w0.delays_,w0.extras_⟩) hwl (by omega) hbr (hr.1 rfl) hn
       have i5:=YG (n:=n) (r:=⟨b,w0.places_,w0.links_,w0.loads_,w0.delays_,w0.extras_⟩) v hw.places
       obtain⟨od,o1,o2,o3⟩:=AaU (n:=n) (g:=⟨⟨b,w0.places_,w0.links_,w0.loads_,w0.delays_,w0.extras_⟩,mY b br⟩) (N:=2*(Ce b.Design).length) (by rw [hwl];exact UP v) (by rw [hwl];exact Jr _ _ _) (by rw [hwl];omega) (by omega) (by rw [←wc];exact i5) hn
       rw [hwl,←wc]at o1
       have j1:Ov n b c br t tg=some (cond od.2 (od.1,0) ([],7)):=by
        rw [i1,i2];simp only [cT,Ai,bne_self_eq_false,cF,u1,Bool.not_true,ZJ,i2,nI v hn,TZ v hn,Lv1 (n:=n) (L:=Ff b) (br:=br) (by omega) hbr hn,o1]
        cases od.2<;>rfl
       have j2:Ml n b c br t tg x=cond (!od.2) (some (none,([]:List Int),7)) (some (some ⟨⟨b,w0.places_,w0.links_,w0.loads_,w0.delays_,w0.extras_⟩,mY b br⟩,od.1,0)):=by
        rw [Ml];simp only [e2,Bool.not_true,cF,c2,Ai,ew,f2,g2,r2,u2,i4,o2]
       cases z:od.2 with
       |false=>rw [z]at j1 j2;exact .inr ⟨7,rfl,j2,.inr ⟨v,e1,.inr ⟨g1,j1⟩⟩⟩
       |true=>rw [z]at j1 j2;exact .inl ⟨_,od.1,v,hp.1 rfl,hq.1 rfl,hu.1 rfl,hw,o3,e1,g1,j1,j2⟩
theorem NnE{n:Nat}{b:AO}{c:Aj}{br:List Int}{t:Am}{tg:List AJ}{x:BA}{node:Int}(hb:cM b)(hc:c.Name.size<=1048576)(hbr:br.length<=1048576)(ht:t.Reached.length<=1048576)(hx:x.Bound.length<=1048576)(htg:tg.length<=1048576)(hn:1048577<=n):
 ∃g:Bool×AJ×Int,dK n b c br t tg x node=some g∧Ys n b c br t tg x node=some g:=by
 rw [dK,Ys]
 rcases NGr (c:=c) (x:=x) (t:=t) (tg:=tg) hb hc hbr ht hx htg hn with ⟨w,od,h⟩|⟨k,h⟩
 ·have v:=h.blk
  have vd:=v.design
  have hl:=Cp vd.short vd.few.1 vd.few.2.2
  have wN:wrap .i64 (Bq b-1)=Bq b-1:=Ac (by unfold Bq;omega) (by unfold Bq;omega)
  have hw:NB n b ⟨b,w.places_,w.links_,w.loads_,w.delays_,w.extras_⟩:=⟨rfl,h.vw.places,h.vw.links,h.vw.extras,h.vw.data⟩
  have i5:=YG (n:=n) (r:=⟨b,w.places_,w.links_,w.loads_,w.delays_,w.extras_⟩) v hw.places
  simp only [h.isb,h.need,h.code,h.graph,TZ v hn,Ai,Bool.not_true,cF,bne_self_eq_false,Sq,Gx,wN,VX,i5,JL]
  cases d:(decide (node>=0)&&decide (node<=Bq b-1))with
  |false=>exact⟨_,rfl,rfl⟩
  |true=>
   have:=LV.1 d
   obtain⟨q,s,a1,a2⟩:=AcC (n:=n) (g:=⟨⟨b,w.places_,w.links_,w.loads_,w.delays_,w.extras_⟩,mY b br⟩) (c:=c) (x:=x) (node:=node) v hw (Jr _ _ _) htg h.tgs h.tim.reached h.tim.slew h.nds.bound h.nds.req ⟨this.1,by omega⟩ hn
   have a1:sN n b c (Ff b) (mY b br) t tg x node=some (q,s):=a1
   simp only [Bool.not_true,cF,nI v hn,Ai,Lv1 (n:=n) (L:=Ff b) (br:=br) (by have:=Nc v;omega) hbr hn,a1,a2,AdC,AfL]
   cases q with
   |false=>exact⟨_,rfl,rfl⟩
   |true=>
    simp only [cT,Bool.not_true,cF]
    cases FU s.Required<;>exact⟨_,rfl,rfl⟩
 ·rcases h.spec with ⟨e,rfl⟩|⟨v,e,⟨g1,rfl⟩|⟨g1,g2⟩⟩
  ·rw [e,h.graph];exact⟨_,rfl,rfl⟩
  ·rw [e,h.graph]
   simp only [Ai,Bool.not_true,cF,TZ v hn,g1,Bool.not_false,cT]
   exact⟨_,rfl,rfl⟩
  ·rw [e,h.graph]
   simp only [Ai,Bool.not_true,cF,TZ v hn,g1,g2,h.bad,cT,Sq]
   exact⟨_,rfl,rfl⟩
theorem Uj{a:AO}{c:Aj}{br:List Int}{t:Am}{tg:List AJ}{x:BA}{node:Int}(hR:QH a)(hC:Oh c)(hB:br.length<=9223372036854775807∧∀x∈br,Jk .i64 x)(hL:Nq t)(hG:(fun xs=>xs.length<=9223372036854775807∧∀x∈xs,MY x) tg)(hK:Pz x)(_hnode:Jk .i64 node):∃n,gT n a c br t tg x node=some true:=by
 obtain⟨n,hn⟩:∃n,1048577<=n:=⟨_,Nat.le_refl _⟩
 refine⟨n,?_⟩
 rw [gT]
 by_cases hbl:(br.length:Int)>1048576
 ·rw [decide_eq_true hbl];rfl
 rw [decide_eq_false hbl,cF]
 obtain⟨r,e,hr,hs⟩:=fN (n:=n) (left:=1048576) hR (by omega) (by omega) hn
 rw [e,Ai]
 by_cases h0:r<0
 ·rw [decide_eq_true h0];rfl
 have hS:=hs (by omega)
 obtain⟨r1,e1,hr1,hs1⟩:=cW (n:=n) (left:=r) hC (by omega) (by omega) hn
 rw [decide_eq_false h0,cF,e1,Ai]
 by_cases h1:r1<0
 ·rw [decide_eq_true h1];rfl
 have hCo:=hs1 (by omega)
 obtain⟨r2,e2,hr2,hs2⟩:=Zp (n:=n) (left:=r1) hL (by omega) (by omega) hn
 rw [decide_eq_false h1,cF,e2,Ai]
 by_cases h2:r2<0
 ·rw [decide_eq_true h2];rfl
 have hT:=hs2 (by omega)
 obtain⟨r3,e3,hr3,hs3⟩:=Vx (n:=n) (left:=r2) hG (by omega) (by omega) hn
 rw [decide_eq_false h2,cF,e3,Ai]
 by_cases h3:r3<0
 ·rw [decide_eq_true h3];rfl
 have hTg:=hs3 (by omega)
 obtain⟨r4,e4,hr4,hs4⟩:=hO (n:=n) (left:=r3) hK (by omega) (by omega) hn
 rw [decide_eq_false h3,cF,e4,Ai]
 by_cases h4:r4<0
 ·rw [decide_eq_true h4];rfl
 have hX:=hs4 (by omega)
 have hI:(fun xs=>xs.length<=1048576∧∀x∈xs,(fun _=>True) x) br:=⟨by omega,fun _ _=>trivial⟩
 obtain⟨g,g1,g2⟩:=NnE (n:=n) (c:=c) (br:=br) (t:=t) (tg:=tg) (x:=x) (node:=node) (Hj.b hS) hCo.1 (by omega) hT.1.1 hX.1.1 hTg.1 hn
 have hE:Py n g.2.1 g.2.1=some true:=SU ⟨trivial,trivial,trivial⟩ hn
 simp only [decide_eq_false h4,cF,iG hS hn,YX hCo hn,Yz hT hn,gB hX hn,WB hTg hn,Ei hI hn,Ai,g1,g2,bne_self_eq_false,Bool.or_self,fJ hS hn,Zz hT hn,jI hX hn,VW hTg hn,Ek hI hn,hE,Bool.not_true]

end Go.Proofs.YtaijnchdfgojiaaGreatDoor
