/- The proof engine: what a function of the model computes, said by a plain function; no condition. -/
import Derived.Test.YtaijnchdfgojiabGreatDoorEngA
set_option linter.all false
namespace Go.Eng
open Go Go.RowKit
/-! ## Slices of slices of the call's own, each apart from the others -/
theorem AB.slp{α:Type}{c:CN α}{w:World}{B:Nat}{S S':Nat->Prop}{e:TypeId}{xs:List α}{v:Value}[DK c](h:AB c w B S e xs v)(hb:∀g,v.ownBlock=some g->S' g):AD c w S' xs v:=by
 obtain⟨cs,h0,h3⟩:=h
 have h1:=h0
 obtain⟨hl,⟨rfl,hn⟩|⟨g,cap,cur,rfl,_,hh,h5,h6,h7,h8⟩⟩:=h1
 ·have:xs=[]:=List.eq_nil_of_length_eq_zero hn
  subst this;exact AD.nil _ _ _
 ·refine⟨some ⟨g,0,none⟩,cap,rfl,⟨h5,fun h=>by cases h⟩,by simpa [maxLen] using h6,fun hpos=>⟨g,0,rfl,hb g rfl,fun i x hx=>⟨_,DK.any (h3 i x hx),fun j u hu=>?_⟩⟩⟩
  have hjn:j<c.n:=by
   have:=(List.getElem?_eq_some_iff.1 hu).1
   simp [BA]at this;omega
  rw [BZ hjn]at hu
  have:=h0.cells (g:=g) rfl _ _ hu
  rw [DA]at this
  rw [show 0+i*c.n+j=0+(i*c.n+j) by omega];exact⟨this,by simp [World.frozen?,hh]⟩
def own2{α:Type}(c:CN α)(w:World)(B hi:Nat)(e1 e2:TypeId)(xss:List (List α))(v:Value)(vs:List Value):Prop:=
 w.ownsRow B e1 1 v xss.length vs∧(∀(i:Nat) (xs:List α) (u:Value),xss[i]? =some xs->vs[i]? =some u->AB c w B (Iv 0 0) e2 xs u∧Bd u B hi∧No v u)∧(∀(i j:Nat) (u u':Value),i≠j->vs[i]? =some u->vs[j]? =some u'->No u u')
def dY{α:Type}(c:CN α)(w:World)(B hi:Nat)(e1 e2:TypeId)(xss:List (List α))(v:Value)(vs:List Value)(k:Nat)(u0:Value):Prop:=
 w.ownsRow B e1 1 v xss.length vs∧(∀(i:Nat) (xs:List α) (u:Value),i≠k->xss[i]? =some xs->vs[i]? =some u->AB c w B (Iv 0 0) e2 xs u∧Bd u B hi∧No v u∧No u0 u)∧(∀(i j:Nat) (u u':Value),i≠k->j≠k->i≠j->vs[i]? =some u->vs[j]? =some u'->No u u')∧No v u0∧Bd u0 B hi
theorem ownsRow.keep{w w':World}{B n:Nat}{e:TypeId}{v:Value}{m:Nat}{cs:List Value}(h:w.ownsRow B e n v m cs)(hg:∀g,v.ownBlock=some g->w'.heap[g]? =w.heap[g]?):w'.ownsRow B e n v m cs:=by
 obtain⟨h1,h2⟩:=h
 refine⟨h1,?_⟩
 rcases h2 with h2|⟨g,cap,cur,rfl,hb,hh,rest⟩
 ·exact .inl h2
 ·exact .inr ⟨g,cap,cur,rfl,hb,(hg g rfl).trans hh,rest⟩
section
variable {α:Type} {c:CN α} [DK c] {w w':World} {B hi:Nat} {e1 e2:TypeId} {xss:List (List α)} {v:Value} {vs:List Value}
theorem own2.keep(h:own2 c w B hi e1 e2 xss v vs)(h1:∀g,v.ownBlock=some g->w'.heap[g]? =w.heap[g]?)(h2:∀k,B<=k->k<hi->w'.heap[k]? =w.heap[k]?):own2 c w' B hi e1 e2 xss v vs:=by
 obtain⟨a,b,d⟩:=h
 refine⟨ownsRow.keep a h1,fun i xs u hx hu=>?_,d⟩
 obtain⟨p,q,r⟩:=b i xs u hx hu
 exact⟨p.keep (fun g hg=>h2 g (q g hg).1 (q g hg).2) (fun _ h=>h) (fun k h=>absurd h.2 (Nat.not_lt_zero k)),q,r⟩
theorem own2.blk(h:own2 c w B hi e1 e2 xss v vs):Bd v B w.heap.size:=h.1.lt
theorem own2.ext(h:own2 c w B hi e1 e2 xss v vs)(he:AH w w')(hle:hi<=w.heap.size):own2 c w' B hi e1 e2 xss v vs:=
 h.keep (fun g hg=>he.block g (h.blk g hg).2) (fun k _ h=>he.block k (by omega))
theorem own2.upd{b:Nat}(h:own2 c w B hi e1 e2 xss v vs)(hu:Fs b w w')(hne:Nb v b)(hb:b<B∨hi<=b:=by omega):own2 c w' B hi e1 e2 xss v vs:=
 h.keep (fun g hg=>hu.block g (hne g hg)) (fun k h1 h2=>hu.block k (by omega))
theorem own2.wide{hi':Nat}(h:own2 c w B hi e1 e2 xss v vs)(hle:hi<=hi':=by omega):own2 c w B hi' e1 e2 xss v vs:=by
 obtain⟨a,b,d⟩:=h
 refine⟨a,fun i xs u hx hu=>?_,d⟩
 obtain⟨p,q,r⟩:=b i xs u hx hu
 exact⟨p,fun g hg=>by have:=q g hg;omega,r⟩
theorem own2.but{p:Nat->Prop}(h:own2 c w B hi e1 e2 xss v vs)(hb:Bl p w w')(hne:∀k,p k->∀g,v.ownBlock=some g->k≠g)(hle:hi<=w.heap.size)(hs:∀k,p k->k<B∨hi<=k):own2 c w' B hi e1 e2 xss v vs:=
 h.keep (fun g hg=>hb.block g (h.blk g hg).2 (fun e=>hne g e g hg rfl)) (fun k h1 h2=>hb.block k (by omega) (fun e=>by have:=hs k e;omega))
theorem BD.own2{t t':Value}(hg:BD w w' t t')(h:own2 c w B hi e1 e2 xss v vs)(hne:No t v)(hle:hi<=w.heap.size)(hs:∀g,t.ownBlock=some g->g<B∨hi<=g):own2 c w' B hi e1 e2 xss v vs:=
 h.keep (fun g hv=>hg.1.block g (h.blk g hv).2 (fun e=>hne g g e.symm hv rfl)) (fun k h1 h2=>hg.1.block k (by omega) (fun e=>by have:=hs k e.symm;omega))
theorem oJ{cs:List Value}{i:Nat}{u:Value}(h:cs[i]? =some u):BA cs 1 i=[u]:=by
 apply List.ext_getElem?
 intro q
 by_cases hq:q<1
 ·obtain rfl:q=0:=by omega
  rw [BZ hq];simpa using h
 ·rw [List.getElem?_eq_none (by simp [BA];omega),List.getElem?_eq_none (by simp;omega)]
theorem own2.r(h:own2 c w B hi e1 e2 xss v vs):AB (Cl c) w B (SX B hi v) e1 xss v:=by
 obtain⟨a,b,d⟩:=h
 refine⟨vs,a,fun i x hx=>?_⟩
 have hi':i<vs.length:=by
  have:=(List.getElem?_eq_some_iff.1 hx).1
  rw [a.1];omega
 obtain⟨p,q,r⟩:=b i x _ hx (List.getElem?_eq_getElem hi')
 have e:BA vs (Cl c).n i=[vs[i]]:=oJ (List.getElem?_eq_getElem hi')
 rw [e]
 exact⟨_,rfl,p.slp fun g hg=>⟨(q g hg).1,(q g hg).2,fun e=>r g g e hg rfl⟩⟩
theorem own2.nil:own2 c w B hi e1 e2 ([]:List (List α)) (.slice none 0 0) []:=⟨World.ownsRow_nil w B e1 1,fun i xs u h=>by simp at h,fun i j u u' _ h=>by simp at h⟩
theorem own2.sub{m:Int}{xs:List α}{u:Value}(h:own2 c w B hi e1 e2 xss v vs)(hy:AE xss m=some xs)(hu:vs[m.toNat]? =some u):AB c w B (Iv 0 0) e2 xs u∧Bd u B hi∧No v u:=h.2.1 _ _ _ (EA hy).2.2 hu
theorem own2.at{m:Int}{xs:List α}{g:Nat}{us:List Value}(h:own2 c w B hi e1 e2 xss v vs)(hy:AE xss m=some xs)(hg:v.ownBlock=some g)(hl:us.length=1)(hcl:AP w g (0+m.toNat*(Cl c).n) us):∃u,us=[u]∧vs[m.toNat]? =some u:=by
 obtain⟨u,rfl⟩:=List.length_eq_one_iff.1 hl
 refine⟨u,rfl,?_⟩
 have hlt:m.toNat<vs.length:=by
  have:=(List.getElem?_eq_some_iff.1 (EA hy).2.2).1
  rw [h.1.1];omega
 have h1:=h.1.cells hg m.toNat _ (List.getElem?_eq_getElem hlt)
 have h2:=(hcl 0 u rfl).1
 rw [DA]at h1
 have e:0+m.toNat*(Cl c).n+0=0+m.toNat:=by show 0+m.toNat*1+0=0+m.toNat;omega
 rw [e,h1]at h2
 rw [List.getElem?_eq_getElem hlt];exact h2
theorem own2.grew{m:Nat}{u u':Value}(h:own2 c w B hi e1 e2 xss v vs)(hu:vs[m]? =some u)(hbu:Bd u B hi)(hvu:No v u)(hg:BD w w' u u')(hle:hi<=w.heap.size)(hB:B<=w.heap.size)(hlt:∀g,u'.ownBlock=some g->g<w'.heap.size):dY c w' B w'.heap.size e1 e2 xss v vs m u':=by
 obtain⟨a,b,d⟩:=h
 have hsz:=hg.1.size
 have hav:∀g,v.ownBlock=some g->w'.heap[g]? =w.heap[g]?:=fun g hv=>hg.1.block g (a.lt g hv).2 (fun e=>hvu g g hv e.symm rfl)
 refine⟨ownsRow.keep a hav,fun i xs t hi' hx ht=>?_,fun i j t t' _ _ hij ht ht'=>d i j t t' hij ht ht',?_,?_⟩
 ·obtain⟨p,q,r⟩:=b i xs t hx ht
  have hn:No u t:=d m i u t (fun e=>hi' e.symm) hu ht
  refine⟨p.keep (fun g hg2=>hg.1.block g (by have:=q g hg2;omega) (fun e=>hn g g e.symm hg2 rfl)) (fun _ h=>h) (fun k h=>absurd h.2 (Nat.not_lt_zero k)),fun g hg2=>by have:=q g hg2;omega,r,fun g q2 hg2 hq2=>?_⟩
  rcases hg.2 g hg2 with h1|h1
  ·exact hn g q2 h1 hq2
  ·have:=q q2 hq2;omega
 ·intro g q2 hg2 hq2
  rcases hg.2 q2 hq2 with h1|h1
  ·exact hvu g q2 hg2 h1
  ·have:=a.lt g hg2;omega
 ·intro g hg2
  have:=hlt g hg2
  rcases hg.2 g hg2 with h1|h1
  ·have:=hbu g h1;omega
  ·omega
end
section
variable {P:Program} {N:Nat} {α:Type} {c:CN α} [DK c] {w:World} {B hi:Nat} {e1 e2:TypeId} {xss:List (List α)} {v:Value} {vs:List Value} {o:Oper} {K:KL}
theorem AiT{t g m off:Nat}{u:Value}{zs:List α}(h:stC K o.op=some (t,g,off,u))(hoff:off=0+m*(Cl c).n)(hg:v.ownBlock=some g)(hn:As P t=some 1)(hh:dY c w B hi e1 e2 xss v vs m u)(ho:AB c w B (Iv 0 0) e2 zs u)(hm:m<xss.length):
 IM P N K o w (fun _ w'=>Fs g w w'∧own2 c w' B hi e1 e2 (xss.set m zs) v (vs.set m u)):=by
 obtain⟨x,y,hop,hx,hy⟩:=Vn h
 obtain⟨a,b,d,hv,hbu⟩:=hh
 have hu1:u.cells= #[u]:=ho.cells
 have hu2:u.oneCell'=true:=ho.one
 have a':=a
 obtain⟨hl,⟨rfl,hn0⟩|⟨g',cap,cur,rfl,hb,hhp,h5,h6,h7,h8⟩⟩:=a'
 ·omega
 simp [Value.ownBlock]at hg
 subst hg
 obtain⟨ti,hi1,hsz⟩:=Option.map_eq_some_iff.1 hn
 have hoff':off=m:=by rw [hoff];show 0+m*1=m;omega
 subst hoff'
 have hlen:off<cur.size:=by rw [h7];omega
 have hst:=run_storeCells_at P g' off e1 [u] 0 cur w hhp (by simp;omega) (by simpa using hu2)
 simp only [Nat.add_zero]at hst
 intro ac hK Kt Q hk
 have hr:(execOp ac.eval o).run P w= .ok .skip (w.setRow g' (cur.toList.set off u).toArray):=by
  have e:List.take off cur.toList++[u]++List.drop (off+1) cur.toList=cur.toList.set off u:=by
   rw [List.set_eq_take_append_cons_drop,if_pos (by simpa using hlen)];simp
  simp [execOp,hop,hK.ev hx,hK.ev hy,Instr.storeAt,Instr.sureAddr,storeVar,Sem.run_bind,sizeOf,typeInfo,hi1,hsz,hu1]at hst ⊢
  rw [hst]
  simp at e
  simp [e]
 unfold Oper.wp
 rw [hr]
 have hU:=Fs.setRow w g' (cur.toList.set off u).toArray
 refine hk _ _ ⟨hU,?_,?_,?_⟩
 ·refine⟨by rw [List.length_set,List.length_set];exact hl,.inr ⟨g',cap,_,by simp,hb,setRow_heap w g' cur _ e1 _ hhp,by simpa using h5,h6,by simpa using h7,?_⟩⟩
  rw [List.length_set]
  simp only [List.toList_toArray,Nat.mul_one]
  rw [List.take_set]
  congr 1
  simpa using h8
 ·intro i xs t hx2 ht
  rcases Ok hx2 with ⟨rfl,rfl⟩|⟨hne,hx3⟩
  ·have:t=u:=by
    rw [List.getElem?_set_self (by rw [hl];omega)]at ht
    exact(Option.some.inj ht).symm
   subst this
   refine⟨ho.keep (fun q hq=>setRow_other _ _ _ _ (fun e=>?_)) (fun _ h=>h) (fun k h=>absurd h.2 (Nat.not_lt_zero k)),hbu,hv⟩
   subst e
   exact hv q q rfl hq rfl
  ·rw [List.getElem?_set_ne hne]at ht
   obtain⟨p,q,r,s⟩:=b i xs t (fun e=>hne e.symm) hx3 ht
   exact⟨p.keep (fun g2 hg2=>setRow_other _ _ _ _ (fun e=>by subst e;exact r g2 g2 rfl hg2 rfl)) (fun _ h=>h) (fun k h=>absurd h.2 (Nat.not_lt_zero k)),q,r⟩
 ·intro i j t t' hij ht ht'
  have get:∀i t,(vs.set off u)[i]? =some t->(i=off∧t=u)∨(i≠off∧vs[i]? =some t):=fun i t h=>by
   rcases Ok h with ⟨e,e2⟩|⟨e,e2⟩
   ·exact .inl ⟨e.symm,e2⟩
   ·exact .inr ⟨fun q=>e q.symm,e2⟩
  have hx:∀i t,i≠off->vs[i]? =some t->∃xs,xss[i]? =some xs:=fun i t _ h=>by
   have:=(List.getElem?_eq_some_iff.1 h).1
   exact⟨_,List.getElem?_eq_getElem (by rw [hl]at this;omega)⟩
  rcases get i t ht with ⟨e,rfl⟩|⟨e,h1⟩<;>rcases get j t' ht' with ⟨e',rfl⟩|⟨e',h2⟩
  ·exact absurd (e.trans e'.symm) hij
  ·obtain⟨xs,hxs⟩:=hx j t' e' h2
   exact(b j xs t' e' hxs h2).2.2.2
  ·obtain⟨xs,hxs⟩:=hx i t e h1
   exact(b i xs t e hxs h1).2.2.2.symm
  ·exact d i j t t' e e' hij h1 h2
theorem XJ{ei:TypeId}{t l c2 by' m m' k kd kd'}(ho:o.op= .makeSlice t l c2)(hu:P.underlying t=some (.slice e1))(hi:DN P e1=some ([.slice none 0 0],1,by'))(hl:CG K l=some (.int kd m))(hc:CG K c2=some (.int kd' m'))(hmm:m'=m)
 (hk:KG m by'=some k):
 IM P N K o w (fun u w'=>∃g,u= .slice (some ⟨g,0,none⟩) k k∧g=w.heap.size∧w'.heap.size=w.heap.size+1∧AH w w'∧own2 c w' g (g+1) e1 ei (List.replicate k []) u (List.replicate k (.slice none 0 0))):=by
 subst hmm
 unfold DN at hi
 obtain⟨i,hi1,hi2⟩:=Option.bind_eq_some_iff.1 hi
 obtain⟨zv,hz1,hz2⟩:=Option.map_eq_some_iff.1 hi2
 simp only [Prod.mk.injEq]at hz2
 obtain⟨e3,e4,e5⟩:=hz2
 unfold KG at hk
 split at hk
 ·rename_i hm
  injection hk with hk
  have hr:=run_make (P:=P) w t e1 i zv hu hi1 hz1 kd kd' m' m' hm.1 (Int.le_refl _) (by rw [e5,Int.mul_comm];exact hm.2.1) hm.2.2
  intro a hK Kt Q hkk
  have hr2:(execOp a.eval o).run P w= .ok (.value (.slice (some ⟨w.heap.size,0,none⟩) m'.toNat m'.toNat)) (w.alloc (.cells (madeCells zv.cells (m'.toNat*i.size)) e1)):=by
   simp [execOp,ho,hK.ev hl,hK.ev hc,hr]
  unfold Oper.wp
  rw [hr2]
  have hzc:zv.cells= #[.slice none 0 0]:=by rw [←Array.toList_inj,e3]
  have hmc:(madeCells zv.cells (m'.toNat*i.size)).toList=List.replicate k (.slice none 0 0):=by
   rw [hzc,e4,hk,Nat.mul_one]
   apply List.ext_getElem
   ·simp [size_madeCells]
   ·intro j h1 h2
    simp [madeCells,Nat.mod_one]
  refine hkk _ _ ⟨w.heap.size,by rw [hk],rfl,by simp,AH.alloc _ _,⟨by simp,.inr ⟨w.heap.size,k,_,by rw [List.length_replicate,hk],Nat.le_refl _,heap_alloc_new w _,by simp,by simp only [maxLen];omega,?_,?_⟩⟩,?_,?_⟩
  ·rw [←Array.length_toList,hmc];simp
  ·rw [hmc];simp
  ·intro i xs u hx hu2
   have hxs:xs=[]:=by
    rw [List.getElem?_replicate]at hx;split at hx
    ·exact(Option.some.inj hx).symm
    ·cases hx
   have hus:u= .slice none 0 0:=by
    rw [List.getElem?_replicate]at hu2;split at hu2
    ·exact(Option.some.inj hu2).symm
    ·cases hu2
   subst hxs hus
   exact⟨AB.nil _ _ _ _ _,(fun q h=>by cases h),(fun g q _ h=>by cases h)⟩
  ·intro i j u u' _ hu2 _ g q hg
   have hus:u= .slice none 0 0:=by
    rw [List.getElem?_replicate]at hu2;split at hu2
    ·exact(Option.some.inj hu2).symm
    ·cases hu2
   subst hus;cases hg
 ·cases hk
end
end Go.Eng
namespace Go.Eng
open Go Go.RowKit
theorem own2.at1{α:Type}{c:CN α}[DK c]{w:World}{B hi:Nat}{e1 e2:TypeId}{xss:List (List α)}{v:Value}{vs:List Value}{m:Int}{xs:List α}{g:Nat}{u:Value}(h:own2 c w B hi e1 e2 xss v vs)(hy:AE xss m=some xs)(hg:v.ownBlock=some g)
 (hcl:AP w g (0+m.toNat*(Cl c).n) [u]):vs[m.toNat]? =some u:=by
 obtain⟨u',h1,h2⟩:=h.at hy hg rfl hcl
 simp at h1;rw [h1];exact h2
theorem ZD{α:Type}{xs:List α}{m:Int}{y:α}(h:AE xs m=some y):m.toNat<xs.length:=by
 obtain⟨h0,h1,_⟩:=EA h;omega
end Go.Eng
namespace Go.Eng
open Go Go.RowKit
theorem yi2{P:Program}{N:Nat}{K:KL}{o:Oper}{α:Type}{c:CN α}{w w0:World}{B hi:Nat}{e1 e2:TypeId}{xss:List (List α)}{v:Value}{vs:List Value}{n:Nat}{u0:Value}{xs:List α}{t:Nat}{k:IntKind}{m:Int}(h:Wz K o.op=some (t,v,k,m))(hu:P.underlying t=some (.slice e1))(hc:As P e1=some 1)(hh:dY c w B hi e1 e2 xss v vs n u0)(hg:AE xss m=some xs):
 YE P N K o w0 (fun u=>∃g,u= .pointer (some ⟨g,0+m.toNat*(Cl c).n,none⟩)∧v.ownBlock=some g):=by
 obtain⟨x,i,ho,hx,hi'⟩:=Vb h
 obtain⟨g0,g1,g2⟩:=EA hg
 obtain⟨⟨hl,⟨rfl,hn⟩|⟨g,cap,cur,rfl,_⟩⟩,_⟩:=hh
 ·omega
 ·exact⟨_,Ez (sz:=(Cl c).n) ho hu hc hx hi' g0 g1,g,rfl,rfl⟩
end Go.Eng
namespace Go.Eng
/-! ## Pointers that may be nil -/
def UJ{α β:Type}(o:Option α)(a:β)(f:α->β):β:=match o with
 |none=>a
 |some x=>f x
theorem xW{α β:Type}{o:Option α}{A:Option β}{f:α->Option β}{r:β}(h:o=none)(hF:UJ o A f=some r):A=some r:=by subst h;exact hF
theorem zE{α β:Type}{o:Option α}{x:α}{A:Option β}{f:α->Option β}{r:β}(h:o=some x)(hF:UJ o A f=some r):f x=some r:=by subst h;exact hF
def uD{α:Type}(o:Option α)(p:Prop)(f:α->Prop):Prop:=match o with
 |none=>p
 |some x=>f x
theorem zT{α:Type}{o:Option α}{p:Prop}{f:α->Prop}(h:o=none)(hF:uD o p f):p:=by subst h;exact hF
theorem AdG{α:Type}{o:Option α}{x:α}{p:Prop}{f:α->Prop}(h:o=some x)(hF:uD o p f):f x:=by subst h;exact hF
end Go.Eng
namespace Go.Eng
theorem US{B hi:Nat}{v:Go.Value}{Q:Nat->Prop}(h:∀k,SX B hi v k->Q k):∀k,SX B hi v k->Q k:=h
end Go.Eng
namespace Go.Eng
open Go Go.RowKit
/-! ## Slices of which nothing is told -/
end Go.Eng
namespace Go
@[reducible] def Value.i (x:Int):Value:=.int .i64 x
end Go
namespace Go.Eng
open Go Go.RowKit
/-! ## Cells whose numbers may turn: what is written into them is not told -/
inductive Oc:Value->Value->Prop
 |refl (u:Value):Oc u u
 |int (k:IntKind) (m n:Int):Oc (.int k m) (.int k n)
 |bool (a b:Bool):Oc (.bool a) (.bool b)
 |str (a b:ByteArray):Oc (.string a) (.string b)
theorem Oc.trans{a b c:Value}(h:Oc a b)(k:Oc b c):Oc a c:=by
 cases h with
 |refl=>exact k
 |int kk m n=>cases k with
  |refl=>exact .int kk m n
  |int _ _ q=>exact .int kk m q
 |bool x y=>cases k with
  |refl=>exact .bool x y
  |bool _ q=>exact .bool x q
 |str x y=>cases k with
  |refl=>exact .str x y
  |str _ q=>exact .str x q
def Pr(us vs:List Value):Prop:=us.length=vs.length∧∀(j:Nat) (u v:Value),us[j]? =some u->vs[j]? =some v->Oc u v
theorem Pr.refl(us:List Value):Pr us us:=⟨rfl,fun j u v h k=>by rw [h]at k;obtain rfl:=Option.some.inj k;exact .refl _⟩
structure Di(p:Nat->Prop)(w w':World):Prop where
 but:Bl p w w'
 cell:∀b off u,w.cell? ⟨b,off,none⟩=some u->∃u',w'.cell? ⟨b,off,none⟩=some u'∧Oc u u'
 froz:∀b off,b<w.heap.size->w.frozen? ⟨b,off,none⟩=false->w'.frozen? ⟨b,off,none⟩=false
section
variable {p q:Nat -> Prop} {w a c:World}
theorem Di.refl(p:Nat->Prop)(w:World):Di p w w:=⟨Bl.refl p w,fun _ _ u h=>⟨u,h,.refl _⟩,fun _ _ _ h=>h⟩
theorem Di.ofBut(h:Bl p w a)(hb:∀k,k<w.heap.size->a.heap[k]? =w.heap[k]?):Di p w a:=
 ⟨h,fun b off u hu=>⟨u,by rw [World.cell?_of_block (w:=w) (hb b (World.block_lt_of_cell? _ _ hu))];exact hu,.refl _⟩,fun b off hl hf=>by rw [FJ (hb b hl)];exact hf⟩
theorem Di.then(h:Di p w a)(k:Di q a c)(hb:Bl p w c):Di p w c:=
 ⟨hb,fun b off u hu=>by
  obtain⟨u1,h1,h2⟩:=h.cell b off u hu
  obtain⟨u2,h3,h4⟩:=k.cell b off u1 h1
  exact⟨u2,h3,h2.trans h4⟩,fun b off hl hf=>k.froz b off (Nat.lt_of_lt_of_le hl h.but.size) (h.froz b off hl hf)⟩
theorem Di.ext(h:Di p w a)(he:AH a c):Di p w c:=
 h.then (q:=fun _=>False) (Di.ofBut ⟨he.os,he.tape,he.output,he.size,fun k hk _=>he.block k hk⟩ fun k hk=>he.block k hk) (h.but.ext he)
theorem Di.sim(h:Di p w a)(k:Di q a c)(hq:∀k,q k->p k∨w.heap.size<=k):Di p w c:=h.then k (h.but.but k.but hq)
theorem Di.upd{b:Nat}(h:Di p w a)(hu:Fs b a c)(hb:w.heap.size<=b):Di p w c:=
 ⟨h.but.upd hu (.inr hb),fun d off u hd=>by
  obtain⟨u1,h1,h2⟩:=h.cell d off u hd
  have:=World.block_lt_of_cell? _ _ hd
  exact⟨u1,by rw [World.cell?_of_block (w:=a) (hu.block d (by show d≠b;have:d<w.heap.size:=this;omega))];exact h1,h2⟩,fun d off hl hf=>by
  rw [FJ (hu.block d (by omega))];exact h.froz d off hl hf⟩
end
theorem AP.cons{w:World}{b off:Nat}{u:Value}{us:List Value}(h:AP w b off (u::us)):(w.cell? ⟨b,off,none⟩=some u∧w.frozen? ⟨b,off,none⟩=false)∧AP w b (off+1) us:=
 ⟨by have:=h 0 u rfl;rwa [Nat.add_zero]at this,fun j v hj=>by have:=h (j+1) v (by simpa using hj);rwa [show off+(j+1)=off+1+j by omega]at this⟩
theorem AP.mk{w:World}{b off:Nat}{u:Value}{us:List Value}(h0:w.cell? ⟨b,off,none⟩=some u∧w.frozen? ⟨b,off,none⟩=false)(h:AP w b (off+1) us):AP w b off (u::us):=fun j v hj=>by
 cases j with
 |zero=>obtain rfl:u=v:=by simpa using hj
        rw [Nat.add_zero];exact h0
 |succ j=>rw [show off+(j+1)=off+1+j by omega];exact h j v (by simpa using hj)
theorem AP.sim{p:Nat->Prop}{w w':World}(hs:Di p w w'){b:Nat}:∀{us:List Value} {off:Nat},AP w b off us->∃us',Pr us us'∧AP w' b off us'
 |[],off,_=>⟨[],Pr.refl _,fun j u h=>by simp at h⟩
 |u::us,off,h=>by
  obtain⟨⟨h1,h2⟩,h3⟩:=h.cons
  obtain⟨us',⟨k1,k2⟩,k3⟩:=AP.sim hs h3
  obtain⟨u',h4,h5⟩:=hs.cell b off u h1
  refine⟨u'::us',⟨by simp [k1],fun j x y hx hy=>?_⟩,AP.mk ⟨h4,hs.froz b off (World.block_lt_of_cell? _ _ h1) h2⟩ k3⟩
  cases j with
  |zero=>obtain rfl:u=x:=by simpa using hx
         obtain rfl:u'=y:=by simpa using hy
         exact h5
  |succ j=>exact k2 j x y (by simpa using hx) (by simpa using hy)
/-! ## Codecs that do not tell numbers -/
def CV(k:IntKind):CN Int where
 n:=1
 rep:=fun _ _ _ vs=>∃y,vs=[.int k y]
 len:=fun⟨_,h⟩=>by rw [h];rfl
 one:=fun⟨_,h⟩=>by rw [h];rfl
 mono:=fun h _ _=>h
def ID:CN Bool where
 n:=1
 rep:=fun _ _ _ vs=>∃y,vs=[.bool y]
 len:=fun⟨_,h⟩=>by rw [h];rfl
 one:=fun⟨_,h⟩=>by rw [h];rfl
 mono:=fun h _ _=>h
def Gf:CN ByteArray where
 n:=1
 rep:=fun _ _ _ vs=>∃y,vs=[.string y]
 len:=fun⟨_,h⟩=>by rw [h];rfl
 one:=fun⟨_,h⟩=>by rw [h];rfl
 mono:=fun h _ _=>h
class KC{α:Type}(c:CN α):Prop where
 sim:∀{p:Nat->Prop} {w w':World} {S:Nat->Prop} {x:α} {vs vs':List Value},c.rep w S x vs->Di p w w'->Pr vs vs'->c.rep w' S x vs'
theorem Pr.one{u:Value}{vs:List Value}(h:Pr [u] vs):∃v,vs=[v]∧Oc u v:=by
 obtain⟨v,rfl⟩:=List.length_eq_one_iff.1 h.1.symm
 exact⟨v,rfl,h.2 0 u v rfl rfl⟩
instance (k:IntKind):KC (CV k):=⟨fun⟨y,e⟩ _ h=>by
 subst e;obtain⟨v,rfl,h2⟩:=h.one
 cases h2 with
 |refl=>exact⟨_,rfl⟩
 |int _ _ n=>exact⟨n,rfl⟩⟩
instance:KC ID:=⟨fun⟨y,e⟩ _ h=>by
 subst e;obtain⟨v,rfl,h2⟩:=h.one
 cases h2 with
 |refl=>exact⟨_,rfl⟩
 |bool _ n=>exact⟨n,rfl⟩⟩
instance:KC Gf:=⟨fun⟨y,e⟩ _ h=>by
 subst e;obtain⟨v,rfl,h2⟩:=h.one
 cases h2 with
 |refl=>exact⟨_,rfl⟩
 |str _ n=>exact⟨n,rfl⟩⟩
theorem Pr.app{us ts vs:List Value}(h:Pr (us++ts) vs):∃vs1 vs2,vs=vs1++vs2∧Pr us vs1∧Pr ts vs2:=by
 obtain⟨h1,h2⟩:=h
 rw [List.length_append]at h1
 refine⟨vs.take us.length,vs.drop us.length,(List.take_append_drop _ _).symm,⟨by simp;omega,fun j u v hu hv=>?_⟩,⟨by simp;omega,fun j u v hu hv=>?_⟩⟩
 ·have hj:=(List.getElem?_eq_some_iff.1 hu).1
  rw [List.getElem?_take,if_pos hj]at hv
  exact h2 j u v (by rw [List.getElem?_append_left hj];exact hu) hv
 ·rw [List.getElem?_drop]at hv
  exact h2 (us.length+j) u v (by rw [List.getElem?_append_right (by omega),Nat.add_sub_cancel_left];exact hu) hv
instance {α β:Type}(c:CN α)(d:CN β)[hc:KC c][hd:KC d]:KC (Ar c d):=⟨fun⟨us,ts,e,h1,h2⟩ hs h=>by
 subst e;obtain⟨vs1,vs2,rfl,k1,k2⟩:=h.app
 exact⟨vs1,vs2,rfl,hc.sim h1 hs k1,hd.sim h2 hs k2⟩⟩
instance {α β:Type}(f:β->α)(c:CN α)[hc:KC c]:KC (CM f c):=⟨fun h hs k=>hc.sim h hs k⟩
theorem AD.sim{α:Type}{c:CN α}[hc:KC c]{p:Nat->Prop}{w w':World}{S:Nat->Prop}{xs:List α}{v:Value}(h:AD c w S xs v)(hs:Di p w w'):AD c w' S xs v:=by
 obtain⟨a,cap,h1,h2,h3,h4⟩:=h
 refine⟨a,cap,h1,h2,h3,fun hl=>?_⟩
 obtain⟨b,off,h5,h6,h8⟩:=h4 hl
 refine⟨b,off,h5,h6,fun i x hx=>?_⟩
 obtain⟨us,h9,h10⟩:=h8 i x hx
 obtain⟨us',k1,k2⟩:=h10.sim hs
 exact⟨us',hc.sim h9 hs k1,k2⟩
instance {α:Type}(c:CN α)[KC c]:KC (Cl c):=⟨fun⟨v,e,h⟩ hs k=>by
 subst e;obtain⟨v',rfl,k2⟩:=k.one
 obtain⟨a,cap,rfl,_⟩:=id h
 cases k2
 exact⟨_,rfl,h.sim hs⟩⟩
class Eb{α:Type}(c:CN α)(c':outParam (CN α)):Prop where
 n:c'.n=c.n
 of:∀{w:World} {S:Nat->Prop} {x:α} {vs:List Value},c.rep w S x vs->c'.rep w S x vs
instance (k:IntKind):Eb (AI k) (CV k):=⟨rfl,fun h=>⟨_,h⟩⟩
instance:Eb Am ID:=⟨rfl,fun h=>⟨_,h⟩⟩
instance:Eb Au Gf:=⟨rfl,fun h=>⟨_,h⟩⟩
instance {α β:Type}(c c':CN α)(d d':CN β)[h1:Eb c c'][h2:Eb d d']:Eb (Ar c d) (Ar c' d'):=
 ⟨by show c'.n+d'.n=c.n+d.n;rw [h1.n,h2.n],fun⟨us,ts,e,a,b⟩=>⟨us,ts,e,h1.of a,h2.of b⟩⟩
instance {α β:Type}(f:β->α)(c c':CN α)[h:Eb c c']:Eb (CM f c) (CM f c'):=⟨h.n,fun k=>h.of k⟩
theorem AD.soft{α:Type}{c c':CN α}[hc:Eb c c']{w:World}{S:Nat->Prop}{xs:List α}{v:Value}(h:AD c w S xs v):AD c' w S xs v:=by
 obtain⟨a,cap,h1,h2,h3,h4⟩:=h
 refine⟨a,cap,h1,h2,h3,fun hl=>?_⟩
 obtain⟨b,off,h5,h6,h8⟩:=h4 hl
 refine⟨b,off,h5,h6,fun i x hx=>?_⟩
 obtain⟨us,h9,h10⟩:=h8 i x hx
 exact⟨us,hc.of h9,by rw [hc.n];exact h10⟩
instance {α:Type}(c c':CN α)[Eb c c']:Eb (Cl c) (Cl c'):=⟨rfl,fun⟨v,e,h⟩=>⟨v,e,h.soft⟩⟩
/-! ## A number is written into a slice that is only known softly -/
section
variable {P:Program} {N:Nat} {o:Oper} {K:KL} {w:World}
theorem Ce{t b off o0:Nat}{us:List Value}{u0 u:Value}(j:Nat)(h:stC K o.op=some (t,b,off,u))(hcl:AP w b o0 us)(hj:off=o0+j)(hu:us[j]? =some u0)(hv:Oc u0 u)
 (hn:As P t=some 1) (hc:u.cells.toList=[u]) (h1:u.oneCell'=true):IM P N K o w (fun _ w'=>Di (pB b) w w'):=by
 obtain⟨x,y,ho,hx,hy⟩:=Vn h
 have hcell:=hcl j u0 hu
 rw [←hj]at hcell
 obtain⟨hcell,hfro⟩:=hcell
 have hlt:b<w.heap.size:=World.block_lt_of_cell? _ _ hcell
 obtain⟨cur,ty,fz,hrow,hcur⟩:∃cur ty fz,w.heap[b]? =some (.cells cur ty fz)∧cur[off]? =some u0:=by
  unfold World.cell? at hcell
  split at hcell
  ·rename_i cur ty fz hrow
   exact⟨cur,ty,fz,hrow,by simpa using hcell⟩
  ·cases hcell
 intro a hK Kt Q hk
 obtain⟨ti,hi,hsz⟩:=Option.map_eq_some_iff.1 hn
 have hst:(storeCells ⟨b,off,none⟩ u.cells.toList 0).run P w= .ok () (w.setRow b (cur.setIfInBounds off u)):=by
  rw [hc]
  have hadd:(⟨b,off,none⟩:Addr).add 0=⟨b,off,none⟩:=by simp [Addr.add]
  simp only [storeCells,Sem.run_bind,hadd]
  rw [run_store P w _ u _ h1,hcell]
  simp [hfro,setCell_eq_setRow w b off cur ty fz u hrow]
 have hl1:u.cells.size=1:=by have:=congrArg List.length hc;simpa using this
 have hr:(execOp a.eval o).run P w= .ok .skip (w.setRow b (cur.setIfInBounds off u)):=by
  simp [execOp,ho,hK.ev hx,hK.ev hy,Instr.storeAt,Instr.sureAddr,storeVar,Sem.run_bind,sizeOf,typeInfo,hi,hsz,hl1]at hst ⊢
  rw [hst]
  simp
 unfold Oper.wp
 rw [hr]
 have hu2:=Fs.setRow w b (cur.setIfInBounds off u)
 have hrow2:=setRow_heap w b cur (cur.setIfInBounds off u) ty fz hrow
 refine hk _ _ ⟨(Bl.refl (pB b) w).upd hu2 (.inl rfl),fun d q x hd=>?_,fun d q hl hf=>?_⟩
 ·by_cases e:d=b
  ·subst e
   rw [cell_of_row w d q cur ty fz hrow]at hd
   rw [cell_of_row _ d q _ ty fz hrow2]
   by_cases e2:off=q
   ·subst e2
    rw [hcur]at hd
    obtain rfl:=Option.some.inj hd
    have:=(Array.getElem?_eq_some_iff.1 hcur).1
    exact⟨u,by simp [this],hv⟩
   ·exact⟨x,by rw [Array.getElem?_setIfInBounds_ne e2];exact hd,.refl _⟩
  ·exact⟨x,by rw [World.cell?_of_block (w:=w) (hu2.block d e)];exact hd,.refl _⟩
 ·by_cases e:d=b
  ·subst e
   simp only [World.frozen?,hrow,hrow2]at hf ⊢
   exact hf
  ·rw [FJ (hu2.block d e)];exact hf
end
/-! ## Worlds, in fewer words -/
theorem oP{p:Nat->Prop}{w a b:World}(h:Di p w a)(k:AH a b):Di p w b∧a.heap.size<=b.heap.size:=⟨h.ext k,k.size⟩
theorem JD{p q:Nat->Prop}{w a b:World}(h:Di p w a)(k:Di q a b)(hq:∀k,q k->p k∨w.heap.size<=k):Di p w b∧a.heap.size<=b.heap.size:=⟨h.sim k hq,k.but.size⟩
theorem AB.slG{α:Type}{c:CN α}{w:World}{B:Nat}{S S':Nat->Prop}{e:TypeId}{xs:List α}{v:Value}(h:AB c w B S e xs v)(hS:∀k,S k->S' k)(hb:∀g,v.ownBlock=some g->S' g):AD c w S' xs v:=by
 obtain⟨cs,h0,h3⟩:=h
 have h0':=h0
 obtain⟨hl,⟨rfl,hn⟩|⟨g,cap,cur,rfl,_,hh,h5,h6,h7,h8⟩⟩:=h0'
 ·have:xs=[]:=List.eq_nil_of_length_eq_zero hn
  subst this;exact AD.nil _ _ _
 ·refine⟨some ⟨g,0,none⟩,cap,rfl,⟨h5,fun h=>by cases h⟩,by simpa [maxLen] using h6,fun hpos=>⟨g,0,rfl,hb g rfl,fun i x hx=>⟨_,c.mono (h3 i x hx) hS (fun _ _=>rfl),fun j u hu=>?_⟩⟩⟩
  have hjn:j<c.n:=by
   have:=(List.getElem?_eq_some_iff.1 hu).1
   simp [BA]at this;omega
  rw [BZ hjn]at hu
  have:=h0.cells (g:=g) rfl _ _ hu
  rw [DA]at this
  rw [show 0+i*c.n+j=0+(i*c.n+j) by omega];exact⟨this,by simp [World.frozen?,hh]⟩
theorem nr{n:Nat}:n<=n:=Nat.le_refl n
end Go.Eng
namespace Go.Eng
open Go Go.RowKit
/-! ## Own slices of own slices: built by literals and appends, written by calls -/
def Sy:CN Value where
 n:=1
 rep:=fun _ _ x vs=>vs=[x]∧x.oneCell'=true
 len:=fun h=>by rw [h.1];rfl
 one:=fun h=>by rw [h.1];simp [h.2]
 mono:=fun h _ _=>h
instance:DK Sy:=⟨fun h=>h⟩
theorem mO{w:World}{B:Nat}{S:Nat->Prop}{e:TypeId}{vs:List Value}{v:Value}(h:AB Sy w B S e vs v):w.ownsRow B e 1 v vs.length vs:=by
 obtain⟨cs,h1,h2⟩:=h
 have hl:cs.length=vs.length:=by have:=h1.1;simpa [Sy] using this
 have e1:cs=vs:=by
  apply List.ext_getElem?
  intro i
  by_cases hi:i<vs.length
  ·have h3:=(h2 i vs[i] (List.getElem?_eq_getElem hi)).1
   have h4:(BA cs 1 i)[0]? =some vs[i]:=by rw [show BA cs 1 i=[vs[i]]from h3];rfl
   rw [BZ (by omega)]at h4
   rw [List.getElem?_eq_getElem hi,←h4];congr 1;omega
  ·rw [List.getElem?_eq_none (by omega),List.getElem?_eq_none (by omega)]
 rw [e1]at h1;exact h1
section
variable {α:Type} {c:CN α} [DK c] {w w':World} {B B1 B2 hi lo1 hi1 lo2 hi2:Nat} {S:Nat -> Prop} {e1 e2:TypeId} {xss:List (List α)} {xs ys:List α} {v u t:Value} {vs:List Value}
theorem own2.raw(h:own2 c w B hi e1 e2 xss v vs):AB Sy w B (Iv 0 0) e1 vs v:=by
 have hl:vs.length=xss.length:=by have:=h.1.1;omega
 have h1:=h.1
 rw [←hl]at h1
 refine⟨vs,h1,fun i x hx=>⟨oJ hx,?_⟩⟩
 have hi:i<xss.length:=by have:=(List.getElem?_eq_some_iff.1 hx).1;omega
 exact(h.2.1 i _ x (List.getElem?_eq_getElem hi) hx).1.one
theorem own2.of(h:AB Sy w B S e1 vs v)(hl:vs.length=xss.length)(hin:∀(i:Nat) (xs:List α) (u:Value),xss[i]? =some xs->vs[i]? =some u->AB c w B (Iv 0 0) e2 xs u∧Bd u B hi∧No v u)
 (hd:∀(i j:Nat) (u u':Value),i≠j->vs[i]? =some u->vs[j]? =some u'->No u u'):own2 c w B hi e1 e2 xss v vs:=by
 have h1:=mO h
 rw [hl]at h1
 exact⟨h1,hin,hd⟩
theorem own2.base{B':Nat}(h:own2 c w B hi e1 e2 xss v vs)(hB:B'<=B):own2 c w B' hi e1 e2 xss v vs:=by
 refine own2.of (AB.base h.raw hB) (by have:=h.1.1;omega) (fun i xs u hx hu=>?_) h.2.2
 obtain⟨p,q,r⟩:=h.2.1 i xs u hx hu
 exact⟨p.base hB,fun g hg=>by have:=q g hg;omega,r⟩
theorem own2.lit1{g:Nat}(h:AB Sy w g S e1 [u] v)(h1:AB c w B1 (Iv 0 0) e2 xs u)(hb:Bd v g (g+1))(b1:Bd u lo1 hi1)(hB:B<=B1)(hg:B<=g)(hl:B<=lo1)(hh:hi1<=g):own2 c w B g e1 e2 [xs] v [u]:=by
 refine own2.of (AB.base h hg) rfl (fun i x t hx ht=>?_) (fun i j t t' hij ht ht'=>?_)
 ·match i with
  |0=>
   obtain rfl:xs=x:=Option.some.inj hx
   obtain rfl:u=t:=Option.some.inj ht
   exact⟨h1.base hB,fun q hq=>by have:=b1 q hq;omega,fun q q' hq hq'=>by have:=hb q hq;have:=b1 q' hq';omega⟩
  |i+1=>simp at hx
 ·match i,j with
  |0,0=>exact absurd rfl hij
  |0,j+1=>simp at ht'
  |i+1,_=>simp at ht
theorem own2.put{m:Int}{zs:List α}(h:own2 c w B hi e1 e2 xss v vs)(hy:AE xss m=some xs)(hu:vs[m.toNat]? =some u)(hb:Bl (pO u) w w')(hle:hi<=w.heap.size)(ho:AB c w' B1 (Iv 0 0) e2 zs u)(hB:B<=B1):own2 c w' B hi e1 e2 (xss.set m.toNat zs) v vs:=by
 obtain⟨_,hbu,hvu⟩:=h.sub hy hu
 obtain⟨a,b,d⟩:=h
 refine⟨?_,fun i x t hx ht=>?_,d⟩
 ·rw [List.length_set]
  exact ownsRow.keep a (fun g hg=>hb.block g (a.lt g hg).2 (fun e=>hvu g g hg e rfl))
 ·rcases Ok hx with ⟨rfl,rfl⟩|⟨hne,hx3⟩
  ·obtain rfl:u=t:=Option.some.inj (hu.symm.trans ht)
   exact⟨ho.base hB,hbu,hvu⟩
  ·obtain⟨p,q,r⟩:=b i x t hx3 ht
   exact⟨p.keep (fun g hg=>hb.block g (by have:=q g hg;omega) (fun e=>d m.toNat i u t hne hu ht g g e hg rfl)) (fun _ h=>h) (fun k h=>absurd h.2 (Nat.not_lt_zero k)),q,r⟩
end
theorem dT{α β:Type}{xs ys zs:List α}{vs us:List β}{k:Nat}(h:Du xs ys k=some zs)(h1:vs.length=xs.length)(h2:us.length=ys.length):Du vs us k=some (vs++us)∧zs=xs++ys:=by
 unfold Du at h ⊢
 rw [h1,h2]
 split at h
 ·rename_i hc
  rw [if_pos hc];exact⟨rfl,(Option.some.inj h).symm⟩
 ·cases h
section
variable {P:Program} {N:Nat} {K:KL} {o:Oper} {α:Type} {c:CN α} [DK c] {w:World} {B hi B2 hi2:Nat} {e1 e2:TypeId} {xss yss zss:List (List α)} {v u:Value} {vs us:List Value}
theorem TP{t x y zc sz by'}(ho:o.op= .call { callee:=.builtin .append,args:=#[x,y],argTypes:=#[t,t] })(hu:P.underlying t=some (.slice e1))(hi1:DN P e1=some (zc,sz,by'))(hsz:sz=1)(hzc:zc.length=sz)
 (hx:CG K x=some v) (hy:CG K y=some u) (h:own2 c w B hi e1 e2 xss v vs) (h2:own2 c w B2 hi2 e1 e2 yss u us) (hB:B<=w.heap.size) (hle:hi<=B2) (hBB:B<=B2) (hh2:hi2<=w.heap.size) (hh:hi<=w.heap.size) (hns:Ns v B2 hi2) (ha:Du xss yss by'=some zss):
 IM P N K o w (fun v' w'=>own2 c w' B w'.heap.size e1 e2 zss v' (vs++us)∧BD w w' v v'):=by
 have hl1:vs.length=xss.length:=by have:=h.1.1;omega
 have hl2:us.length=yss.length:=by have:=h2.1.1;omega
 obtain⟨ha2,rfl⟩:=dT ha hl1 hl2
 intro a hK Kt Q hk
 refine BC (c:=Sy) (S2:=Iv 0 w.heap.size) ho hu hi1 hsz hzc rfl hx hy h.raw hB (AB.slf h2.raw (Nat.zero_le _) (Nat.le_refl _)) ha2 a hK Kt Q ?_
 rintro v' w' ⟨h3,h4⟩
 have hsize:=h4.1.size
 have nv:∀q,q<w.heap.size->(∀g,v.ownBlock=some g->g≠q)->∀g,v'.ownBlock=some g->g≠q:=fun q hq hne g hg=>by
  rcases h4.2 g hg with h5|h5
  ·exact hne g h5
  ·omega
 have one:∀{B3 hi3:Nat} {xs:List α} {t:Value},hi3<=w.heap.size->B<=B3->(∀g q,v.ownBlock=some g->t.ownBlock=some q->g≠q)->AB c w B3 (Iv 0 0) e2 xs t->Bd t B3 hi3->AB c w' B (Iv 0 0) e2 xs t∧Bd t B w'.heap.size∧No v' t:=fun hh3 hB3 hne p q=>
  ⟨(p.keep (fun g hg=>h4.1.block g (by have:=q g hg;omega) (fun e=>hne g g e.symm hg rfl)) (fun _ h=>h) (fun k h=>absurd h.2 (Nat.not_lt_zero k))).base hB3,fun g hg=>by have:=q g hg;omega,fun g q2 hg hq=>nv q2 (by have:=q q2 hq;omega) (fun g2 hg2=>hne g2 q2 hg2 hq) g hg⟩
 have get:∀i t,(vs++us)[i]? =some t->(i<vs.length∧vs[i]? =some t)∨(vs.length<=i∧us[i-vs.length]? =some t):=fun i t h=>by
  by_cases hi:i<vs.length
  ·rw [List.getElem?_append_left hi]at h;exact .inl ⟨hi,h⟩
  ·rw [List.getElem?_append_right (by omega)]at h;exact .inr ⟨by omega,h⟩
 have lo:∀i t,vs[i]? =some t->Bd t B hi∧No v t:=fun i t ht=>by
  have hi:i<xss.length:=by have:=(List.getElem?_eq_some_iff.1 ht).1;omega
  exact(h.2.1 i _ t (List.getElem?_eq_getElem hi) ht).2
 have up:∀i t,us[i]? =some t->Bd t B2 hi2:=fun i t ht=>by
  have hi:i<yss.length:=by have:=(List.getElem?_eq_some_iff.1 ht).1;omega
  exact(h2.2.1 i _ t (List.getElem?_eq_getElem hi) ht).2.1
 refine hk _ _ ⟨own2.of h3 (by simp;omega) (fun i xs t hx2 ht=>?_) (fun i j t t' hij ht ht'=>?_),h4⟩
 ·rcases get i t ht with ⟨h5,h6⟩|⟨h5,h6⟩
  ·rw [List.getElem?_append_left (by omega)]at hx2
   obtain⟨p,q,r⟩:=h.2.1 i xs t hx2 h6
   exact one hh (Nat.le_refl _) r p q
  ·rw [List.getElem?_append_right (by omega)]at hx2
   obtain⟨p,q,r⟩:=h2.2.1 (i-vs.length) xs t (by rw [hl1];exact hx2) h6
   exact one hh2 hBB (fun g q2 hg hq=>by have:=hns g hg;have:=q q2 hq;omega) p q
 ·rcases get i t ht with ⟨h5,h6⟩|⟨h5,h6⟩<;>rcases get j t' ht' with ⟨h7,h8⟩|⟨h7,h8⟩
  ·exact h.2.2 i j t t' hij h6 h8
  ·intro g q hg hq;have:=(lo i t h6).1 g hg;have:=up _ t' h8 q hq;omega
  ·intro g q hg hq;have:=(lo j t' h8).1 q hq;have:=up _ t h6 g hg;omega
  ·exact h2.2.2 (i-vs.length) (j-vs.length) t t' (by omega) h6 h8
end
end Go.Eng
namespace Go.Eng
open Go Go.RowKit
/-! ## A slice that is handed over to grow -/
def Gr(w:World)(v v':Value):Prop:=∀g,v'.ownBlock=some g->v.ownBlock=some g∨w.heap.size<=g
theorem Gr.refl(w:World)(v:Value):Gr w v v:=fun g hg=>.inl hg
theorem Gr.grew{w w1 w2:World}{v v1 v2:Value}(h:Gr w v v1)(hw:w.heap.size<=w1.heap.size)(hg:BD w1 w2 v1 v2):Gr w v v2:=fun g hv=>by
 rcases hg.2 g hv with h1|h1
 ·exact h g h1
 ·exact .inr (by omega)
theorem BD.of{w w':World}{v v':Value}(h:Bl (pO v) w w')(g:Gr w v v'):BD w w' v v':=
 ⟨⟨h.os,h.tape,h.output,h.size,fun k hk hne=>h.block k hk (fun e=>hne e.symm)⟩,g⟩
end Go.Eng
namespace Go.Eng
open Go Go.RowKit
/-! ## The end of an own slice, that may grow -/
def Fr{α:Type}(c:CN α)(w:World)(B:Nat)(e:TypeId)(xs:List α)(v:Value):Prop:=
 ∃cs,cs.length=xs.length*c.n∧(∀i x,xs[i]? =some x->c.rep w (Iv 0 0) x (BA cs c.n i))∧
  (v= .slice none 0 0∧xs.length=0∨∃g off cap cur,v= .slice (some ⟨g,off,none⟩) xs.length cap∧B<=g∧w.heap[g]? =some (.cells cur e (0,0))∧xs.length<=cap∧cap<=maxLen∧off+cap*c.n<=cur.size∧(cur.toList.drop off).take (xs.length*c.n)=cs)
section
variable {α:Type} {c:CN α} {w w':World} {B:Nat} {e:TypeId} {xs zs:List α} {v u:Value}
theorem Fr.of(h:AB c w B (Iv 0 0) e xs v):Fr c w B e xs v:=by
 obtain⟨cs,⟨hl,h1⟩,h3⟩:=h
 refine⟨cs,hl,h3,?_⟩
 rcases h1 with h1|⟨g,cap,cur,rfl,a1,a2,a3,a4,a5,a6⟩
 ·exact .inl h1
 ·exact .inr ⟨g,0,cap,cur,rfl,a1,a2,a3,a4,by omega,by simpa using a6⟩
theorem Fr.blk(h:Fr c w B e xs v):Bd v B w.heap.size:=by
 obtain⟨cs,_,_,⟨rfl,_⟩|⟨g,off,cap,cur,rfl,a1,a2,_⟩⟩:=h
 ·intro g hg;cases hg
 ·intro q hq
  simp [Value.ownBlock]at hq;subst hq
  exact⟨a1,(Array.getElem?_eq_some_iff.1 a2).1⟩
theorem Fr.base{B':Nat}(h:Fr c w B e xs v)(hB:B'<=B):Fr c w B' e xs v:=by
 obtain⟨cs,h1,h2,h3⟩:=h
 refine⟨cs,h1,h2,?_⟩
 rcases h3 with h3|⟨g,off,cap,cur,a0,a1,rest⟩
 ·exact .inl h3
 ·exact .inr ⟨g,off,cap,cur,a0,by omega,rest⟩
theorem Fr.keep[DK c](h:Fr c w B e xs v)(hg:∀g,v.ownBlock=some g->w'.heap[g]? =w.heap[g]?):Fr c w' B e xs v:=by
 obtain⟨cs,h1,h2,h3⟩:=h
 refine⟨cs,h1,fun i x hx=>DK.any (h2 i x hx),?_⟩
 rcases h3 with h3|⟨g,off,cap,cur,rfl,a1,a2,rest⟩
 ·exact .inl h3
 ·exact .inr ⟨g,off,cap,cur,rfl,a1,(hg g rfl).trans a2,rest⟩
theorem Fr.ext[DK c](h:Fr c w B e xs v)(he:AH w w'):Fr c w' B e xs v:=h.keep (fun g hg=>he.block g (h.blk g hg).2)
theorem Fr.upd[DK c]{b:Nat}(h:Fr c w B e xs v)(hu:Fs b w w')(hne:Nb v b):Fr c w' B e xs v:=h.keep (fun g hg=>hu.block g (hne g hg))
theorem Fr.butF[DK c]{p:Nat->Prop}(h:Fr c w B e xs v)(hb:Bl p w w')(hne:∀k,p k->∀g,v.ownBlock=some g->k≠g):Fr c w' B e xs v:=h.keep (fun g hg=>hb.block g (h.blk g hg).2 (fun e=>hne g e g hg rfl))
theorem Fr.sl[DK c]{S:Nat->Prop}(h:Fr c w B e xs v)(hb:∀g,v.ownBlock=some g->S g):AD c w S xs v:=by
 obtain⟨cs,hl,h3,⟨rfl,hn⟩|⟨g,off,cap,cur,rfl,_,hh,h5,h6,h7,h8⟩⟩:=h
 ·have:xs=[]:=List.eq_nil_of_length_eq_zero hn
  subst this;exact AD.nil _ _ _
 ·refine⟨some ⟨g,off,none⟩,cap,rfl,⟨h5,fun h=>by cases h⟩,by simpa [maxLen] using h6,fun hpos=>⟨g,off,rfl,hb g rfl,fun i x hx=>⟨_,DK.any (h3 i x hx),fun j u hu=>?_⟩⟩⟩
  have hjn:j<c.n:=by
   have:=(List.getElem?_eq_some_iff.1 hu).1
   simp [BA]at this;omega
  have hi:i<xs.length:=(List.getElem?_eq_some_iff.1 hx).1
  rw [BZ hjn,←h8,List.getElem?_take]at hu
  split at hu
  ·rw [List.getElem?_drop]at hu
   have e1:off+i*c.n+j=off+(i*c.n+j):=by omega
   rw [e1]
   refine⟨?_,by simp [World.frozen?,hh]⟩
   have hu2:cur[off+(i*c.n+j)]? =some u:=by simpa using hu
   rw [cell_of_row w g _ cur e (0,0) hh];exact hu2
  ·cases hu
theorem Fr.slf[DK c]{lo hi:Nat}(h:Fr c w B e xs v)(h1:lo<=B)(h2:w.heap.size<=hi):AD c w (Iv lo hi) xs v:=h.sl (fun g hg=>by have:=h.blk g hg;exact⟨by omega,by omega⟩)
theorem Fr.slb[DK c]{lo hi:Nat}(h:Fr c w B e xs v)(hb:Bd v lo hi):AD c w (Iv lo hi) xs v:=h.sl hb
section
variable {P:Program} {N:Nat} {K:KL} {o:Oper} {S:Nat -> Prop}
variable {ys:List α}
end
end
end Go.Eng
namespace Go.Eng
open Go Go.RowKit
/-! ## Short words for the plain texts -/
theorem Ag{α β:Type}{a:α}{f:α->Option β}:Option.bind (some a) f=f a:=rfl
theorem cT{α:Type}{x y:α}:(bif true then x else y)=x:=rfl
theorem cF{α:Type}{x y:α}:(bif false then x else y)=y:=rfl
theorem wT(i:Nat)(h:i<4611686018427387904:=by omega):IntKind.wrap IntKind.i64 ((i:Int)+1)=((i+1:Nat):Int):=Vw h
theorem BM{α:Type}{a r:α}(h:some a=some r):r=a:=(Option.some.inj h).symm
theorem bft(b:Bool):b=true∨b=false:=Bool.eq_false_or_eq_true b
end Go.Eng
namespace Go.Eng
open Go Go.RowKit
/-! ## Parts of an own slice: its beginning, its end, and clear -/
section
variable {α:Type} {c:CN α} {w w':World} {B:Nat} {S:Nat -> Prop} {e:TypeId} {xs zs:List α} {v u:Value}
theorem Gr.cut{w:World}{v v':Value}{m:Nat}(h:Gr w v v'):Gr w v (rE v' m):=fun g hg=>h g (by rwa [fW]at hg)
section
variable {P:Program} {N:Nat} {K:KL} {o:Oper}
end
end
end Go.Eng
namespace Go.Eng
open Go Go.RowKit
/-! ## Numbers that turn within what is only read: what is read then is told by its shape -/
inductive RI:Value->Value->Prop
 |refl (u:Value):RI u u
 |int (k:IntKind) (m n:Int):RI (.int k m) (.int k n)
theorem RI.trans{a b c:Value}(h:RI a b)(k:RI b c):RI a c:=by
 cases h with
 |refl=>exact k
 |int kk m n=>cases k with
  |refl=>exact .int kk m n
  |int _ _ q=>exact .int kk m q
def Wx(us vs:List Value):Prop:=us.length=vs.length∧∀(j:Nat) (u v:Value),us[j]? =some u->vs[j]? =some v->RI u v
theorem Wx.refl(us:List Value):Wx us us:=⟨rfl,fun j u v h k=>by rw [h]at k;obtain rfl:=Option.some.inj k;exact .refl _⟩
theorem Wx.one{u:Value}{vs:List Value}(h:Wx [u] vs):∃v,vs=[v]∧RI u v:=by
 obtain⟨v,rfl⟩:=List.length_eq_one_iff.1 h.1.symm
 exact⟨v,rfl,h.2 0 u v rfl rfl⟩
theorem Wx.app{us ts vs:List Value}(h:Wx (us++ts) vs):∃vs1 vs2,vs=vs1++vs2∧Wx us vs1∧Wx ts vs2:=by
 obtain⟨h1,h2⟩:=h
 rw [List.length_append]at h1
 refine⟨vs.take us.length,vs.drop us.length,(List.take_append_drop _ _).symm,⟨by simp;omega,fun j u v hu hv=>?_⟩,⟨by simp;omega,fun j u v hu hv=>?_⟩⟩
 ·have hj:=(List.getElem?_eq_some_iff.1 hu).1
  rw [List.getElem?_take,if_pos hj]at hv
  exact h2 j u v (by rw [List.getElem?_append_left hj];exact hu) hv
 ·rw [List.getElem?_drop]at hv
  exact h2 (us.length+j) u v (by rw [List.getElem?_append_right (by omega),Nat.add_sub_cancel_left];exact hu) hv
structure nK(b:Nat)(w w':World):Prop where
 upd:Fs b w w'
 cell:∀d off u,w.cell? ⟨d,off,none⟩=some u->∃u',w'.cell? ⟨d,off,none⟩=some u'∧RI u u'
 froz:∀d off,d<w.heap.size->w.frozen? ⟨d,off,none⟩=false->w'.frozen? ⟨d,off,none⟩=false
 row:∀cur ty fz,w.heap[b]? =some (.cells cur ty fz)->∃cur',w'.heap[b]? =some (.cells cur' ty fz)∧Wx cur.toList cur'.toList
theorem AP.siB{c:Nat}{w w':World}(hs:nK c w w'){b:Nat}:∀{us:List Value} {off:Nat},AP w b off us->∃us',Wx us us'∧AP w' b off us'
 |[],off,_=>⟨[],Wx.refl _,fun j u h=>by simp at h⟩
 |u::us,off,h=>by
  obtain⟨⟨h1,h2⟩,h3⟩:=h.cons
  obtain⟨us',⟨k1,k2⟩,k3⟩:=AP.siB hs h3
  obtain⟨u',h4,h5⟩:=hs.cell b off u h1
  refine⟨u'::us',⟨by simp [k1],fun j x y hx hy=>?_⟩,AP.mk ⟨h4,hs.froz b off (World.block_lt_of_cell? _ _ h1) h2⟩ k3⟩
  cases j with
  |zero=>obtain rfl:u=x:=by simpa using hx
         obtain rfl:u'=y:=by simpa using hy
         exact h5
  |succ j=>exact k2 j x y (by simpa using hx) (by simpa using hy)
def Vm{α:Type}(r:α->α->Prop)(xs ys:List α):Prop:=ys.length=xs.length∧∀(i:Nat) (x y:α),xs[i]? =some x->ys[i]? =some y->r x y
theorem Vm.pick{α:Type}{r:Nat->α->α->Prop}:∀{xs:List α} {s:Nat},(∀(i:Nat) (x:α),xs[i]? =some x->∃y,r (s+i) x y)->∃ys:List α,ys.length=xs.length∧∀(i:Nat) (x y:α),xs[i]? =some x->ys[i]? =some y->r (s+i) x y
 |[],s,_=>⟨[],rfl,fun i x y h=>by simp at h⟩
 |x::xs,s,h=>by
  obtain⟨y,hy⟩:=h 0 x rfl
  obtain⟨ys,h1,h2⟩:=Vm.pick (r:=r) (xs:=xs) (s:=s+1) fun i z hz=>by
   have:=h (i+1) z (by simpa using hz)
   rwa [show s+(i+1)=s+1+i by omega]at this
  refine⟨y::ys,by simp [h1],fun i a b ha hb=>?_⟩
  cases i with
  |zero=>obtain rfl:x=a:=by simpa using ha
         obtain rfl:y=b:=by simpa using hb
         exact hy
  |succ i=>have:=h2 i a b (by simpa using ha) (by simpa using hb)
           rwa [show s+1+i=s+(i+1) by omega]at this
class YX{α:Type}(c:CN α)(r:outParam (α->α->Prop)):Prop where
 sim:∀{b:Nat} {w w':World} {S:Nat->Prop} {x:α} {vs vs':List Value},c.rep w S x vs->nK b w w'->Wx vs vs'->∃x',r x x'∧c.rep w' S x' vs'
instance (k:IntKind):YX (AI k) (fun _ _=>True):=⟨fun e _ h=>by
 obtain rfl:=e;obtain⟨v,rfl,h2⟩:=h.one
 cases h2 with
 |refl=>exact⟨_,trivial,rfl⟩
 |int _ _ n=>exact⟨n,trivial,rfl⟩⟩
instance:YX Am Eq:=⟨fun e _ h=>by
 obtain rfl:=e;obtain⟨v,rfl,h2⟩:=h.one
 cases h2;exact⟨_,rfl,rfl⟩⟩
instance:YX Au Eq:=⟨fun e _ h=>by
 obtain rfl:=e;obtain⟨v,rfl,h2⟩:=h.one
 cases h2;exact⟨_,rfl,rfl⟩⟩
instance {α β:Type}(c:CN α)(d:CN β)(r:α->α->Prop)(q:β->β->Prop)[hc:YX c r][hd:YX d q]:YX (Ar c d) (fun x y=>r x.1 y.1∧q x.2 y.2):=⟨fun⟨us,ts,e,h1,h2⟩ hs h=>by
 subst e;obtain⟨vs1,vs2,rfl,k1,k2⟩:=h.app
 obtain⟨x,a1,a2⟩:=hc.sim h1 hs k1
 obtain⟨y,b1,b2⟩:=hd.sim h2 hs k2
 exact⟨(x,y),⟨a1,b1⟩,vs1,vs2,rfl,a2,b2⟩⟩
theorem YX.map{α β:Type}{c:CN α}{r:α->α->Prop}[hc:YX c r](f:β->α)(g:α->β)(h:∀y,f (g y)=y):YX (CM f c) (fun x y=>r (f x) (f y)):=⟨fun k hs hv=>by
 obtain⟨y,a1,a2⟩:=hc.sim k hs hv
 exact⟨g y,by show r _ (f (g y));rw [h];exact a1,by show c.rep _ _ (f (g y)) _;rw [h];exact a2⟩⟩
section
variable {α:Type} {c:CN α} {r:α -> α -> Prop} [hc:YX c r] {b:Nat} {w w':World} {S:Nat -> Prop} {xs:List α} {v:Value}
theorem AD.siB(h:AD c w S xs v)(hs:nK b w w'):∃ys,Vm r xs ys∧AD c w' S ys v:=by
 obtain⟨a,cap,h1,h2,h3,h4⟩:=h
 by_cases hl:0<xs.length
 ·obtain⟨d,off,h5,h6,h8⟩:=h4 hl
  obtain⟨ys,k1,k2⟩:=Vm.pick (r:=fun i x y=>r x y∧∃us,c.rep w' S y us∧AP w' d (off+i*c.n) us) (xs:=xs) (s:=0) fun i x hx=>by
   obtain⟨us,h9,h10⟩:=h8 i x hx
   obtain⟨us',q1,q2⟩:=h10.siB hs
   obtain⟨y,p1,p2⟩:=hc.sim h9 hs q1
   exact⟨y,p1,us',p2,by rw [Nat.zero_add];exact q2⟩
  have get:∀i x,xs[i]? =some x->∃y,ys[i]? =some y:=fun i x hx=>⟨_,List.getElem?_eq_getElem (by have:=(List.getElem?_eq_some_iff.1 hx).1;omega)⟩
  refine⟨ys,⟨k1,fun i x y hx hy=>(k2 i x y hx hy).1⟩,a,cap,by rw [k1];exact h1,by rw [k1];exact h2,h3,fun _=>⟨d,off,h5,h6,fun i y hy=>?_⟩⟩
  have hx:xs[i]? =some (xs[i]'(by have:=(List.getElem?_eq_some_iff.1 hy).1;omega)):=List.getElem?_eq_getElem _
  have:=(k2 i _ y hx hy).2
  rwa [Nat.zero_add]at this
 ·obtain rfl:xs=[]:=List.eq_nil_of_length_eq_zero (by omega)
  exact⟨[],⟨rfl,fun i x y h=>by simp at h⟩,a,cap,h1,h2,h3,fun h=>absurd h hl⟩
theorem AB.siB{B:Nat}{e:TypeId}(h:AB c w B S e xs v)(hs:nK b w w')(hb:∀g,v.ownBlock=some g->g≠b):∃ys,Vm r xs ys∧AB c w' B S e ys v:=by
 obtain⟨cs,h1,h2⟩:=h
 obtain⟨ys,k1,k2⟩:=Vm.pick (r:=fun i x y=>r x y∧c.rep w' S y (BA cs c.n i)) (xs:=xs) (s:=0) fun i x hx=>by
  obtain⟨y,p1,p2⟩:=hc.sim (h2 i x hx) hs (Wx.refl _)
  exact⟨y,p1,by rw [Nat.zero_add];exact p2⟩
 refine⟨ys,⟨k1,fun i x y hx hy=>(k2 i x y hx hy).1⟩,cs,by rw [k1];exact ownsRow.keep h1 (fun g hg=>hs.upd.block g (hb g hg)),fun i y hy=>?_⟩
 have hx:xs[i]? =some (xs[i]'(by have:=(List.getElem?_eq_some_iff.1 hy).1;omega)):=List.getElem?_eq_getElem _
 have:=(k2 i _ y hx hy).2
 rwa [Nat.zero_add]at this
end
instance {α:Type}(c:CN α)(r:α->α->Prop)[YX c r]:YX (Cl c) (Vm r):=⟨fun⟨v,e,h⟩ hs k=>by
 subst e;obtain⟨v',rfl,k2⟩:=k.one
 obtain⟨a,cap,rfl,_⟩:=id h
 obtain⟨ys,p1,p2⟩:=h.siB hs
 cases k2
 exact⟨ys,p1,_,rfl,p2⟩⟩
section
variable {P:Program} {N:Nat} {o:Oper} {K:KL} {w:World}
end
/-! ## What a slice's elements lead to, but for the blocks of one kind -/
def Qk(w:World)(k:Nat):Option TypeId:=match w.heap[k]? with
 |some (.cells _ e _)=>some e
 |_=>none
def RT(w:World)(B hi:Nat)(v:Value)(tx:TypeId):Nat->Prop:=fun k=>SX B hi v k∧Qk w k≠some tx
def HU{α:Type}(c:CN α)(w:World)(B hi:Nat)(e:TypeId)(xs:List α)(v:Value)(tx:TypeId):Prop:=AB c w B (RT w B hi v tx) e xs v
theorem Qk.same{w w':World}{k:Nat}(h:w'.heap[k]? =w.heap[k]?):Qk w' k=Qk w k:=by unfold Qk;rw [h]
section
variable {α:Type} {c:CN α} {w w':World} {B hi:Nat} {e tx:TypeId} {xs:List α} {v:Value}
theorem HU.keep(h:HU c w B hi e xs v tx)(h1:∀g,v.ownBlock=some g->w'.heap[g]? =w.heap[g]?)(h2:∀k,RT w B hi v tx k->w'.heap[k]? =w.heap[k]?):HU c w' B hi e xs v tx:=
 AB.keep h h1 (fun k q=>⟨q.1,by rw [Qk.same (h2 k q)];exact q.2⟩) h2
theorem HU.ext(h:HU c w B hi e xs v tx)(he:AH w w')(hle:hi<=w.heap.size):HU c w' B hi e xs v tx:=
 h.keep (fun g hg=>he.block g (AB.blk h g hg).2) (fun k q=>he.block k (by have:=q.1.2.1;omega))
theorem HU.upd{b:Nat}(h:HU c w B hi e xs v tx)(hu:Fs b w w')(hne:∀g,v.ownBlock=some g->g≠b)(hb:b<B∨hi<=b:=by omega):HU c w' B hi e xs v tx:=
 h.keep (fun g hg=>hu.block g (hne g hg)) (fun k q=>hu.block k (by have:=q.1.1;have:=q.1.2.1;omega))
theorem HU.but{p:Nat->Prop}(h:HU c w B hi e xs v tx)(hb:Bl p w w')(hne:∀k,p k->∀g,v.ownBlock=some g->k≠g)(hle:hi<=w.heap.size)(hs:∀k,p k->k<B∨hi<=k):HU c w' B hi e xs v tx:=
 h.keep (fun g hg=>hb.block g (AB.blk h g hg).2 (fun e=>hne g e g hg rfl)) (fun k q=>hb.block k (by have:=q.1.2.1;omega) (fun e=>by have:=hs k e;have:=q.1.1;have:=q.1.2.1;omega))
theorem HU.wide{hi':Nat}(h:HU c w B hi e xs v tx)(hle:hi<=hi':=by omega):HU c w B hi' e xs v tx:=
 AB.keep h (fun _ _=>rfl) (fun k q=>⟨⟨q.1.1,by have:=q.1.2.1;omega,q.1.2.2⟩,q.2⟩) (fun _ _=>rfl)
theorem HU.base{B':Nat}(h:HU c w B hi e xs v tx)(hB:B'<=B):HU c w B' hi e xs v tx:=
 AB.keep (AB.base h hB) (fun _ _=>rfl) (fun k q=>⟨⟨by have:=q.1.1;omega,q.1.2⟩,q.2⟩) (fun _ _=>rfl)
theorem HU.nil{S:Nat->Prop}(h:AB c w B S e [] v):HU c w B hi e [] v tx:=by
 obtain⟨cs,h1,_⟩:=h
 exact⟨cs,h1,fun i x hx=>by simp at hx⟩
end
section
variable {P:Program} {N:Nat} {K:KL} {o:Oper} {α:Type} {c:CN α} {w:World} {B hi B2 hi2:Nat} {e tx:TypeId} {xs ys zs:List α} {v u:Value}
end
/-! ## Functions that are handed what is to be done with their result: whatever it be -/
end Go.Eng
namespace Go.Eng
open Go Go.RowKit
/-! ## Facts that move on together -/
class Mv(w w':World)(A:Prop)(A':outParam Prop)(S:outParam Prop):Prop where
 mv:A->S->AH w w'->A'
class Mu(b:Nat)(w w':World)(A:Prop)(A':outParam Prop)(S:outParam Prop):Prop where
 mv:A->S->Fs b w w'->A'
section
variable {w w':World} {b d lo hi B:Nat} {us:List Value} {t e e1 e2 tx:TypeId} {α:Type} {c:CN α} {xs:List α} {xss:List (List α)} {v:Value} {vs:List Value}
instance:Mv w w' (Aj w d us t) (Aj w' d us t) True:=⟨fun h _ k=>h.ext k⟩
instance [DK c]:Mv w w' (AB c w B (Iv 0 0) e xs v) (AB c w' B (Iv 0 0) e xs v) True:=⟨fun h _ k=>AB.ext h k⟩
instance:Mv w w' (AD c w (Iv lo hi) xs v) (AD c w' (Iv lo hi) xs v) (hi<=w.heap.size):=⟨fun h s k=>h.old k s⟩
instance:Mv w w' (AB c w B (SX B hi v) e xs v) (AB c w' B (SX B hi v) e xs v) (hi<=w.heap.size):=⟨fun h s k=>AB.extN h k s⟩
instance:Mv w w' (HU c w B hi e xs v tx) (HU c w' B hi e xs v tx) (hi<=w.heap.size):=⟨fun h s k=>HU.ext h k s⟩
instance [DK c]:Mv w w' (own2 c w B hi e1 e2 xss v vs) (own2 c w' B hi e1 e2 xss v vs) (hi<=w.heap.size):=⟨fun h s k=>own2.ext h k s⟩
instance:Mu b w w' (Aj w d us t) (Aj w' d us t) (d≠b):=⟨fun h s k=>h.upd k s⟩
instance:Mu b w w' (AD c w (Iv lo hi) xs v) (AD c w' (Iv lo hi) xs v) (b<lo∨hi<=b):=⟨fun h s k=>AD.upd h k s⟩
end
theorem Bs{w w':World}{P1 Q1 S1 P2 Q2 S2:Prop}[i1:Mv w w' P1 Q1 S1][i2:Mv w w' P2 Q2 S2](h1:P1)(h2:P2)(k:AH w w')(s1:S1:=by and_intros<;>first|trivial|omega)(s2:S2:=by and_intros<;>first|trivial|omega):Q1∧Q2:=⟨i1.mv h1 s1 k,i2.mv h2 s2 k⟩
theorem DR{w w':World}{P1 Q1 S1 P2 Q2 S2 P3 Q3 S3:Prop}[i1:Mv w w' P1 Q1 S1][i2:Mv w w' P2 Q2 S2][i3:Mv w w' P3 Q3 S3](h1:P1)(h2:P2)(h3:P3)(k:AH w w')(s1:S1:=by and_intros<;>first|trivial|omega)(s2:S2:=by and_intros<;>first|trivial|omega)(s3:S3:=by and_intros<;>first|trivial|omega):Q1∧Q2∧Q3:=⟨i1.mv h1 s1 k,i2.mv h2 s2 k,i3.mv h3 s3 k⟩
theorem EU{w w':World}{P1 Q1 S1 P2 Q2 S2 P3 Q3 S3 P4 Q4 S4:Prop}[i1:Mv w w' P1 Q1 S1][i2:Mv w w' P2 Q2 S2][i3:Mv w w' P3 Q3 S3][i4:Mv w w' P4 Q4 S4](h1:P1)(h2:P2)(h3:P3)(h4:P4)(k:AH w w')(s1:S1:=by and_intros<;>first|trivial|omega)(s2:S2:=by and_intros<;>first|trivial|omega)(s3:S3:=by and_intros<;>first|trivial|omega)(s4:S4:=by and_intros<;>first|trivial|omega):Q1∧Q2∧Q3∧Q4:=⟨i1.mv h1 s1 k,i2.mv h2 s2 k,i3.mv h3 s3 k,i4.mv h4 s4 k⟩
theorem GF{w w':World}{P1 Q1 S1 P2 Q2 S2 P3 Q3 S3 P4 Q4 S4 P5 Q5 S5:Prop}[i1:Mv w w' P1 Q1 S1][i2:Mv w w' P2 Q2 S2][i3:Mv w w' P3 Q3 S3][i4:Mv w w' P4 Q4 S4][i5:Mv w w' P5 Q5 S5](h1:P1)(h2:P2)(h3:P3)(h4:P4)(h5:P5)(k:AH w w')(s1:S1:=by and_intros<;>first|trivial|omega)(s2:S2:=by and_intros<;>first|trivial|omega)(s3:S3:=by and_intros<;>first|trivial|omega)(s4:S4:=by and_intros<;>first|trivial|omega)(s5:S5:=by and_intros<;>first|trivial|omega):Q1∧Q2∧Q3∧Q4∧Q5:=⟨i1.mv h1 s1 k,i2.mv h2 s2 k,i3.mv h3 s3 k,i4.mv h4 s4 k,i5.mv h5 s5 k⟩
theorem KD{w w':World}{P1 Q1 S1 P2 Q2 S2 P3 Q3 S3 P4 Q4 S4 P5 Q5 S5 P6 Q6 S6:Prop}[i1:Mv w w' P1 Q1 S1][i2:Mv w w' P2 Q2 S2][i3:Mv w w' P3 Q3 S3][i4:Mv w w' P4 Q4 S4][i5:Mv w w' P5 Q5 S5][i6:Mv w w' P6 Q6 S6](h1:P1)(h2:P2)(h3:P3)(h4:P4)(h5:P5)(h6:P6)(k:AH w w')(s1:S1:=by and_intros<;>first|trivial|omega)(s2:S2:=by and_intros<;>first|trivial|omega)(s3:S3:=by and_intros<;>first|trivial|omega)(s4:S4:=by and_intros<;>first|trivial|omega)(s5:S5:=by and_intros<;>first|trivial|omega)(s6:S6:=by and_intros<;>first|trivial|omega):Q1∧Q2∧Q3∧Q4∧Q5∧Q6:=⟨i1.mv h1 s1 k,i2.mv h2 s2 k,i3.mv h3 s3 k,i4.mv h4 s4 k,i5.mv h5 s5 k,i6.mv h6 s6 k⟩
theorem MB{w w':World}{P1 Q1 S1 P2 Q2 S2 P3 Q3 S3 P4 Q4 S4 P5 Q5 S5 P6 Q6 S6 P7 Q7 S7:Prop}[i1:Mv w w' P1 Q1 S1][i2:Mv w w' P2 Q2 S2][i3:Mv w w' P3 Q3 S3][i4:Mv w w' P4 Q4 S4][i5:Mv w w' P5 Q5 S5][i6:Mv w w' P6 Q6 S6][i7:Mv w w' P7 Q7 S7](h1:P1)(h2:P2)(h3:P3)(h4:P4)(h5:P5)(h6:P6)(h7:P7)(k:AH w w')(s1:S1:=by and_intros<;>first|trivial|omega)(s2:S2:=by and_intros<;>first|trivial|omega)(s3:S3:=by and_intros<;>first|trivial|omega)(s4:S4:=by and_intros<;>first|trivial|omega)(s5:S5:=by and_intros<;>first|trivial|omega)(s6:S6:=by and_intros<;>first|trivial|omega)(s7:S7:=by and_intros<;>first|trivial|omega):Q1∧Q2∧Q3∧Q4∧Q5∧Q6∧Q7:=⟨i1.mv h1 s1 k,i2.mv h2 s2 k,i3.mv h3 s3 k,i4.mv h4 s4 k,i5.mv h5 s5 k,i6.mv h6 s6 k,i7.mv h7 s7 k⟩
theorem DP{w w':World}{P1 Q1 S1 P2 Q2 S2 P3 Q3 S3 P4 Q4 S4 P5 Q5 S5 P6 Q6 S6 P7 Q7 S7 P8 Q8 S8:Prop}[i1:Mv w w' P1 Q1 S1][i2:Mv w w' P2 Q2 S2][i3:Mv w w' P3 Q3 S3][i4:Mv w w' P4 Q4 S4][i5:Mv w w' P5 Q5 S5][i6:Mv w w' P6 Q6 S6][i7:Mv w w' P7 Q7 S7][i8:Mv w w' P8 Q8 S8](h1:P1)(h2:P2)(h3:P3)(h4:P4)(h5:P5)(h6:P6)(h7:P7)(h8:P8)(k:AH w w')(s1:S1:=by and_intros<;>first|trivial|omega)(s2:S2:=by and_intros<;>first|trivial|omega)(s3:S3:=by and_intros<;>first|trivial|omega)(s4:S4:=by and_intros<;>first|trivial|omega)(s5:S5:=by and_intros<;>first|trivial|omega)(s6:S6:=by and_intros<;>first|trivial|omega)(s7:S7:=by and_intros<;>first|trivial|omega)(s8:S8:=by and_intros<;>first|trivial|omega):Q1∧Q2∧Q3∧Q4∧Q5∧Q6∧Q7∧Q8:=⟨i1.mv h1 s1 k,i2.mv h2 s2 k,i3.mv h3 s3 k,i4.mv h4 s4 k,i5.mv h5 s5 k,i6.mv h6 s6 k,i7.mv h7 s7 k,i8.mv h8 s8 k⟩
theorem IQ{w w':World}{b:Nat}{P1 Q1 S1 P2 Q2 S2:Prop}[i1:Mu b w w' P1 Q1 S1][i2:Mu b w w' P2 Q2 S2](h1:P1)(h2:P2)(k:Fs b w w')(s1:S1:=by and_intros<;>first|trivial|omega)(s2:S2:=by and_intros<;>first|trivial|omega):Q1∧Q2:=⟨i1.mv h1 s1 k,i2.mv h2 s2 k⟩
theorem JT{w w':World}{b:Nat}{P1 Q1 S1 P2 Q2 S2 P3 Q3 S3:Prop}[i1:Mu b w w' P1 Q1 S1][i2:Mu b w w' P2 Q2 S2][i3:Mu b w w' P3 Q3 S3](h1:P1)(h2:P2)(h3:P3)(k:Fs b w w')(s1:S1:=by and_intros<;>first|trivial|omega)(s2:S2:=by and_intros<;>first|trivial|omega)(s3:S3:=by and_intros<;>first|trivial|omega):Q1∧Q2∧Q3:=⟨i1.mv h1 s1 k,i2.mv h2 s2 k,i3.mv h3 s3 k⟩
theorem Od{w w':World}{b:Nat}{P1 Q1 S1 P2 Q2 S2 P3 Q3 S3 P4 Q4 S4:Prop}[i1:Mu b w w' P1 Q1 S1][i2:Mu b w w' P2 Q2 S2][i3:Mu b w w' P3 Q3 S3][i4:Mu b w w' P4 Q4 S4](h1:P1)(h2:P2)(h3:P3)(h4:P4)(k:Fs b w w')(s1:S1:=by and_intros<;>first|trivial|omega)(s2:S2:=by and_intros<;>first|trivial|omega)(s3:S3:=by and_intros<;>first|trivial|omega)(s4:S4:=by and_intros<;>first|trivial|omega):Q1∧Q2∧Q3∧Q4:=⟨i1.mv h1 s1 k,i2.mv h2 s2 k,i3.mv h3 s3 k,i4.mv h4 s4 k⟩
theorem Qg{w w':World}{b:Nat}{P1 Q1 S1 P2 Q2 S2 P3 Q3 S3 P4 Q4 S4 P5 Q5 S5:Prop}[i1:Mu b w w' P1 Q1 S1][i2:Mu b w w' P2 Q2 S2][i3:Mu b w w' P3 Q3 S3][i4:Mu b w w' P4 Q4 S4][i5:Mu b w w' P5 Q5 S5](h1:P1)(h2:P2)(h3:P3)(h4:P4)(h5:P5)(k:Fs b w w')(s1:S1:=by and_intros<;>first|trivial|omega)(s2:S2:=by and_intros<;>first|trivial|omega)(s3:S3:=by and_intros<;>first|trivial|omega)(s4:S4:=by and_intros<;>first|trivial|omega)(s5:S5:=by and_intros<;>first|trivial|omega):Q1∧Q2∧Q3∧Q4∧Q5:=⟨i1.mv h1 s1 k,i2.mv h2 s2 k,i3.mv h3 s3 k,i4.mv h4 s4 k,i5.mv h5 s5 k⟩
theorem Vf{w w':World}{b:Nat}{P1 Q1 S1 P2 Q2 S2 P3 Q3 S3 P4 Q4 S4 P5 Q5 S5 P6 Q6 S6:Prop}[i1:Mu b w w' P1 Q1 S1][i2:Mu b w w' P2 Q2 S2][i3:Mu b w w' P3 Q3 S3][i4:Mu b w w' P4 Q4 S4][i5:Mu b w w' P5 Q5 S5][i6:Mu b w w' P6 Q6 S6](h1:P1)(h2:P2)(h3:P3)(h4:P4)(h5:P5)(h6:P6)(k:Fs b w w')(s1:S1:=by and_intros<;>first|trivial|omega)(s2:S2:=by and_intros<;>first|trivial|omega)(s3:S3:=by and_intros<;>first|trivial|omega)(s4:S4:=by and_intros<;>first|trivial|omega)(s5:S5:=by and_intros<;>first|trivial|omega)(s6:S6:=by and_intros<;>first|trivial|omega):Q1∧Q2∧Q3∧Q4∧Q5∧Q6:=⟨i1.mv h1 s1 k,i2.mv h2 s2 k,i3.mv h3 s3 k,i4.mv h4 s4 k,i5.mv h5 s5 k,i6.mv h6 s6 k⟩
theorem mu7{w w':World}{b:Nat}{P1 Q1 S1 P2 Q2 S2 P3 Q3 S3 P4 Q4 S4 P5 Q5 S5 P6 Q6 S6 P7 Q7 S7:Prop}[i1:Mu b w w' P1 Q1 S1][i2:Mu b w w' P2 Q2 S2][i3:Mu b w w' P3 Q3 S3][i4:Mu b w w' P4 Q4 S4][i5:Mu b w w' P5 Q5 S5][i6:Mu b w w' P6 Q6 S6][i7:Mu b w w' P7 Q7 S7](h1:P1)(h2:P2)(h3:P3)(h4:P4)(h5:P5)(h6:P6)(h7:P7)(k:Fs b w w')(s1:S1:=by and_intros<;>first|trivial|omega)(s2:S2:=by and_intros<;>first|trivial|omega)(s3:S3:=by and_intros<;>first|trivial|omega)(s4:S4:=by and_intros<;>first|trivial|omega)(s5:S5:=by and_intros<;>first|trivial|omega)(s6:S6:=by and_intros<;>first|trivial|omega)(s7:S7:=by and_intros<;>first|trivial|omega):Q1∧Q2∧Q3∧Q4∧Q5∧Q6∧Q7:=⟨i1.mv h1 s1 k,i2.mv h2 s2 k,i3.mv h3 s3 k,i4.mv h4 s4 k,i5.mv h5 s5 k,i6.mv h6 s6 k,i7.mv h7 s7 k⟩
theorem OW{w w':World}{b:Nat}{P1 Q1 S1 P2 Q2 S2 P3 Q3 S3 P4 Q4 S4 P5 Q5 S5 P6 Q6 S6 P7 Q7 S7 P8 Q8 S8:Prop}[i1:Mu b w w' P1 Q1 S1][i2:Mu b w w' P2 Q2 S2][i3:Mu b w w' P3 Q3 S3][i4:Mu b w w' P4 Q4 S4][i5:Mu b w w' P5 Q5 S5][i6:Mu b w w' P6 Q6 S6][i7:Mu b w w' P7 Q7 S7][i8:Mu b w w' P8 Q8 S8](h1:P1)(h2:P2)(h3:P3)(h4:P4)(h5:P5)(h6:P6)(h7:P7)(h8:P8)(k:Fs b w w')(s1:S1:=by and_intros<;>first|trivial|omega)(s2:S2:=by and_intros<;>first|trivial|omega)(s3:S3:=by and_intros<;>first|trivial|omega)(s4:S4:=by and_intros<;>first|trivial|omega)(s5:S5:=by and_intros<;>first|trivial|omega)(s6:S6:=by and_intros<;>first|trivial|omega)(s7:S7:=by and_intros<;>first|trivial|omega)(s8:S8:=by and_intros<;>first|trivial|omega):Q1∧Q2∧Q3∧Q4∧Q5∧Q6∧Q7∧Q8:=⟨i1.mv h1 s1 k,i2.mv h2 s2 k,i3.mv h3 s3 k,i4.mv h4 s4 k,i5.mv h5 s5 k,i6.mv h6 s6 k,i7.mv h7 s7 k,i8.mv h8 s8 k⟩
end Go.Eng
namespace Go.Eng
open Go Go.RowKit
/-! ## Literals of slice types, said shortly -/
section
variable {P:Program} {N:Nat} {K:KL} {o:Oper} {w:World} {α:Type} {e:TypeId}
theorem sT{t len parts zc sz by'}(c:CN α)(xs:List α)(S:Nat->Prop)(uls:List (List Value))(ho:o.op= .buildSlice t len parts)(hu:P.underlying t=some (.slice e))(hi:DN P e=some (zc,sz,by'))
 (hp:(JU K parts.toList).map (List.map fun p=>(p.1,p.2.cells.toList))=some (HI 0 uls))
 (hb:(Nat.beq sz c.n&&(Nat.blt 0 c.n&&(Nat.ble (len*sz) 16777216&&(Nat.beq uls.length len&&(Nat.beq len xs.length&&uls.all (fun us=>Nat.beq us.length sz))))))=true) (hrep:PJ c w S xs uls) (hS:∀k,S k->k<w.heap.size):
 IM P N K o w (fun u w'=>∃g,u= .slice (some ⟨g,0,none⟩) len len∧g=w.heap.size∧w'.heap.size=w.heap.size+1∧AH w w'∧AB c w' g S e xs u):=by
 obtain⟨vs,e1,e2⟩:=Option.map_eq_some_iff.1 hp
 simp only [Bool.and_eq_true]at hb
 obtain⟨b1,b2,b3,b4,b5,b6⟩:=hb
 have b1:=Nat.eq_of_beq_eq_true b1
 have b4:=Nat.eq_of_beq_eq_true b4
 have b5:=Nat.eq_of_beq_eq_true b5
 exact KK (out:=BX uls) ho hu hi e1 e2 (Qi uls rfl b6 b4) b3 b1 b2 b5 (WT hrep rfl) hS (by rw [HN fun us h=>Nat.eq_of_beq_eq_true (List.all_eq_true.1 b6 us h),b4])
theorem BE{t len parts zc sz by'}(c:CN α)(xs:List α)(uls:List (List Value))(ho:o.op= .buildSlice t len parts)(hu:P.underlying t=some (.slice e))(hi:DN P e=some (zc,sz,by'))
 (hp:(JU K parts.toList).map (List.map fun p=>(p.1,p.2.cells.toList))=some (HI 0 uls))
 (hb:(Nat.beq sz c.n&&(Nat.blt 0 c.n&&(Nat.ble (len*sz) 16777216&&(Nat.beq uls.length len&&(Nat.beq len xs.length&&uls.all (fun us=>Nat.beq us.length sz))))))=true) (hrep:PJ c w (Iv 0 0) xs uls):
 IM P N K o w (fun u w'=>∃g,u= .slice (some ⟨g,0,none⟩) len len∧g=w.heap.size∧w'.heap.size=w.heap.size+1∧AH w w'∧AB c w' g (Iv 0 0) e xs u):=
 sT c xs (Iv 0 0) uls ho hu hi hp hb hrep fun k h=>by have:=h.2;omega
theorem CP{t parts zc pl}(vs:List Value)(ho:o.op= .build t parts)(hp:(JU K parts.toList).map (List.map fun p=>(p.1,p.2.cells.toList))=some (HI 0 (vs.map fun v=>[v])))(hz:De P t=some zc)(hpl:Ep P t=some pl)(hf:KP pl zc (HI 0 (vs.map fun v=>[v]))=some vs):ES P N K o w (.agg vs.toArray):=by
 obtain⟨us,e1,e2⟩:=Option.map_eq_some_iff.1 hp
 exact Bi ho e1 hz hpl e2 hf
end
end Go.Eng
namespace Go.Eng
open Go Go.RowKit
/-! ## The rows of a slice of slices, apart from another slice -/
def KE(v:Value)(vs:List Value):Prop:=∀(i:Nat) (u:Value),vs[i]? =some u->No v u
theorem KE.nil(v:Value):KE v []:=fun i u h=>by simp at h
theorem KE.app{v:Value}{vs us:List Value}(h:KE v vs)(h2:KE v us):KE v (vs++us):=fun i u hu=>by
 by_cases c:i<vs.length
 ·rw [List.getElem?_append_left c]at hu;exact h i u hu
 ·rw [List.getElem?_append_right (by omega)]at hu;exact h2 _ u hu
section
variable {α:Type} {c:CN α} [DK c] {w w':World} {B hi lo' hi':Nat} {e1 e2:TypeId} {xss:List (List α)} {v z:Value} {vs:List Value}
theorem KE.of(h:own2 c w B hi e1 e2 xss v vs)(hz:Bd z lo' hi')(k:hi'<=B∨hi<=lo':=by omega):KE z vs:=fun i u hu=>by
 have hl:=h.1.1
 have hi2:i<xss.length:=by have:=(List.getElem?_eq_some_iff.1 hu).1;omega
 obtain⟨_,q,_⟩:=h.2.1 i _ u (List.getElem?_eq_getElem hi2) hu
 exact No.of hz q (by omega)
theorem fF{u u':Value}(hgr:BD w w' u u')(h:own2 c w B hi e1 e2 xss v vs)(hn:No u v)(hr:KE u vs):own2 c w' B hi e1 e2 xss v vs:=by
 have hb:=h.blk
 obtain⟨a,d,e⟩:=h
 refine⟨ownsRow.keep a (fun g hg=>hgr.1.block g (hb g hg).2 fun e=>hn g g e.symm hg rfl),fun i xs u hx hu2=>?_,e⟩
 obtain⟨p,q,r⟩:=d i xs u hx hu2
 exact⟨p.keep (fun g hg=>hgr.1.block g (p.blk g hg).2 fun e=>hr i _ hu2 g g e.symm hg rfl) (fun _ h=>h) (fun k h=>absurd h.2 (Nat.not_lt_zero k)),q,r⟩
theorem KE.grew{u u':Value}(hgr:BD w w' u u')(hr:KE u vs)(h:own2 c w B hi e1 e2 xss v vs):KE u' vs:=fun i x hx g q hg hq=>by
 have hl:=h.1.1
 have hi2:i<xss.length:=by have:=(List.getElem?_eq_some_iff.1 hx).1;omega
 have hb:=(h.2.1 i _ x (List.getElem?_eq_getElem hi2) hx).1.blk q hq
 rcases hgr.2 g hg with h1|h1
 ·exact hr i x hx g q h1 hq
 ·omega
end
end Go.Eng
namespace Go.Eng
open Go Go.RowKit
/-! ## Own slices that move on with others -/
def OB(A:Prop)(v:Value)(lo hi:Nat):Prop:=A∧Bd v lo hi
theorem BT{A:Prop}{v:Value}{lo hi:Nat}(h:A)(k:Bd v lo hi):OB A v lo hi:=⟨h,k⟩
section
variable {w w' a:World} {b lo hi B h:Nat} {e:TypeId} {α:Type} {c:CN α} {xs:List α} {v:Value}
instance [DK c]:Mu b w w' (OB (AB c w B (Iv 0 0) e xs v) v lo hi) (AB c w' B (Iv 0 0) e xs v) (b<lo∨hi<=b):=⟨fun h s k=>AB.upd h.1 k (Nb.of h.2 s)⟩
instance:Mu b w w' (OB (AB c w B (SX B h v) e xs v) v lo hi) (AB c w' B (SX B h v) e xs v) ((b<lo∨hi<=b)∧(b<B∨h<=b)):=⟨fun h s k=>AB.updN h.1 k (Nb.of h.2 s.1) s.2⟩
instance [DK c]:Mu b w w' (OB (Fr c w B e xs v) v lo hi) (Fr c w' B e xs v) (b<lo∨hi<=b):=⟨fun h s k=>Fr.upd h.1 k (Nb.of h.2 s)⟩
theorem kC{P1 Q1 S1:Prop}[i1:Mu b w w' P1 Q1 S1](h1:P1)(k:Fs b w w')(s1:S1:=by and_intros<;>first|trivial|omega):Q1:=i1.mv h1 s1 k
end
end Go.Eng
namespace Go.Eng
open Go Go.RowKit
/-! ## Short words for the walks' texts: what is computed is asked for last -/
theorem z{α:Sort _}{a:α}:a=a:=rfl
@[reducible] def _root_.Go.Value.p (b:Nat):Value:=.pointer (some ⟨b,0,none⟩)
section
variable {P:Program} {N:Nat} {ops:Array Oper} {Q:Exit -> Act -> World -> Prop} {n:Nat} {K:KL} {w w0:World} {f:Nat} {listed:Array Bool} {p:Nat -> Prop}
theorem Ft{o:Oper}{v:Value}(i:Nat)(hi:ops[i]? =some o)(h:∀wx,Bl p w0 wx->ES P N K o wx v)(k:JY P N ops n (noPan Q) p w0 f (listed.setIfInBounds i true) (BK K o.dst v) w)
 (hh:Dk ops n=true:=by kernel_rfl) (hc:(Nat.blt i n&&Region.free .any ops listed i&&(Region.ready .any ops listed).contains i)=true:=by kernel_rfl) (hg:o.guard=none:=by rfl) (hd:CH N o.dst=true:=by rfl):
 JY P N ops n (noPan Q) p w0 (f+1) listed K w:=JY.yld i hh hi hc hg hd h k
theorem oV{o:Oper}{Ψ:Value->Prop}(i:Nat)(hi:ops[i]? =some o)(h:YA P N K o Ψ)(k:∀v,Ψ v->JY P N ops n (noPan Q) p w0 f (listed.setIfInBounds i true) (BK K o.dst v) w)
 (hh:Dk ops n=true:=by kernel_rfl) (hc:(Nat.blt i n&&Region.free .any ops listed i&&(Region.ready .any ops listed).contains i)=true:=by kernel_rfl) (hg:o.guard=none:=by rfl) (hd:CH N o.dst=true:=by rfl):
 JY P N ops n (noPan Q) p w0 (f+1) listed K w:=JY.ya i hh hi hc hg hd h k
theorem Qq{o:Oper}{R:Value->World->Prop}(i:Nat)(hi:ops[i]? =some o)(h:IM P N K o w R)(k:∀v w',R v w'->Bl p w0 w'∧JY P N ops n (noPan Q) p w0 f (listed.setIfInBounds i true) (BK K o.dst v) w')
 (hin:Nat.blt i n=true:=by rfl) (hr:Region.ready .any ops listed=[i]:=by kernel_rfl) (hg:o.guard=none:=by rfl) (hd:CH N o.dst=true:=by rfl):JY P N ops n (noPan Q) p w0 (f+1) listed K w:=JY.eff i hi hin hr hg hd h k
theorem ND{o:Oper}{R:Value->World->Prop}(i:Nat)(hi:ops[i]? =some o)(h:IM P N K o w R)(k:∀v w',R v w'->AH w0 w'∧HL P N ops n (noPan Q) w0 f (listed.setIfInBounds i true) (BK K o.dst v) w')
 (hin:Nat.blt i n=true:=by rfl) (hr:Region.ready .any ops listed=[i]:=by kernel_rfl) (h0:Fp N ops K o= .yes:=by rfl):HL P N ops n (noPan Q) w0 (f+1) listed K w:=HLe i hi hin hr h0 h k
theorem Av{o:Oper}{v:Value}(i:Nat)(hh:Dk ops n=true)(hi:ops[i]? =some o)(h:ES P N K o w0 v)(k:HL P N ops n (noPan Q) w0 f (listed.setIfInBounds i true) (BK K o.dst v) w)
 (hc:(Nat.blt i n&&Region.free .any ops listed i&&(Region.ready .any ops listed).contains i)=true:=by kernel_rfl) (h0:Fp N ops K o= .yes:=by rfl):HL P N ops n (noPan Q) w0 (f+1) listed K w:=HLy i hh hi hc h0 h k
theorem GL{o:Oper}{Ψ:Value->Prop}(i:Nat)(hh:Dk ops n=true)(hi:ops[i]? =some o)(h:YE P N K o w0 Ψ)(k:∀v,Ψ v->HL P N ops n (noPan Q) w0 f (listed.setIfInBounds i true) (BK K o.dst v) w)
 (hc:(Nat.blt i n&&Region.free .any ops listed i&&(Region.ready .any ops listed).contains i)=true:=by kernel_rfl) (h0:Fp N ops K o= .yes:=by rfl):HL P N ops n (noPan Q) w0 (f+1) listed K w:=AeV i hh hi hc h0 h k
theorem Hc{l:List Oper}(hops:ops=l.toArray)(k:TL P N ops (noPan Q) (l.drop n) K w)(hseq:Region.seqB .any ops (l.drop n).length n listed=true:=by kernel_rfl)(hf:f=(l.drop n).length:=by rfl):HL P N ops n (noPan Q) w0 f listed K w:=HL.tail hops hseq hf k
theorem aQ{l:List Oper}(hops:ops=l.toArray)(k:TL P N ops (noPan Q) (l.drop n) K w)(hseq:Region.seqB .any ops (l.drop n).length n listed=true:=by kernel_rfl)(hf:f=(l.drop n).length:=by rfl):JY P N ops n (noPan Q) p w0 f listed K w:=JY.tail hops hseq hf k
theorem Df(hh:Dk ops n=true)(is:List Nat){f:Nat}{listed:Array Bool}{K:KL}(h:bC P N ops n Q w0 is f listed K w)(hc:sL ops n is listed=true:=by kernel_rfl):HL P N ops n (noPan Q) w0 f listed K w:=Hr hh is hc h
theorem CJ{id:Nat}{l:List Oper}(n:Nat)(hm:P.follows .mixedOrders=true)(h:∀w',AH w w'->Dk l.toArray n=true->HL P N l.toArray n (noPan Q) w' l.length (Array.replicate l.length false) K w')(hh:Dk l.toArray n=true:=by kernel_rfl):
 WC P N (.region id l.toArray true) Q K w:=WC.heldD n hm hh h
theorem Bh{id:Nat}{l:List Oper}(hm:P.follows .mixedOrders=true)(h:QL P N l.toArray w (fun a'=>∀w',AH w w'->Q .normal a' w') l K)(hB:Region.lexB .any l.toArray=true:=by kernel_rfl):WC P N (.region id l.toArray true) Q K w:=WC.quiet hm hB h
theorem Lz{K':KL}(e:K'.map (fun p=>kl K p.1)=K'.map (fun p=>some p.2):=by rfl):QL P N ops w (fun a=>Kn N K' a) [] K:=QL.nil fun a h=>h.sub e
end
section
variable {P:Program} {N:Nat} {Q0:Exit -> Act -> World -> Prop} {K K':KL} {w:World} {fs:List Frame} {ops:Array Oper} {l:List Oper}
theorem EE{R:World->Prop}(r:R w)(e:K'.map (fun p=>kl K p.1)=K'.map (fun p=>some p.2):=by rfl):TL P N ops (FP P Q0 (.lp (fun a u=>Kn N K' a∧R u)::fs)) [] K w:=TL.nil fun _ h=>⟨h.sub e,r⟩
def Pu(K:KL):List Nat->KL->Option KL
 |[],acc=>some acc
 |i::is,acc=>match kl K i with
  |some v=>Pu K is ((i,v)::acc)
  |none=>none
end
section
variable {P:Program} {N:Nat} {ops:Array Oper} {Q:Exit -> Act -> World -> Prop} {K:KL} {w:World} {l:List Oper} {Qa:Act -> Prop}
theorem Kd(t:Nat){c:Bool}(h:kl K t=some (.bool c))(h1:c=true->TL P N ops Q l ((t,.bool true)::K) w)(h2:c=false->TL P N ops Q l ((t,.bool false)::K) w):TL P N ops Q l K w:=by
 rcases bft c with e|e
 ·exact Kc t e h (h1 e)
 ·exact Kc t e h (h2 e)
theorem Kdq(t:Nat){c:Bool}(h:kl K t=some (.bool c))(h1:c=true->QL P N ops w Qa l ((t,.bool true)::K))(h2:c=false->QL P N ops w Qa l ((t,.bool false)::K)):QL P N ops w Qa l K:=by
 rcases bft c with e|e
 ·exact Kq t e h (h1 e)
 ·exact Kq t e h (h2 e)
end
theorem AD.oj{α:Type}{c:CN α}{w w':World}{lo H:Nat}{xs:List α}{v:Value}(h:AD c w (Iv lo H) xs v)(he:AH w w')(hH:H<=w.heap.size:=by assumption):AD c w' (Iv lo H) xs v:=h.old he hH
theorem Bp{P:Program}{N:Nat}{c:Code}{Q:Exit->Act->World->Prop}{K:KL}{w:World}{a:Act}(hK:Kn N K a)(h:WC P N c Q K w):c.wp P Q a w:=h a hK
section
variable (P:Program) (N:Nat) (ops:Array Oper) (n:Nat) (Q:Exit -> Act -> World -> Prop) (p:Nat -> Prop) (w0:World)
def lA:List Nat->Nat->Array Bool->KL->World->Prop
 |[]=>fun f listed K w=>JY P N ops n (noPan Q) p w0 f listed K w
 |i::is=>fun f listed K w=>match f with
  |0=>False
  |f+1=>match ops[i]? with
   |none=>False
   |some o=>match o.guard with
    |some _=>False
    |none=>match CH N o.dst with
     |false=>False
     |true=>match yq K o.op with
      |some v=>lA is f (listed.setIfInBounds i true) (BK K o.dst v) w
      |none=>False
end
section
variable {P:Program} {N:Nat} {ops:Array Oper} {Q:Exit -> Act -> World -> Prop} {n:Nat} {p:Nat -> Prop} {w w0:World}
theorem GrA(hh:Dk ops n=true):∀(is:List Nat) {f:Nat} {listed:Array Bool} {K:KL},sL ops n is listed=true->lA P N ops n Q p w0 is f listed K w->JY P N ops n (noPan Q) p w0 f listed K w
 |[],_,_,_,_,h=>h
 |i::is,0,listed,K,_,h=>h.elim
 |i::is,f+1,listed,K,hc,h=>by
  simp only [sL,Bool.and_eq_true]at hc
  have hc':(Nat.blt i n&&Region.free .any ops listed i&&(Region.ready .any ops listed).contains i)=true:=by simp only [Bool.and_eq_true];exact hc.1
  simp only [lA]at h
  split at h
  ·exact h.elim
  ·rename_i o hi
   split at h
   ·exact h.elim
   ·rename_i hg
    split at h
    ·exact h.elim
    ·rename_i hd
     split at h
     ·rename_i v hv;exact JY.yld i hh hi hc' hg hd (fun wx _=>Ho hv) (GrA hh is hc.2 h)
     ·exact h.elim
theorem Uh(is:List Nat){f:Nat}{listed:Array Bool}{K:KL}(h:lA P N ops n Q p w0 is f listed K w)(hh:Dk ops n=true:=by kernel_rfl)(hc:sL ops n is listed=true:=by kernel_rfl):JY P N ops n (noPan Q) p w0 f listed K w:=GrA hh is hc h
end
@[reducible] def An (v:Value) (w:World):Ending->World->Prop:=DM fun u U=>u=v∧AH w U
@[reducible] def AS {α:Type} (c:CN α) (w:World) (H:Nat) (xs:List α) (v:Value):Prop:=AD c w (Iv 0 H) xs v
end Go.Eng
namespace Go.Eng
open Go Go.RowKit
/-! ## Several steps in one word -/
@[reducible] def rM (us:List Value) (i:Nat) (Z:Value->Prop):Prop:=match us[i]? with
 |some u=>Z u
 |none=>False
theorem rM.ok{us:List Value}{i:Nat}{Z:Value->Prop}(h:rM us i Z):∃u,us[i]? =some u∧Z u:=by
 unfold rM at h
 split at h
 ·rename_i u hu;exact⟨u,hu,h⟩
 ·exact h.elim
section
variable {P:Program} {N:Nat} {ops:Array Oper} {Q:Exit -> Act -> World -> Prop} {K:KL} {w w0:World} {o o2 o3:Oper} {rest:List Oper} {Qa:Act -> Prop} {α β:Type} {r:β}
theorem Cs{A:Option α}{g:α->Option β}{rt:α->Value}{f:Nat}{vs:List Value}(hF:A.bind g=some r)(he:AH w0 w)(hf:AZ P f=true)
 (hc:∀x,A=some x->Calls P f vs.toArray w (An (rt x) w)) (k:∀x,g x=some r->∀w',AH w w'->AH w0 w'∧w.heap.size<=w'.heap.size->TL P N ops Q rest (BK K o.dst (rt x)) w')
 (h0:Fp N ops K o= .yes:=by rfl) (hcl:xB K o.op=some (f,vs):=by rfl):TL P N ops Q (o::rest) K w:=by
 obtain⟨x,h1,h2⟩:=AG hF
 refine Ef h0 (Dm hcl hf (hc _ h1)) fun v w' h=>?_
 obtain⟨rfl,h⟩:=h
 exact k x h2 w' h (Et he h)
theorem Cg{A:Option α}{g:α->Option β}{R:α->Value->World->Prop}{f:Nat}{vs:List Value}(hF:A.bind g=some r)(hf:AZ P f=true)
 (hc:∀x,A=some x->Calls P f vs.toArray w (DM (R x))) (k:∀x,g x=some r->∀v w',R x v w'->TL P N ops Q rest (BK K o.dst v) w')
 (h0:Fp N ops K o= .yes:=by rfl) (hcl:xB K o.op=some (f,vs):=by rfl):TL P N ops Q (o::rest) K w:=by
 obtain⟨x,h1,h2⟩:=AG hF
 exact Ef h0 (Dm hcl hf (hc _ h1)) fun v w' h=>k x h2 v w' h
section
variable {c:CN α} {xs:List α} {S:Nat -> Prop} {v:Value} {e t t2 B:Nat} {m:Int} {kk:IntKind} {g:α -> Option β} {sv:α -> Value}
theorem Ix(hF:(AE xs m).bind g=some r)(hs:AD c w S xs v)(hu:P.underlying t=some (.slice e))(hc:As P e=some c.n)
 (k:∀y,AE xs m=some y->g y=some r->∀u,(∃b off us,u= .pointer (some ⟨b,off,none⟩)∧S b∧c.rep w S y us∧AP w b off us)->TL P N ops Q rest (BK K o.dst u) w)
 (h0:Fp N ops K o= .yes:=by rfl) (hi:Wz K o.op=some (t,v,kk,m):=by rfl):TL P N ops Q (o::rest) K w:=by
 obtain⟨y,h1,h2⟩:=AG hF
 exact Ye h0 (Ea hi hu hc hs h1) fun u h=>k y h1 h2 u h
theorem Io(hF:(AE xs m).bind g=some r)(hs:AB c w B S e xs v)(hu:P.underlying t=some (.slice e))(hc:As P e=some c.n)
 (k:∀y,AE xs m=some y->g y=some r->∀u,(∃b us,u= .pointer (some ⟨b,0+m.toNat*c.n,none⟩)∧v.ownBlock=some b∧c.rep w S y us∧AP w b (0+m.toNat*c.n) us)->TL P N ops Q rest (BK K o.dst u) w)
 (h0:Fp N ops K o= .yes:=by rfl) (hi:Wz K o.op=some (t,v,kk,m):=by rfl):TL P N ops Q (o::rest) K w:=by
 obtain⟨y,h1,h2⟩:=AG hF
 exact Ye h0 (OY hi hu hc hs h1) fun u h=>k y h1 h2 u h
theorem Iq(hF:(AE xs m).bind g=some r)(hs:AD c w S xs v)(hu:P.underlying t=some (.slice e))(hc:As P e=some c.n)
 (k:∀y,AE xs m=some y->g y=some r->∀u,(∃b off us,u= .pointer (some ⟨b,off,none⟩)∧S b∧c.rep w S y us∧AP w b off us)->QL P N ops w Qa rest (BK K o.dst u))
 (h0:Fp N ops K o= .yes:=by rfl) (hi:Wz K o.op=some (t,v,kk,m):=by rfl):QL P N ops w Qa (o::rest) K:=by
 obtain⟨y,h1,h2⟩:=AG hF
 exact Qe h0 (Ea hi hu hc hs h1) fun u h=>k y h1 h2 u h
theorem Iqo(hF:(AE xs m).bind g=some r)(hs:AB c w B S e xs v)(hu:P.underlying t=some (.slice e))(hc:As P e=some c.n)
 (k:∀y,AE xs m=some y->g y=some r->∀u,(∃b us,u= .pointer (some ⟨b,0+m.toNat*c.n,none⟩)∧v.ownBlock=some b∧c.rep w S y us∧AP w b (0+m.toNat*c.n) us)->QL P N ops w Qa rest (BK K o.dst u))
 (h0:Fp N ops K o= .yes:=by rfl) (hi:Wz K o.op=some (t,v,kk,m):=by rfl):QL P N ops w Qa (o::rest) K:=by
 obtain⟨y,h1,h2⟩:=AG hF
 exact Qe h0 (OY hi hu hc hs h1) fun u h=>k y h1 h2 u h
theorem Il(hF:(AE xs m).bind g=some r)(hs:AD c w S xs v)(hu:P.underlying t=some (.slice e))(hc:As P e=some c.n)(ha:Bf P t2=some false)
 (k:∀y,g y=some r->∀u,TL P N ops Q rest (BK (BK K o.dst u) o2.dst (sv y)) w)
 (hsv:∀y us,c.rep w S y us->us=[sv y]:=by exact fun _ _ h=>h) (h0:Fp N ops K o= .yes:=by rfl) (hi:Wz K o.op=some (t,v,kk,m):=by rfl)
 (h2:∀u,Fp N ops (BK K o.dst u) o2= .yes:=by intro _;rfl) (hl:∀b off,UM (BK K o.dst (.pointer (some ⟨b,off,none⟩))) o2.op=some (t2,b,off):=by intro _ _;rfl):TL P N ops Q (o::o2::rest) K w:=by
 refine Ix hF hs hu hc (fun y _ h3 u h=>?_) h0 hi
 obtain⟨b,off,us,rfl,_,h5,h6⟩:=h
 have h5:=hsv _ _ h5
 subst h5
 exact Yl (h2 _) (FV 0 (hl _ _) ha h6 rfl rfl) (k y h3 _)
theorem OP(hF:(AE xs m).bind g=some r)(hs:AB c w B S e xs v)(hu:P.underlying t=some (.slice e))(hc:As P e=some c.n)(ha:Bf P t2=some false)
 (k:∀y,g y=some r->∀u,TL P N ops Q rest (BK (BK K o.dst u) o2.dst (sv y)) w)
 (hsv:∀y us,c.rep w S y us->us=[sv y]:=by exact fun _ _ h=>h) (h0:Fp N ops K o= .yes:=by rfl) (hi:Wz K o.op=some (t,v,kk,m):=by rfl)
 (h2:∀u,Fp N ops (BK K o.dst u) o2= .yes:=by intro _;rfl) (hl:∀b off,UM (BK K o.dst (.pointer (some ⟨b,off,none⟩))) o2.op=some (t2,b,off):=by intro _ _;rfl):TL P N ops Q (o::o2::rest) K w:=by
 refine Io hF hs hu hc (fun y _ h3 u h=>?_) h0 hi
 obtain⟨b,us,rfl,_,h5,h6⟩:=h
 have h5:=hsv _ _ h5
 subst h5
 exact Yl (h2 _) (FV 0 (hl _ _) ha h6 rfl rfl) (k y h3 _)
theorem Og(hF:(AE xs m).bind g=some r)(hs:AD c w S xs v)(hu:P.underlying t=some (.slice e))(hc:As P e=some c.n)(ha:Bf P t2=some false)
 (k:∀y,g y=some r->∀u,QL P N ops w Qa rest (BK (BK K o.dst u) o2.dst (sv y)))
 (hsv:∀y us,c.rep w S y us->us=[sv y]:=by exact fun _ _ h=>h) (h0:Fp N ops K o= .yes:=by rfl) (hi:Wz K o.op=some (t,v,kk,m):=by rfl)
 (h2:∀u,Fp N ops (BK K o.dst u) o2= .yes:=by intro _;rfl) (hl:∀b off,UM (BK K o.dst (.pointer (some ⟨b,off,none⟩))) o2.op=some (t2,b,off):=by intro _ _;rfl):QL P N ops w Qa (o::o2::rest) K:=by
 refine Iq hF hs hu hc (fun y _ h3 u h=>?_) h0 hi
 obtain⟨b,off,us,rfl,_,h5,h6⟩:=h
 have h5:=hsv _ _ h5
 subst h5
 exact Qy (h2 _) (FV 0 (hl _ _) ha h6 rfl rfl) (k y h3 _)
theorem kD(hF:(AE xs m).bind g=some r)(hs:AB c w B S e xs v)(hu:P.underlying t=some (.slice e))(hc:As P e=some c.n)(ha:Bf P t2=some false)
 (k:∀y,g y=some r->∀u,QL P N ops w Qa rest (BK (BK K o.dst u) o2.dst (sv y)))
 (hsv:∀y us,c.rep w S y us->us=[sv y]:=by exact fun _ _ h=>h) (h0:Fp N ops K o= .yes:=by rfl) (hi:Wz K o.op=some (t,v,kk,m):=by rfl)
 (h2:∀u,Fp N ops (BK K o.dst u) o2= .yes:=by intro _;rfl) (hl:∀b off,UM (BK K o.dst (.pointer (some ⟨b,off,none⟩))) o2.op=some (t2,b,off):=by intro _ _;rfl):QL P N ops w Qa (o::o2::rest) K:=by
 refine Iqo hF hs hu hc (fun y _ h3 u h=>?_) h0 hi
 obtain⟨b,us,rfl,_,h5,h6⟩:=h
 have h5:=hsv _ _ h5
 subst h5
 exact Qy (h2 _) (FV 0 (hl _ _) ha h6 rfl rfl) (k y h3 _)
end
section
variable {t f fo t2 t3 b T e off:Nat} {us:List Value} {c:CN α} {xs:List α} {S:Nat -> Prop} {v:Value}
theorem Fl(hfo:AL P t f=some fo)(ha:Bf P t2=some false)(hb:Aj w b us T)(k:rM us (0+fo) fun u=>TL P N ops Q rest (BK (BK K o.dst (.pointer (some ⟨b,0+fo,none⟩))) o2.dst u) w)
 (h0:Fp N ops K o= .yes:=by rfl) (hi:jU K o.op=some (t,f,b,0):=by rfl) (h2:Fp N ops (BK K o.dst (.pointer (some ⟨b,0+fo,none⟩))) o2= .yes:=by rfl)
 (hl:UM (BK K o.dst (.pointer (some ⟨b,0+fo,none⟩))) o2.op=some (t2,b,0+fo):=by rfl):TL P N ops Q (o::o2::rest) K w:=by
 obtain⟨u,hu,k⟩:=k.ok
 exact Yl h0 (BI hi hfo) (Yl h2 (Co hl ha hb hu) k)
theorem Fq(hfo:AL P t f=some fo)(ha:Bf P t2=some false)(hb:Aj w b us T)(k:rM us (0+fo) fun u=>QL P N ops w Qa rest (BK (BK K o.dst (.pointer (some ⟨b,0+fo,none⟩))) o2.dst u))
 (h0:Fp N ops K o= .yes:=by rfl) (hi:jU K o.op=some (t,f,b,0):=by rfl) (h2:Fp N ops (BK K o.dst (.pointer (some ⟨b,0+fo,none⟩))) o2= .yes:=by rfl)
 (hl:UM (BK K o.dst (.pointer (some ⟨b,0+fo,none⟩))) o2.op=some (t2,b,0+fo):=by rfl):QL P N ops w Qa (o::o2::rest) K:=by
 obtain⟨u,hu,k⟩:=k.ok
 exact Qy h0 (BI hi hfo) (Qy h2 (Co hl ha hb hu) k)
theorem Fc(hfo:AL P t f=some fo)(ha:Bf P t2=some false)(hb:AP w b off us)(k:rM us fo fun u=>TL P N ops Q rest (BK (BK K o.dst (.pointer (some ⟨b,off+fo,none⟩))) o2.dst u) w)
 (h0:Fp N ops K o= .yes:=by rfl) (hi:jU K o.op=some (t,f,b,off):=by rfl) (h2:Fp N ops (BK K o.dst (.pointer (some ⟨b,off+fo,none⟩))) o2= .yes:=by rfl)
 (hl:UM (BK K o.dst (.pointer (some ⟨b,off+fo,none⟩))) o2.op=some (t2,b,off+fo):=by rfl):TL P N ops Q (o::o2::rest) K w:=by
 obtain⟨u,hu,k⟩:=k.ok
 exact Yl h0 (BI hi hfo) (Yl h2 (FV fo hl ha hb rfl hu) k)
theorem QA(hfo:AL P t f=some fo)(ha:Bf P t2=some false)(hb:AP w b off us)(k:rM us fo fun u=>QL P N ops w Qa rest (BK (BK K o.dst (.pointer (some ⟨b,off+fo,none⟩))) o2.dst u))
 (h0:Fp N ops K o= .yes:=by rfl) (hi:jU K o.op=some (t,f,b,off):=by rfl) (h2:Fp N ops (BK K o.dst (.pointer (some ⟨b,off+fo,none⟩))) o2= .yes:=by rfl)
 (hl:UM (BK K o.dst (.pointer (some ⟨b,off+fo,none⟩))) o2.op=some (t2,b,off+fo):=by rfl):QL P N ops w Qa (o::o2::rest) K:=by
 obtain⟨u,hu,k⟩:=k.ok
 exact Qy h0 (BI hi hfo) (Qy h2 (FV fo hl ha hb rfl hu) k)
theorem EM(hfo:AL P t f=some fo)(ha:Bf P t2=some false)(hb:Aj w b us T)(hu3:P.underlying t3=some (.slice e))(hs:AD c w S xs v)
 (k:TL P N ops Q rest (BK (BK (BK K o.dst (.pointer (some ⟨b,0+fo,none⟩))) o2.dst v) o3.dst (.int .i64 xs.length)) w) (hv:us[0+fo]? =some v:=by rfl)
 (h0:Fp N ops K o= .yes:=by rfl) (hi:jU K o.op=some (t,f,b,0):=by rfl) (h2:Fp N ops (BK K o.dst (.pointer (some ⟨b,0+fo,none⟩))) o2= .yes:=by rfl)
 (hl:UM (BK K o.dst (.pointer (some ⟨b,0+fo,none⟩))) o2.op=some (t2,b,0+fo):=by rfl) (h3:Fp N ops (BK (BK K o.dst (.pointer (some ⟨b,0+fo,none⟩))) o2.dst v) o3= .yes:=by rfl)
 (hl3:xE (BK (BK K o.dst (.pointer (some ⟨b,0+fo,none⟩))) o2.dst v) o3.op=some (t3,v):=by rfl):TL P N ops Q (o::o2::o3::rest) K w:=
 Yl h0 (BI hi hfo) (Yl h2 (Co hl ha hb hv) (Yl h3 (CB hl3 hu3 hs) k))
theorem UG(hfo:AL P t f=some fo)(ha:Bf P t2=some false)(hb:Aj w b us T)(hu3:P.underlying t3=some (.slice e))(hs:AD c w S xs v)
 (k:QL P N ops w Qa rest (BK (BK (BK K o.dst (.pointer (some ⟨b,0+fo,none⟩))) o2.dst v) o3.dst (.int .i64 xs.length))) (hv:us[0+fo]? =some v:=by rfl)
 (h0:Fp N ops K o= .yes:=by rfl) (hi:jU K o.op=some (t,f,b,0):=by rfl) (h2:Fp N ops (BK K o.dst (.pointer (some ⟨b,0+fo,none⟩))) o2= .yes:=by rfl)
 (hl:UM (BK K o.dst (.pointer (some ⟨b,0+fo,none⟩))) o2.op=some (t2,b,0+fo):=by rfl) (h3:Fp N ops (BK (BK K o.dst (.pointer (some ⟨b,0+fo,none⟩))) o2.dst v) o3= .yes:=by rfl)
 (hl3:xE (BK (BK K o.dst (.pointer (some ⟨b,0+fo,none⟩))) o2.dst v) o3.op=some (t3,v):=by rfl):QL P N ops w Qa (o::o2::o3::rest) K:=
 Qy h0 (BI hi hfo) (Qy h2 (Co hl ha hb hv) (Qy h3 (CB hl3 hu3 hs) k))
end
end
/-! ## A fork one of whose ways returns at once -/
section
variable (N:Nat)
def RX:Nat->Md->List Frame->KL->Option KL
 |0=>fun _ _ _=>none
 |n+1=>fun m fs K=>match m with
  | .c c=>match c with
   | .seq x y=>RX n (.c x) (.seq y::fs) K
   | .region _ ops false=>RX n (.o ops ops.toList) fs K
   | .block id x=>RX n (.c x) (.blk id::fs) K
   | .skip=>RX n (.e .normal) fs K
   | .exit id=>RX n (.e (.exit id)) fs K
   | .ret=>RX n (.e .ret) fs K
   |_=>none
  | .o ops l=>match l with
   |[]=>RX n (.e .normal) fs K
   |o::rest=>match Fp N ops K o with
    | .yes=>match yq K o.op with
     |some v=>RX n (.o ops rest) fs (BK K o.dst v)
     |none=>none
    | .skip=>RX n (.o ops rest) fs (BK K o.dst undef)
    | .no=>none
  | .e e=>match fs with
   |[]=>match e with
    | .ret=>some K
    |_=>none
   | .seq c::fs=>match e with
    | .normal=>RX n (.c c) fs K
    | .ret=>RX n (.e .ret) fs K
    | .exit id=>RX n (.e (.exit id)) fs K
    |_=>none
   | .blk id::fs=>match e with
    | .normal=>RX n (.e .normal) fs K
    | .ret=>RX n (.e .ret) fs K
    | .exit id'=>bif Nat.beq id' id then RX n (.e .normal) fs K else RX n (.e (.exit id')) fs K
    |_=>none
   | .lp f::fs=>match e with
    | .ret=>RX n (.e .ret) fs K
    | .exit id=>RX n (.e (.exit id)) fs K
    |_=>none
end
section
variable {P:Program} {N:Nat} {Q0:Exit -> Act -> World -> Prop}
theorem RX.ok:∀(n:Nat) {m:Md} {fs:List Frame} {K K':KL} {w:World},RX N n m fs K=some K'->NX N Q0 .ret K' w->FIN P N Q0 m fs K w
 |0,_,_,_,_,_,h,_=>by cases h
 |n+1,m,fs,K,K',w,h,q=>by
  cases m with
  |c c=>
   cases c with
   |seq x y=>exact WC.seq (RX.ok n h q)
   |region id ops d=>
    cases d with
    |false=>
     have h2:TL P N ops (FP P Q0 fs) ops.toList K w:=RX.ok n h q
     show WC P N (.region id ops false) (FP P Q0 fs) K w
     have:ops=ops.toList.toArray:=by simp
     rw [this];rw [this]at h2
     exact WC.region (by simpa using h2)
    |true=>cases h
   |block id x=>exact WC.block (RX.ok n h q)
   |skip=>exact WC.skip' (RX.ok n h q)
   |exit id=>exact WC.exit' (RX.ok n h q)
   |ret=>exact WC.ret' (RX.ok n h q)
   |cond _ _ _=>cases h
   |loop _=>cases h
   |_=>cases h
  |o ops l=>
   cases l with
   |nil=>exact TL.done (RX.ok n h q)
   |cons o rest=>
    simp only [RX]at h
    split at h
    ·rename_i hg
     split at h
     ·rename_i v hv;exact Yl hg (Ho hv) (RX.ok n h q)
     ·cases h
    ·rename_i hg;exact Sk hg (RX.ok n h q)
    ·cases h
  |e e=>
   cases fs with
   |nil=>
    cases e with
    |ret=>obtain rfl:=Option.some.inj h;exact q
    |_=>cases h
   |cons f fs=>
    cases f with
    |seq c=>
     cases e with
     |normal=>exact NX.seq (RX.ok n h q)
     |ret=>exact NX.then_r (RX.ok n h q)
     |exit id=>exact NX.then_e (RX.ok n h q)
     |_=>cases h
    |blk id=>
     cases e with
     |normal=>exact NX.blk_n (RX.ok n h q)
     |ret=>exact NX.blk_r (RX.ok n h q)
     |exit id'=>
      simp only [RX]at h
      cases hb:Nat.beq id' id with
      |true=>
       rw [hb]at h
       obtain rfl:=Nat.eq_of_beq_eq_true hb
       exact NX.blk_hit (RX.ok n h q)
      |false=>rw [hb]at h;exact NX.blk_miss hb (RX.ok n h q)
     |_=>cases h
    |lp f=>
     cases e with
     |normal=>cases h
     |ret=>exact NX.then_r (RX.ok n h q)
     |exit id=>exact NX.then_e (RX.ok n h q)
     |_=>cases h
def RV(N n:Nat)(m:Md)(fs:List Frame)(K:KL)(rs:List ResultVar):Option Value:=match RX N n m fs K with
 |some K'=>match XN K' rs with
  |some vs=>some (EP vs)
  |none=>none
 |none=>none
theorem RV.ok{n:Nat}{m:Md}{fs:List Frame}{K:KL}{w:World}{fn:Func}{v:Value}{R:Ending->World->Prop}(h:RV N n m fs K fn.results.toList=some v)(hR:R (.returned v) w):FIN P N (bodyPost P fn R) m fs K w:=by
 unfold RV at h
 split at h
 ·rename_i K' h1
  split at h
  ·rename_i vs h2
   obtain rfl:=Option.some.inj h
   exact RX.ok n h1 (Ne (by simp) h2 hR)
  ·cases h
 ·cases h
variable {α:Type} {c:Operand} {x y:Code} {t:Bool} {u:α} {A B:Option α} {r:α} {v:Value} {X:World -> Prop} {fn:Func} {fs:List Frame} {K:KL} {w:World}
theorem Wt(hF:(bif t then some u else B)=some r)(hX:X w)(k:B=some r->WC P N y (FP P (bodyPost P fn (DM fun z U=>z=v∧X U)) fs) K w)(hc:CG K c=some (.bool t):=by rfl)(hv:u=r->RV N 99 (.c x) fs K fn.results.toList=some v:=by intro h;subst h;rfl):
 WC P N (.cond c x y) (FP P (bodyPost P fn (DM fun z U=>z=v∧X U)) fs) K w:=
 Wc hc hF (fun h=>RV.ok (m:=.c x) (hv (UO h)) ⟨_,rfl,rfl,hX⟩) k
theorem Wf(hF:(bif t then A else some u)=some r)(hX:X w)(k:A=some r->WC P N x (FP P (bodyPost P fn (DM fun z U=>z=v∧X U)) fs) K w)(hc:CG K c=some (.bool t):=by rfl)(hv:u=r->RV N 99 (.c y) fs K fn.results.toList=some v:=by intro h;subst h;rfl):
 WC P N (.cond c x y) (FP P (bodyPost P fn (DM fun z U=>z=v∧X U)) fs) K w:=
 Wc hc hF k fun h=>RV.ok (m:=.c y) (hv (UO h)) ⟨_,rfl,rfl,hX⟩
theorem Iw{c:Code}(hF:some u=some r)(hX:X w)(hv:u=r->RV N 99 (.c c) fs K fn.results.toList=some v:=by intro h;subst h;rfl):WC P N c (FP P (bodyPost P fn (DM fun z U=>z=v∧X U)) fs) K w:=RV.ok (m:=.c c) (hv (UO hF)) ⟨_,rfl,rfl,hX⟩
theorem Db{ops:Array Oper}{l:List Oper}(hF:some u=some r)(hX:X w)(hv:u=r->RV N 99 (.o ops l) fs K fn.results.toList=some v:=by intro h;subst h;rfl):TL P N ops (FP P (bodyPost P fn (DM fun z U=>z=v∧X U)) fs) l K w:=RV.ok (m:=.o ops l) (hv (UO hF)) ⟨_,rfl,rfl,hX⟩
theorem Xs{e:Exit}(hF:some u=some r)(hX:X w)(hv:u=r->RV N 99 (.e e) fs K fn.results.toList=some v:=by intro h;subst h;rfl):NX N (FP P (bodyPost P fn (DM fun z U=>z=v∧X U)) fs) e K w:=RV.ok (m:=.e e) (hv (UO hF)) ⟨_,rfl,rfl,hX⟩
end
section
variable {κ ρ s1 s2 s3 s4 s5 s6 s7 s8:Type} {r:ρ} {k:κ}
theorem Ub{L:κ->s1->s2->Option ρ}{a b}(h:L k a b=some r):∃k',k'=k∧L k' a b=some r:=⟨k,rfl,h⟩
theorem KF{L:κ->s1->s2->s3->Option ρ}{a b c}(h:L k a b c=some r):∃k',k'=k∧L k' a b c=some r:=⟨k,rfl,h⟩
theorem GkD{L:κ->s1->s2->s3->s4->Option ρ}{a b c d}(h:L k a b c d=some r):∃k',k'=k∧L k' a b c d=some r:=⟨k,rfl,h⟩
theorem GkE{L:κ->s1->s2->s3->s4->s5->Option ρ}{a b c d e}(h:L k a b c d e=some r):∃k',k'=k∧L k' a b c d e=some r:=⟨k,rfl,h⟩
theorem GkF{L:κ->s1->s2->s3->s4->s5->s6->Option ρ}{a b c d e f}(h:L k a b c d e f=some r):∃k',k'=k∧L k' a b c d e f=some r:=⟨k,rfl,h⟩
end
/-! ## Guards whose ways leave the world alone -/
section
variable {P:Program} {N:Nat} {Q0:Exit -> Act -> World -> Prop} {K K':KL} {w:World} {fs:List Frame} {ops:Array Oper} {l:List Oper} {Q:Exit -> Act -> World -> Prop} {Qa:Act -> Prop}
theorem Dj(e:K'.map (fun p=>kl K p.1)=K'.map (fun p=>some p.2):=by rfl):TL P N ops (FP P Q0 (.lp (fun a u=>Kn N K' a∧u=w)::fs)) [] K w:=TL.nil fun _ h=>⟨h.sub e,rfl⟩
theorem Yy(k:Nat)(is:List Nat)(j:Nat)(c:Bool){K1:KL}(hk:Pu K is [(j,.bool c)]=some K1)(h1:TL P N ops (FP P Q0 (.lp (fun a' w'=>Kn N K1 a'∧w'=w)::fs)) (l.take k) K w)(h2:TL P N ops (FP P Q0 fs) (l.drop k) K1 w):
 TL P N ops (FP P Q0 fs) l K w:=TL.cutD k K1 (fun w'=>w'=w) h1 fun w' e=>e▸h2
def KB(N:Nat)(ops:Array Oper):List Oper->KL->Option KL
 |[],K=>some K
 |o::rest,K=>match Fp N ops K o with
  | .yes=>match yq K o.op with
   |some v=>KB N ops rest (BK K o.dst v)
   |none=>none
  | .skip=>KB N ops rest (BK K o.dst undef)
  | .no=>none
theorem KB.ok:∀{l:List Oper} {K K':KL},KB N ops l K=some K'->TL P N ops Q [] K' w->TL P N ops Q l K w
 |[],K,K',h,q=>by obtain rfl:=Option.some.inj h;exact q
 |o::rest,K,K',h,q=>by
  simp only [KB]at h
  split at h
  ·rename_i hg
   split at h
   ·rename_i v hv;exact Yl hg (Ho hv) (KB.ok h q)
   ·cases h
  ·rename_i hg;exact Sk hg (KB.ok h q)
  ·cases h
theorem KB.okq:∀{l:List Oper} {K K':KL},KB N ops l K=some K'->QL P N ops w Qa [] K'->QL P N ops w Qa l K
 |[],K,K',h,q=>by obtain rfl:=Option.some.inj h;exact q
 |o::rest,K,K',h,q=>by
  simp only [KB]at h
  split at h
  ·rename_i hg
   split at h
   ·rename_i v hv;exact Qy hg (Ho hv) (KB.okq h q)
   ·cases h
  ·rename_i hg;exact Qs hg (KB.okq h q)
  ·cases h
theorem iJ{N:Nat}{Kt K1:KL}{t j:Nat}{c x u v:Bool}(e:c=x)(t1:kl Kt t=some (.bool x))(b1:kl Kt j=some (.bool u))(uv:u=v)(e1:K1.map (fun p=>kl ((t,.bool c)::(j,.bool v)::Kt) p.1)=K1.map (fun p=>some p.2))(a:Act)(h:Kn N Kt a):Kn N K1 a:=by
 subst uv
 refine Kn.sub (Kn.know (u:=.bool x) (h.know b1 rfl) ?_ (by rw [e])) e1
 cases hb:Nat.beq j t with
 |false=>simpa [kl,hb] using t1
 |true=>obtain rfl:=Nat.eq_of_beq_eq_true hb;rw [b1]at t1;simpa [kl] using t1
section
variable {c b:Bool} {K1 Kt Kf:KL}
theorem YU(k:Nat)(is:List Nat)(j t:Nat)(k2:TL P N ops (FP P Q0 fs) (l.drop k) K1 w)(ha:kl K t=some (.bool c):=by rfl)
 (h1:KB N ops (l.take k) ((t,.bool true)::K)=some Kt:=by rfl) (b1:kl Kt j=some (.bool b):=by rfl) (t1:kl Kt t=some (.bool true):=by rfl)
 (h2:KB N ops (l.take k) ((t,.bool false)::K)=some Kf:=by rfl) (b2:kl Kf j=some (.bool false):=by rfl) (t2:kl Kf t=some (.bool false):=by rfl) (hk:Pu K is [(j,.bool (c&&b))]=some K1:=by rfl)
 (e1:K1.map (fun p=>kl ((t,.bool c)::(j,.bool (c&&b))::Kt) p.1)=K1.map (fun p=>some p.2):=by rfl) (e2:K1.map (fun p=>kl ((t,.bool c)::(j,.bool (c&&b))::Kf) p.1)=K1.map (fun p=>some p.2):=by rfl):TL P N ops (FP P Q0 fs) l K w:=
 Yy k is j (c&&b) hk (Kd t ha (fun e=>KB.ok h1 (TL.nil fun a h=>⟨iJ e t1 b1 (ant e) e1 a h,rfl⟩)) fun e=>KB.ok h2 (TL.nil fun a h=>⟨iJ e t2 b2 (anf e) e2 a h,rfl⟩)) k2
theorem uQ(k:Nat)(is:List Nat)(j t:Nat)(k2:TL P N ops (FP P Q0 fs) (l.drop k) K1 w)(ha:kl K t=some (.bool c):=by rfl)
 (h1:KB N ops (l.take k) ((t,.bool true)::K)=some Kt:=by rfl) (b1:kl Kt j=some (.bool true):=by rfl) (t1:kl Kt t=some (.bool true):=by rfl)
 (h2:KB N ops (l.take k) ((t,.bool false)::K)=some Kf:=by rfl) (b2:kl Kf j=some (.bool b):=by rfl) (t2:kl Kf t=some (.bool false):=by rfl) (hk:Pu K is [(j,.bool (c||b))]=some K1:=by rfl)
 (e1:K1.map (fun p=>kl ((t,.bool c)::(j,.bool (c||b))::Kt) p.1)=K1.map (fun p=>some p.2):=by rfl) (e2:K1.map (fun p=>kl ((t,.bool c)::(j,.bool (c||b))::Kf) p.1)=K1.map (fun p=>some p.2):=by rfl):TL P N ops (FP P Q0 fs) l K w:=
 Yy k is j (c||b) hk (Kd t ha (fun e=>KB.ok h1 (TL.nil fun a h=>⟨iJ e t1 b1 (ort e) e1 a h,rfl⟩)) fun e=>KB.ok h2 (TL.nil fun a h=>⟨iJ e t2 b2 (orf e) e2 a h,rfl⟩)) k2
theorem Ir(k:Nat)(is:List Nat)(j t:Nat)(b:Bool){c:Bool}{K1 Kx Kf:KL}(hx:Pu ((t,.bool true)::K) (t::is) [(j,.bool b)]=some Kx)(h1:TL P N ops (FP P Q0 (.lp (fun a' w'=>Kn N Kx a'∧w'=w)::fs)) (l.take k) ((t,.bool true)::K) w)(k2:TL P N ops (FP P Q0 fs) (l.drop k) K1 w)(ha:kl K t=some (.bool c):=by rfl)
 (h2:KB N ops (l.take k) ((t,.bool false)::K)=some Kf:=by rfl) (b2:kl Kf j=some (.bool false):=by rfl) (t2:kl Kf t=some (.bool false):=by rfl) (hk:Pu K is [(j,.bool (c&&b))]=some K1:=by rfl) (b1:kl Kx j=some (.bool b):=by rfl) (t1:kl Kx t=some (.bool true):=by rfl)
 (e1:K1.map (fun p=>kl ((t,.bool c)::(j,.bool (c&&b))::Kx) p.1)=K1.map (fun p=>some p.2):=by rfl) (e2:K1.map (fun p=>kl ((t,.bool c)::(j,.bool (c&&b))::Kf) p.1)=K1.map (fun p=>some p.2):=by rfl):TL P N ops (FP P Q0 fs) l K w:=
 Kd t ha (fun e=>TL.cutD k Kx (fun w'=>w'=w) h1 fun w' q=>q▸fun a hK=>k2 a (iJ e t1 b1 (ant e) e1 a hK)) fun e=>TL.cutD k Kf (fun w'=>w'=w) (KB.ok h2 (TL.nil fun a h=>⟨h,rfl⟩)) fun w' q=>q▸fun a hK=>k2 a (iJ e t2 b2 (anf e) e2 a hK)
theorem Rk(k:Nat)(is:List Nat)(j t:Nat)(b:Bool){c:Bool}{K1 Kx Kf:KL}(hx:Pu ((t,.bool false)::K) (t::is) [(j,.bool b)]=some Kx)(h1:TL P N ops (FP P Q0 (.lp (fun a' w'=>Kn N Kx a'∧w'=w)::fs)) (l.take k) ((t,.bool false)::K) w)(k2:TL P N ops (FP P Q0 fs) (l.drop k) K1 w)(ha:kl K t=some (.bool c):=by rfl)
 (h2:KB N ops (l.take k) ((t,.bool true)::K)=some Kf:=by rfl) (b2:kl Kf j=some (.bool true):=by rfl) (t2:kl Kf t=some (.bool true):=by rfl) (hk:Pu K is [(j,.bool (c||b))]=some K1:=by rfl) (b1:kl Kx j=some (.bool b):=by rfl) (t1:kl Kx t=some (.bool false):=by rfl)
 (e1:K1.map (fun p=>kl ((t,.bool c)::(j,.bool (c||b))::Kx) p.1)=K1.map (fun p=>some p.2):=by rfl) (e2:K1.map (fun p=>kl ((t,.bool c)::(j,.bool (c||b))::Kf) p.1)=K1.map (fun p=>some p.2):=by rfl):TL P N ops (FP P Q0 fs) l K w:=
 Kd t ha (fun e=>TL.cutD k Kf (fun w'=>w'=w) (KB.ok h2 (TL.nil fun a h=>⟨h,rfl⟩)) fun w' q=>q▸fun a hK=>k2 a (iJ e t2 b2 (ort e) e2 a hK)) fun e=>TL.cutD k Kx (fun w'=>w'=w) h1 fun w' q=>q▸fun a hK=>k2 a (iJ e t1 b1 (orf e) e1 a hK)
theorem gE(k:Nat)(is:List Nat)(j t:Nat)(b:Bool){c:Bool}{K1 Kx Kf:KL}(hx:Pu ((t,.bool true)::K) (t::is) [(j,.bool b)]=some Kx)(h1:QL P N ops w (fun a'=>Kn N Kx a') (l.take k) ((t,.bool true)::K))(k2:QL P N ops w Qa (l.drop k) K1)(ha:kl K t=some (.bool c):=by rfl)
 (h2:KB N ops (l.take k) ((t,.bool false)::K)=some Kf:=by rfl) (b2:kl Kf j=some (.bool false):=by rfl) (t2:kl Kf t=some (.bool false):=by rfl) (hk:Pu K is [(j,.bool (c&&b))]=some K1:=by rfl) (b1:kl Kx j=some (.bool b):=by rfl) (t1:kl Kx t=some (.bool true):=by rfl)
 (e1:K1.map (fun p=>kl ((t,.bool c)::(j,.bool (c&&b))::Kx) p.1)=K1.map (fun p=>some p.2):=by rfl) (e2:K1.map (fun p=>kl ((t,.bool c)::(j,.bool (c&&b))::Kf) p.1)=K1.map (fun p=>some p.2):=by rfl):QL P N ops w Qa l K:=
 Kdq t ha (fun e=>QL.cut k Kx h1 fun a hK=>k2 a (iJ e t1 b1 (ant e) e1 a hK)) fun e=>QL.cut k Kf (KB.okq h2 (QL.nil fun a h=>h)) fun a hK=>k2 a (iJ e t2 b2 (anf e) e2 a hK)
end
theorem Fy{β:Type}{A:Option Bool}{g:Bool->Option β}{r:β}{c:Bool}{K1 Kx:Bool->KL}{Kf:KL}(k:Nat)(is:List Nat)(j t:Nat)(hF:Option.bind (bif c then A else some false) g=some r)(h1:∀b,A=some b->TL P N ops (FP P Q0 (.lp (fun a' w'=>Kn N (Kx b) a'∧AH w w')::fs)) (l.take k) ((t,.bool true)::K) w)(k2:∀b,g b=some r->∀w',AH w w'->TL P N ops (FP P Q0 fs) (l.drop k) (K1 b) w')(ha:kl K t=some (.bool c):=by rfl)
 (hx:∀b,Pu ((t,.bool true)::K) (t::is) [(j,.bool b)]=some (Kx b):=by intro _;rfl) (hk:∀b,Pu K is [(j,.bool b)]=some (K1 b):=by intro _;rfl) (h2:KB N ops (l.take k) ((t,.bool false)::K)=some Kf:=by rfl)
 (t1:∀b,kl (Kx b) t=some (.bool true):=by intro _;rfl) (t2:kl Kf t=some (.bool false):=by rfl)
 (e1:∀b,(K1 b).map (fun p=>kl ((t,.bool c)::Kx b) p.1)=(K1 b).map (fun p=>some p.2):=by intro _;rfl) (e2:(K1 false).map (fun p=>kl ((t,.bool c)::Kf) p.1)=(K1 false).map (fun p=>some p.2):=by rfl):TL P N ops (FP P Q0 fs) l K w:=by
 obtain⟨b,hb,h3⟩:=AG hF
 refine Kd t ha (fun e=>?_) fun e=>?_
 ·replace hb:=OV e hb;exact TL.cutD k (Kx b) (fun w'=>AH w w') (h1 b hb) fun w' q a hK=>k2 b h3 w' q a ((hK.know (t1 b) (by rw [e])).sub (e1 b))
 ·replace hb:=OQ e hb;obtain rfl:=UO hb;exact TL.cutD k Kf (fun w'=>AH w w') (KB.ok h2 (TL.nil fun a h=>⟨h,AH.refl _⟩)) fun w' q a hK=>k2 _ h3 w' q a ((hK.know t2 (by rw [e])).sub e2)
theorem Nk{β:Type}{A:Option Bool}{g:Bool->Option β}{r:β}{c:Bool}{K1 Kx:Bool->KL}{Kf:KL}(k:Nat)(is:List Nat)(j t:Nat)(hF:Option.bind (bif c then some true else A) g=some r)(h1:∀b,A=some b->TL P N ops (FP P Q0 (.lp (fun a' w'=>Kn N (Kx b) a'∧AH w w')::fs)) (l.take k) ((t,.bool false)::K) w)(k2:∀b,g b=some r->∀w',AH w w'->TL P N ops (FP P Q0 fs) (l.drop k) (K1 b) w')(ha:kl K t=some (.bool c):=by rfl)
 (hx:∀b,Pu ((t,.bool false)::K) (t::is) [(j,.bool b)]=some (Kx b):=by intro _;rfl) (hk:∀b,Pu K is [(j,.bool b)]=some (K1 b):=by intro _;rfl) (h2:KB N ops (l.take k) ((t,.bool true)::K)=some Kf:=by rfl)
 (t1:∀b,kl (Kx b) t=some (.bool false):=by intro _;rfl) (t2:kl Kf t=some (.bool true):=by rfl)
 (e1:∀b,(K1 b).map (fun p=>kl ((t,.bool c)::Kx b) p.1)=(K1 b).map (fun p=>some p.2):=by intro _;rfl) (e2:(K1 true).map (fun p=>kl ((t,.bool c)::Kf) p.1)=(K1 true).map (fun p=>some p.2):=by rfl):TL P N ops (FP P Q0 fs) l K w:=by
 obtain⟨b,hb,h3⟩:=AG hF
 refine Kd t ha (fun e=>?_) fun e=>?_
 ·replace hb:=OV e hb;obtain rfl:=UO hb;exact TL.cutD k Kf (fun w'=>AH w w') (KB.ok h2 (TL.nil fun a h=>⟨h,AH.refl _⟩)) fun w' q a hK=>k2 _ h3 w' q a ((hK.know t2 (by rw [e])).sub e2)
 ·replace hb:=OQ e hb;exact TL.cutD k (Kx b) (fun w'=>AH w w') (h1 b hb) fun w' q a hK=>k2 b h3 w' q a ((hK.know (t1 b) (by rw [e])).sub (e1 b))
theorem JX{β:Type}{A:Option Bool}{g:Bool->Option β}{r:β}{c:Bool}{K1 Kx:Bool->KL}{Kf:KL}(k:Nat)(is:List Nat)(j t:Nat)(hF:Option.bind (bif c then A else some false) g=some r)(h1:∀b,A=some b->TL P N ops (FP P Q0 (.lp (fun a' w'=>Kn N (Kx b) a'∧w'=w)::fs)) (l.take k) ((t,.bool true)::K) w)(k2:∀b,g b=some r->TL P N ops (FP P Q0 fs) (l.drop k) (K1 b) w)(ha:kl K t=some (.bool c):=by rfl)
 (hx:∀b,Pu ((t,.bool true)::K) (t::is) [(j,.bool b)]=some (Kx b):=by intro _;rfl) (hk:∀b,Pu K is [(j,.bool b)]=some (K1 b):=by intro _;rfl) (h2:KB N ops (l.take k) ((t,.bool false)::K)=some Kf:=by rfl)
 (t1:∀b,kl (Kx b) t=some (.bool true):=by intro _;rfl) (t2:kl Kf t=some (.bool false):=by rfl)
 (e1:∀b,(K1 b).map (fun p=>kl ((t,.bool c)::Kx b) p.1)=(K1 b).map (fun p=>some p.2):=by intro _;rfl) (e2:(K1 false).map (fun p=>kl ((t,.bool c)::Kf) p.1)=(K1 false).map (fun p=>some p.2):=by rfl):TL P N ops (FP P Q0 fs) l K w:=by
 obtain⟨b,hb,h3⟩:=AG hF
 refine Kd t ha (fun e=>?_) fun e=>?_
 ·replace hb:=OV e hb;exact TL.cutD k (Kx b) (fun w'=>w'=w) (h1 b hb) fun w' q=>q▸fun a hK=>k2 b h3 a ((hK.know (t1 b) (by rw [e])).sub (e1 b))
 ·replace hb:=OQ e hb;obtain rfl:=UO hb;exact TL.cutD k Kf (fun w'=>w'=w) (KB.ok h2 (TL.nil fun a h=>⟨h,rfl⟩)) fun w' q=>q▸fun a hK=>k2 _ h3 a ((hK.know t2 (by rw [e])).sub e2)
theorem Ty{β:Type}{A:Option Bool}{g:Bool->Option β}{r:β}{c:Bool}{K1 Kx:Bool->KL}{Kf:KL}(k:Nat)(is:List Nat)(j t:Nat)(hF:Option.bind (bif c then some true else A) g=some r)(h1:∀b,A=some b->TL P N ops (FP P Q0 (.lp (fun a' w'=>Kn N (Kx b) a'∧w'=w)::fs)) (l.take k) ((t,.bool false)::K) w)(k2:∀b,g b=some r->TL P N ops (FP P Q0 fs) (l.drop k) (K1 b) w)(ha:kl K t=some (.bool c):=by rfl)
 (hx:∀b,Pu ((t,.bool false)::K) (t::is) [(j,.bool b)]=some (Kx b):=by intro _;rfl) (hk:∀b,Pu K is [(j,.bool b)]=some (K1 b):=by intro _;rfl) (h2:KB N ops (l.take k) ((t,.bool true)::K)=some Kf:=by rfl)
 (t1:∀b,kl (Kx b) t=some (.bool false):=by intro _;rfl) (t2:kl Kf t=some (.bool true):=by rfl)
 (e1:∀b,(K1 b).map (fun p=>kl ((t,.bool c)::Kx b) p.1)=(K1 b).map (fun p=>some p.2):=by intro _;rfl) (e2:(K1 true).map (fun p=>kl ((t,.bool c)::Kf) p.1)=(K1 true).map (fun p=>some p.2):=by rfl):TL P N ops (FP P Q0 fs) l K w:=by
 obtain⟨b,hb,h3⟩:=AG hF
 refine Kd t ha (fun e=>?_) fun e=>?_
 ·replace hb:=OV e hb;obtain rfl:=UO hb;exact TL.cutD k Kf (fun w'=>w'=w) (KB.ok h2 (TL.nil fun a h=>⟨h,rfl⟩)) fun w' q=>q▸fun a hK=>k2 _ h3 a ((hK.know t2 (by rw [e])).sub e2)
 ·replace hb:=OQ e hb;exact TL.cutD k (Kx b) (fun w'=>w'=w) (h1 b hb) fun w' q=>q▸fun a hK=>k2 b h3 a ((hK.know (t1 b) (by rw [e])).sub (e1 b))
theorem LI{β:Type}{A:Option Bool}{g:Bool->Option β}{r:β}{c:Bool}{K1 Kx:Bool->KL}{Kf:KL}(k:Nat)(is:List Nat)(j t:Nat)(hF:Option.bind (bif c then A else some false) g=some r)(h1:∀b,A=some b->QL P N ops w (fun a'=>Kn N (Kx b) a') (l.take k) ((t,.bool true)::K))(k2:∀b,g b=some r->QL P N ops w Qa (l.drop k) (K1 b))(ha:kl K t=some (.bool c):=by rfl)
 (hx:∀b,Pu ((t,.bool true)::K) (t::is) [(j,.bool b)]=some (Kx b):=by intro _;rfl) (hk:∀b,Pu K is [(j,.bool b)]=some (K1 b):=by intro _;rfl) (h2:KB N ops (l.take k) ((t,.bool false)::K)=some Kf:=by rfl)
 (t1:∀b,kl (Kx b) t=some (.bool true):=by intro _;rfl) (t2:kl Kf t=some (.bool false):=by rfl)
 (e1:∀b,(K1 b).map (fun p=>kl ((t,.bool c)::Kx b) p.1)=(K1 b).map (fun p=>some p.2):=by intro _;rfl) (e2:(K1 false).map (fun p=>kl ((t,.bool c)::Kf) p.1)=(K1 false).map (fun p=>some p.2):=by rfl):QL P N ops w Qa l K:=by
 obtain⟨b,hb,h3⟩:=AG hF
 refine Kdq t ha (fun e=>?_) fun e=>?_
 ·replace hb:=OV e hb;exact QL.cut k (Kx b) (h1 b hb) fun a hK=>k2 b h3 a ((hK.know (t1 b) (by rw [e])).sub (e1 b))
 ·replace hb:=OQ e hb;obtain rfl:=UO hb;exact QL.cut k Kf (KB.okq h2 (QL.nil fun a h=>h)) fun a hK=>k2 _ h3 a ((hK.know t2 (by rw [e])).sub e2)
theorem OZ{β:Type}{A:Option Bool}{g:Bool->Option β}{r:β}{c:Bool}{K1 Kx:Bool->KL}{Kf:KL}(k:Nat)(is:List Nat)(j t:Nat)(hF:Option.bind (bif c then some true else A) g=some r)(h1:∀b,A=some b->QL P N ops w (fun a'=>Kn N (Kx b) a') (l.take k) ((t,.bool false)::K))(k2:∀b,g b=some r->QL P N ops w Qa (l.drop k) (K1 b))(ha:kl K t=some (.bool c):=by rfl)
 (hx:∀b,Pu ((t,.bool false)::K) (t::is) [(j,.bool b)]=some (Kx b):=by intro _;rfl) (hk:∀b,Pu K is [(j,.bool b)]=some (K1 b):=by intro _;rfl) (h2:KB N ops (l.take k) ((t,.bool true)::K)=some Kf:=by rfl)
 (t1:∀b,kl (Kx b) t=some (.bool false):=by intro _;rfl) (t2:kl Kf t=some (.bool true):=by rfl)
 (e1:∀b,(K1 b).map (fun p=>kl ((t,.bool c)::Kx b) p.1)=(K1 b).map (fun p=>some p.2):=by intro _;rfl) (e2:(K1 true).map (fun p=>kl ((t,.bool c)::Kf) p.1)=(K1 true).map (fun p=>some p.2):=by rfl):QL P N ops w Qa l K:=by
 obtain⟨b,hb,h3⟩:=AG hF
 refine Kdq t ha (fun e=>?_) fun e=>?_
 ·replace hb:=OV e hb;obtain rfl:=UO hb;exact QL.cut k Kf (KB.okq h2 (QL.nil fun a h=>h)) fun a hK=>k2 _ h3 a ((hK.know t2 (by rw [e])).sub e2)
 ·replace hb:=OQ e hb;exact QL.cut k (Kx b) (h1 b hb) fun a hK=>k2 b h3 a ((hK.know (t1 b) (by rw [e])).sub (e1 b))
end
/-! ## Pointers against nil -/
theorem VG{P:Program}{t e:TypeId}{a:Option Addr}{w:World}(ht:P.underlying t=some (.pointer e)):(Op.equal t (.pointer a) (.pointer none)).run P w= .ok a.isNone w:=by
 simp only [Op.equal,Op.maxDepth]
 rw [show(10000:Nat)=9999+1 from rfl,Op.equalIn]
 cases a<;>simp [run_underlying ht]
theorem lT{P:Program}{N:Nat}{K:KL}{o:Oper}{w:World}{t x y u e}{a:Option Addr}(ho:o.op= .binOp .neq t x y u)(ht:P.underlying t=some (.pointer e))(hx:CG K x=some (.pointer a))(hy:CG K y=some (.pointer none)):ES P N K o w (.bool (!a.isNone)):=by
 intro b hK w' _
 simp [execOp,ho,hK.ev hx,hK.ev hy,eqGuard,binOp,VG ht]
theorem UW{P:Program}{N:Nat}{K:KL}{w:World}{fn:Func}{p ty b T:Nat}{us:List Value}{R:Ending->World->Prop}(hb:Aj w b us T)(ha:Bf P ty=some true)(hn:As P ty=some us.length)(hR:R (.returned (.agg us.toArray)) w)
 (hr:fn.results=List.toArray [.cell p ty]:=by rfl) (hk:kl K p=some (.pointer (some ⟨b,0,none⟩)):=by rfl):NX N (bodyPost P fn R) .ret K w:=
 NX.end (vs:=[.agg us.toArray]) hr ⟨⟨b,hk,Bn ha hn hb⟩,trivial⟩ hR
end Go.Eng
namespace Go.Eng
open Go Go.RowKit
/-! ## Code in a round's frame, and behind a range over a function -/
def VW:Option Nat->Fence
 |none=>Fence.wide
 |some l=>Fence.wide.inRound l
theorem UQ(r:Option Nat)(f:FuncId):(VW r).fn f:=by cases r<;>exact trivial
theorem cO(r:Option Nat)(n:Nat):(VW r).depth.isSome=true->1<=n:=by cases r<;>intro h<;>cases h
theorem QW{P:Program}{r:Option Nat}{n:Nat}{f:FuncId}{args:Array Value}{w:World}{R:Ending->World->Prop}(h:Calls P f args w R):CallsIn (VW r) n P f args w R:=by
 have h2:CallsIn Fence.wide n P f args w R:=callsIn_wide.2 h
 cases r with
 |none=>exact h2
 |some l=>exact CallsIn.inRound l h2
theorem iC{P:Program}{r:Option Nat}{n:Nat}{row:String}{args:Array Value}{w:World}{R:Value->World->Prop}(h:Rows P row args w R):RowsIn (VW r) n P row args w R:=by
 have h2:RowsIn Fence.wide n P row args w R:=fun c cs _=>by
  obtain⟨v,w',hr,hs⟩:=h c cs
  exact⟨v,w',hr,stepsIn_wide.2 hs⟩
 cases r with
 |none=>exact h2
 |some l=>exact h2
def DQ(Q:Exit->Act->World->Prop)(ds:List Deferred):Exit->Act->World->Prop:=fun e a w=>a.defers=[]∧e≠ .outgrown∧Q e { a with defers:=ds } w
def jT(o:Oper):Bool:=match o.op with
 | .defer _=>false
 |_=>true
theorem Fg(a:Act)(d:Option Tmp)(v:Value):(a.put d v).defers=a.defers:=by cases d<;>rfl
theorem Ip(a:Act)(ds:List Deferred)(d:Option Tmp)(v:Value):({ a with defers:=ds }:Act).put d v={ a.put d v with defers:=ds }:=by cases d<;>rfl
def YT(Q1 Q:Exit->Act->World->Prop)(ds:List Deferred):Prop:=∀e a w,Q1 e a w->a.defers=[]∧e≠ .outgrown∧Q e { a with defers:=ds } w
theorem uE{Q:Exit->Act->World->Prop}{ds:List Deferred}:YT (DQ Q ds) Q ds:=fun _ _ _ h=>h
theorem AeT{Q:Exit->Act->World->Prop}{ds:List Deferred}:YT (noPan (DQ Q ds)) Q ds:=fun e _ _ h=>by cases e<;>first|exact h|exact h.elim
section
variable {P:Program} {Q Q1:Exit -> Act -> World -> Prop} {ds:List Deferred} {r:Option Nat} {n:Nat}
theorem YT.out(q:YT Q1 Q ds):¬LetsOut Q1:=fun⟨_,_,h⟩=>(q _ _ _ h).2.1 rfl
theorem WU(q:YT Q1 Q ds){o:Oper}{a:Act}{w:World}{K:Act->World->Prop}(ha:a.defers≠[])(hK:∀a' w',a'.defers≠[]->K a' w'->False)(h:o.wp P a w K Q1):False:=by
 unfold Oper.wp at h
 generalize (execOp a.eval o).run P w=x at h
 cases x with
 |ok v w'=>
  cases v with
  |value v=>exact hK _ _ (by rw [Fg];exact ha) h
  |skip=>exact hK _ _ (by rw [Fg];exact ha) h
  |defer d=>exact hK _ _ (by rw [Fg];exact List.cons_ne_nil _ _) h
  |enter f args=>
   obtain⟨e,w'',_,hR,_⟩:=h []
   cases e with
   |returned v=>exact hK _ _ (by rw [Fg];exact ha) hR
   |panicked c=>exact ha (q _ _ _ hR).1
   |outgrown=>exact q.out hR
  |row row args=>
   obtain⟨v,w'',hR,_⟩:=h default []
   exact hK _ _ (by rw [Fg];exact ha) hR
  |_=>exact h
 |halt e w'=>
  cases e with
  |panic v=>exact ha (q _ _ _ h).1
  |_=>exact h
theorem pE(q:YT Q1 Q ds){o:Oper}{a:Act}{w:World}{K K':Act->World->Prop}(ho:jT o=true)(ha:a.defers=[])(hd:∀a' w',a'.defers≠[]->K a' w'->False)
 (hK:∀a' w',a'.defers=[]->K a' w'->K' { a' with defers:=ds } w') (h:o.wp P a w K Q1):o.wpIn (VW r) n P { a with defers:=ds } w K' Q:=by
 refine⟨fun f _=>UQ r f,?_⟩
 have hs:o.semAt (VW r).round ({ a with defers:=ds }:Act).eval=execOp a.eval o:=by
  rw [Oper.semAt_eq _ _ _ (fun c hc=>by unfold jT at ho;rw [hc]at ho;cases ho)];rfl
 rw [hs]
 unfold Oper.wp at h
 generalize (execOp a.eval o).run P w=x at h
 cases x with
 |ok v w'=>
  cases v with
  |value v=>show K' (({ a with defers:=ds }:Act).put o.dst v) w';rw [Ip];exact hK _ _ (by rw [Fg];exact ha) h
  |skip=>show K' (({ a with defers:=ds }:Act).put o.dst undef) w';rw [Ip];exact hK _ _ (by rw [Fg];exact ha) h
  |defer d=>exact absurd h fun h=>hd _ _ (by rw [Fg];exact List.cons_ne_nil _ _) h
  |enter f args=>
   refine⟨cO r n,(QW h).mono fun e w'' hR=>?_⟩
   cases e with
   |returned v=>show K' (({ a with defers:=ds }:Act).put o.dst v) w'';rw [Ip];exact hK _ _ (by rw [Fg];exact ha) hR
   |panicked c=>exact(q _ _ _ hR).2.2
   |outgrown=>exact(q.out hR).elim
  |row row args=>
   refine⟨cO r n,(iC h).mono fun v w'' hR=>?_⟩
   rw [Ip];exact hK _ _ (by rw [Fg];exact ha) hR
  |_=>exact h.elim
 |halt e w'=>
  cases e with
  |panic v=>exact(q _ _ _ h).2.2
  |_=>exact h
variable {ops:Array Oper}
theorem OF(q:YT Q1 Q ds):∀{l:List Oper} {a:Act} {w:World},a.defers≠[]->wpList P ops Q1 l a w->False
 |[],a,w,ha,h=>ha (q _ _ _ h).1
 |o::l,a,w,ha,h=>by
  unfold wpList at h
  split at h
  ·rcases h with h|⟨_,h⟩
   ·exact WU q ha (fun a' w' h1 h2=>OF q h1 h2) h
   ·exact q.out h
  ·exact OF q (by rw [Fg];exact ha) h
theorem Ng(q:YT Q1 Q ds):∀{l:List Oper} {a:Act} {w:World},l.all jT=true->a.defers=[]->wpList P ops Q1 l a w->wpListIn (VW r) n P ops Q l { a with defers:=ds } w
 |[],a,w,_,ha,h=>(q _ _ _ h).2.2
 |o::l,a,w,hn,ha,h=>by
  rw [List.all_cons,Bool.and_eq_true]at hn
  unfold wpList at h
  unfold wpListIn
  split at h
  ·rename_i hw
   rw [if_pos hw]
   rcases h with h|⟨_,h⟩
   ·exact pE q hn.1 ha (fun a' w' h1 h2=>OF q h1 h2) (fun a' w' h1 h2=>Ng q hn.2 h1 h2) h
   ·exact(q.out h).elim
  ·rename_i hw
   rw [if_neg hw]
   refine⟨fun f _=>UQ r f,?_⟩
   rw [Ip];exact Ng q hn.2 (by rw [Fg];exact ha) h
theorem lZ(q:YT Q1 Q ds){i:Nat}{a:Act}{w:World}{K:Act->World->Prop}(ha:a.defers≠[])(hK:∀a' w',a'.defers≠[]->K a' w'->False)(h:wpOp P ops Q1 i K a w):False:=by
 unfold wpOp at h
 split at h
 ·exact hK _ _ ha h
 ·split at h
  ·rcases h with h|⟨_,h⟩
   ·exact WU q ha hK h
   ·exact q.out h
  ·exact hK _ _ (by rw [Fg];exact ha) h
theorem SV(q:YT Q1 Q ds):∀{f:Nat} {listed:Array Bool} {a:Act} {w:World},a.defers≠[]->wpAny P .any ops Q1 f listed a w->False
 |0,listed,a,w,ha,h=>ha (q _ _ _ h.2).1
 |f+1,listed,a,w,ha,h=>by
  obtain⟨h1,h2⟩:=h
  cases hr:Region.ready .any ops listed with
  |nil=>exact ha (q _ _ _ (h1 hr)).1
  |cons i l=>exact lZ q ha (fun a' w' k1 k2=>SV q k1 k2) (h2 i (by rw [hr];exact List.mem_cons_self))
theorem AbP(q:YT Q1 Q ds){i:Nat}{a:Act}{w:World}{K K':Act->World->Prop}(hn:ops.toList.all jT=true)(ha:a.defers=[])(hd:∀a' w',a'.defers≠[]->K a' w'->False)
 (hK:∀a' w',a'.defers=[]->K a' w'->K' { a' with defers:=ds } w') (h:wpOp P ops Q1 i K a w):wpOpIn (VW r) n P ops Q i K' { a with defers:=ds } w:=by
 unfold wpOp at h
 unfold wpOpIn
 cases ho:ops[i]? with
 |none=>rw [ho]at h;exact hK _ _ ha h
 |some o=>
  rw [ho]at h
  have h:if Region.wanted o (yielded ops a.tmps)then o.wp P a w K Q1∨(o.asks P a w∧LetsOut Q1)else K (a.put o.dst undef) w:=h
  show if Region.wanted o (yielded ops a.tmps)then _ else _
  have hm:o∈ops.toList:=by
   obtain⟨h1,h2⟩:=Array.getElem?_eq_some_iff.1 ho
   rw [←h2];exact Array.getElem_mem_toList h1
  have hno:=List.all_eq_true.1 hn o hm
  split at h
  ·rename_i hw
   rw [if_pos hw]
   rcases h with h|⟨_,h⟩
   ·exact pE q hno ha hd hK h
   ·exact(q.out h).elim
  ·rename_i hw
   rw [if_neg hw]
   refine⟨fun f _=>UQ r f,?_⟩
   rw [Ip];exact hK _ _ (by rw [Fg];exact ha) h
theorem aU(q:YT Q1 Q ds)(hn:ops.toList.all jT=true):∀{f:Nat} {listed:Array Bool} {a:Act} {w:World},a.defers=[]->wpAny P .any ops Q1 f listed a w->wpAnyIn (VW r) n P .any ops Q f listed { a with defers:=ds } w
 |0,listed,a,w,ha,h=>⟨h.1,(q _ _ _ h.2).2.2⟩
 |f+1,listed,a,w,ha,h=>⟨fun e=>(q _ _ _ (h.1 e)).2.2,fun i hi=>AbP q hn ha (fun a' w' k1 k2=>SV q k1 k2) (fun a' w' k1 k2=>aU q hn k1 k2) (h.2 i hi)⟩
end
def WX(P:Program)(N:Nat)(r:Option Nat)(n:Nat)(ds:List Deferred)(c:Code)(Q:Exit->Act->World->Prop)(K:KL)(w:World):Prop:=
 ∀a,Kn N K a->c.wpIn (VW r) n P Q { a with defers:=ds } w
def NY(N:Nat)(ds:List Deferred)(Q:Exit->Act->World->Prop)(e:Exit)(K:KL)(w:World):Prop:=∀a,Kn N K a->Q e { a with defers:=ds } w
section
variable {P:Program} {N:Nat} {r:Option Nat} {n:Nat} {ds:List Deferred} {Q:Exit -> Act -> World -> Prop} {K:KL} {w:World}
theorem WX.seq{x y:Code}(h:WX P N r n ds x (Exit.then (fun a' w'=>y.wpIn (VW r) n P Q a' w') Q) K w):WX P N r n ds (.seq x y) Q K w:=fun a hK=>wpIn_seq (h a hK)
theorem WX.region{id:Nat}{l:List Oper}(hn:l.all jT=true)(h:TL P N l.toArray (DQ Q ds) l K w):WX P N r n ds (.region id l.toArray false) Q K w:=fun a hK=>wpIn_region_lit (Ng uE hn hK.df (h a hK))
theorem WX.block{id:Nat}{c:Code}(h:WX P N r n ds c (Exit.inBlock id Q) K w):WX P N r n ds (.block id c) Q K w:=fun a hK=>wpIn_block (h a hK)
theorem WX.skip(h:NY N ds Q .normal K w):WX P N r n ds .skip Q K w:=fun a hK=>wpIn_skip (h a hK)
theorem WX.exit{id:Nat}(h:NY N ds Q (.exit id) K w):WX P N r n ds (.exit id) Q K w:=fun a hK=>wpIn_exit (h a hK)
theorem WX.ret(h:NY N ds Q .ret K w):WX P N r n ds .ret Q K w:=fun a hK=>wpIn_ret (h a hK)
theorem WX.cond{c:Operand}{x y:Code}{t:Bool}(hc:CG K c=some (.bool t))(ht:t=true->WX P N r n ds x Q K w)(hf:t=false->WX P N r n ds y Q K w):WX P N r n ds (.cond c x y) Q K w:=
 fun a hK=>wpIn_cond_split (a:={ a with defers:=ds }) (hK.ev hc) (fun h=>ht h a hK) (fun h=>hf h a hK)
theorem WX.heldG{p:Nat->Prop}{id:Nat}{l:List Oper}(m:Nat)(hm:P.follows .mixedOrders=true)(hn:l.all jT=true)
 (h:∀w',AH w w'->JY P N l.toArray m (noPan (DQ Q ds)) p w' l.length (Array.replicate l.length false) K w'):WX P N r n ds (.region id l.toArray true) Q K w:=by
 intro a hK
 have inv0:HeadInv .any l.toArray m (Array.replicate l.length false):=
  ⟨by simp,fun j oj _ hl=>(by rw [getD_replicate_false]at hl;cases hl),fun t _ ht=>getD_in (by simpa using ht) (getD_replicate_false _ _)⟩
 have h1:=Ca.any _ _ _ _ (h w.drew (AH.drew w) (by simpa using inv0) (Bl.refl p _) a hK)
 refine wpIn_region_any hm ?_
 exact aU AeT (by simpa using hn) hK.df (by simpa using h1)
end
theorem NXd{N:Nat}{ds:List Deferred}{Q:Exit->Act->World->Prop}{e:Exit}{K:KL}{w:World}(h:NY N ds Q e K w)(he:e≠ .outgrown:=by intro h;cases h):NX N (DQ Q ds) e K w:=fun a hK=>⟨hK.df,he,h a hK⟩
theorem QZ{P:Program}{w:World}{b ty T:Nat}{u:Value}(ha:Bf P ty=some false)(hb:Aj w b [u] T):(loadVar ty ⟨b,0,none⟩).run P w= .ok u w:=by
 have hc:w.cell? ⟨b,0,none⟩=some u:=by simpa using (hb.cells 0 u rfl).1
 simp [loadVar,Sem.run_bind,HP ha,hc]
section
variable (P:Program) (N:Nat) (r:Option Nat) (n0:Nat) (ds:List Deferred) (Q0:Exit -> Act -> World -> Prop)
def GJ:List Frame->Exit->Act->World->Prop
 |[]=>Q0
 | .seq c::fs=>Exit.then (fun a w=>c.wpIn (VW r) n0 P (GJ fs) a w) (GJ fs)
 | .blk id::fs=>Exit.inBlock id (GJ fs)
 | .lp f::fs=>Exit.then f (GJ fs)
def Pv(m:Md)(fs:List Frame)(K:KL)(w:World):Prop:=match m with
 | .c c=>WX P N r n0 ds c (GJ P r n0 Q0 fs) K w
 | .o ops l=>TL P N ops (DQ (GJ P r n0 Q0 fs) ds) l K w
 | .e e=>NY N ds (GJ P r n0 Q0 fs) e K w
def Dw:Nat->Md->List Frame->KL->World->Prop
 |0=>fun m fs K w=>Pv P N r n0 ds Q0 m fs K w
 |n+1=>fun m fs K w=>match m with
  | .c c=>match c with
   | .seq x y=>Dw n (.c x) (.seq y::fs) K w
   | .region _ ops false=>match ops.toList.all jT with
    |true=>Dw n (.o ops ops.toList) fs K w
    |false=>False
   | .block id x=>Dw n (.c x) (.blk id::fs) K w
   | .skip=>Dw n (.e .normal) fs K w
   | .exit id=>Dw n (.e (.exit id)) fs K w
   | .ret=>Dw n (.e .ret) fs K w
   |_=>False
  | .o ops l=>match l with
   |[]=>Dw n (.e .normal) fs K w
   |o::rest=>match Fp N ops K o with
    | .yes=>match yq K o.op with
     |some v=>Dw n (.o ops rest) fs (BK K o.dst v) w
     |none=>False
    | .skip=>Dw n (.o ops rest) fs (BK K o.dst undef) w
    | .no=>False
  | .e e=>match fs with
   |[]=>False
   | .seq c::fs=>match e with
    | .normal=>Dw n (.c c) fs K w
    | .ret=>Dw n (.e .ret) fs K w
    | .exit id=>Dw n (.e (.exit id)) fs K w
    |_=>False
   | .blk id::fs=>match e with
    | .normal=>Dw n (.e .normal) fs K w
    | .ret=>Dw n (.e .ret) fs K w
    | .exit id'=>bif Nat.beq id' id then Dw n (.e .normal) fs K w else Dw n (.e (.exit id')) fs K w
    |_=>False
   | .lp _::_=>False
end
section
variable {P:Program} {N:Nat} {r:Option Nat} {n0:Nat} {ds:List Deferred} {Q0:Exit -> Act -> World -> Prop}
theorem NY.of_out{Q:Exit->Act->World->Prop}{K:KL}{w:World}(h:NY N ds Q .normal K w):∀a,Kn N K a->DQ Q ds .normal a w:=fun a hK=>⟨hK.df,by simp,h a hK⟩
theorem Dw.ok:∀(n:Nat) {m:Md} {fs:List Frame} {K:KL} {w:World},Dw P N r n0 ds Q0 n m fs K w->Pv P N r n0 ds Q0 m fs K w
 |0,_,_,_,_,h=>h
 |n+1,m,fs,K,w,h=>by
  cases m with
  |c c=>
   cases c with
   |seq x y=>exact WX.seq (Dw.ok n h)
   |region id ops d=>
    cases d with
    |false=>
     simp only [Dw]at h
     split at h
     case h_2=>exact h.elim
     rename_i h1
     have h2:TL P N ops (DQ (GJ P r n0 Q0 fs) ds) ops.toList K w:=Dw.ok n h
     show WX P N r n0 ds (.region id ops false) (GJ P r n0 Q0 fs) K w
     have:ops=ops.toList.toArray:=by simp
     rw [this];rw [this]at h2
     exact WX.region (by simpa using h1) (by simpa using h2)
    |true=>exact h.elim
   |block id x=>exact WX.block (Dw.ok n h)
   |skip=>exact WX.skip (Dw.ok n h)
   |exit id=>exact WX.exit (Dw.ok n h)
   |ret=>exact WX.ret (Dw.ok n h)
   |cond _ _ _=>exact h.elim
   |loop _=>exact h.elim
   |_=>exact h.elim
  |o ops l=>
   cases l with
   |nil=>exact TL.nil (NY.of_out (Dw.ok n h:Pv P N r n0 ds Q0 (.e .normal) fs K w))
   |cons o rest=>
    simp only [Dw]at h
    split at h
    ·rename_i hg
     split at h
     ·rename_i v hv;exact Yl hg (Ho hv) (Dw.ok n h)
     ·exact h.elim
    ·rename_i hg;exact Sk hg (Dw.ok n h)
    ·exact h.elim
  |e e=>
   cases fs with
   |nil=>exact h.elim
   |cons f fs=>
    cases f with
    |seq c=>
     cases e with
     |normal=>exact(Dw.ok n h:Pv P N r n0 ds Q0 (.c c) fs K w)
     |ret=>exact(Dw.ok n h:Pv P N r n0 ds Q0 (.e .ret) fs K w)
     |exit id=>exact(Dw.ok n h:Pv P N r n0 ds Q0 (.e (.exit id)) fs K w)
     |_=>exact h.elim
    |blk id=>
     cases e with
     |normal=>exact(Dw.ok n h:Pv P N r n0 ds Q0 (.e .normal) fs K w)
     |ret=>exact(Dw.ok n h:Pv P N r n0 ds Q0 (.e .ret) fs K w)
     |exit id'=>
      simp only [Dw]at h
      cases hb:Nat.beq id' id with
      |true=>
       rw [hb]at h
       obtain rfl:=Nat.eq_of_beq_eq_true hb
       have h2:Pv P N r n0 ds Q0 (.e .normal) fs K w:=Dw.ok n h
       intro a hK
       have:=h2 a hK
       simpa [GJ,Exit.inBlock] using this
      |false=>
       rw [hb]at h
       have h2:Pv P N r n0 ds Q0 (.e (.exit id')) fs K w:=Dw.ok n h
       intro a hK
       have:=h2 a hK
       have hne:id'≠id:=fun e=>by rw [e]at hb;simp at hb
       simpa [GJ,Exit.inBlock,hne] using this
     |_=>exact h.elim
    |lp f=>exact h.elim
variable {K:KL} {w:World} {fs:List Frame} {ops:Array Oper}
theorem Xc(n:Nat){c:Code}(h:Dw P N r n0 ds Q0 n (.c c) fs K w):WX P N r n0 ds c (GJ P r n0 Q0 fs) K w:=Dw.ok (m:=.c c) n h
theorem Xo(n:Nat){l:List Oper}(h:Dw P N r n0 ds Q0 n (.o ops l) fs K w):TL P N ops (DQ (GJ P r n0 Q0 fs) ds) l K w:=Dw.ok (m:=.o ops l) n h
theorem Xe(n:Nat){e:Exit}(h:Dw P N r n0 ds Q0 n (.e e) fs K w):NY N ds (GJ P r n0 Q0 fs) e K w:=Dw.ok (m:=.e e) n h
theorem Xw{α:Type}{c:Operand}{x y:Code}{t:Bool}{A B:Option α}{s:α}{Q:Exit->Act->World->Prop}(hc:CG K c=some (.bool t))(hF:(bif t then A else B)=some s)(ht:A=some s->WX P N r n0 ds x Q K w)(hf:B=some s->WX P N r n0 ds y Q K w):WX P N r n0 ds (.cond c x y) Q K w:=
 WX.cond hc (fun h=>ht (OV h hF)) (fun h=>hf (OQ h hF))
end
/-! ## A range over slices.Backward -/
def Ob(w:World)(k:Nat)(o:Obj):Prop:=w.heap[k]? =some o
theorem Ob.lt{w:World}{k:Nat}{o:Obj}(h:Ob w k o):k<w.heap.size:=(Array.getElem?_eq_some_iff.1 h).1
theorem Ob.ext{w w':World}{k:Nat}{o:Obj}(h:Ob w k o)(he:AH w w'):Ob w' k o:=by unfold Ob;rw [he.block k h.lt];exact h
theorem Ob.upd{w w':World}{k c:Nat}{o:Obj}(h:Ob w k o)(he:Fs c w w')(hne:k≠c):Ob w' k o:=by unfold Ob;rw [he.block k hne];exact h
theorem Ob.but{p:Nat->Prop}{w w':World}{k:Nat}{o:Obj}(h:Ob w k o)(he:Bl p w w')(hne:∀j,p j->j≠k):Ob w' k o:=by unfold Ob;rw [he.block k h.lt (fun e=>hne k e rfl)];exact h
instance {w w':World}{d:Nat}{o:Obj}:Mv w w' (Ob w d o) (Ob w' d o) True:=⟨fun h _ k=>h.ext k⟩
instance {b:Nat}{w w':World}{d:Nat}{o:Obj}:Mu b w w' (Ob w d o) (Ob w' d o) (d≠b):=⟨fun h s k=>h.upd k s⟩
theorem Lc(w:World)(k:Nat)(o:Obj):Fs k w (w.putObj k o):=⟨rfl,rfl,rfl,by simp,fun j hj=>World.putObj_heap_other hj⟩
theorem gM{w:World}{k:Nat}{o o':Obj}(h:Ob w k o):Ob (w.putObj k o') k o':=World.putObj_heap_same h.lt
theorem Ct{F:Fence}{n:Nat}{P:Program}{ops:Array Oper}{Q:Exit->Act->World->Prop}{l2:List Oper}:∀{l1:List Oper} {a:Act} {w:World},wpListIn F n P ops (Exit.then (fun a' w'=>wpListIn F n P ops Q l2 a' w') Q) l1 a w->wpListIn F n P ops Q (l1++l2) a w
 |[],_,_,h=>h
 |o::l1,a,w,h=>by
  unfold wpListIn at h
  show wpListIn F n P ops Q (o::(l1++l2)) a w
  unfold wpListIn
  split at h
  ·rename_i hw
   rw [if_pos hw]
   refine⟨h.1,?_⟩
   have h:=h.2
   generalize (o.semAt F.round a.eval).run P w=x at h
   cases x with
   |ok v w'=>
    cases v with
    |value v=>exact Ct h
    |skip=>exact Ct h
    |defer d=>exact Ct h
    |enter f args=>
     refine⟨h.1,h.2.mono fun e w'' hR=>?_⟩
     cases e with
     |returned v=>exact Ct hR
     |panicked c=>exact hR
     |outgrown=>exact hR
    |row row args=>exact⟨h.1,h.2.mono fun v w'' hR=>Ct hR⟩
    |round l f tmps as bd=>
     refine⟨h.1,h.2.mono fun e w'' hR=>?_⟩
     cases e with
     |returned v=>exact Ct hR
     |panicked c=>exact hR
     |outgrown=>exact hR
    |_=>exact h
   |halt e w'=>
    cases e with
    |panic v=>exact h
    |_=>exact h
  ·rename_i hw
   rw [if_neg hw]
   exact⟨h.1,Ct h.2⟩
section
variable {P:Program} {fn:Func} {gf b:Nat} {tx:TypeId} {v:Value} {xs:List Int} {lo hi:Nat} {ts ti te tb:TypeId} {tys:Array TypeId} {i0 i1 i2 i3:Nat} {t1 t2 t3 t4 t5 t6 t7 t8 t9 t10 t11 t12 t13 t14 t15 t16 t17:TypeId} {p1 p2 p3 p4 p5 p6 p7 p8 p9 p10 p11 p12 p13 p14 p15 p16 p17:String} {a1 a2 a3 a4 a5 a6 a7 a8 a9 a10 a11 a12 a13 a14 a15 a16 a17:Array Edge}
theorem TV(L:Nat){Q:Exit->Act->World->Prop}{i x:Int}{W:World}(n:Nat)
 (hu:P.underlying ts=some (.slice te)) (hc:As P te=some 1) (hg:Bf P te=some false) (hgs:Bf P ts=some false)
 (X:Aj W b [v] tx) (S:AD (AI .i64) W (Iv lo hi) xs v) (hx:AE xs i=some x)
 (hy:YieldAt Fence.wide n P L #[.int .i64 i,.int .i64 x] W fun e W'=>∃t:Bool,e= .returned (.bool t)∧NX 19 Q .normal [(18,.bool (!t)),(3,.int .i64 i),(1,.pointer (some ⟨b,0,none⟩)),(0,.func (.yield L) #[] #[])] W'):
 WC P 19 (.region i3 #[⟨some 11,.move (.tmp 0),t7,p7,a7,none⟩,⟨some 12,.move (.tmp 3),t8,p8,a8,none⟩,⟨some 13,.load ts (.tmp 1),t9,p9,a9,none⟩,⟨some 14,.move (.tmp 3),t10,p10,a10,none⟩,⟨some 15,.indexAddr ts (.tmp 13) (.tmp 14),t11,p11,a11,none⟩,⟨some 16,.load te (.tmp 15),t12,p12,a12,none⟩,⟨some 17,.call ⟨.value (.tmp 11),#[.tmp 12,.tmp 16],tys⟩,t13,p13,a13,none⟩,⟨some 18,.unOp .not tb (.tmp 17),t14,p14,a14,none⟩] false) Q [(3,.int .i64 i),(1,.pointer (some ⟨b,0,none⟩)),(0,.func (.yield L) #[] #[])] W:=by
 intro a hK
 have ea:({ a with defers:=[] }:Act)=a:=by have:=hK.df;cases a;simp_all
 refine(wpIn_wide (n:=n+1)).1 (wpIn_region_lit (Ct (l1:=[⟨some 11,.move (.tmp 0),t7,p7,a7,none⟩,⟨some 12,.move (.tmp 3),t8,p8,a8,none⟩,⟨some 13,.load ts (.tmp 1),t9,p9,a9,none⟩,⟨some 14,.move (.tmp 3),t10,p10,a10,none⟩,⟨some 15,.indexAddr ts (.tmp 13) (.tmp 14),t11,p11,a11,none⟩,⟨some 16,.load te (.tmp 15),t12,p12,a12,none⟩]) (l2:=[⟨some 17,.call ⟨.value (.tmp 11),#[.tmp 12,.tmp 16],tys⟩,t13,p13,a13,none⟩,⟨some 18,.unOp .not tb (.tmp 17),t14,p14,a14,none⟩]) ?_))
 have h1:TL P 19 #[⟨some 11,.move (.tmp 0),t7,p7,a7,none⟩,⟨some 12,.move (.tmp 3),t8,p8,a8,none⟩,⟨some 13,.load ts (.tmp 1),t9,p9,a9,none⟩,⟨some 14,.move (.tmp 3),t10,p10,a10,none⟩,⟨some 15,.indexAddr ts (.tmp 13) (.tmp 14),t11,p11,a11,none⟩,⟨some 16,.load te (.tmp 15),t12,p12,a12,none⟩,⟨some 17,.call ⟨.value (.tmp 11),#[.tmp 12,.tmp 16],tys⟩,t13,p13,a13,none⟩,⟨some 18,.unOp .not tb (.tmp 17),t14,p14,a14,none⟩] (DQ (Exit.then (fun a' w'=>wpListIn Fence.wide (n+1) P #[⟨some 11,.move (.tmp 0),t7,p7,a7,none⟩,⟨some 12,.move (.tmp 3),t8,p8,a8,none⟩,⟨some 13,.load ts (.tmp 1),t9,p9,a9,none⟩,⟨some 14,.move (.tmp 3),t10,p10,a10,none⟩,⟨some 15,.indexAddr ts (.tmp 13) (.tmp 14),t11,p11,a11,none⟩,⟨some 16,.load te (.tmp 15),t12,p12,a12,none⟩,⟨some 17,.call ⟨.value (.tmp 11),#[.tmp 12,.tmp 16],tys⟩,t13,p13,a13,none⟩,⟨some 18,.unOp .not tb (.tmp 17),t14,p14,a14,none⟩] Q [⟨some 17,.call ⟨.value (.tmp 11),#[.tmp 12,.tmp 16],tys⟩,t13,p13,a13,none⟩,⟨some 18,.unOp .not tb (.tmp 17),t14,p14,a14,none⟩] a' w') Q) []) [⟨some 11,.move (.tmp 0),t7,p7,a7,none⟩,⟨some 12,.move (.tmp 3),t8,p8,a8,none⟩,⟨some 13,.load ts (.tmp 1),t9,p9,a9,none⟩,⟨some 14,.move (.tmp 3),t10,p10,a10,none⟩,⟨some 15,.indexAddr ts (.tmp 13) (.tmp 14),t11,p11,a11,none⟩,⟨some 16,.load te (.tmp 15),t12,p12,a12,none⟩] [(3,.int .i64 i),(1,.pointer (some ⟨b,0,none⟩)),(0,.func (.yield L) #[] #[])] W:=by
  refine Yl rfl (Ho rfl) (Yl rfl (Ho rfl) (Yl rfl (Co rfl hgs X rfl) (Yl rfl (Ho rfl) ?_)))
  refine Il (g:=fun y=>if y=x then some ()else none) (r:=()) (by rw [hx];simp) S hu hc hg fun y hF u=>?_
  obtain rfl:y=x:=by by_cases e:y=x<;>simp [e]at hF ⊢
  refine TL.nil fun a' hK'=>⟨hK'.df,by simp,?_⟩
  have ea':({ a' with defers:=[] }:Act)=a':=by have:=hK'.df;cases a';simp_all
  rw [ea']
  show wpListIn Fence.wide (n+1) P #[⟨some 11,.move (.tmp 0),t7,p7,a7,none⟩,⟨some 12,.move (.tmp 3),t8,p8,a8,none⟩,⟨some 13,.load ts (.tmp 1),t9,p9,a9,none⟩,⟨some 14,.move (.tmp 3),t10,p10,a10,none⟩,⟨some 15,.indexAddr ts (.tmp 13) (.tmp 14),t11,p11,a11,none⟩,⟨some 16,.load te (.tmp 15),t12,p12,a12,none⟩,⟨some 17,.call ⟨.value (.tmp 11),#[.tmp 12,.tmp 16],tys⟩,t13,p13,a13,none⟩,⟨some 18,.unOp .not tb (.tmp 17),t14,p14,a14,none⟩] Q [⟨some 17,.call ⟨.value (.tmp 11),#[.tmp 12,.tmp 16],tys⟩,t13,p13,a13,none⟩,⟨some 18,.unOp .not tb (.tmp 17),t14,p14,a14,none⟩] a' W
  refine wpListIn_plain rfl fun Kt hKt=>⟨fun f _=>trivial,?_⟩
  show Oper.uponIn Fence.wide (n+1) P ⟨some 17,.call ⟨.value (.tmp 11),#[.tmp 12,.tmp 16],tys⟩,t13,p13,a13,none⟩ a' Kt Q ((execOp a'.eval ⟨some 17,.call ⟨.value (.tmp 11),#[.tmp 12,.tmp 16],tys⟩,t13,p13,a13,none⟩).run P W)
  obtain⟨fn',tm,as,bd,hyl,hR⟩:=hy
  have e11:=hK'.ev (x:=.tmp 11) rfl
  have e12:=hK'.ev (x:=.tmp 12) rfl
  have e16:=hK'.ev (x:=.tmp 16) rfl
  have hr:(execOp a'.eval ⟨some 17,.call ⟨.value (.tmp 11),#[.tmp 12,.tmp 16],tys⟩,t13,p13,a13,none⟩).run P W= .ok (.round L fn' tm as bd) W:=by
   simp [execOp,resolve,e11,e12,e16,Deferred.ofValue,invoke,hyl]
  rw [hr]
  refine⟨fun h=>(by cases h),hR.mono fun e W' hq=>?_⟩
  obtain⟨t,rfl,hN⟩:=hq
  refine hKt _ _ ?_
  have hK2:=hK'.put (d:=some 17) (v:=.bool t) (by intro _ e;cases e;rfl)
  have hK3:Kn 19 [(17,.bool t),(3,.int .i64 i),(1,.pointer (some ⟨b,0,none⟩)),(0,.func (.yield L) #[] #[])] (a'.put (some 17) (.bool t)):=hK2.sub rfl
  have h3:TL P 19 #[⟨some 11,.move (.tmp 0),t7,p7,a7,none⟩,⟨some 12,.move (.tmp 3),t8,p8,a8,none⟩,⟨some 13,.load ts (.tmp 1),t9,p9,a9,none⟩,⟨some 14,.move (.tmp 3),t10,p10,a10,none⟩,⟨some 15,.indexAddr ts (.tmp 13) (.tmp 14),t11,p11,a11,none⟩,⟨some 16,.load te (.tmp 15),t12,p12,a12,none⟩,⟨some 17,.call ⟨.value (.tmp 11),#[.tmp 12,.tmp 16],tys⟩,t13,p13,a13,none⟩,⟨some 18,.unOp .not tb (.tmp 17),t14,p14,a14,none⟩] (DQ Q []) [⟨some 18,.unOp .not tb (.tmp 17),t14,p14,a14,none⟩] [(17,.bool t),(3,.int .i64 i),(1,.pointer (some ⟨b,0,none⟩)),(0,.func (.yield L) #[] #[])] W':=
   Yl rfl (Ho rfl) (TL.nil fun a'' hK''=>⟨hK''.df,by simp,by
    have ea'':({ a'' with defers:=[] }:Act)=a'':=by have:=hK''.df;cases a'';simp_all
    rw [ea''];exact hN a'' (hK''.sub rfl)⟩)
  have h4:=Ng (r:=none) (n:=n+1) uE (by rfl) hK2.df (h3 _ hK3)
  have ea2:({ (a'.put (some 17) (.bool t))with defers:=[] }:Act)=a'.put (some 17) (.bool t):=by rw [←hK2.df]
  rw [ea2]at h4
  exact h4
 have h2:=Ng (r:=none) (n:=n+1) uE (by rfl) hK.df (h1 a hK)
 rw [ea]at h2
 exact h2
theorem Vx(L:Nat)(n:Nat){M:Nat->Int->World->Prop}{R:World->Prop}(hf:P.funcs[gf]? =some fn)(hb:fn.body=some (.seq (.region i0 #[⟨some 4,.load ts (.tmp 1),t1,p1,a1,none⟩,⟨some 5,.call ⟨.builtin .len,#[.tmp 4],#[ts]⟩,t2,p2,a2,none⟩,⟨some 6,.binOp .sub ti (.tmp 5) (.const (.int .i64 1)) ti,t3,p3,a3,none⟩,⟨some 3,.assign (.tmp 6),t4,p4,a4,none⟩] false) (.block 0 (.loop (.seq (.seq (.region i1 #[⟨some 7,.move (.tmp 3),t5,p5,a5,none⟩,⟨some 8,.binOp .geq ti (.tmp 7) (.const (.int .i64 0)) ti,t6,p6,a6,none⟩] false) (.cond (.tmp 8) .skip (.exit 0))) (.seq (.block 1 (.seq (.region i3 #[⟨some 11,.move (.tmp 0),t7,p7,a7,none⟩,⟨some 12,.move (.tmp 3),t8,p8,a8,none⟩,⟨some 13,.load ts (.tmp 1),t9,p9,a9,none⟩,⟨some 14,.move (.tmp 3),t10,p10,a10,none⟩,⟨some 15,.indexAddr ts (.tmp 13) (.tmp 14),t11,p11,a11,none⟩,⟨some 16,.load te (.tmp 15),t12,p12,a12,none⟩,⟨some 17,.call ⟨.value (.tmp 11),#[.tmp 12,.tmp 16],tys⟩,t13,p13,a13,none⟩,⟨some 18,.unOp .not tb (.tmp 17),t14,p14,a14,none⟩] false) (.cond (.tmp 18) .ret .skip))) (.region i2 #[⟨some 9,.move (.tmp 3),t15,p15,a15,none⟩,⟨some 10,.binOp .sub ti (.tmp 9) (.const (.int .i64 1)) ti,t16,p16,a16,none⟩,⟨some 3,.assign (.tmp 10),t17,p17,a17,none⟩] false)))))))(hn:fn.ntmps=19)(hr:fn.results= #[])
 (hu:P.underlying ts=some (.slice te)) (hc:As P te=some 1) (hg:Bf P te=some false) (hgs:Bf P ts=some false)
 (hM:∀m i W,M m i W->Aj W b [v] tx∧AD (AI .i64) W (Iv lo hi) xs v)
 (hy:∀m i W,M m i W->i>=0->∃x,AE xs i=some x∧YieldAt Fence.wide n P L #[.int .i64 i,.int .i64 x] W fun e W'=>(e= .returned (.bool true)∧∃m',m'<m∧M m' (IntKind.wrap .i64 (i-1)) W')∨(e= .returned (.bool false)∧R W'))
 {m:Nat} {W:World} (h0:M m (IntKind.wrap .i64 ((xs.length:Int)-1)) W):
 Calls P gf #[.func (.yield L) #[] #[],.pointer (some ⟨b,0,none⟩)] W fun e W'=>(∃v,e= .returned v)∧((∃m i,i<0∧M m i W')∨R W'):=by
 obtain⟨X,S⟩:=hM _ _ _ h0
 refine AA hf hb hn (vs:=[.func (.yield L) #[] #[],.pointer (some ⟨b,0,none⟩)]) ?_
 refine Rc 2 (Yl rfl (Co rfl hgs X rfl) (Yl rfl (CB rfl hu S) (Ro 5 ?_)))
 refine WC.loopD (fun m a wl=>∃i,Kn 19 [(3,.int .i64 i),(1,.pointer (some ⟨b,0,none⟩)),(0,.func (.yield L) #[] #[])] a∧M m i wl) m ?_ ?_
 ·intro a hK;exact⟨_,hK.sub rfl,h0⟩
 ·rintro m a wl ⟨i,hK,hM0⟩
  revert a;change WC _ _ _ _ _ _
  obtain⟨X,S⟩:=hM _ _ _ hM0
  refine Rc 7 ?_
  refine WC.cond (t:=decide (i>=0)) rfl (fun h=>?_) (fun h=>?_)
  ·obtain⟨x,hx,hY⟩:=hy m i wl hM0 (of_decide_eq_true h)
   obtain⟨fn',tm,as,bd,hyl,hR⟩:=hY
   refine Rc 5 (fun a hK=>TV (te:=te) (Q:=FP P (bodyPost P fn fun e W'=>(∃v,e= .returned v)∧((∃m i,i<0∧M m i W')∨R W')) _) L n hu hc hg hgs X S hx ⟨fn',tm,as,bd,hyl,hR.mono ?_⟩ a (hK.sub rfl))
   rintro e W' (⟨rfl,m',hm,hM'⟩|⟨rfl,hR'⟩)
   ·refine⟨true,rfl,?_⟩
    refine Re 1 ?_
    refine WC.cond (t:=false) rfl (fun h=>by cases h) (fun _=>?_)
    refine Rc 7 ?_
    intro a hK
    exact⟨m',hm,_,hK.sub rfl,hM'⟩
   ·refine⟨false,rfl,?_⟩
    refine Re 1 ?_
    refine WC.cond (t:=true) rfl (fun _=>?_) (fun h=>by cases h)
    refine Rc 5 ?_
    exact NX.end (P:=P) (R:=fun e W'=>(∃v,e=Ending.returned v)∧((∃m i,i<0∧M m i W')∨R W')) (rs:=[]) (vs:=[]) hr trivial ⟨⟨_,rfl⟩,.inr hR'⟩
  ·have hlt:i<0:=by have:=of_decide_eq_false h;omega
   refine Rc 4 ?_
   exact NX.end_n (P:=P) (R:=fun e W'=>(∃v,e=Ending.returned v)∧((∃m i,i<0∧M m i W')∨R W')) (rs:=[]) (vs:=[]) hr trivial ⟨⟨_,rfl⟩,.inl ⟨m,i,hlt,hM0⟩⟩
theorem zf1{α β:Type}(q1 q2:α)(x y:β):Array.zip #[q1,q2] #[x,y]= #[(q1,x),(q2,y)]:=by
 apply Array.ext';simp [Array.zip]
theorem AaH{α:Type}(t:Array α)(q1 q2:Nat)(x y:α):(Array.zip #[q1,q2] #[x,y]).foldl (fun(t:Array α) (p:Nat×α)=>t.setIfInBounds p.1 p.2) t=(t.setIfInBounds q1 x).setIfInBounds q2 y:=by
 rw [zf1];rfl
theorem Fs.tr{k:Nat}{w1 w2 w3:World}(h:Fs k w1 w2)(h':Fs k w2 w3):Fs k w1 w3:=⟨h'.os.trans h.os,h'.tape.trans h.tape,h'.output.trans h.output,h'.size.trans h.size,fun j hj=>(h'.block j hj).trans (h.block j hj)⟩
def oR(D:Nat):Deferred:={ target:=.collected D,args:=#[] }
abbrev xH:Obj:=.deferred (some [])
theorem Sw{n:Nat}{Q0:Exit->Act->World->Prop}:∀fs:List Frame,GJ P none n Q0 fs=FP P Q0 fs
 |[]=>rfl
 | .seq c::fs=>by
  have:(fun a w=>c.wpIn (VW none) n P (GJ P none n Q0 fs) a w)=fun a w=>c.wp P (FP P Q0 fs) a w:=by
   funext a w;rw [Sw fs];exact propext wpIn_wide
  show Exit.then (fun a w=>c.wpIn (VW none) n P (GJ P none n Q0 fs) a w) (GJ P none n Q0 fs)=Exit.then (fun a w=>c.wp P (FP P Q0 fs) a w) (FP P Q0 fs)
  rw [this,Sw fs]
 | .blk id::fs=>by show Exit.inBlock id (GJ P none n Q0 fs)=Exit.inBlock id (FP P Q0 fs);rw [Sw fs]
 | .lp f::fs=>by show Exit.then f (GJ P none n Q0 fs)=Exit.then f (FP P Q0 fs);rw [Sw fs]
theorem NY.endM{N:Nat}{K:KL}{w:World}{rs:List ResultVar}{vs:List Value}{R:Ending->World->Prop}{D:Nat}(hr:fn.results=rs.toArray)(hO:Ob w D xH)(h:∀w',Fs D w w'->ON P K w' rs vs∧R (.returned (EP vs)) w'):NY N [oR D] (bodyPostM Fence.wide 0 P fn R) .ret K w:=by
 intro a hK
 obtain⟨h1,h2⟩:=h (w.putObj D (.deferred none)) (Lc _ _ _)
 obtain⟨_,v,h3,h4⟩:=Ps (N:=N) hr h1 h2 a hK
 show LeavesInM Fence.wide 0 P fn a.tmps R [oR D] .returning w
 exact⟨by simp,.inl ⟨D,_,rfl,run_takeDeferred hO,⟨v,h3,h4⟩⟩⟩
theorem Xi{N:Nat}{f:FuncId}{c:Code}{vs:List Value}{w:World}{R:Ending->World->Prop}
 (hf:P.funcs[f]? =some fn) (hb:fn.body=some c) (hn:fn.ntmps=N) (h:WC P N c (FP P (bodyPostM Fence.wide 0 P fn R) []) (PV 0 vs) w):Calls P f vs.toArray w R:=by
 refine callsIn_wide.1 (callsIn_of_wp_marks (n:=0) hf hb trivial (wpIn_wide.2 (h _ ⟨rfl,?_,?_⟩)))
 ·simp [hn];omega
 ·intro t v ht
  obtain⟨_,h2⟩:=OD vs 0 t v ht
  have hlt:t<vs.length:=by
   rcases Nat.lt_or_ge t vs.length with h|h
   ·exact h
   ·simp [h]at h2
  simp at h2
  rw [Array.getElem?_append_left (by simpa using hlt)]
  simpa using h2
def QB(P:Program)(N:Nat)(D L:Nat)(rb:Obj)(Q:Exit->Act->World->Prop)(K:KL)(Mn:World->Prop):Exit->Act->World->Prop
 | .normal,_,W=>Ob W L rb∧∀W4,Fs L W W4->Mn W4
 | .ret,_,W=>Ob W L rb∧∀W4,Fs L W W4->NY N [oR D] Q .ret K W4
 |_,_,_=>False
theorem WC.back{N:Nat}{g:Operand}{q1 q2 d:Tmp}{ia:Nat}{oa:Oper}{body:Code}{fs:List Frame}{Q0:Exit->Act->World->Prop}{K:KL}{w:World}(M:Nat->Nat->Nat->Int->World->Prop)
 (hf:P.funcs[gf]? =some fn) (hb:fn.body=some (.seq (.region i0 #[⟨some 4,.load ts (.tmp 1),t1,p1,a1,none⟩,⟨some 5,.call ⟨.builtin .len,#[.tmp 4],#[ts]⟩,t2,p2,a2,none⟩,⟨some 6,.binOp .sub ti (.tmp 5) (.const (.int .i64 1)) ti,t3,p3,a3,none⟩,⟨some 3,.assign (.tmp 6),t4,p4,a4,none⟩] false) (.block 0 (.loop (.seq (.seq (.region i1 #[⟨some 7,.move (.tmp 3),t5,p5,a5,none⟩,⟨some 8,.binOp .geq ti (.tmp 7) (.const (.int .i64 0)) ti,t6,p6,a6,none⟩] false) (.cond (.tmp 8) .skip (.exit 0))) (.seq (.block 1 (.seq (.region i3 #[⟨some 11,.move (.tmp 0),t7,p7,a7,none⟩,⟨some 12,.move (.tmp 3),t8,p8,a8,none⟩,⟨some 13,.load ts (.tmp 1),t9,p9,a9,none⟩,⟨some 14,.move (.tmp 3),t10,p10,a10,none⟩,⟨some 15,.indexAddr ts (.tmp 13) (.tmp 14),t11,p11,a11,none⟩,⟨some 16,.load te (.tmp 15),t12,p12,a12,none⟩,⟨some 17,.call ⟨.value (.tmp 11),#[.tmp 12,.tmp 16],tys⟩,t13,p13,a13,none⟩,⟨some 18,.unOp .not tb (.tmp 17),t14,p14,a14,none⟩] false) (.cond (.tmp 18) .ret .skip))) (.region i2 #[⟨some 9,.move (.tmp 3),t15,p15,a15,none⟩,⟨some 10,.binOp .sub ti (.tmp 9) (.const (.int .i64 1)) ti,t16,p16,a16,none⟩,⟨some 3,.assign (.tmp 10),t17,p17,a17,none⟩] false))))))) (hn:fn.ntmps=19) (hr:fn.results= #[]) (hgo:AZ P gf=true)
 (hu:P.underlying ts=some (.slice te)) (hc:As P te=some 1) (hg:Bf P te=some false) (hgs:Bf P ts=some false)
 (hgv:CG K g=some (.func (.func gf) #[] #[.pointer (some ⟨b,0,none⟩)]))
 (hM:∀D L m i W,M D L m i W->Aj W b [v] tx∧AD (AI .i64) W (Iv lo hi) xs v)
 (h0:∀D L W,AH w W->Ob W D xH->w.heap.size<=D->w.heap.size<=L->D≠L->∃m,M D L m (IntKind.wrap .i64 ((xs.length:Int)-1)) W)
 (round:∀D L rb m i W0 W,w.heap.size<=D->w.heap.size<=L->D≠L->M D L m i W0->i>=0->Fs L W0 W->Ob W L rb->∃x,AE xs i=some x∧
  WX P N (some L) 0 [] body (GJ P (some L) 0 (QB P N D L rb (GJ P none 0 Q0 fs) K fun W4=>∃m',m'<m∧M D L m' (IntKind.wrap .i64 (i-1)) W4) []) ((d,.int .i64 x)::(q2,.int .i64 x)::(q1,.int .i64 i)::K) W)
 (done:∀D L m i W0 W,w.heap.size<=D->w.heap.size<=L->D≠L->M D L m i W0->i<0->Fs L W0 W->NY N [oR D] (GJ P none 0 Q0 fs) .normal K W)
 (hq1:Nat.blt q1 N=true:=by rfl) (hq2:Nat.blt q2 N=true:=by rfl) (hda:oa.dst=some d:=by rfl)
 (hga:∀i x:Int,Fp N #[oa] ((q2,.int .i64 x)::(q1,.int .i64 i)::K) oa= .yes:=by intros;rfl) (hqa:∀i x:Int,yq ((q2,.int .i64 x)::(q1,.int .i64 i)::K) oa.op=some (.int .i64 x):=by intros;rfl) (hnd:jT oa=true:=by rfl):
 WC P N (.rangeFunc g #[q1,q2] (.region ia #[oa] false) body) (FP P Q0 fs) K w:=by
 intro a hK
 rw [←Sw (n:=0) fs]
 refine(wpIn_wide (n:=0)).1 (wpIn_rangeFunc fun fn' _=>?_)
 obtain⟨rec,hrec⟩:∃rec:LoopState->Option Code->Loop,rec=fun st pe=>{ state:=st,pending:=pe,fn:=fn',tmps:=a.tmps,params:=#[q1,q2],assign:=.region ia #[oa] false,body,defers:=w.heap.size }:=⟨_,rfl⟩
 obtain⟨W1,hW1⟩:∃W1,(w.alloc xH).alloc (.loop (rec .ready none))=W1:=⟨_,rfl⟩
 have hE:AH w W1:=by rw [←hW1];exact(AH.alloc w _).trans (AH.alloc _ _)
 have hL:Ob W1 (w.heap.size+1) (.loop (rec .ready none)):=by
  unfold Ob;rw [←hW1];have:=World.alloc_heap_new (w.alloc xH) (.loop (rec .ready none));rwa [World.size_alloc]at this
 have hD:Ob W1 w.heap.size xH:=by
  unfold Ob;rw [←hW1];exact(Below.heap_alloc _ _ _ (by simp)).trans (World.alloc_heap_new w _)
 obtain⟨m0,hM1⟩:=h0 w.heap.size (w.heap.size+1) W1 hE hD (Nat.le_refl _) (by omega) (by omega)
 have hev:=hK.ev hgv
 refine⟨w.heap.size+1,[oR w.heap.size],W1,{ target:=.fn (.func gf) #[.pointer (some ⟨b,0,none⟩)],args:=#[.func (.yield (w.heap.size+1)) #[] #[]] },W1,gf,
  #[.func (.yield (w.heap.size+1)) #[] #[],.pointer (some ⟨b,0,none⟩)],W1,?_,?_,fun f _=>trivial,?_,fun h=>(by cases h),?_⟩
 ·rw [←hW1,hrec];exact run_enterLoop_outer _ _ _ _ _
 ·simp only [resolve,hev];simp [go_sem]
 ·simp [invoke,go_sem,NW hgo]
 ·refine(QW (r:=none) (Vx (w.heap.size+1) 0 (M:=fun m i W=>Ob W (w.heap.size+1) (.loop (rec .ready none))∧M w.heap.size (w.heap.size+1) m i W)
   (R:=fun W=>Ob W (w.heap.size+1) (.loop (rec .done (some .ret)))∧∀W4,Fs (w.heap.size+1) W W4->NY N [oR w.heap.size] (GJ P none 0 Q0 fs) .ret K W4) hf hb hn hr hu hc hg hgs (fun m i W h=>hM _ _ _ _ _ h.2) ?_ ⟨hL,hM1⟩)).mono ?_
  ·rintro m i W ⟨hl,hm⟩ hi
   have hl2:Ob (W.putObj (w.heap.size+1) (.loop { rec .ready none with state:=.busy })) (w.heap.size+1) (.loop { rec .ready none with state:=.busy }):=gM hl
   obtain⟨x,hx,hB⟩:=round w.heap.size (w.heap.size+1) _ m i W _ (Nat.le_refl _) (by omega) (by omega) hm hi (Lc _ _ _) hl2
   have hy:=run_yield (P:=P) (args:=#[.int .i64 i,.int .i64 x]) hl (by rw [hrec];rfl)
   rw [hrec]at hy
   refine⟨x,hx,fn',_,_,_,hy,roundIn_of_wpIn trivial ?_⟩
   have hK1:=(hK.put (d:=some q1) (v:=.int .i64 i) (by intro _ e;cases e;exact hq1)).put (d:=some q2) (v:=.int .i64 x) (by intro _ e;cases e;exact hq2)
   have hT:TL P N #[oa] (DQ (Exit.then (fun a₁ w₁=>∃w₂,(Instr.beginRound (w.heap.size+1)).run P w₁= .ok () w₂∧body.wpIn (Fence.wide.inRound (w.heap.size+1)) 0 P (roundPost P (w.heap.size+1) fun e W'=>(e= .returned (.bool true)∧∃m',m'<m∧(Ob W' (w.heap.size+1) (.loop (rec .ready none))∧M w.heap.size (w.heap.size+1) m' (IntKind.wrap .i64 (i-1)) W'))∨(e= .returned (.bool false)∧(Ob W' (w.heap.size+1) (.loop (rec .done (some .ret)))∧∀W4,Fs (w.heap.size+1) W' W4->NY N [oR w.heap.size] (GJ P none 0 Q0 fs) .ret K W4))) a₁ w₂) (fun _ _ _=>False)) []) [oa] ((q2,.int .i64 x)::(q1,.int .i64 i)::K) W:=by
    refine Yl (hga i x) (Ho (hqa i x)) (TL.nil fun a2 hK2=>⟨hK2.df,by simp,?_⟩)
    refine⟨_,run_beginRound hl (by rw [hrec]),?_⟩
    rw [hda]at hK2
    refine wpIn_mono (hB a2 hK2) ?_
    have fin:∀(jump:Option Code) (W3:World),Ob W3 (w.heap.size+1) (.loop { rec .ready none with state:=.busy })->
     (Instr.endRound (w.heap.size+1) jump).run P W3= .ok (.bool jump.isNone) (W3.putObj (w.heap.size+1) (.loop (rec (if jump.isNone then .ready else .done) jump)))∧
     Ob (W3.putObj (w.heap.size+1) (.loop (rec (if jump.isNone then .ready else .done) jump))) (w.heap.size+1) (.loop (rec (if jump.isNone then .ready else .done) jump)):=fun jump W3 hl3=>by
     have:=run_endRound (P:=P) jump hl3
     rw [hrec]at this ⊢
     exact⟨this,by rw [hrec]at hl3;exact gM hl3⟩
    rintro e a3 W3 hp
    cases e with
    |normal=>
     obtain⟨hl3,hi3⟩:=hp
     obtain⟨hr3,hl4⟩:=fin none W3 hl3
     obtain⟨m',hm',h5⟩:=hi3 _ (Lc _ _ _)
     exact⟨_,_,hr3,.inl ⟨rfl,m',hm',hl4,h5⟩⟩
    |ret=>
     obtain⟨hl3,hi3⟩:=hp
     obtain⟨hr3,hl4⟩:=fin (some .ret) W3 hl3
     exact⟨_,_,hr3,.inr ⟨rfl,hl4,fun W4 h4=>hi3 _ ((Lc _ _ _).tr h4)⟩⟩
    |exit id=>exact hp.elim
    |goto t=>exact hp.elim
    |panic ch=>exact hp.elim
    |outgrown=>exact hp.elim
   have h2:=WX.region (id:=ia) (r:=some (w.heap.size+1)) (n:=0) (l:=[oa]) (by simp [hnd]) hT _ hK1
   have e:(Array.zip #[q1,q2] #[Value.int .i64 i,Value.int .i64 x]).foldl (fun(t:Array Value) (p:Tmp×Value)=>t.setIfInBounds p.1 p.2) a.tmps=((a.put (some q1) (Value.int .i64 i)).put (some q2) (Value.int .i64 x)).tmps:=AaH _ _ _ _ _
   exact Eq.mpr (congrArg (fun t=>(Code.region ia #[oa] false).wpIn (VW (some (w.heap.size+1))) 0 P _ ({ tmps:=t,defers:=[] }:Act) W) e) h2
  ·rintro e W2 ⟨⟨v',rfl⟩,⟨m,i,hi,hl,hm⟩|⟨hl,hR⟩⟩
   ·refine⟨none,_,by have:=run_endLoop (P:=P) hl (by rw [hrec];simp);rw [hrec]at this;exact this,?_⟩
    have:=done w.heap.size (w.heap.size+1) m i W2 _ (Nat.le_refl _) (by omega) (by omega) hm hi (Lc W2 (w.heap.size+1) (.loop { rec .ready none with state:=.exhausted })) a hK
    rw [hrec]at this
    rw [hK.df];exact this
   ·refine⟨some .ret,_,by have:=run_endLoop (P:=P) hl (by rw [hrec];simp);rw [hrec]at this;exact this,?_⟩
    have:=hR _ (Lc W2 (w.heap.size+1) (.loop { rec .done (some .ret)with state:=.exhausted })) a hK
    rw [hrec]at this
    rw [hK.df];exact wpIn_ret this
theorem bkY{xs:List Int}{i:Int}{α:Type}{G:Int->Option α}{E:Option α}{s:α}(hF:(bif decide (i>=0)then Option.bind (AE xs i) G else E)=some s)(hi:i>=0):∃x,AE xs i=some x∧G x=some s:=by
 rw [decide_eq_true hi,cond_true]at hF
 cases h:AE xs i with
 |none=>rw [h]at hF;cases hF
 |some x=>rw [h]at hF;exact⟨x,rfl,hF⟩
theorem bkN{i:Int}{α:Type}{A E:Option α}{s:α}(hF:(bif decide (i>=0)then A else E)=some s)(hi:i<0):E=some s:=by
 rw [decide_eq_false (show¬i>=0 by omega),cond_false]at hF;exact hF
theorem QBn{N D L n:Nat}{r:Option Nat}{rb:Obj}{Q:Exit->Act->World->Prop}{K K':KL}{Mn:World->Prop}{W:World}(h1:Ob W L rb)(h2:∀W4,Fs L W W4->Mn W4):NY N [] (GJ P r n (QB P N D L rb Q K Mn) []) .normal K' W:=fun _ _=>⟨h1,h2⟩
theorem QBr{N D L n:Nat}{r:Option Nat}{rb:Obj}{Q:Exit->Act->World->Prop}{K K':KL}{Mn:World->Prop}{W:World}(h1:Ob W L rb)(h2:∀W4,Fs L W W4->NY N [oR D] Q .ret K W4):NY N [] (GJ P r n (QB P N D L rb Q K Mn) []) .ret K' W:=fun _ _=>⟨h1,h2⟩
end
end Go.Eng
namespace Go.Eng
open Go Go.RowKit
/-! ## Operations that only allocate, and may be done at any time -/
def oL(K:KL)(o:Oper):Prop:=∀d,o.dst=some d->kl K d=none
def iR(K K':KL):Prop:=∀t v,kl K t=some v->kl K' t=some v
def iQ(o o2:Oper):Prop:=∀d d2,o.dst=some d->o2.dst=some d2->d≠d2
def outs:List (Nat×Nat)->Nat->Prop
 |[],_=>True
 |(l,h)::r,b=>(b<l∨h<=b)∧outs r b
def cD:List (Nat×Nat)->Nat->Prop
 |[],_=>True
 |(_,h)::r,m=>h<=m∧cD r m
theorem cD.mono{m m':Nat}(h:m<=m'):∀{iv:List (Nat×Nat)},cD iv m->cD iv m'
 |[],_=>trivial
 |_::_,k=>⟨Nat.le_trans k.1 h,cD.mono h k.2⟩
theorem cD.outs{m b:Nat}(h:m<=b):∀{iv:List (Nat×Nat)},cD iv m->outs iv b
 |[],_=>trivial
 |_::_,k=>⟨.inr (Nat.le_trans k.1 h),cD.outs h k.2⟩
theorem iQ.symm{o o2:Oper}(h:iQ o o2):iQ o2 o:=fun d d2 e e2 g=>h d2 d e2 e g.symm
theorem Oy{K:KL}{d:Option Tmp}{v:Value}(t:Nat):kl (BK K d v) t=match d with|some d=>(bif Nat.beq d t then some v else kl K t)|none=>kl K t:=by
 cases d<;>rfl
theorem iR.put{K:KL}{o:Oper}{v:Value}(h:oL K o):iR K (BK K o.dst v):=fun t u e=>by
 rw [Oy]
 cases hd:o.dst with
 |none=>exact e
 |some d=>
  have hn:=h d hd
  show(bif Nat.beq d t then some v else kl K t)=some u
  cases c:Nat.beq d t with
  |false=>exact e
  |true=>rw [←Nat.eq_of_beq_eq_true c,hn]at e;cases e
theorem oL.put{K:KL}{o o2:Oper}{v:Value}(h:oL K o)(hne:iQ o o2):oL (BK K o2.dst v) o:=fun d hd=>by
 rw [Oy]
 cases hd2:o2.dst with
 |none=>exact h d hd
 |some d2=>
  show(bif Nat.beq d2 d then some v else kl K d)=none
  cases c:Nat.beq d2 d with
  |false=>exact h d hd
  |true=>exact absurd (Nat.eq_of_beq_eq_true c).symm (hne d d2 hd hd2)
theorem WI{K:KL}{o o2:Oper}{v v2:Value}(hne:iQ o o2)(t:Nat):kl (BK (BK K o.dst v) o2.dst v2) t=kl (BK (BK K o2.dst v2) o.dst v) t:=by
 simp only [Oy]
 cases hd:o.dst with
 |none=>cases o2.dst<;>rfl
 |some d=>
  cases hd2:o2.dst with
  |none=>rfl
  |some d2=>
   show(bif Nat.beq d2 t then some v2 else(bif Nat.beq d t then some v else kl K t))=(bif Nat.beq d t then some v else(bif Nat.beq d2 t then some v2 else kl K t))
   cases c:Nat.beq d2 t with
   |false=>rfl
   |true=>
    cases c2:Nat.beq d t with
    |false=>rfl
    |true=>exact absurd ((Nat.eq_of_beq_eq_true c2).trans (Nat.eq_of_beq_eq_true c).symm) (hne d d2 hd hd2)
section
variable {P:Program} {N:Nat} {ops:Array Oper} {n:Nat} {Q:Exit -> Act -> World -> Prop}
theorem IM.sub{K K':KL}{o:Oper}{w:World}{R:Value->World->Prop}(h:IM P N K o w R)(hs:iR K K'):IM P N K' o w R:=fun a hK Kt Q hk=>h a ⟨hK.df,hK.sz,fun t v e=>hK.get t v (hs t v e)⟩ Kt Q hk
theorem IM.mono{K:KL}{o:Oper}{w:World}{R R':Value->World->Prop}(h:IM P N K o w R)(hm:∀v w',R v w'->R' v w'):IM P N K o w R':=fun a hK Kt Q hk=>h a hK Kt Q fun v w' hR=>hk v w' (hm v w' hR)
theorem ES.sub{K K':KL}{o:Oper}{w:World}{v:Value}(h:ES P N K o w v)(hs:iR K K'):ES P N K' o w v:=fun a hK w' hw=>h a ⟨hK.df,hK.sz,fun t v e=>hK.get t v (hs t v e)⟩ w' hw
def MZ(ops:Array Oper):List Nat->List Nat->Array Bool->Bool
 |[],js,listed=>!(Region.ready .any ops listed).isEmpty&&(Region.ready .any ops listed).all fun x=>js.contains x
 |i::is,js,listed=>MZ ops is (i::js) listed&&MZ ops is js (listed.setIfInBounds i true)
def oG(ops:Array Oper)(n:Nat):List Nat->Nat->Array Bool->Bool
 |[],j,listed=>Nat.blt j n&&Region.free .any ops listed j&&(Region.ready .any ops listed).contains j
 |i::is,j,listed=>oG ops n is j listed&&oG ops n is j (listed.setIfInBounds i true)
class PB(P:outParam Program)(N:outParam Nat)(ops:outParam (Array Oper))(n:outParam Nat)(G:outParam (World->World->Prop))(B:outParam (World->Prop))(T:Nat->Array Bool->KL->World->Prop):Prop where
 refl:∀w,G w w
 ext:∀{w w2 w3},G w w2->AH w2 w3->G w w3
 trans:∀{w w2 w3},G w w2->G w2 w3->G w w3
 size:∀{w w2},G w w2->w.heap.size<=w2.heap.size
 many:∀{f listed K w} (js:List Nat),MZ ops [] js listed=true->(∀j∈js,∃(o:Oper) (R:Value->World->Prop),ops[j]? =some o∧j<n∧o.guard=none∧CH N o.dst=true∧IM P N K o w R∧∀v w',R v w'->G w w'∧T f (listed.setIfInBounds j true) (BK K o.dst v) w')->T (f+1) listed K w
 yld:∀{f listed K w} {o:Oper} {v:Value} (j:Nat),Dk ops n=true->ops[j]? =some o->oG ops n [] j listed=true->o.guard=none->CH N o.dst=true->(∀wx,B wx->ES P N K o wx v)->T f (listed.setIfInBounds j true) (BK K o.dst v) w->T (f+1) listed K w
 perm:∀{f listed K K' w},(∀t,kl K' t=kl K t)->T f listed K w->T f listed K' w
def TH(P:Program)(N:Nat)(ops:Array Oper)(n:Nat)(Q:Exit->Act->World->Prop)(w0:World)(f:Nat)(listed:Array Bool)(K:KL)(w:World):Prop:=HL P N ops n (noPan Q) w0 f listed K w
theorem MZ.rdy{js:List Nat}{listed:Array Bool}(h:MZ ops [] js listed=true):(Region.ready .any ops listed).isEmpty=false∧∀j∈Region.ready .any ops listed,j∈js:=by
 simp only [MZ,Bool.and_eq_true,Bool.not_eq_true']at h
 exact⟨h.1,fun j hj=>by simpa using List.all_eq_true.1 h.2 j hj⟩
instance PB.h{w0:World}:PB P N ops n AH (fun wx=>AH w0 wx) (TH P N ops n Q w0) where
 refl:=AH.refl
 ext:=AH.trans
 trans:=AH.trans
 size:=fun h=>h.size
 many:=by
  intro f listed K w js hr h inv hx a hK
  refine HL.many rfl (MZ.rdy hr).1 (fun j hj=>?_) inv hx a hK
  obtain⟨o,R,hi,hin,hg,hd,he,hk⟩:=h j ((MZ.rdy hr).2 j hj)
  exact HB.eff j hi (by simp [Nat.blt];omega) (by simpa using hj) hg hd he fun v w' hR=>⟨AH.trans hx (hk v w' hR).1,(hk v w' hR).2⟩
 yld:=fun j hh hi hc hg hd h k=>HL.yld j hh hi hc hg hd (h _ (AH.refl _)) k
 perm:=fun hk h inv hx a hK=>h inv hx a ⟨hK.df,hK.sz,fun t v e=>hK.get t v (by rw [hk];exact e)⟩
end
section
variable (P:Program) (N:Nat) (ops:Array Oper) (n:Nat) (G:World -> World -> Prop)
structure Pd where
 i:Nat
 o:Oper
 K:KL
 lo:Nat
 V:Nat->Value
 F:Nat->World->Prop
 hi:ops[i]? =some o
 hin:i<n
 hg:o.guard=none
 hd:CH N o.dst=true
 eff:∀wx,lo<=wx.heap.size->IM P N K o wx (fun v w'=>AH wx w'∧w'.heap.size=wx.heap.size+1∧v=V wx.heap.size∧F wx.heap.size w')
 st:∀b w w',lo<=b->F b w->G w w'->F b w'
 lt:∀b w,F b w->b<w.heap.size
def PX(T:Nat->Array Bool->KL->World->Prop):List (Pd P N ops n G)->List (Nat×Nat)->Nat->Array Bool->KL->World->Prop
 |[],_,f,listed,K,w=>T f listed K w
 |q::qs,iv,f,listed,K,w=>q.lo<=w.heap.size->oL K q.o->iR q.K K->cD iv w.heap.size->(∀q2∈qs,q.i≠q2.i∧iQ q.o q2.o)->
  PX T qs iv (f+1) listed K w∧∀b w',AH w w'->q.lo<=b->q.F b w'->outs iv b->PX T qs ((b,b+1)::iv) f (listed.setIfInBounds q.i true) (BK K q.o.dst (q.V b)) w'
def OBx(T:Nat->Array Bool->KL->World->Prop)(qs:List (Pd P N ops n G))(iv:List (Nat×Nat))(j f:Nat)(listed:Array Bool)(K:KL)(w:World):Prop:=
 ∃o:Oper,ops[j]? =some o∧j<n∧o.guard=none∧CH N o.dst=true∧oL K o∧(∀q∈qs,j≠q.i∧iQ q.o o)∧
  ∀wx,AH w wx->∃R,IM P N K o wx R∧∀v w',R v w'->G wx w'∧∃ivj,cD ivj w'.heap.size∧(∀b,outs iv b->(b<wx.heap.size∨w'.heap.size<=b)->outs ivj b)∧PX P N ops n G T qs ivj f (listed.setIfInBounds j true) (BK K o.dst v) w'
end
section
variable {P:Program} {N:Nat} {ops:Array Oper} {n:Nat} {G:World -> World -> Prop} {B:World -> Prop} {T:Nat -> Array Bool -> KL -> World -> Prop} [hT:PB P N ops n G B T]
include hT
theorem PX.perm:∀{qs:List (Pd P N ops n G)} {iv:List (Nat×Nat)} {f:Nat} {listed:Array Bool} {K K':KL} {w:World},(∀t,kl K' t=kl K t)->PX P N ops n G T qs iv f listed K w->PX P N ops n G T qs iv f listed K' w
 |[],_,_,_,_,_,_,hk,h=>hT.perm hk h
 |q::qs,_,_,_,_,_,_,hk,h=>fun h1 h2 h3 h4 h5=>by
  obtain⟨a,b⟩:=h h1 (fun d hd=>by rw [←hk];exact h2 d hd) (fun t v e=>by rw [←hk];exact h3 t v e) h4 h5
  exact⟨PX.perm hk a,fun c w' x1 x2 x3 x4=>PX.perm (fun t=>by rw [Oy,Oy];split<;>simp only [hk]) (b c w' x1 x2 x3 x4)⟩
theorem PX.many:∀{qs:List (Pd P N ops n G)} {iv:List (Nat×Nat)} {f:Nat} {listed:Array Bool} {K:KL} {w:World} (js:List Nat),MZ ops (qs.map fun q=>q.i) js listed=true->(∀j∈js,OBx P N ops n G T qs iv j f listed K w)->PX P N ops n G T qs iv (f+1) listed K w
 |[],iv,f,listed,K,w,js,hr,h=>hT.many js hr fun j hj=>by
  obtain⟨o,hi,hin,hg,hd,_,_,he⟩:=h j hj
  obtain⟨R,e,k⟩:=he w (AH.refl w)
  refine⟨o,R,hi,hin,hg,hd,e,fun v w' hR=>?_⟩
  obtain⟨h1,ivj,_,_,h2⟩:=k v w' hR
  exact⟨h1,h2⟩
 |q::qs,iv,f,listed,K,w,js,hr,h=>fun hlo hfq hsq hh hq0=>by
  simp only [List.map_cons,MZ,Bool.and_eq_true]at hr
  have tl:∀q2,q2∈qs->q2∈q::qs:=fun _ h=>List.mem_cons_of_mem _ h
  have c2:∀b w',AH w w'->q.lo<=b->q.F b w'->outs iv b->PX P N ops n G T qs ((b,b+1)::iv) (f+1) (listed.setIfInBounds q.i true) (BK K q.o.dst (q.V b)) w':=by
   intro b w' hx hb hF ho
   have hbw:=q.lt b w' hF
   refine PX.many js hr.2 fun j hj=>?_
   obtain⟨o,hi,hin,hg,hd,hfr,hne,he⟩:=h j hj
   have dq:=(hne q List.mem_cons_self).2
   refine⟨o,hi,hin,hg,hd,hfr.put dq.symm,fun q2 h2=>hne q2 (tl q2 h2),fun wx hwx=>?_⟩
   obtain⟨R,e,k⟩:=he wx (AH.trans hx hwx)
   refine⟨R,e.sub (iR.put hfq),fun v w2 hR=>?_⟩
   obtain⟨hG,ivj,hh2,ho2,h2⟩:=k v w2 hR
   have s1:=hwx.size
   have s2:=hT.size hG
   refine⟨hG,(b,b+1)::ivj,⟨by show b+1<=w2.heap.size;omega,hh2⟩,fun b' hb' hb2=>⟨hb'.1,ho2 b' hb'.2 hb2⟩,?_⟩
   have h3:=(h2 (by have:=hx.size;omega) (hfq.put dq) (fun t u e=>iR.put hfr t u (hsq t u e)) hh2 hq0).2 b w2 (AH.refl w2) hb (q.st b wx w2 hb (q.st b w' wx hb hF (hT.ext (hT.refl w') hwx)) hG) (ho2 b ho (.inl (by omega)))
   rw [Array.setIfInBounds_comm true true (hne q List.mem_cons_self).1]at h3
   exact PX.perm (fun t=>(WI (o:=o) (o2:=q.o) dq.symm t).symm) h3
  refine⟨PX.many (q.i::js) hr.1 fun j hj=>?_,c2⟩
  rcases List.mem_cons.1 hj with rfl|hj
  ·refine⟨q.o,q.hi,q.hin,q.hg,q.hd,hfq,fun q2 h2=>⟨(hq0 q2 h2).1,(hq0 q2 h2).2.symm⟩,fun wx hwx=>?_⟩
   have hs:=hwx.size
   refine⟨_,(q.eff wx (by omega)).sub hsq,fun v w' ⟨r1,r2,r3,r4⟩=>?_⟩
   subst r3
   have hh3:=hh.mono hs
   exact⟨hT.ext (hT.refl wx) r1,(wx.heap.size,wx.heap.size+1)::iv,⟨by show wx.heap.size+1<=w'.heap.size;omega,hh3.mono (by omega)⟩,fun b' hb' hb2=>⟨by show b'<wx.heap.size∨wx.heap.size+1<=b';omega,hb'⟩,c2 _ w' (AH.trans hwx r1) (by omega) r4 (hh3.outs (Nat.le_refl _))⟩
  ·obtain⟨o,hi,hin,hg,hd,hfr,hne,he⟩:=h j hj
   have dq:=(hne q List.mem_cons_self).2
   refine⟨o,hi,hin,hg,hd,hfr,fun q2 h2=>hne q2 (tl q2 h2),fun wx hwx=>?_⟩
   obtain⟨R,e,k⟩:=he wx hwx
   refine⟨R,e,fun v w2 hR=>?_⟩
   obtain⟨hG,ivj,hh2,ho2,h2⟩:=k v w2 hR
   have s1:=hwx.size
   have s2:=hT.size hG
   exact⟨hG,ivj,hh2,ho2,(h2 (by omega) (hfq.put dq) (fun t u e=>iR.put hfr t u (hsq t u e)) hh2 hq0).1⟩
theorem PX.yld:∀{qs:List (Pd P N ops n G)} {iv:List (Nat×Nat)} {f:Nat} {listed:Array Bool} {K:KL} {w:World} {o:Oper} {v:Value} (j:Nat),Dk ops n=true->ops[j]? =some o->oG ops n (qs.map fun q=>q.i) j listed=true->o.guard=none->CH N o.dst=true->oL K o->(∀q∈qs,j≠q.i∧iQ q.o o)->(∀wx,B wx->ES P N K o wx v)->PX P N ops n G T qs iv f (listed.setIfInBounds j true) (BK K o.dst v) w->PX P N ops n G T qs iv (f+1) listed K w
 |[],_,_,_,_,_,_,_,j,hh,hi,hc,hg,hd,_,_,h,k=>hT.yld j hh hi hc hg hd h k
 |q::qs,iv,f,listed,K,w,o,v,j,hh,hi,hc,hg,hd,hfr,hne,h,k=>fun hlo hfq hsq hig0 hq0=>by
  simp only [List.map_cons,oG,Bool.and_eq_true]at hc
  have dq:=(hne q List.mem_cons_self).2
  have hne2:∀q2∈qs,j≠q2.i∧iQ q2.o o:=fun q2 h2=>hne q2 (List.mem_cons_of_mem _ h2)
  have hk:=k hlo (hfq.put dq) (fun t u e=>iR.put hfr t u (hsq t u e)) hig0 hq0
  refine⟨PX.yld j hh hi hc.1 hg hd hfr hne2 h hk.1,fun b w' hx hb hF ho=>?_⟩
  refine PX.yld j hh hi hc.2 hg hd (hfr.put dq.symm) hne2 (fun wx hB=>(h wx hB).sub (iR.put hfq)) ?_
  ·have h2:=hk.2 b w' hx hb hF ho
   rw [Array.setIfInBounds_comm true true (hne q List.mem_cons_self).1]at h2
   exact PX.perm (fun t=>(WI (o:=o) (o2:=q.o) dq.symm t).symm) h2
end
/-! What the walks say -/
def Wp(qs:List (Nat×Option Tmp))(i:Nat)(d:Option Tmp):Bool:=qs.all fun q=>!(Nat.beq i q.1)&&(match d,q.2 with|some a,some b=>!(Nat.beq b a)|_,_=>true)
def MS(K:KL)(d:Option Tmp):Bool:=match d with|some d=>(kl K d).isNone|none=>true
theorem MS.h{K:KL}{o:Oper}(h:MS K o.dst=true):oL K o:=fun d hd=>by
 rw [hd]at h;simpa [MS] using h
section
variable {P:Program} {N:Nat} {ops:Array Oper} {n:Nat} {G:World -> World -> Prop} {qs:List (Pd P N ops n G)} {o:Oper}
theorem Wp.h{i:Nat}(h:Wp (qs.map fun q=>(q.i,q.o.dst)) i o.dst=true):∀q∈qs,i≠q.i∧iQ q.o o:=fun q hq=>by
 have:=List.all_eq_true.1 h (q.i,q.o.dst) (List.mem_map.2 ⟨q,hq,rfl⟩)
 simp only [Bool.and_eq_true,Bool.not_eq_true']at this
 refine⟨fun e=>?_,fun d d2 e e2 g=>?_⟩
 ·have h1:=this.1
  rw [e]at h1
  rw [Nat.beq_refl]at h1;cases h1
 ·have h2:=this.2
  rw [e,e2]at h2
  subst g
  simp [Nat.beq_refl]at h2
end
section
variable {P:Program} {N:Nat} {ops:Array Oper} {n:Nat} {G:World -> World -> Prop} {B:World -> Prop} {T:Nat -> Array Bool -> KL -> World -> Prop} [hT:PB P N ops n G B T] {qs:List (Pd P N ops n G)} {iv:List (Nat × Nat)} {f:Nat} {listed:Array Bool} {K:KL} {w:World} {o:Oper} {Q:Exit -> Act -> World -> Prop}
include hT
theorem PXy{v:Value}(j:Nat)(hh:Dk ops n=true)(hi:ops[j]? =some o)(hc:oG ops n (qs.map fun q=>q.i) j listed=true)(h:∀wx,B wx->ES P N K o wx v)(k:PX P N ops n G T qs iv f (listed.setIfInBounds j true) (BK K o.dst v) w)
 (hg:o.guard=none:=by rfl) (hd:CH N o.dst=true:=by rfl) (hf:MS K o.dst=true:=by rfl) (hq:Wp (qs.map fun q=>(q.i,q.o.dst)) j o.dst=true:=by rfl):PX P N ops n G T qs iv (f+1) listed K w:=
 PX.yld j hh hi hc hg hd (MS.h hf) (Wp.h hq) h k
theorem MF{q:Pd P N ops n G}(j:Nat)(hi:ops[j]? =some o)(hc:MZ ops ((q::qs).map fun q=>q.i) [j] listed=true)
 (h:∀wx,AH w wx->∃R,IM P N K o wx R∧∀v w',R v w'->G wx w'∧PX P N ops n G T (q::qs) ((wx.heap.size,w'.heap.size)::iv) f (listed.setIfInBounds j true) (BK K o.dst v) w')
 (hin:Nat.blt j n=true:=by rfl) (hg:o.guard=none:=by rfl) (hd:CH N o.dst=true:=by rfl) (hf:MS K o.dst=true:=by rfl) (hq:Wp ((q::qs).map fun q=>(q.i,q.o.dst)) j o.dst=true:=by rfl):PX P N ops n G T (q::qs) iv (f+1) listed K w:=fun h1 h2 h3 hh h5=>
 PX.many [j] hc (fun j' hj'=>by
  obtain rfl:j'=j:=by simpa using hj'
  refine⟨o,hi,by have h0:=hin;simp [Nat.blt]at h0;omega,hg,hd,MS.h hf,Wp.h hq,fun wx hx=>?_⟩
  obtain⟨R,he,hk⟩:=h wx hx
  refine⟨R,he,fun v w' hR=>?_⟩
  obtain⟨h1,h2⟩:=hk v w' hR
  have s:=hT.size h1
  have s2:=hx.size
  exact⟨h1,(wx.heap.size,w'.heap.size)::iv,⟨Nat.le_refl _,hh.mono (by omega)⟩,fun b hb hb2=>⟨hb2,hb⟩,h2⟩) h1 h2 h3 hh h5
theorem PXp(i:Nat)(V:Nat->Value)(F:Nat->World->Prop)(hi:ops[i]? =some o)(eff:∀wx,w.heap.size<=wx.heap.size->IM P N K o wx (fun v w'=>AH wx w'∧w'.heap.size=wx.heap.size+1∧v=V wx.heap.size∧F wx.heap.size w'))(st:∀b w1 w',w.heap.size<=b->F b w1->G w1 w'->F b w')(lt:∀b w1,F b w1->b<w1.heap.size)
 (hh:cD iv w.heap.size) (hin:Nat.blt i n=true) (hg:o.guard=none) (hd:CH N o.dst=true) (hf:MS K o.dst=true) (hq:Wp (qs.map fun q=>(q.i,q.o.dst)) i o.dst=true)
 (h:∀hin hg hd,PX P N ops n G T (⟨i,o,K,w.heap.size,V,F,hi,hin,hg,hd,eff,st,lt⟩::qs) iv f listed K w):PX P N ops n G T qs iv (f+1) listed K w:=
 (h (by have h0:=hin;simp [Nat.blt]at h0;omega) hg hd (Nat.le_refl _) (MS.h hf) (fun _ _ e=>e) hh fun q2 h2=>⟨(Wp.h hq q2 h2).1,(Wp.h hq q2 h2).2.symm⟩).1
theorem AbX{q:Pd P N ops n G}(i:Nat)(V:Nat->Value)(F:Nat->World->Prop)(hi:ops[i]? =some o)(eff:∀wx,w.heap.size<=wx.heap.size->IM P N K o wx (fun v w'=>AH wx w'∧w'.heap.size=wx.heap.size+1∧v=V wx.heap.size∧F wx.heap.size w'))(st:∀b w1 w',w.heap.size<=b->F b w1->G w1 w'->F b w')(lt:∀b w1,F b w1->b<w1.heap.size)
 (hin:Nat.blt i n=true) (hg:o.guard=none) (hd:CH N o.dst=true) (hf:MS K o.dst=true) (hq:Wp ((q::qs).map fun q=>(q.i,q.o.dst)) i o.dst=true)
 (h:∀hin hg hd,PX P N ops n G T (⟨i,o,K,w.heap.size,V,F,hi,hin,hg,hd,eff,st,lt⟩::q::qs) iv f listed K w):PX P N ops n G T (q::qs) iv (f+1) listed K w:=fun h1 h2 h3 hh h5=>
 PXp i V F hi eff st lt hh hin hg hd hf hq h h1 h2 h3 hh h5
theorem PXd{q:Pd P N ops n G}(hc:MZ ops (qs.map fun q=>q.i) [q.i] listed=true)(k:∀b wx,AH w wx->q.lo<=b->q.F b wx->outs iv b->PX P N ops n G T qs ((b,b+1)::iv) f (listed.setIfInBounds q.i true) (BK K q.o.dst (q.V b)) wx):PX P N ops n G T (q::qs) iv f listed K w:=fun hlo hfq hsq hh hq0=>
 ⟨PX.many [q.i] hc fun j hj=>by
  obtain rfl:j=q.i:=by simpa using hj
  refine⟨q.o,q.hi,q.hin,q.hg,q.hd,hfq,fun q2 h2=>⟨(hq0 q2 h2).1,(hq0 q2 h2).2.symm⟩,fun wx hwx=>?_⟩
  have hs:=hwx.size
  refine⟨_,(q.eff wx (by omega)).sub hsq,fun v w' ⟨r1,r2,r3,r4⟩=>?_⟩
  subst r3
  have hh3:=hh.mono hs
  exact⟨hT.ext (hT.refl wx) r1,(wx.heap.size,wx.heap.size+1)::iv,⟨by show wx.heap.size+1<=w'.heap.size;omega,hh3.mono (by omega)⟩,fun b' hb' hb2=>⟨by show b'<wx.heap.size∨wx.heap.size+1<=b';omega,hb'⟩,k _ w' (AH.trans hwx r1) (by omega) r4 (hh3.outs (Nat.le_refl _))⟩,k⟩
end
section
variable {P:Program} {N:Nat} {ops:Array Oper} {n:Nat} {iv:List (Nat × Nat)} {f:Nat} {listed:Array Bool} {K:KL} {w:World} {o:Oper} {Q:Exit -> Act -> World -> Prop}
theorem Oo{t:TypeId}{zs:List Value}(ho:o.op= .alloc t)(hz:De P t=some zs)(wx:World):IM P N K o wx (fun v w'=>AH wx w'∧w'.heap.size=wx.heap.size+1∧v= .pointer (some ⟨wx.heap.size,0,none⟩)∧Aj w' wx.heap.size zs t):=
 (AV ho hz).mono fun v w' ⟨b,e,e1,e2,e3,e4⟩=>by subst e1;exact⟨e3,e2,e,e4⟩
theorem Xr{α:Type}{c:CN α}{t l c2 zs sz by' m m' k z kd kd' e}(ho:o.op= .makeSlice t l c2)(hu:P.underlying t=some (.slice e))(hin0:DN P e=some (zs,sz,by'))(hl:CG K l=some (.int kd m))(hc:CG K c2=some (.int kd' m'))(hmm:m'=m)
 (hk:KG m by'=some k) (hsz:sz=c.n) (hpos:Nat.blt 0 c.n=true) (hz:∀w,c.rep w (Iv 0 0) z zs) (wx:World):IM P N K o wx (fun v w'=>AH wx w'∧w'.heap.size=wx.heap.size+1∧v= .slice (some ⟨wx.heap.size,0,none⟩) k k∧AB c w' wx.heap.size (Iv 0 0) e (List.replicate k z) (.slice (some ⟨wx.heap.size,0,none⟩) k k)):=
 (Bt ho hu hin0 hl hc hmm hk hsz hpos hz).mono fun v w' ⟨g,e0,e1,e2,e3,e4⟩=>by subst e1;subst e0;exact⟨e3,e2,rfl,e4⟩
theorem Aj.extA{zs:List Value}{t:TypeId}(b:Nat)(w1 w':World)(_:w.heap.size<=b)(h:Aj w1 b zs t)(hG:AH w1 w'):Aj w' b zs t:=h.ext hG
theorem AB.extA{α:Type}{c:CN α}[DK c]{e:TypeId}{k:Nat}{xs:List α}(b:Nat)(w1 w':World)(_:w.heap.size<=b)(h:AB c w1 b (Iv 0 0) e xs (.slice (some ⟨b,0,none⟩) k k))(hG:AH w1 w'):AB c w' b (Iv 0 0) e xs (.slice (some ⟨b,0,none⟩) k k):=h.ext hG
abbrev xF(b:Nat):Value:=.pointer (some ⟨b,0,none⟩)
abbrev mkV(k b:Nat):Value:=.slice (some ⟨b,0,none⟩) k k
theorem Xb{w0:World}{t:TypeId}{zs:List Value}(i:Nat)(hi:ops[i]? =some o)(ho:o.op= .alloc t)(hz:De P t=some zs)
 (h:∀eff st lt hin hg hd,PX P N ops n AH (TH P N ops n Q w0) [⟨i,o,K,w.heap.size,xF,fun b w'=>Aj w' b zs t,hi,hin,hg,hd,eff,st,lt⟩] [] f listed K w)
 (hin:Nat.blt i n=true:=by rfl) (hg:o.guard=none:=by rfl) (hd:CH N o.dst=true:=by rfl) (hf:MS K o.dst=true:=by rfl):HL P N ops n (noPan Q) w0 (f+1) listed K w:=
 (PXp (T:=TH P N ops n Q w0) (qs:=[]) (iv:=[]) i _ _ hi (fun wx _=>Oo ho hz wx) Aj.extA (fun b w1 h=>Aj.lt h) trivial hin hg hd hf rfl (h _ _ _))
theorem pT{w0:World}{q:Pd P N ops n AH}{qs:List (Pd P N ops n AH)}{t:TypeId}{zs:List Value}(i:Nat)(hi:ops[i]? =some o)(ho:o.op= .alloc t)(hz:De P t=some zs)
 (h:∀eff st lt hin hg hd,PX P N ops n AH (TH P N ops n Q w0) (⟨i,o,K,w.heap.size,xF,fun b w'=>Aj w' b zs t,hi,hin,hg,hd,eff,st,lt⟩::q::qs) iv f listed K w)
 (hin:Nat.blt i n=true:=by rfl) (hg:o.guard=none:=by rfl) (hd:CH N o.dst=true:=by rfl) (hf:MS K o.dst=true:=by rfl) (hq:Wp ((q::qs).map fun q=>(q.i,q.o.dst)) i o.dst=true:=by rfl):PX P N ops n AH (TH P N ops n Q w0) (q::qs) iv (f+1) listed K w:=
 AbX (T:=TH P N ops n Q w0) i _ _ hi (fun wx _=>Oo ho hz wx) Aj.extA (fun b w1 h=>Aj.lt h) hin hg hd hf hq (h _ _ _)
section
variable {α:Type} {c:CN α} [DK c] {t e:TypeId} {l c2:Operand} {zs:List Value} {sz by' k:Nat} {m m':Int} {kd kd':IntKind} {z:α} (i:Nat) (hi:ops[i]? = some o) (ho:o.op = .makeSlice t l c2) (hu:P.underlying t = some (.slice e)) (hin0:DN P e = some (zs,sz,by')) (hl:CG K l = some (.int kd m)) (hc:CG K c2 = some (.int kd' m')) (hmm:m' = m) (hk:KG m by' = some k) (hsz:sz = c.n) (hpos:Nat.blt 0 c.n = true) (hz:∀ w,c.rep w (Iv 0 0) z zs)
include ho hu hin0 hl hc hmm hk hsz hpos hz
theorem AaG{w0:World}{q:Pd P N ops n AH}{qs:List (Pd P N ops n AH)}(h:∀eff st lt hin hg hd,PX P N ops n AH (TH P N ops n Q w0) (⟨i,o,K,w.heap.size,mkV k,fun b w'=>AB c w' b (Iv 0 0) e (List.replicate k z) (mkV k b),hi,hin,hg,hd,eff,st,lt⟩::q::qs) iv f listed K w)
 (hin:Nat.blt i n=true:=by rfl) (hg:o.guard=none:=by rfl) (hd:CH N o.dst=true:=by rfl) (hf:MS K o.dst=true:=by rfl) (hq:Wp ((q::qs).map fun q=>(q.i,q.o.dst)) i o.dst=true:=by rfl):PX P N ops n AH (TH P N ops n Q w0) (q::qs) iv (f+1) listed K w:=
 AbX (T:=TH P N ops n Q w0) i _ _ hi (fun wx _=>Xr ho hu hin0 hl hc hmm hk hsz hpos hz wx) AB.extA (fun b w1 h=>(h.blk b rfl).2) hin hg hd hf hq (h _ _ _)
end
theorem Nq{w0:World}{q:Pd P N ops n AH}{qs:List (Pd P N ops n AH)}{v:Value}(j:Nat)(hh:Dk ops n=true)(hi:ops[j]? =some o)(hc:oG ops n ((q::qs).map fun q=>q.i) j listed=true)(h:ES P N K o w0 v)(k:PX P N ops n AH (TH P N ops n Q w0) (q::qs) iv f (listed.setIfInBounds j true) (BK K o.dst v) w)
 (hg:o.guard=none:=by rfl) (hd:CH N o.dst=true:=by rfl) (hf:MS K o.dst=true:=by rfl) (hq:Wp ((q::qs).map fun q=>(q.i,q.o.dst)) j o.dst=true:=by rfl):PX P N ops n AH (TH P N ops n Q w0) (q::qs) iv (f+1) listed K w:=
 PXy (T:=TH P N ops n Q w0) j hh hi hc (fun wx hx a hK w' hw=>h a hK w' (AH.trans hx hw)) k hg hd hf hq
theorem AdS{w0:World}{q:Pd P N ops n AH}{qs:List (Pd P N ops n AH)}{Ψ:Value->Prop}(j:Nat)(hh:Dk ops n=true)(hi:ops[j]? =some o)(hc:oG ops n ((q::qs).map fun q=>q.i) j listed=true)(h:YE P N K o w0 Ψ)(k:∀v,Ψ v->PX P N ops n AH (TH P N ops n Q w0) (q::qs) iv f (listed.setIfInBounds j true) (BK K o.dst v) w)
 (hg:o.guard=none:=by rfl) (hd:CH N o.dst=true:=by rfl) (hf:MS K o.dst=true:=by rfl) (hq:Wp ((q::qs).map fun q=>(q.i,q.o.dst)) j o.dst=true:=by rfl):PX P N ops n AH (TH P N ops n Q w0) (q::qs) iv (f+1) listed K w:=by
 obtain⟨v,h1,h2⟩:=h;exact Nq j hh hi hc h1 (k v h2) hg hd hf hq
theorem PX.mapT{G:World->World->Prop}{T T':Nat->Array Bool->KL->World->Prop}(hm:∀f listed K w2,AH w w2->T f listed K w2->T' f listed K w2):∀{qs:List (Pd P N ops n G)} {iv:List (Nat×Nat)} {f:Nat} {listed:Array Bool} {K:KL} {w2:World},AH w w2->PX P N ops n G T qs iv f listed K w2->PX P N ops n G T' qs iv f listed K w2
 |[],_,_,_,_,_,hx,h=>hm _ _ _ _ hx h
 |q::qs,_,_,_,_,_,hx,h=>fun h1 h2 h3 h4 h5=>⟨PX.mapT hm hx (h h1 h2 h3 h4 h5).1,fun b w3 x1 x2 x3 x4=>PX.mapT hm (AH.trans hx x1) ((h h1 h2 h3 h4 h5).2 b w3 x1 x2 x3 x4)⟩
theorem AjK{w0:World}{qs:List (Pd P N ops n AH)}(e:AH w0 w)(h:PX P N ops n AH (TH P N ops n Q w) qs iv f listed K w):PX P N ops n AH (TH P N ops n Q w0) qs iv f listed K w:=
 PX.mapT (fun f listed K w2 hx h inv hx2 a hK=>Ca.mono (fun w3 h3=>AH.trans e h3) _ _ _ _ (h inv hx a hK)) (AH.refl w) h
section
variable {K0:KL} {i lo k:Nat} {o0:Oper} {t e:TypeId} {zs:List Value} {α:Type} {c:CN α} {z:α}
theorem mV{G:World->World->Prop}{B:World->Prop}{T:Nat->Array Bool->KL->World->Prop}[hT:PB P N ops n G B T]{qs:List (Pd P N ops n G)}{hi hin hg hd eff st lt}(hc:MZ ops (qs.map fun q=>q.i) [i] listed=true)(k:∀b wx,AH w wx->(lo<=b∧b<wx.heap.size)->Aj wx b zs t->outs iv b->PX P N ops n G T qs ((b,b+1)::iv) f (listed.setIfInBounds i true) (BK K o0.dst (xF b)) wx):PX P N ops n G T (⟨i,o0,K0,lo,xF,fun b w'=>Aj w' b zs t,hi,hin,hg,hd,eff,st,lt⟩::qs) iv f listed K w:=
 PXd hc fun b wx h1 h2 h3 h4=>k b wx h1 ⟨h2,Aj.lt h3⟩ h3 h4
theorem yK{G:World->World->Prop}{B:World->Prop}{T:Nat->Array Bool->KL->World->Prop}[hT:PB P N ops n G B T]{qs:List (Pd P N ops n G)}{hi hin hg hd eff st lt}(hc:MZ ops (qs.map fun q=>q.i) [i] listed=true)(kk:∀b u wx,AH w wx->(lo<=b∧b<wx.heap.size)->u= .slice (some ⟨b,0,none⟩) k k->AB c wx b (Iv 0 0) e (List.replicate k z) u->outs iv b->PX P N ops n G T qs ((b,b+1)::iv) f (listed.setIfInBounds i true) (BK K o0.dst u) wx):PX P N ops n G T (⟨i,o0,K0,lo,mkV k,fun b w'=>AB c w' b (Iv 0 0) e (List.replicate k z) (mkV k b),hi,hin,hg,hd,eff,st,lt⟩::qs) iv f listed K w:=
 PXd hc fun b wx h1 h2 h3 h4=>kk b _ wx h1 ⟨h2,(h3.blk b rfl).2⟩ rfl h3 h4
theorem OH{w0:World}{hi hin hg hd eff st lt}(hc:MZ ops [] [i] listed=true)(k:∀b wx,AH w wx->(lo<=b∧b<wx.heap.size)->Aj wx b zs t->outs iv b->HL P N ops n (noPan Q) w0 f (listed.setIfInBounds i true) (BK K o0.dst (xF b)) wx):PX P N ops n AH (TH P N ops n Q w0) [⟨i,o0,K0,lo,xF,fun b w'=>Aj w' b zs t,hi,hin,hg,hd,eff,st,lt⟩] iv f listed K w:=mV (T:=TH P N ops n Q w0) (qs:=[]) hc k
end
end
end Go.Eng
