/- The proof engine: what a function of the model computes, said by a plain function; no condition. -/
import Derived.Test.YtjpcjanfamdmiaaGreatDoorEngA
set_option linter.all false
namespace Go.Eng
open Go Go.RowKit
/-! ## Structs of plain fields, compared -/
def fW(u v:Value):Option Bool:=match u with
 | .int k a=>match v with
  | .int k' b=>bif decide (k=k')then some (a==b)else none
  |_=>none
 | .bool a=>match v with
  | .bool b=>some (a==b)
  |_=>none
 | .string a=>match v with
  | .string b=>some (a.toList==b.toList)
  |_=>none
 |_=>none
def OP:List Value->List Value->Option Bool
 |[],[]=>some true
 |u::us,v::vs=>match us with
  |[]=>match vs with
   |[]=>fW u v
   |_=>none
  |_::_=>match fW u v with
   |some r=>match OP us vs with
    |some q=>some (r&&q)
    |none=>none
   |none=>none
 |_,_=>none
def uX(P:Program):List Field->Nat->Bool
 |[],_=>true
 |f::fs,i=>f.name != "_" &&Nat.beq f.offset i&&(match P.underlying f.type with
  |some (.int _)=>true
  |some .bool=>true
  |some .string=>true
  |_=>false)&&uX P fs (i+1)
def dY(P:Program)(t:Nat)(n:Nat):Bool:=match P.underlying t with
 |some (.struct fs)=>uX P fs.toList 0&&Nat.beq fs.size n&& !P.stoodInHeld t&& !P.eqGuardType P.depth t
 |_=>false
section
variable {P:Program} {N:Nat} {K:KL} {o:Oper} {w:World}
theorem dT{d t:Nat}{u v:Value}{r:Bool}(h:fW u v=some r)(ht:(match P.underlying t with
 |some (.int _)=>true
 |some .bool=>true
 |some .string=>true
 |_=>false)=true) (hty:∀k,P.underlying t=some (.int k)->∃k' a,u= .int k' a) (htb:P.underlying t=some .bool->∃a,u= .bool a) (hts:P.underlying t=some .string->∃a,u= .string a):
 (Op.equalIn (d+1) t u v).run P w= .ok r w:=by
 split at ht
 ·rename_i k hu
  obtain⟨k',a,rfl⟩:=hty k hu
  unfold fW at h
  cases v<;>simp only [reduceCtorEq]at h
  rename_i k2 b
  by_cases hk:k'=k2
  ·subst hk
   rw [decide_eq_true rfl,cond_true]at h
   obtain rfl:=Option.some.inj h
   exact run_equalIn_int w d t k' k a b hu
  ·rw [decide_eq_false hk]at h;cases h
 ·rename_i hu
  obtain⟨a,rfl⟩:=htb hu
  unfold fW at h
  cases v<;>simp only [reduceCtorEq]at h
  obtain rfl:=Option.some.inj h
  exact run_equalIn_bool' w d t _ _ hu
 ·rename_i hu
  obtain⟨a,rfl⟩:=hts hu
  unfold fW at h
  cases v<;>simp only [reduceCtorEq]at h
  obtain rfl:=Option.some.inj h
  exact run_equalIn_string w d t _ _ hu
 ·cases ht
def oE(P:Program):List Field->List Value->Bool
 |[],[]=>true
 |f::fs,u::us=>(match P.underlying f.type with
  |some (.int _)=>match u with
   | .int _ _=>true
   |_=>false
  |some .bool=>match u with
   | .bool _=>true
   |_=>false
  |some .string=>match u with
   | .string _=>true
   |_=>false
  |_=>false)&&oE P fs us
 |_,_=>false
theorem IS{d:Nat}{xs ys:Array Value}:∀(fs:List Field) (i:Nat) (us vs:List Value) (r:Bool),uX P fs i=true->oE P fs us=true->xs.toList.drop i=us->ys.toList.drop i=vs->OP us vs=some r->(Op.eqFields (d+1) xs ys fs).run P w= .ok r w
 |[],i,us,vs,r,_,h2,_,_,h5=>by
  cases us with
  |nil=>
   cases vs with
   |nil=>simp [OP]at h5;subst h5;simp [Op.eqFields]
   |cons _ _=>simp [OP]at h5
  |cons _ _=>simp [oE]at h2
 |f::fs,i,us,vs,r,h1,h2,h3,h4,h5=>by
  cases us with
  |nil=>simp [oE]at h2
  |cons u us=>
   cases vs with
   |nil=>cases us<;>simp [OP]at h5
   |cons v vs=>
    simp only [uX,Bool.and_eq_true,bne_iff_ne,ne_eq]at h1
    obtain⟨⟨⟨hn,ho⟩,ht⟩,h1⟩:=h1
    have ho:f.offset=i:=Nat.eq_of_beq_eq_true ho
    simp only [oE,Bool.and_eq_true]at h2
    obtain⟨hc,h2⟩:=h2
    have hxu:xs[f.offset]? =some u:=by
     rw [ho,←Array.getElem?_toList]
     have:=congrArg (fun l:List Value=>l[0]?) h3
     simpa using this
    have hyv:ys[f.offset]? =some v:=by
     rw [ho,←Array.getElem?_toList]
     have:=congrArg (fun l:List Value=>l[0]?) h4
     simpa using this
    have ha:Bf P f.type=some false:=by
     unfold Bf
     split at ht<;>first|(rename_i hu;rw [hu])|cases ht
    have e3:xs.toList.drop (i+1)=us:=by
     rw [←List.drop_drop,h3];rfl
    have e4:ys.toList.drop (i+1)=vs:=by
     rw [←List.drop_drop,h4];rfl
    have key:∀r0,fW u v=some r0->(Op.equalIn (d+1) f.type u v).run P w= .ok r0 w:=by
     intro r0 hr0
     refine dT hr0 ht ?_ ?_ ?_
     ·intro k hu;rw [hu]at hc;cases u<;>simp at hc;exact⟨_,_,rfl⟩
     ·intro hu;rw [hu]at hc;cases u<;>simp at hc;exact⟨_,rfl⟩
     ·intro hu;rw [hu]at hc;cases u<;>simp at hc;exact⟨_,rfl⟩
    have step:∀r0 q,fW u v=some r0->(Op.eqFields (d+1) xs ys fs).run P w= .ok q w->(Op.eqFields (d+1) xs ys (f::fs)).run P w= .ok (r0&&q) w:=by
     intro r0 q hr0 hq
     have hk:=key r0 hr0
     simp only [Op.eqFields]
     rw [if_pos hn]
     simp only [Sem.run_bind,part,Jv ha,Result.andThen_ok,Bool.false_eq_true,if_false,hxu,hyv,Sem.run_pure,hk]
     cases r0
     ·simp
     ·simp [hq]
    cases us with
    |nil=>
     cases vs with
     |nil=>
      simp only [OP]at h5
      have:=step r true h5 (IS fs (i+1) [] [] true h1 h2 e3 e4 rfl)
      simpa using this
     |cons _ _=>simp [OP]at h5
    |cons u2 us2=>
     simp only [OP]at h5
     split at h5
     ·rename_i r0 hr0
      split at h5
      ·rename_i q hq
       obtain rfl:=Option.some.inj h5
       exact step r0 q hr0 (IS fs (i+1) _ _ q h1 h2 e3 e4 hq)
      ·cases h5
     ·cases h5
def cD(P:Program)(t:Nat)(us:List Value):Bool:=match P.underlying t with
 |some (.struct fs)=>oE P fs.toList us
 |_=>false
theorem eQ{t n:Nat}{us vs:List Value}{r:Bool}(hB:dY P t n=true)(hC:cD P t us=true)(h:OP us vs=some r):
 (Op.equalIn 10000 t (.agg us.toArray) (.agg vs.toArray)).run P w= .ok r w∧P.eqGuardType P.depth t=false:=by
 unfold dY at hB
 unfold cD at hC
 split at hB
 ·rename_i fs hu
  rw [hu]at hC
  simp only [Bool.and_eq_true,Bool.not_eq_true']at hB
  obtain⟨⟨⟨h1,h2⟩,h3⟩,h4⟩:=hB
  have hf:P.fieldsOf t=fs:=by unfold Program.fieldsOf;rw [hu]
  refine⟨?_,h4⟩
  rw [show(10000:Nat)=9998+1+1 from rfl,run_equalIn_struct w _ t _ _ (by rw [hf];exact hu) h3,hf]
  exact IS fs.toList 0 us vs r h1 hC (by simp) (by simp) h
 ·cases hB
theorem vA{t x y u n us vs r}(ho:o.op= .binOp .neq t x y u)(hx:Bm K x=some (.agg (List.toArray us)))(hy:Bm K y=some (.agg (List.toArray vs)))(hB:dY P t n=true)(hC:cD P t us=true)(h:OP us vs=some r):Df P N K o w (.bool (!r)):=by
 intro a hK w' _
 obtain⟨h1,h2⟩:=eQ (w:=w') hB hC h
 have h3:=run_eqGuard_agg (P:=P) w' .neq t x y us.toArray vs.toArray h2
 have h4:(binOp .neq t (.agg us.toArray) (.agg vs.toArray)).run P w'= .ok (.bool (!r)) w':=by rw [run_neq_struct,h1];rfl
 simp only [execOp,ho,hK.ev hx,hK.ev hy,Sem.run_bind,h3,Result.andThen_ok,h4,Sem.run_pure]
end
end Go.Eng
namespace Go.Eng
open Go Go.RowKit
/-! ## Slices of slices of the call's own, each apart from the others -/
theorem AB.slp{α:Type}{c:Bp α}{w:World}{B:Nat}{S S':Nat->Prop}{e:TypeId}{xs:List α}{v:Value}[CM c](h:AB c w B S e xs v)(hb:∀g,v.ownBlock=some g->S' g):AD c w S' xs v:=by
 obtain⟨cs,h0,h3⟩:=h
 have h1:=h0
 obtain⟨hl,⟨rfl,hn⟩|⟨g,cap,cur,rfl,_,hh,h5,h6,h7,h8⟩⟩:=h1
 ·have:xs=[]:=List.eq_nil_of_length_eq_zero hn
  subst this;exact AD.nil _ _ _
 ·refine⟨some ⟨g,0,none⟩,cap,rfl,⟨h5,fun h=>by cases h⟩,by simpa [maxLen] using h6,fun hpos=>⟨g,0,rfl,hb g rfl,fun i x hx=>⟨_,CM.any (h3 i x hx),fun j u hu=>?_⟩⟩⟩
  have hjn:j<c.n:=by
   have:=(List.getElem?_eq_some_iff.1 hu).1
   simp [Ae]at this;omega
  rw [Av hjn]at hu
  have:=h0.cells (g:=g) rfl _ _ hu
  rw [CA]at this
  rw [show 0+i*c.n+j=0+(i*c.n+j) by omega];exact⟨this,by simp [World.frozen?,hh]⟩
def own2{α:Type}(c:Bp α)(w:World)(B hi:Nat)(e1 e2:TypeId)(xss:List (List α))(v:Value)(vs:List Value):Prop:=
 w.ownsRow B e1 1 v xss.length vs∧(∀(i:Nat) (xs:List α) (u:Value),xss[i]? =some xs->vs[i]? =some u->AB c w B (Iv 0 0) e2 xs u∧Bd u B hi∧No v u)∧(∀(i j:Nat) (u u':Value),i≠j->vs[i]? =some u->vs[j]? =some u'->No u u')
def XM{α:Type}(c:Bp α)(w:World)(B hi:Nat)(e1 e2:TypeId)(xss:List (List α))(v:Value)(vs:List Value)(k:Nat)(u0:Value):Prop:=
 w.ownsRow B e1 1 v xss.length vs∧(∀(i:Nat) (xs:List α) (u:Value),i≠k->xss[i]? =some xs->vs[i]? =some u->AB c w B (Iv 0 0) e2 xs u∧Bd u B hi∧No v u∧No u0 u)∧(∀(i j:Nat) (u u':Value),i≠k->j≠k->i≠j->vs[i]? =some u->vs[j]? =some u'->No u u')∧No v u0∧Bd u0 B hi
theorem ownsRow.keep{w w':World}{B n:Nat}{e:TypeId}{v:Value}{m:Nat}{cs:List Value}(h:w.ownsRow B e n v m cs)(hg:∀g,v.ownBlock=some g->w'.heap[g]? =w.heap[g]?):w'.ownsRow B e n v m cs:=by
 obtain⟨h1,h2⟩:=h
 refine⟨h1,?_⟩
 rcases h2 with h2|⟨g,cap,cur,rfl,hb,hh,rest⟩
 ·exact .inl h2
 ·exact .inr ⟨g,cap,cur,rfl,hb,(hg g rfl).trans hh,rest⟩
section
variable {α:Type} {c:Bp α} [CM c] {w w':World} {B hi:Nat} {e1 e2:TypeId} {xss:List (List α)} {v:Value} {vs:List Value}
theorem own2.keep(h:own2 c w B hi e1 e2 xss v vs)(h1:∀g,v.ownBlock=some g->w'.heap[g]? =w.heap[g]?)(h2:∀k,B<=k->k<hi->w'.heap[k]? =w.heap[k]?):own2 c w' B hi e1 e2 xss v vs:=by
 obtain⟨a,b,d⟩:=h
 refine⟨ownsRow.keep a h1,fun i xs u hx hu=>?_,d⟩
 obtain⟨p,q,r⟩:=b i xs u hx hu
 exact⟨p.keep (fun g hg=>h2 g (q g hg).1 (q g hg).2) (fun _ h=>h) (fun k h=>absurd h.2 (Nat.not_lt_zero k)),q,r⟩
theorem own2.blk(h:own2 c w B hi e1 e2 xss v vs):Bd v B w.heap.size:=h.1.lt
theorem own2.ext(h:own2 c w B hi e1 e2 xss v vs)(he:AJ w w')(hle:hi<=w.heap.size):own2 c w' B hi e1 e2 xss v vs:=
 h.keep (fun g hg=>he.block g (h.blk g hg).2) (fun k _ h=>he.block k (by omega))
theorem own2.upd{b:Nat}(h:own2 c w B hi e1 e2 xss v vs)(hu:Gi b w w')(hne:Nb v b)(hb:b<B∨hi<=b:=by omega):own2 c w' B hi e1 e2 xss v vs:=
 h.keep (fun g hg=>hu.block g (hne g hg)) (fun k h1 h2=>hu.block k (by omega))
theorem own2.wide{hi':Nat}(h:own2 c w B hi e1 e2 xss v vs)(hle:hi<=hi':=by omega):own2 c w B hi' e1 e2 xss v vs:=by
 obtain⟨a,b,d⟩:=h
 refine⟨a,fun i xs u hx hu=>?_,d⟩
 obtain⟨p,q,r⟩:=b i xs u hx hu
 exact⟨p,fun g hg=>by have:=q g hg;omega,r⟩
theorem own2.but{p:Nat->Prop}(h:own2 c w B hi e1 e2 xss v vs)(hb:CS p w w')(hne:∀k,p k->∀g,v.ownBlock=some g->k≠g)(hle:hi<=w.heap.size)(hs:∀k,p k->k<B∨hi<=k):own2 c w' B hi e1 e2 xss v vs:=
 h.keep (fun g hg=>hb.block g (h.blk g hg).2 (fun e=>hne g e g hg rfl)) (fun k h1 h2=>hb.block k (by omega) (fun e=>by have:=hs k e;omega))
theorem BN.own2{t t':Value}(hg:BN w w' t t')(h:own2 c w B hi e1 e2 xss v vs)(hne:No t v)(hle:hi<=w.heap.size)(hs:∀g,t.ownBlock=some g->g<B∨hi<=g):own2 c w' B hi e1 e2 xss v vs:=
 h.keep (fun g hv=>hg.1.block g (h.blk g hv).2 (fun e=>hne g g e.symm hv rfl)) (fun k h1 h2=>hg.1.block k (by omega) (fun e=>by have:=hs k e.symm;omega))
theorem eV{cs:List Value}{i:Nat}{u:Value}(h:cs[i]? =some u):Ae cs 1 i=[u]:=by
 apply List.ext_getElem?
 intro q
 by_cases hq:q<1
 ·obtain rfl:q=0:=by omega
  rw [Av hq];simpa using h
 ·rw [List.getElem?_eq_none (by simp [Ae];omega),List.getElem?_eq_none (by simp;omega)]
theorem own2.r(h:own2 c w B hi e1 e2 xss v vs):AB (Ci c) w B (SX B hi v) e1 xss v:=by
 obtain⟨a,b,d⟩:=h
 refine⟨vs,a,fun i x hx=>?_⟩
 have hi':i<vs.length:=by
  have:=(List.getElem?_eq_some_iff.1 hx).1
  rw [a.1];omega
 obtain⟨p,q,r⟩:=b i x _ hx (List.getElem?_eq_getElem hi')
 have e:Ae vs (Ci c).n i=[vs[i]]:=eV (List.getElem?_eq_getElem hi')
 rw [e]
 exact⟨_,rfl,p.slp fun g hg=>⟨(q g hg).1,(q g hg).2,fun e=>r g g e hg rfl⟩⟩
theorem own2.nil:own2 c w B hi e1 e2 ([]:List (List α)) (.slice none 0 0) []:=⟨World.ownsRow_nil w B e1 1,fun i xs u h=>by simp at h,fun i j u u' _ h=>by simp at h⟩
theorem own2.sub{m:Int}{xs:List α}{u:Value}(h:own2 c w B hi e1 e2 xss v vs)(hy:AE xss m=some xs)(hu:vs[m.toNat]? =some u):AB c w B (Iv 0 0) e2 xs u∧Bd u B hi∧No v u:=h.2.1 _ _ _ (Fe hy).2.2 hu
theorem own2.at{m:Int}{xs:List α}{g:Nat}{us:List Value}(h:own2 c w B hi e1 e2 xss v vs)(hy:AE xss m=some xs)(hg:v.ownBlock=some g)(hl:us.length=1)(hcl:AM w g (0+m.toNat*(Ci c).n) us):∃u,us=[u]∧vs[m.toNat]? =some u:=by
 obtain⟨u,rfl⟩:=List.length_eq_one_iff.1 hl
 refine⟨u,rfl,?_⟩
 have hlt:m.toNat<vs.length:=by
  have:=(List.getElem?_eq_some_iff.1 (Fe hy).2.2).1
  rw [h.1.1];omega
 have h1:=h.1.cells hg m.toNat _ (List.getElem?_eq_getElem hlt)
 have h2:=(hcl 0 u rfl).1
 rw [CA]at h1
 have e:0+m.toNat*(Ci c).n+0=0+m.toNat:=by show 0+m.toNat*1+0=0+m.toNat;omega
 rw [e,h1]at h2
 rw [List.getElem?_eq_getElem hlt];exact h2
theorem own2.grew{m:Nat}{u u':Value}(h:own2 c w B hi e1 e2 xss v vs)(hu:vs[m]? =some u)(hbu:Bd u B hi)(hvu:No v u)(hg:BN w w' u u')(hle:hi<=w.heap.size)(hB:B<=w.heap.size)(hlt:∀g,u'.ownBlock=some g->g<w'.heap.size):XM c w' B w'.heap.size e1 e2 xss v vs m u':=by
 obtain⟨a,b,d⟩:=h
 have hsz:=hg.1.size
 have hav:∀g,v.ownBlock=some g->w'.heap[g]? =w.heap[g]?:=fun g hv=>hg.1.block g (a.lt g hv).2 (fun e=>hvu g g hv e.symm rfl)
 refine⟨ownsRow.keep a hav,fun i xs t hi' hx ht=>?_,fun i j t t' _ _ hij ht ht'=>d i j t t' hij ht ht',?_,?_⟩
 ·obtain⟨p,q,r⟩:=b i xs t hx ht
  have hn:No u t:=d m i u t (fun e=>hi' e.symm) hu ht
  refine⟨p.keep (fun g hg2=>hg.1.block g (by have:=q g hg2;omega) (fun e=>hn g g e.symm hg2 rfl)) (fun _ h=>h) (fun k h=>absurd h.2 (Nat.not_lt_zero k)),fun g hg2=>by have:=q g hg2;omega,r,fun g q2 hg2 hq2=>?_⟩
  rcases hg.2 g hg2 with h1|h1
  ·exact hn g q2 h1 hq2
  ·have:=q q2 hq2;omega
 ·intro g q2 hg2 hq2
  rcases hg.2 q2 hq2 with h1|h1
  ·exact hvu g q2 hg2 h1
  ·have:=a.lt g hg2;omega
 ·intro g hg2
  have:=hlt g hg2
  rcases hg.2 g hg2 with h1|h1
  ·have:=hbu g h1;omega
  ·omega
end
section
variable {P:Program} {N:Nat} {α:Type} {c:Bp α} [CM c] {w:World} {B hi:Nat} {e1 e2:TypeId} {xss:List (List α)} {v:Value} {vs:List Value} {o:Oper} {K:KL}
theorem xD{t g m off:Nat}{u:Value}{zs:List α}(h:uO K o.op=some (t,g,off,u))(hoff:off=0+m*(Ci c).n)(hg:v.ownBlock=some g)(hn:Am P t=some 1)(hh:XM c w B hi e1 e2 xss v vs m u)(ho:AB c w B (Iv 0 0) e2 zs u)(hm:m<xss.length):
 Fx P N K o w (fun _ w'=>Gi g w w'∧own2 c w' B hi e1 e2 (xss.set m zs) v (vs.set m u)):=by
 obtain⟨x,y,hop,hx,hy⟩:=Sx h
 obtain⟨a,b,d,hv,hbu⟩:=hh
 have hu1:u.cells= #[u]:=ho.cells
 have hu2:u.oneCell'=true:=ho.one
 have a':=a
 obtain⟨hl,⟨rfl,hn0⟩|⟨g',cap,cur,rfl,hb,hhp,h5,h6,h7,h8⟩⟩:=a'
 ·omega
 simp [Value.ownBlock]at hg
 subst hg
 obtain⟨ti,hi1,hsz⟩:=Option.map_eq_some_iff.1 hn
 have hoff':off=m:=by rw [hoff];show 0+m*1=m;omega
 subst hoff'
 have hlen:off<cur.size:=by rw [h7];omega
 have hst:=run_storeCells_at P g' off e1 [u] 0 cur w hhp (by simp;omega) (by simpa using hu2)
 simp only [Nat.add_zero]at hst
 intro ac hK Kt Q hk
 have hr:(execOp ac.eval o).run P w= .ok .skip (w.setRow g' (cur.toList.set off u).toArray):=by
  have e:List.take off cur.toList++[u]++List.drop (off+1) cur.toList=cur.toList.set off u:=by
   rw [List.set_eq_take_append_cons_drop,if_pos (by simpa using hlen)];simp
  simp [execOp,hop,hK.ev hx,hK.ev hy,Instr.storeAt,Instr.sureAddr,storeVar,Sem.run_bind,sizeOf,typeInfo,hi1,hsz,hu1]at hst ⊢
  rw [hst]
  simp at e
  simp [e]
 unfold Oper.wp
 rw [hr]
 have hU:=Gi.setRow w g' (cur.toList.set off u).toArray
 refine hk _ _ ⟨hU,?_,?_,?_⟩
 ·refine⟨by rw [List.length_set,List.length_set];exact hl,.inr ⟨g',cap,_,by simp,hb,setRow_heap w g' cur _ e1 _ hhp,by simpa using h5,h6,by simpa using h7,?_⟩⟩
  rw [List.length_set]
  simp only [List.toList_toArray,Nat.mul_one]
  rw [List.take_set]
  congr 1
  simpa using h8
 ·intro i xs t hx2 ht
  rcases Ms hx2 with ⟨rfl,rfl⟩|⟨hne,hx3⟩
  ·have:t=u:=by
    rw [List.getElem?_set_self (by rw [hl];omega)]at ht
    exact(Option.some.inj ht).symm
   subst this
   refine⟨ho.keep (fun q hq=>setRow_other _ _ _ _ (fun e=>?_)) (fun _ h=>h) (fun k h=>absurd h.2 (Nat.not_lt_zero k)),hbu,hv⟩
   subst e
   exact hv q q rfl hq rfl
  ·rw [List.getElem?_set_ne hne]at ht
   obtain⟨p,q,r,s⟩:=b i xs t (fun e=>hne e.symm) hx3 ht
   exact⟨p.keep (fun g2 hg2=>setRow_other _ _ _ _ (fun e=>by subst e;exact r g2 g2 rfl hg2 rfl)) (fun _ h=>h) (fun k h=>absurd h.2 (Nat.not_lt_zero k)),q,r⟩
 ·intro i j t t' hij ht ht'
  have get:∀i t,(vs.set off u)[i]? =some t->(i=off∧t=u)∨(i≠off∧vs[i]? =some t):=fun i t h=>by
   rcases Ms h with ⟨e,e2⟩|⟨e,e2⟩
   ·exact .inl ⟨e.symm,e2⟩
   ·exact .inr ⟨fun q=>e q.symm,e2⟩
  have hx:∀i t,i≠off->vs[i]? =some t->∃xs,xss[i]? =some xs:=fun i t _ h=>by
   have:=(List.getElem?_eq_some_iff.1 h).1
   exact⟨_,List.getElem?_eq_getElem (by rw [hl]at this;omega)⟩
  rcases get i t ht with ⟨e,rfl⟩|⟨e,h1⟩<;>rcases get j t' ht' with ⟨e',rfl⟩|⟨e',h2⟩
  ·exact absurd (e.trans e'.symm) hij
  ·obtain⟨xs,hxs⟩:=hx j t' e' h2
   exact(b j xs t' e' hxs h2).2.2.2
  ·obtain⟨xs,hxs⟩:=hx i t e h1
   exact(b i xs t e hxs h1).2.2.2.symm
  ·exact d i j t t' e e' hij h1 h2
theorem Uf{ei:TypeId}{t l c2 by' m m' k kd kd'}(ho:o.op= .makeSlice t l c2)(hu:P.underlying t=some (.slice e1))(hi:Ca P e1=some ([.slice none 0 0],1,by'))(hl:Bm K l=some (.int kd m))(hc:Bm K c2=some (.int kd' m'))(hmm:m'=m)
 (hk:MY m by'=some k):
 Fx P N K o w (fun u w'=>∃g,u= .slice (some ⟨g,0,none⟩) k k∧g=w.heap.size∧w'.heap.size=w.heap.size+1∧AJ w w'∧own2 c w' g (g+1) e1 ei (List.replicate k []) u (List.replicate k (.slice none 0 0))):=by
 subst hmm
 unfold Ca at hi
 obtain⟨i,hi1,hi2⟩:=Option.bind_eq_some_iff.1 hi
 obtain⟨zv,hz1,hz2⟩:=Option.map_eq_some_iff.1 hi2
 simp only [Prod.mk.injEq]at hz2
 obtain⟨e3,e4,e5⟩:=hz2
 unfold MY at hk
 split at hk
 ·rename_i hm
  injection hk with hk
  have hr:=run_make (P:=P) w t e1 i zv hu hi1 hz1 kd kd' m' m' hm.1 (Int.le_refl _) (by rw [e5,Int.mul_comm];exact hm.2.1) hm.2.2
  intro a hK Kt Q hkk
  have hr2:(execOp a.eval o).run P w= .ok (.value (.slice (some ⟨w.heap.size,0,none⟩) m'.toNat m'.toNat)) (w.alloc (.cells (madeCells zv.cells (m'.toNat*i.size)) e1)):=by
   simp [execOp,ho,hK.ev hl,hK.ev hc,hr]
  unfold Oper.wp
  rw [hr2]
  have hzc:zv.cells= #[.slice none 0 0]:=by rw [←Array.toList_inj,e3]
  have hmc:(madeCells zv.cells (m'.toNat*i.size)).toList=List.replicate k (.slice none 0 0):=by
   rw [hzc,e4,hk,Nat.mul_one]
   apply List.ext_getElem
   ·simp [size_madeCells]
   ·intro j h1 h2
    simp [madeCells,Nat.mod_one]
  refine hkk _ _ ⟨w.heap.size,by rw [hk],rfl,by simp,AJ.alloc _ _,⟨by simp,.inr ⟨w.heap.size,k,_,by rw [List.length_replicate,hk],Nat.le_refl _,heap_alloc_new w _,by simp,by simp only [maxLen];omega,?_,?_⟩⟩,?_,?_⟩
  ·rw [←Array.length_toList,hmc];simp
  ·rw [hmc];simp
  ·intro i xs u hx hu2
   have hxs:xs=[]:=by
    rw [List.getElem?_replicate]at hx;split at hx
    ·exact(Option.some.inj hx).symm
    ·cases hx
   have hus:u= .slice none 0 0:=by
    rw [List.getElem?_replicate]at hu2;split at hu2
    ·exact(Option.some.inj hu2).symm
    ·cases hu2
   subst hxs hus
   exact⟨AB.nil _ _ _ _ _,(fun q h=>by cases h),(fun g q _ h=>by cases h)⟩
  ·intro i j u u' _ hu2 _ g q hg
   have hus:u= .slice none 0 0:=by
    rw [List.getElem?_replicate]at hu2;split at hu2
    ·exact(Option.some.inj hu2).symm
    ·cases hu2
   subst hus;cases hg
 ·cases hk
end
end Go.Eng
namespace Go.Eng
open Go Go.RowKit
theorem own2.at1{α:Type}{c:Bp α}[CM c]{w:World}{B hi:Nat}{e1 e2:TypeId}{xss:List (List α)}{v:Value}{vs:List Value}{m:Int}{xs:List α}{g:Nat}{u:Value}(h:own2 c w B hi e1 e2 xss v vs)(hy:AE xss m=some xs)(hg:v.ownBlock=some g)
 (hcl:AM w g (0+m.toNat*(Ci c).n) [u]):vs[m.toNat]? =some u:=by
 obtain⟨u',h1,h2⟩:=h.at hy hg rfl hcl
 simp at h1;rw [h1];exact h2
theorem Wb{α:Type}{xs:List α}{m:Int}{y:α}(h:AE xs m=some y):m.toNat<xs.length:=by
 obtain⟨h0,h1,_⟩:=Fe h;omega
end Go.Eng
namespace Go.Eng
open Go Go.RowKit
theorem yi2{P:Program}{N:Nat}{K:KL}{o:Oper}{α:Type}{c:Bp α}{w w0:World}{B hi:Nat}{e1 e2:TypeId}{xss:List (List α)}{v:Value}{vs:List Value}{n:Nat}{u0:Value}{xs:List α}{t:Nat}{k:IntKind}{m:Int}(h:UK K o.op=some (t,v,k,m))(hu:P.underlying t=some (.slice e1))(hc:Am P e1=some 1)(hh:XM c w B hi e1 e2 xss v vs n u0)(hg:AE xss m=some xs):
 YE P N K o w0 (fun u=>∃g,u= .pointer (some ⟨g,0+m.toNat*(Ci c).n,none⟩)∧v.ownBlock=some g):=by
 obtain⟨x,i,ho,hx,hi'⟩:=SY h
 obtain⟨g0,g1,g2⟩:=Fe hg
 obtain⟨⟨hl,⟨rfl,hn⟩|⟨g,cap,cur,rfl,_⟩⟩,_⟩:=hh
 ·omega
 ·exact⟨_,FQ (sz:=(Ci c).n) ho hu hc hx hi' g0 g1,g,rfl,rfl⟩
end Go.Eng
namespace Go.Eng
/-! ## Pointers that may be nil -/
def OG{α β:Type}(o:Option α)(a:β)(f:α->β):β:=match o with
 |none=>a
 |some x=>f x
theorem fI{α β:Type}{o:Option α}{A:Option β}{f:α->Option β}{r:β}(h:o=none)(hF:OG o A f=some r):A=some r:=by subst h;exact hF
theorem gB{α β:Type}{o:Option α}{x:α}{A:Option β}{f:α->Option β}{r:β}(h:o=some x)(hF:OG o A f=some r):f x=some r:=by subst h;exact hF
def bL{α:Type}(o:Option α)(p:Prop)(f:α->Prop):Prop:=match o with
 |none=>p
 |some x=>f x
theorem gN{α:Type}{o:Option α}{p:Prop}{f:α->Prop}(h:o=none)(hF:bL o p f):p:=by subst h;exact hF
theorem gM{α:Type}{o:Option α}{x:α}{p:Prop}{f:α->Prop}(h:o=some x)(hF:bL o p f):f x:=by subst h;exact hF
end Go.Eng
namespace Go.Eng
theorem Ry{B hi:Nat}{v:Go.Value}{Q:Nat->Prop}(h:∀k,SX B hi v k->Q k):∀k,SX B hi v k->Q k:=h
end Go.Eng
namespace Go.Eng
open Go Go.RowKit
/-! ## Slices of which nothing is told -/
def KV:Bp Unit where
 n:=1
 rep:=fun _ _ _ vs=>∃a n k,vs=[.slice a n k]
 len:=fun⟨_,_,_,e⟩=>by rw [e];rfl
 one:=fun⟨_,_,_,e⟩=>by rw [e];rfl
 mono:=fun h _ _=>h
instance:CM KV:=⟨fun h=>h⟩
theorem AD.fog{α:Type}{c:Bp α}{w:World}{S:Nat->Prop}{xs:List (List α)}{v:Value}(h:AD (Ci c) w S xs v):AD KV w S (xs.map fun _=>()) v:=by
 obtain⟨a,cap,e,h1,h2,h3⟩:=h
 refine⟨a,cap,by rw [List.length_map];exact e,by rw [List.length_map];exact h1,h2,fun hl=>?_⟩
 rw [List.length_map]at hl
 obtain⟨b,off,h4,h5,h6⟩:=h3 hl
 refine⟨b,off,h4,h5,fun i x hx=>?_⟩
 rw [List.getElem?_map]at hx
 obtain⟨y,hy,_⟩:=Option.map_eq_some_iff.1 hx
 obtain⟨us,⟨v',e',a',cap',e2,_⟩,h8⟩:=h6 i y hy
 exact⟨us,⟨a',y.length,cap',by rw [e',e2]⟩,h8⟩
end Go.Eng
namespace Go
@[reducible] def Value.i (x:Int):Value:=.int .i64 x
end Go
namespace Go.Eng
open Go Go.RowKit
/-! ## Cells whose numbers may turn: what is written into them is not told -/
inductive Mk:Value->Value->Prop
 |refl (u:Value):Mk u u
 |int (k:IntKind) (m n:Int):Mk (.int k m) (.int k n)
 |bool (a b:Bool):Mk (.bool a) (.bool b)
 |str (a b:ByteArray):Mk (.string a) (.string b)
theorem Mk.trans{a b c:Value}(h:Mk a b)(k:Mk b c):Mk a c:=by
 cases h with
 |refl=>exact k
 |int kk m n=>cases k with
  |refl=>exact .int kk m n
  |int _ _ q=>exact .int kk m q
 |bool x y=>cases k with
  |refl=>exact .bool x y
  |bool _ q=>exact .bool x q
 |str x y=>cases k with
  |refl=>exact .str x y
  |str _ q=>exact .str x q
def OA(us vs:List Value):Prop:=us.length=vs.length∧∀(j:Nat) (u v:Value),us[j]? =some u->vs[j]? =some v->Mk u v
theorem OA.refl(us:List Value):OA us us:=⟨rfl,fun j u v h k=>by rw [h]at k;obtain rfl:=Option.some.inj k;exact .refl _⟩
structure DG(p:Nat->Prop)(w w':World):Prop where
 but:CS p w w'
 cell:∀b off u,w.cell? ⟨b,off,none⟩=some u->∃u',w'.cell? ⟨b,off,none⟩=some u'∧Mk u u'
 froz:∀b off,b<w.heap.size->w.frozen? ⟨b,off,none⟩=false->w'.frozen? ⟨b,off,none⟩=false
section
variable {p q:Nat -> Prop} {w a c:World}
theorem DG.refl(p:Nat->Prop)(w:World):DG p w w:=⟨CS.refl p w,fun _ _ u h=>⟨u,h,.refl _⟩,fun _ _ _ h=>h⟩
theorem DG.ofBut(h:CS p w a)(hb:∀k,k<w.heap.size->a.heap[k]? =w.heap[k]?):DG p w a:=
 ⟨h,fun b off u hu=>⟨u,by rw [World.cell?_of_block (w:=w) (hb b (World.block_lt_of_cell? _ _ hu))];exact hu,.refl _⟩,fun b off hl hf=>by rw [EW (hb b hl)];exact hf⟩
theorem DG.then(h:DG p w a)(k:DG q a c)(hb:CS p w c):DG p w c:=
 ⟨hb,fun b off u hu=>by
  obtain⟨u1,h1,h2⟩:=h.cell b off u hu
  obtain⟨u2,h3,h4⟩:=k.cell b off u1 h1
  exact⟨u2,h3,h2.trans h4⟩,fun b off hl hf=>k.froz b off (Nat.lt_of_lt_of_le hl h.but.size) (h.froz b off hl hf)⟩
theorem DG.ext(h:DG p w a)(he:AJ a c):DG p w c:=
 h.then (q:=fun _=>False) (DG.ofBut ⟨he.os,he.tape,he.output,he.size,fun k hk _=>he.block k hk⟩ fun k hk=>he.block k hk) (h.but.ext he)
theorem DG.sim(h:DG p w a)(k:DG q a c)(hq:∀k,q k->p k∨w.heap.size<=k):DG p w c:=h.then k (h.but.but k.but hq)
theorem DG.upd{b:Nat}(h:DG p w a)(hu:Gi b a c)(hb:w.heap.size<=b):DG p w c:=
 ⟨h.but.upd hu (.inr hb),fun d off u hd=>by
  obtain⟨u1,h1,h2⟩:=h.cell d off u hd
  have:=World.block_lt_of_cell? _ _ hd
  exact⟨u1,by rw [World.cell?_of_block (w:=a) (hu.block d (by show d≠b;have:d<w.heap.size:=this;omega))];exact h1,h2⟩,fun d off hl hf=>by
  rw [EW (hu.block d (by omega))];exact h.froz d off hl hf⟩
end
theorem AM.cons{w:World}{b off:Nat}{u:Value}{us:List Value}(h:AM w b off (u::us)):(w.cell? ⟨b,off,none⟩=some u∧w.frozen? ⟨b,off,none⟩=false)∧AM w b (off+1) us:=
 ⟨by have:=h 0 u rfl;rwa [Nat.add_zero]at this,fun j v hj=>by have:=h (j+1) v (by simpa using hj);rwa [show off+(j+1)=off+1+j by omega]at this⟩
theorem AM.mk{w:World}{b off:Nat}{u:Value}{us:List Value}(h0:w.cell? ⟨b,off,none⟩=some u∧w.frozen? ⟨b,off,none⟩=false)(h:AM w b (off+1) us):AM w b off (u::us):=fun j v hj=>by
 cases j with
 |zero=>obtain rfl:u=v:=by simpa using hj
        rw [Nat.add_zero];exact h0
 |succ j=>rw [show off+(j+1)=off+1+j by omega];exact h j v (by simpa using hj)
theorem AM.sim{p:Nat->Prop}{w w':World}(hs:DG p w w'){b:Nat}:∀{us:List Value} {off:Nat},AM w b off us->∃us',OA us us'∧AM w' b off us'
 |[],off,_=>⟨[],OA.refl _,fun j u h=>by simp at h⟩
 |u::us,off,h=>by
  obtain⟨⟨h1,h2⟩,h3⟩:=h.cons
  obtain⟨us',⟨k1,k2⟩,k3⟩:=AM.sim hs h3
  obtain⟨u',h4,h5⟩:=hs.cell b off u h1
  refine⟨u'::us',⟨by simp [k1],fun j x y hx hy=>?_⟩,AM.mk ⟨h4,hs.froz b off (World.block_lt_of_cell? _ _ h1) h2⟩ k3⟩
  cases j with
  |zero=>obtain rfl:u=x:=by simpa using hx
         obtain rfl:u'=y:=by simpa using hy
         exact h5
  |succ j=>exact k2 j x y (by simpa using hx) (by simpa using hy)
/-! ## Codecs that do not tell numbers -/
def CE(k:IntKind):Bp Int where
 n:=1
 rep:=fun _ _ _ vs=>∃y,vs=[.int k y]
 len:=fun⟨_,h⟩=>by rw [h];rfl
 one:=fun⟨_,h⟩=>by rw [h];rfl
 mono:=fun h _ _=>h
def HO:Bp Bool where
 n:=1
 rep:=fun _ _ _ vs=>∃y,vs=[.bool y]
 len:=fun⟨_,h⟩=>by rw [h];rfl
 one:=fun⟨_,h⟩=>by rw [h];rfl
 mono:=fun h _ _=>h
def Fi:Bp ByteArray where
 n:=1
 rep:=fun _ _ _ vs=>∃y,vs=[.string y]
 len:=fun⟨_,h⟩=>by rw [h];rfl
 one:=fun⟨_,h⟩=>by rw [h];rfl
 mono:=fun h _ _=>h
class JC{α:Type}(c:Bp α):Prop where
 sim:∀{p:Nat->Prop} {w w':World} {S:Nat->Prop} {x:α} {vs vs':List Value},c.rep w S x vs->DG p w w'->OA vs vs'->c.rep w' S x vs'
theorem OA.one{u:Value}{vs:List Value}(h:OA [u] vs):∃v,vs=[v]∧Mk u v:=by
 obtain⟨v,rfl⟩:=List.length_eq_one_iff.1 h.1.symm
 exact⟨v,rfl,h.2 0 u v rfl rfl⟩
instance (k:IntKind):JC (CE k):=⟨fun⟨y,e⟩ _ h=>by
 subst e;obtain⟨v,rfl,h2⟩:=h.one
 cases h2 with
 |refl=>exact⟨_,rfl⟩
 |int _ _ n=>exact⟨n,rfl⟩⟩
instance:JC HO:=⟨fun⟨y,e⟩ _ h=>by
 subst e;obtain⟨v,rfl,h2⟩:=h.one
 cases h2 with
 |refl=>exact⟨_,rfl⟩
 |bool _ n=>exact⟨n,rfl⟩⟩
instance:JC Fi:=⟨fun⟨y,e⟩ _ h=>by
 subst e;obtain⟨v,rfl,h2⟩:=h.one
 cases h2 with
 |refl=>exact⟨_,rfl⟩
 |str _ n=>exact⟨n,rfl⟩⟩
theorem OA.app{us ts vs:List Value}(h:OA (us++ts) vs):∃vs1 vs2,vs=vs1++vs2∧OA us vs1∧OA ts vs2:=by
 obtain⟨h1,h2⟩:=h
 rw [List.length_append]at h1
 refine⟨vs.take us.length,vs.drop us.length,(List.take_append_drop _ _).symm,⟨by simp;omega,fun j u v hu hv=>?_⟩,⟨by simp;omega,fun j u v hu hv=>?_⟩⟩
 ·have hj:=(List.getElem?_eq_some_iff.1 hu).1
  rw [List.getElem?_take,if_pos hj]at hv
  exact h2 j u v (by rw [List.getElem?_append_left hj];exact hu) hv
 ·rw [List.getElem?_drop]at hv
  exact h2 (us.length+j) u v (by rw [List.getElem?_append_right (by omega),Nat.add_sub_cancel_left];exact hu) hv
instance {α β:Type}(c:Bp α)(d:Bp β)[hc:JC c][hd:JC d]:JC (Ai c d):=⟨fun⟨us,ts,e,h1,h2⟩ hs h=>by
 subst e;obtain⟨vs1,vs2,rfl,k1,k2⟩:=h.app
 exact⟨vs1,vs2,rfl,hc.sim h1 hs k1,hd.sim h2 hs k2⟩⟩
instance {α β:Type}(f:β->α)(c:Bp α)[hc:JC c]:JC (Bn f c):=⟨fun h hs k=>hc.sim h hs k⟩
theorem AD.sim{α:Type}{c:Bp α}[hc:JC c]{p:Nat->Prop}{w w':World}{S:Nat->Prop}{xs:List α}{v:Value}(h:AD c w S xs v)(hs:DG p w w'):AD c w' S xs v:=by
 obtain⟨a,cap,h1,h2,h3,h4⟩:=h
 refine⟨a,cap,h1,h2,h3,fun hl=>?_⟩
 obtain⟨b,off,h5,h6,h8⟩:=h4 hl
 refine⟨b,off,h5,h6,fun i x hx=>?_⟩
 obtain⟨us,h9,h10⟩:=h8 i x hx
 obtain⟨us',k1,k2⟩:=h10.sim hs
 exact⟨us',hc.sim h9 hs k1,k2⟩
instance {α:Type}(c:Bp α)[JC c]:JC (Ci c):=⟨fun⟨v,e,h⟩ hs k=>by
 subst e;obtain⟨v',rfl,k2⟩:=k.one
 obtain⟨a,cap,rfl,_⟩:=id h
 cases k2
 exact⟨_,rfl,h.sim hs⟩⟩
class Dp{α:Type}(c:Bp α)(c':outParam (Bp α)):Prop where
 n:c'.n=c.n
 of:∀{w:World} {S:Nat->Prop} {x:α} {vs:List Value},c.rep w S x vs->c'.rep w S x vs
instance (k:IntKind):Dp (AL k) (CE k):=⟨rfl,fun h=>⟨_,h⟩⟩
instance:Dp BH HO:=⟨rfl,fun h=>⟨_,h⟩⟩
instance:Dp At Fi:=⟨rfl,fun h=>⟨_,h⟩⟩
instance {α β:Type}(c c':Bp α)(d d':Bp β)[h1:Dp c c'][h2:Dp d d']:Dp (Ai c d) (Ai c' d'):=
 ⟨by show c'.n+d'.n=c.n+d.n;rw [h1.n,h2.n],fun⟨us,ts,e,a,b⟩=>⟨us,ts,e,h1.of a,h2.of b⟩⟩
instance {α β:Type}(f:β->α)(c c':Bp α)[h:Dp c c']:Dp (Bn f c) (Bn f c'):=⟨h.n,fun k=>h.of k⟩
theorem AD.soft{α:Type}{c c':Bp α}[hc:Dp c c']{w:World}{S:Nat->Prop}{xs:List α}{v:Value}(h:AD c w S xs v):AD c' w S xs v:=by
 obtain⟨a,cap,h1,h2,h3,h4⟩:=h
 refine⟨a,cap,h1,h2,h3,fun hl=>?_⟩
 obtain⟨b,off,h5,h6,h8⟩:=h4 hl
 refine⟨b,off,h5,h6,fun i x hx=>?_⟩
 obtain⟨us,h9,h10⟩:=h8 i x hx
 exact⟨us,hc.of h9,by rw [hc.n];exact h10⟩
instance {α:Type}(c c':Bp α)[Dp c c']:Dp (Ci c) (Ci c'):=⟨rfl,fun⟨v,e,h⟩=>⟨v,e,h.soft⟩⟩
/-! ## A number is written into a slice that is only known softly -/
section
variable {P:Program} {N:Nat} {o:Oper} {K:KL} {w:World}
theorem CK{t b off o0:Nat}{us:List Value}{u0 u:Value}(j:Nat)(h:uO K o.op=some (t,b,off,u))(hcl:AM w b o0 us)(hj:off=o0+j)(hu:us[j]? =some u0)(hv:Mk u0 u)
 (hn:Am P t=some 1) (hc:u.cells.toList=[u]) (h1:u.oneCell'=true):Fx P N K o w (fun _ w'=>DG (pB b) w w'):=by
 obtain⟨x,y,ho,hx,hy⟩:=Sx h
 have hcell:=hcl j u0 hu
 rw [←hj]at hcell
 obtain⟨hcell,hfro⟩:=hcell
 have hlt:b<w.heap.size:=World.block_lt_of_cell? _ _ hcell
 obtain⟨cur,ty,fz,hrow,hcur⟩:∃cur ty fz,w.heap[b]? =some (.cells cur ty fz)∧cur[off]? =some u0:=by
  unfold World.cell? at hcell
  split at hcell
  ·rename_i cur ty fz hrow
   exact⟨cur,ty,fz,hrow,by simpa using hcell⟩
  ·cases hcell
 intro a hK Kt Q hk
 obtain⟨ti,hi,hsz⟩:=Option.map_eq_some_iff.1 hn
 have hst:(storeCells ⟨b,off,none⟩ u.cells.toList 0).run P w= .ok () (w.setRow b (cur.setIfInBounds off u)):=by
  rw [hc]
  have hadd:(⟨b,off,none⟩:Addr).add 0=⟨b,off,none⟩:=by simp [Addr.add]
  simp only [storeCells,Sem.run_bind,hadd]
  rw [run_store P w _ u _ h1,hcell]
  simp [hfro,setCell_eq_setRow w b off cur ty fz u hrow]
 have hl1:u.cells.size=1:=by have:=congrArg List.length hc;simpa using this
 have hr:(execOp a.eval o).run P w= .ok .skip (w.setRow b (cur.setIfInBounds off u)):=by
  simp [execOp,ho,hK.ev hx,hK.ev hy,Instr.storeAt,Instr.sureAddr,storeVar,Sem.run_bind,sizeOf,typeInfo,hi,hsz,hl1]at hst ⊢
  rw [hst]
  simp
 unfold Oper.wp
 rw [hr]
 have hu2:=Gi.setRow w b (cur.setIfInBounds off u)
 have hrow2:=setRow_heap w b cur (cur.setIfInBounds off u) ty fz hrow
 refine hk _ _ ⟨(CS.refl (pB b) w).upd hu2 (.inl rfl),fun d q x hd=>?_,fun d q hl hf=>?_⟩
 ·by_cases e:d=b
  ·subst e
   rw [cell_of_row w d q cur ty fz hrow]at hd
   rw [cell_of_row _ d q _ ty fz hrow2]
   by_cases e2:off=q
   ·subst e2
    rw [hcur]at hd
    obtain rfl:=Option.some.inj hd
    have:=(Array.getElem?_eq_some_iff.1 hcur).1
    exact⟨u,by simp [this],hv⟩
   ·exact⟨x,by rw [Array.getElem?_setIfInBounds_ne e2];exact hd,.refl _⟩
  ·exact⟨x,by rw [World.cell?_of_block (w:=w) (hu2.block d e)];exact hd,.refl _⟩
 ·by_cases e:d=b
  ·subst e
   simp only [World.frozen?,hrow,hrow2]at hf ⊢
   exact hf
  ·rw [EW (hu2.block d e)];exact hf
end
/-! ## Worlds, in fewer words -/
theorem fD{p:Nat->Prop}{w a b:World}(h:DG p w a)(k:AJ a b):DG p w b∧a.heap.size<=b.heap.size:=⟨h.ext k,k.size⟩
theorem Hp{p q:Nat->Prop}{w a b:World}(h:DG p w a)(k:DG q a b)(hq:∀k,q k->p k∨w.heap.size<=k):DG p w b∧a.heap.size<=b.heap.size:=⟨h.sim k hq,k.but.size⟩
theorem AB.slG{α:Type}{c:Bp α}{w:World}{B:Nat}{S S':Nat->Prop}{e:TypeId}{xs:List α}{v:Value}(h:AB c w B S e xs v)(hS:∀k,S k->S' k)(hb:∀g,v.ownBlock=some g->S' g):AD c w S' xs v:=by
 obtain⟨cs,h0,h3⟩:=h
 have h0':=h0
 obtain⟨hl,⟨rfl,hn⟩|⟨g,cap,cur,rfl,_,hh,h5,h6,h7,h8⟩⟩:=h0'
 ·have:xs=[]:=List.eq_nil_of_length_eq_zero hn
  subst this;exact AD.nil _ _ _
 ·refine⟨some ⟨g,0,none⟩,cap,rfl,⟨h5,fun h=>by cases h⟩,by simpa [maxLen] using h6,fun hpos=>⟨g,0,rfl,hb g rfl,fun i x hx=>⟨_,c.mono (h3 i x hx) hS (fun _ _=>rfl),fun j u hu=>?_⟩⟩⟩
  have hjn:j<c.n:=by
   have:=(List.getElem?_eq_some_iff.1 hu).1
   simp [Ae]at this;omega
  rw [Av hjn]at hu
  have:=h0.cells (g:=g) rfl _ _ hu
  rw [CA]at this
  rw [show 0+i*c.n+j=0+(i*c.n+j) by omega];exact⟨this,by simp [World.frozen?,hh]⟩
theorem nr{n:Nat}:n<=n:=Nat.le_refl n
end Go.Eng
namespace Go.Eng
open Go Go.RowKit
/-! ## Own slices of own slices: built by literals and appends, written by calls -/
def Mj:Bp Value where
 n:=1
 rep:=fun _ _ x vs=>vs=[x]∧x.oneCell'=true
 len:=fun h=>by rw [h.1];rfl
 one:=fun h=>by rw [h.1];simp [h.2]
 mono:=fun h _ _=>h
instance:CM Mj:=⟨fun h=>h⟩
theorem cQ{w:World}{B:Nat}{S:Nat->Prop}{e:TypeId}{vs:List Value}{v:Value}(h:AB Mj w B S e vs v):w.ownsRow B e 1 v vs.length vs:=by
 obtain⟨cs,h1,h2⟩:=h
 have hl:cs.length=vs.length:=by have:=h1.1;simpa [Mj] using this
 have e1:cs=vs:=by
  apply List.ext_getElem?
  intro i
  by_cases hi:i<vs.length
  ·have h3:=(h2 i vs[i] (List.getElem?_eq_getElem hi)).1
   have h4:(Ae cs 1 i)[0]? =some vs[i]:=by rw [show Ae cs 1 i=[vs[i]]from h3];rfl
   rw [Av (by omega)]at h4
   rw [List.getElem?_eq_getElem hi,←h4];congr 1;omega
  ·rw [List.getElem?_eq_none (by omega),List.getElem?_eq_none (by omega)]
 rw [e1]at h1;exact h1
section
variable {α:Type} {c:Bp α} [CM c] {w w':World} {B B1 B2 hi lo1 hi1 lo2 hi2:Nat} {S:Nat -> Prop} {e1 e2:TypeId} {xss:List (List α)} {xs ys:List α} {v u t:Value} {vs:List Value}
theorem own2.raw(h:own2 c w B hi e1 e2 xss v vs):AB Mj w B (Iv 0 0) e1 vs v:=by
 have hl:vs.length=xss.length:=by have:=h.1.1;omega
 have h1:=h.1
 rw [←hl]at h1
 refine⟨vs,h1,fun i x hx=>⟨eV hx,?_⟩⟩
 have hi:i<xss.length:=by have:=(List.getElem?_eq_some_iff.1 hx).1;omega
 exact(h.2.1 i _ x (List.getElem?_eq_getElem hi) hx).1.one
theorem own2.of(h:AB Mj w B S e1 vs v)(hl:vs.length=xss.length)(hin:∀(i:Nat) (xs:List α) (u:Value),xss[i]? =some xs->vs[i]? =some u->AB c w B (Iv 0 0) e2 xs u∧Bd u B hi∧No v u)
 (hd:∀(i j:Nat) (u u':Value),i≠j->vs[i]? =some u->vs[j]? =some u'->No u u'):own2 c w B hi e1 e2 xss v vs:=by
 have h1:=cQ h
 rw [hl]at h1
 exact⟨h1,hin,hd⟩
theorem own2.base{B':Nat}(h:own2 c w B hi e1 e2 xss v vs)(hB:B'<=B):own2 c w B' hi e1 e2 xss v vs:=by
 refine own2.of (AB.base h.raw hB) (by have:=h.1.1;omega) (fun i xs u hx hu=>?_) h.2.2
 obtain⟨p,q,r⟩:=h.2.1 i xs u hx hu
 exact⟨p.base hB,fun g hg=>by have:=q g hg;omega,r⟩
theorem own2.lit0(h:AB Mj w B S e1 [] v):own2 c w B hi e1 e2 ([]:List (List α)) v []:=
 own2.of h rfl (fun i xs u hx=>by simp at hx) (fun i j u u' _ hx=>by simp at hx)
theorem own2.lit1{g:Nat}(h:AB Mj w g S e1 [u] v)(h1:AB c w B1 (Iv 0 0) e2 xs u)(hb:Bd v g (g+1))(b1:Bd u lo1 hi1)(hB:B<=B1)(hg:B<=g)(hl:B<=lo1)(hh:hi1<=g):own2 c w B g e1 e2 [xs] v [u]:=by
 refine own2.of (AB.base h hg) rfl (fun i x t hx ht=>?_) (fun i j t t' hij ht ht'=>?_)
 ·match i with
  |0=>
   obtain rfl:xs=x:=Option.some.inj hx
   obtain rfl:u=t:=Option.some.inj ht
   exact⟨h1.base hB,fun q hq=>by have:=b1 q hq;omega,fun q q' hq hq'=>by have:=hb q hq;have:=b1 q' hq';omega⟩
  |i+1=>simp at hx
 ·match i,j with
  |0,0=>exact absurd rfl hij
  |0,j+1=>simp at ht'
  |i+1,_=>simp at ht
theorem own2.lit2{g:Nat}(h:AB Mj w g S e1 [u,t] v)(h1:AB c w B1 (Iv 0 0) e2 xs u)(h2:AB c w B2 (Iv 0 0) e2 ys t)(hb:Bd v g (g+1))(b1:Bd u lo1 hi1)(b2:Bd t lo2 hi2)(hd:No u t)
 (hB:B<=B1) (hB2:B<=B2) (hg:B<=g) (hl:B<=lo1) (hl2:B<=lo2) (hh:hi1<=g) (hh2:hi2<=g):own2 c w B g e1 e2 [xs,ys] v [u,t]:=by
 refine own2.of (AB.base h hg) rfl (fun i x z hx hz=>?_) (fun i j z z' hij hz hz'=>?_)
 ·match i with
  |0=>
   obtain rfl:xs=x:=Option.some.inj hx
   obtain rfl:u=z:=Option.some.inj hz
   exact⟨h1.base hB,fun q hq=>by have:=b1 q hq;omega,fun q q' hq hq'=>by have:=hb q hq;have:=b1 q' hq';omega⟩
  |1=>
   obtain rfl:ys=x:=Option.some.inj hx
   obtain rfl:t=z:=Option.some.inj hz
   exact⟨h2.base hB2,fun q hq=>by have:=b2 q hq;omega,fun q q' hq hq'=>by have:=hb q hq;have:=b2 q' hq';omega⟩
  |i+2=>simp at hx
 ·match i,j with
  |0,0=>exact absurd rfl hij
  |1,1=>exact absurd rfl hij
  |0,1=>
   obtain rfl:u=z:=Option.some.inj hz
   obtain rfl:t=z':=Option.some.inj hz'
   exact hd
  |1,0=>
   obtain rfl:t=z:=Option.some.inj hz
   obtain rfl:u=z':=Option.some.inj hz'
   exact hd.symm
  |i+2,_=>simp at hz
  |_,j+2=>simp at hz'
theorem own2.put{m:Int}{zs:List α}(h:own2 c w B hi e1 e2 xss v vs)(hy:AE xss m=some xs)(hu:vs[m.toNat]? =some u)(hb:CS (pO u) w w')(hle:hi<=w.heap.size)(ho:AB c w' B1 (Iv 0 0) e2 zs u)(hB:B<=B1):own2 c w' B hi e1 e2 (xss.set m.toNat zs) v vs:=by
 obtain⟨_,hbu,hvu⟩:=h.sub hy hu
 obtain⟨a,b,d⟩:=h
 refine⟨?_,fun i x t hx ht=>?_,d⟩
 ·rw [List.length_set]
  exact ownsRow.keep a (fun g hg=>hb.block g (a.lt g hg).2 (fun e=>hvu g g hg e rfl))
 ·rcases Ms hx with ⟨rfl,rfl⟩|⟨hne,hx3⟩
  ·obtain rfl:u=t:=Option.some.inj (hu.symm.trans ht)
   exact⟨ho.base hB,hbu,hvu⟩
  ·obtain⟨p,q,r⟩:=b i x t hx3 ht
   exact⟨p.keep (fun g hg=>hb.block g (by have:=q g hg;omega) (fun e=>d m.toNat i u t hne hu ht g g e hg rfl)) (fun _ h=>h) (fun k h=>absurd h.2 (Nat.not_lt_zero k)),q,r⟩
end
theorem XG{α β:Type}{xs ys zs:List α}{vs us:List β}{k:Nat}(h:Dj xs ys k=some zs)(h1:vs.length=xs.length)(h2:us.length=ys.length):Dj vs us k=some (vs++us)∧zs=xs++ys:=by
 unfold Dj at h ⊢
 rw [h1,h2]
 split at h
 ·rename_i hc
  rw [if_pos hc];exact⟨rfl,(Option.some.inj h).symm⟩
 ·cases h
section
variable {P:Program} {N:Nat} {K:KL} {o:Oper} {α:Type} {c:Bp α} [CM c] {w:World} {B hi B2 hi2:Nat} {e1 e2:TypeId} {xss yss zss:List (List α)} {v u:Value} {vs us:List Value}
theorem Pt{t x y zc sz by'}(ho:o.op= .call { callee:=.builtin .append,args:=#[x,y],argTypes:=#[t,t] })(hu:P.underlying t=some (.slice e1))(hi1:Ca P e1=some (zc,sz,by'))(hsz:sz=1)(hzc:zc.length=sz)
 (hx:Bm K x=some v) (hy:Bm K y=some u) (h:own2 c w B hi e1 e2 xss v vs) (h2:own2 c w B2 hi2 e1 e2 yss u us) (hB:B<=w.heap.size) (hle:hi<=B2) (hBB:B<=B2) (hh2:hi2<=w.heap.size) (hh:hi<=w.heap.size) (hns:Ns v B2 hi2) (ha:Dj xss yss by'=some zss):
 Fx P N K o w (fun v' w'=>own2 c w' B w'.heap.size e1 e2 zss v' (vs++us)∧BN w w' v v'):=by
 have hl1:vs.length=xss.length:=by have:=h.1.1;omega
 have hl2:us.length=yss.length:=by have:=h2.1.1;omega
 obtain⟨ha2,rfl⟩:=XG ha hl1 hl2
 intro a hK Kt Q hk
 refine BB (c:=Mj) (S2:=Iv 0 w.heap.size) ho hu hi1 hsz hzc rfl hx hy h.raw hB (AB.slf h2.raw (Nat.zero_le _) (Nat.le_refl _)) ha2 a hK Kt Q ?_
 rintro v' w' ⟨h3,h4⟩
 have hsize:=h4.1.size
 have nv:∀q,q<w.heap.size->(∀g,v.ownBlock=some g->g≠q)->∀g,v'.ownBlock=some g->g≠q:=fun q hq hne g hg=>by
  rcases h4.2 g hg with h5|h5
  ·exact hne g h5
  ·omega
 have one:∀{B3 hi3:Nat} {xs:List α} {t:Value},hi3<=w.heap.size->B<=B3->(∀g q,v.ownBlock=some g->t.ownBlock=some q->g≠q)->AB c w B3 (Iv 0 0) e2 xs t->Bd t B3 hi3->AB c w' B (Iv 0 0) e2 xs t∧Bd t B w'.heap.size∧No v' t:=fun hh3 hB3 hne p q=>
  ⟨(p.keep (fun g hg=>h4.1.block g (by have:=q g hg;omega) (fun e=>hne g g e.symm hg rfl)) (fun _ h=>h) (fun k h=>absurd h.2 (Nat.not_lt_zero k))).base hB3,fun g hg=>by have:=q g hg;omega,fun g q2 hg hq=>nv q2 (by have:=q q2 hq;omega) (fun g2 hg2=>hne g2 q2 hg2 hq) g hg⟩
 have get:∀i t,(vs++us)[i]? =some t->(i<vs.length∧vs[i]? =some t)∨(vs.length<=i∧us[i-vs.length]? =some t):=fun i t h=>by
  by_cases hi:i<vs.length
  ·rw [List.getElem?_append_left hi]at h;exact .inl ⟨hi,h⟩
  ·rw [List.getElem?_append_right (by omega)]at h;exact .inr ⟨by omega,h⟩
 have lo:∀i t,vs[i]? =some t->Bd t B hi∧No v t:=fun i t ht=>by
  have hi:i<xss.length:=by have:=(List.getElem?_eq_some_iff.1 ht).1;omega
  exact(h.2.1 i _ t (List.getElem?_eq_getElem hi) ht).2
 have up:∀i t,us[i]? =some t->Bd t B2 hi2:=fun i t ht=>by
  have hi:i<yss.length:=by have:=(List.getElem?_eq_some_iff.1 ht).1;omega
  exact(h2.2.1 i _ t (List.getElem?_eq_getElem hi) ht).2.1
 refine hk _ _ ⟨own2.of h3 (by simp;omega) (fun i xs t hx2 ht=>?_) (fun i j t t' hij ht ht'=>?_),h4⟩
 ·rcases get i t ht with ⟨h5,h6⟩|⟨h5,h6⟩
  ·rw [List.getElem?_append_left (by omega)]at hx2
   obtain⟨p,q,r⟩:=h.2.1 i xs t hx2 h6
   exact one hh (Nat.le_refl _) r p q
  ·rw [List.getElem?_append_right (by omega)]at hx2
   obtain⟨p,q,r⟩:=h2.2.1 (i-vs.length) xs t (by rw [hl1];exact hx2) h6
   exact one hh2 hBB (fun g q2 hg hq=>by have:=hns g hg;have:=q q2 hq;omega) p q
 ·rcases get i t ht with ⟨h5,h6⟩|⟨h5,h6⟩<;>rcases get j t' ht' with ⟨h7,h8⟩|⟨h7,h8⟩
  ·exact h.2.2 i j t t' hij h6 h8
  ·intro g q hg hq;have:=(lo i t h6).1 g hg;have:=up _ t' h8 q hq;omega
  ·intro g q hg hq;have:=(lo j t' h8).1 q hq;have:=up _ t h6 g hg;omega
  ·exact h2.2.2 (i-vs.length) (j-vs.length) t t' (by omega) h6 h8
end
end Go.Eng
namespace Go.Eng
open Go Go.RowKit
/-! ## A slice that is handed over to grow -/
def Gr(w:World)(v v':Value):Prop:=∀g,v'.ownBlock=some g->v.ownBlock=some g∨w.heap.size<=g
theorem Gr.refl(w:World)(v:Value):Gr w v v:=fun g hg=>.inl hg
theorem Gr.grew{w w1 w2:World}{v v1 v2:Value}(h:Gr w v v1)(hw:w.heap.size<=w1.heap.size)(hg:BN w1 w2 v1 v2):Gr w v v2:=fun g hv=>by
 rcases hg.2 g hv with h1|h1
 ·exact h g h1
 ·exact .inr (by omega)
theorem BN.of{w w':World}{v v':Value}(h:CS (pO v) w w')(g:Gr w v v'):BN w w' v v':=
 ⟨⟨h.os,h.tape,h.output,h.size,fun k hk hne=>h.block k hk (fun e=>hne e.symm)⟩,g⟩
end Go.Eng
namespace Go.Eng
open Go Go.RowKit
/-! ## The end of an own slice, that may grow -/
def FC{α:Type}(c:Bp α)(w:World)(B:Nat)(e:TypeId)(xs:List α)(v:Value):Prop:=
 ∃cs,cs.length=xs.length*c.n∧(∀i x,xs[i]? =some x->c.rep w (Iv 0 0) x (Ae cs c.n i))∧
  (v= .slice none 0 0∧xs.length=0∨∃g off cap cur,v= .slice (some ⟨g,off,none⟩) xs.length cap∧B<=g∧w.heap[g]? =some (.cells cur e (0,0))∧xs.length<=cap∧cap<=maxLen∧off+cap*c.n<=cur.size∧(cur.toList.drop off).take (xs.length*c.n)=cs)
section
variable {α:Type} {c:Bp α} {w w':World} {B:Nat} {e:TypeId} {xs zs:List α} {v u:Value}
theorem FC.of(h:AB c w B (Iv 0 0) e xs v):FC c w B e xs v:=by
 obtain⟨cs,⟨hl,h1⟩,h3⟩:=h
 refine⟨cs,hl,h3,?_⟩
 rcases h1 with h1|⟨g,cap,cur,rfl,a1,a2,a3,a4,a5,a6⟩
 ·exact .inl h1
 ·exact .inr ⟨g,0,cap,cur,rfl,a1,a2,a3,a4,by omega,by simpa using a6⟩
theorem FC.blk(h:FC c w B e xs v):Bd v B w.heap.size:=by
 obtain⟨cs,_,_,⟨rfl,_⟩|⟨g,off,cap,cur,rfl,a1,a2,_⟩⟩:=h
 ·intro g hg;cases hg
 ·intro q hq
  simp [Value.ownBlock]at hq;subst hq
  exact⟨a1,(Array.getElem?_eq_some_iff.1 a2).1⟩
theorem FC.base{B':Nat}(h:FC c w B e xs v)(hB:B'<=B):FC c w B' e xs v:=by
 obtain⟨cs,h1,h2,h3⟩:=h
 refine⟨cs,h1,h2,?_⟩
 rcases h3 with h3|⟨g,off,cap,cur,a0,a1,rest⟩
 ·exact .inl h3
 ·exact .inr ⟨g,off,cap,cur,a0,by omega,rest⟩
theorem FC.keep[CM c](h:FC c w B e xs v)(hg:∀g,v.ownBlock=some g->w'.heap[g]? =w.heap[g]?):FC c w' B e xs v:=by
 obtain⟨cs,h1,h2,h3⟩:=h
 refine⟨cs,h1,fun i x hx=>CM.any (h2 i x hx),?_⟩
 rcases h3 with h3|⟨g,off,cap,cur,rfl,a1,a2,rest⟩
 ·exact .inl h3
 ·exact .inr ⟨g,off,cap,cur,rfl,a1,(hg g rfl).trans a2,rest⟩
theorem FC.ext[CM c](h:FC c w B e xs v)(he:AJ w w'):FC c w' B e xs v:=h.keep (fun g hg=>he.block g (h.blk g hg).2)
theorem FC.upd[CM c]{b:Nat}(h:FC c w B e xs v)(hu:Gi b w w')(hne:Nb v b):FC c w' B e xs v:=h.keep (fun g hg=>hu.block g (hne g hg))
theorem FC.butF[CM c]{p:Nat->Prop}(h:FC c w B e xs v)(hb:CS p w w')(hne:∀k,p k->∀g,v.ownBlock=some g->k≠g):FC c w' B e xs v:=h.keep (fun g hg=>hb.block g (h.blk g hg).2 (fun e=>hne g e g hg rfl))
theorem FC.sl[CM c]{S:Nat->Prop}(h:FC c w B e xs v)(hb:∀g,v.ownBlock=some g->S g):AD c w S xs v:=by
 obtain⟨cs,hl,h3,⟨rfl,hn⟩|⟨g,off,cap,cur,rfl,_,hh,h5,h6,h7,h8⟩⟩:=h
 ·have:xs=[]:=List.eq_nil_of_length_eq_zero hn
  subst this;exact AD.nil _ _ _
 ·refine⟨some ⟨g,off,none⟩,cap,rfl,⟨h5,fun h=>by cases h⟩,by simpa [maxLen] using h6,fun hpos=>⟨g,off,rfl,hb g rfl,fun i x hx=>⟨_,CM.any (h3 i x hx),fun j u hu=>?_⟩⟩⟩
  have hjn:j<c.n:=by
   have:=(List.getElem?_eq_some_iff.1 hu).1
   simp [Ae]at this;omega
  have hi:i<xs.length:=(List.getElem?_eq_some_iff.1 hx).1
  rw [Av hjn,←h8,List.getElem?_take]at hu
  split at hu
  ·rw [List.getElem?_drop]at hu
   have e1:off+i*c.n+j=off+(i*c.n+j):=by omega
   rw [e1]
   refine⟨?_,by simp [World.frozen?,hh]⟩
   have hu2:cur[off+(i*c.n+j)]? =some u:=by simpa using hu
   rw [cell_of_row w g _ cur e (0,0) hh];exact hu2
  ·cases hu
theorem FC.slf[CM c]{lo hi:Nat}(h:FC c w B e xs v)(h1:lo<=B)(h2:w.heap.size<=hi):AD c w (Iv lo hi) xs v:=h.sl (fun g hg=>by have:=h.blk g hg;exact⟨by omega,by omega⟩)
theorem FC.slb[CM c]{lo hi:Nat}(h:FC c w B e xs v)(hb:Bd v lo hi):AD c w (Iv lo hi) xs v:=h.sl hb
section
variable {P:Program} {N:Nat} {K:KL} {o:Oper} {S:Nat -> Prop}
variable {ys:List α}
end
end
end Go.Eng
namespace Go.Eng
open Go Go.RowKit
/-! ## Short words for the plain texts -/
theorem Au{α β:Type}{a:α}{f:α->Option β}:Option.bind (some a) f=f a:=rfl
theorem cT{α:Type}{x y:α}:(bif true then x else y)=x:=rfl
theorem cF{α:Type}{x y:α}:(bif false then x else y)=y:=rfl
theorem wT(i:Nat)(h:i<4611686018427387904:=by omega):IntKind.wrap IntKind.i64 ((i:Int)+1)=((i+1:Nat):Int):=VK h
theorem BQ{α:Type}{a r:α}(h:some a=some r):r=a:=(Option.some.inj h).symm
theorem bft(b:Bool):b=true∨b=false:=Bool.eq_false_or_eq_true b
end Go.Eng
namespace Go.Eng
open Go Go.RowKit
/-! ## Parts of an own slice: its beginning, its end, and clear -/
def Xw(v:Value)(i n:Nat):Value:=match v with
 | .slice a m cap=>.slice (if cap=i then a else a.map (·.add (i*n))) (m-i) (cap-i)
 |v=>v
section
variable {α:Type} {c:Bp α} {w w':World} {B:Nat} {S:Nat -> Prop} {e:TypeId} {xs zs:List α} {v u:Value}
theorem Gr.cut{w:World}{v v':Value}{m:Nat}(h:Gr w v v'):Gr w v (kL v' m):=fun g hg=>h g (by rwa [YW]at hg)
section
variable {P:Program} {N:Nat} {K:KL} {o:Oper}
theorem cC{t x lo k1 m1}(ho:o.op= .slice t x (some lo) none none)(hu:P.underlying t=some (.slice e))(hc:Am P e=some c.n)(hx:Bm K x=some v)(h1:Bm K lo=some (.int k1 m1))
 (hs:AB c w B S e xs v) (hz:NI xs m1 xs.length=some zs):YE P N K o w (fun u=>u=Xw v m1.toNat c.n∧zs=xs.drop m1.toNat∧m1.toNat<=xs.length):=by
 obtain⟨cs,⟨hl,hv⟩,h3⟩:=hs
 unfold NI at hz
 split at hz
 ·rename_i hb
  injection hz with hz;subst hz
  have he:(xs.take ((xs.length:Int)).toNat).drop m1.toNat=xs.drop m1.toNat:=by simp
  obtain⟨i,hi2,hsz⟩:=Option.map_eq_some_iff.1 hc
  have hcap:∃a cap,v= .slice a xs.length cap∧xs.length<=cap:=by
   rcases hv with ⟨rfl,h0⟩|⟨g,cap,cur,rfl,a1,a2,a3,_⟩
   ·exact⟨none,0,by rw [h0],by omega⟩
   ·exact⟨_,cap,rfl,a3⟩
  obtain⟨a,cap,rfl,hle⟩:=hcap
  refine⟨Xw (.slice a xs.length cap) m1.toNat c.n,fun a' hK w' hx'=>?_,rfl,he,by omega⟩
  have e2:(Instr.sliceBound (.int k1 m1) xs.length .sliceB).run P w'= .ok m1.toNat w':=FU (by omega) (by omega)
  simp [Xw,execOp,ho,hK.ev hx,hK.ev h1,Instr.sliceAt,Instr.slice,run_underlying hu,Instr.sliceBounds,e2,sizeOf,typeInfo,hi2,hsz]
 ·cases hz
end
end
end Go.Eng
namespace Go.Eng
open Go Go.RowKit
/-! ## Numbers that turn within what is only read: what is read then is told by its shape -/
inductive Pb:Value->Value->Prop
 |refl (u:Value):Pb u u
 |int (k:IntKind) (m n:Int):Pb (.int k m) (.int k n)
theorem Pb.trans{a b c:Value}(h:Pb a b)(k:Pb b c):Pb a c:=by
 cases h with
 |refl=>exact k
 |int kk m n=>cases k with
  |refl=>exact .int kk m n
  |int _ _ q=>exact .int kk m q
def UC(us vs:List Value):Prop:=us.length=vs.length∧∀(j:Nat) (u v:Value),us[j]? =some u->vs[j]? =some v->Pb u v
theorem UC.refl(us:List Value):UC us us:=⟨rfl,fun j u v h k=>by rw [h]at k;obtain rfl:=Option.some.inj k;exact .refl _⟩
theorem UC.one{u:Value}{vs:List Value}(h:UC [u] vs):∃v,vs=[v]∧Pb u v:=by
 obtain⟨v,rfl⟩:=List.length_eq_one_iff.1 h.1.symm
 exact⟨v,rfl,h.2 0 u v rfl rfl⟩
theorem UC.app{us ts vs:List Value}(h:UC (us++ts) vs):∃vs1 vs2,vs=vs1++vs2∧UC us vs1∧UC ts vs2:=by
 obtain⟨h1,h2⟩:=h
 rw [List.length_append]at h1
 refine⟨vs.take us.length,vs.drop us.length,(List.take_append_drop _ _).symm,⟨by simp;omega,fun j u v hu hv=>?_⟩,⟨by simp;omega,fun j u v hu hv=>?_⟩⟩
 ·have hj:=(List.getElem?_eq_some_iff.1 hu).1
  rw [List.getElem?_take,if_pos hj]at hv
  exact h2 j u v (by rw [List.getElem?_append_left hj];exact hu) hv
 ·rw [List.getElem?_drop]at hv
  exact h2 (us.length+j) u v (by rw [List.getElem?_append_right (by omega),Nat.add_sub_cancel_left];exact hu) hv
structure eN(b:Nat)(w w':World):Prop where
 upd:Gi b w w'
 cell:∀d off u,w.cell? ⟨d,off,none⟩=some u->∃u',w'.cell? ⟨d,off,none⟩=some u'∧Pb u u'
 froz:∀d off,d<w.heap.size->w.frozen? ⟨d,off,none⟩=false->w'.frozen? ⟨d,off,none⟩=false
 row:∀cur ty fz,w.heap[b]? =some (.cells cur ty fz)->∃cur',w'.heap[b]? =some (.cells cur' ty fz)∧UC cur.toList cur'.toList
theorem AM.siB{c:Nat}{w w':World}(hs:eN c w w'){b:Nat}:∀{us:List Value} {off:Nat},AM w b off us->∃us',UC us us'∧AM w' b off us'
 |[],off,_=>⟨[],UC.refl _,fun j u h=>by simp at h⟩
 |u::us,off,h=>by
  obtain⟨⟨h1,h2⟩,h3⟩:=h.cons
  obtain⟨us',⟨k1,k2⟩,k3⟩:=AM.siB hs h3
  obtain⟨u',h4,h5⟩:=hs.cell b off u h1
  refine⟨u'::us',⟨by simp [k1],fun j x y hx hy=>?_⟩,AM.mk ⟨h4,hs.froz b off (World.block_lt_of_cell? _ _ h1) h2⟩ k3⟩
  cases j with
  |zero=>obtain rfl:u=x:=by simpa using hx
         obtain rfl:u'=y:=by simpa using hy
         exact h5
  |succ j=>exact k2 j x y (by simpa using hx) (by simpa using hy)
def Sv{α:Type}(r:α->α->Prop)(xs ys:List α):Prop:=ys.length=xs.length∧∀(i:Nat) (x y:α),xs[i]? =some x->ys[i]? =some y->r x y
theorem Sv.pick{α:Type}{r:Nat->α->α->Prop}:∀{xs:List α} {s:Nat},(∀(i:Nat) (x:α),xs[i]? =some x->∃y,r (s+i) x y)->∃ys:List α,ys.length=xs.length∧∀(i:Nat) (x y:α),xs[i]? =some x->ys[i]? =some y->r (s+i) x y
 |[],s,_=>⟨[],rfl,fun i x y h=>by simp at h⟩
 |x::xs,s,h=>by
  obtain⟨y,hy⟩:=h 0 x rfl
  obtain⟨ys,h1,h2⟩:=Sv.pick (r:=r) (xs:=xs) (s:=s+1) fun i z hz=>by
   have:=h (i+1) z (by simpa using hz)
   rwa [show s+(i+1)=s+1+i by omega]at this
  refine⟨y::ys,by simp [h1],fun i a b ha hb=>?_⟩
  cases i with
  |zero=>obtain rfl:x=a:=by simpa using ha
         obtain rfl:y=b:=by simpa using hb
         exact hy
  |succ i=>have:=h2 i a b (by simpa using ha) (by simpa using hb)
           rwa [show s+1+i=s+(i+1) by omega]at this
class Vb{α:Type}(c:Bp α)(r:outParam (α->α->Prop)):Prop where
 sim:∀{b:Nat} {w w':World} {S:Nat->Prop} {x:α} {vs vs':List Value},c.rep w S x vs->eN b w w'->UC vs vs'->∃x',r x x'∧c.rep w' S x' vs'
instance (k:IntKind):Vb (AL k) (fun _ _=>True):=⟨fun e _ h=>by
 obtain rfl:=e;obtain⟨v,rfl,h2⟩:=h.one
 cases h2 with
 |refl=>exact⟨_,trivial,rfl⟩
 |int _ _ n=>exact⟨n,trivial,rfl⟩⟩
instance:Vb BH Eq:=⟨fun e _ h=>by
 obtain rfl:=e;obtain⟨v,rfl,h2⟩:=h.one
 cases h2;exact⟨_,rfl,rfl⟩⟩
instance:Vb At Eq:=⟨fun e _ h=>by
 obtain rfl:=e;obtain⟨v,rfl,h2⟩:=h.one
 cases h2;exact⟨_,rfl,rfl⟩⟩
instance {α β:Type}(c:Bp α)(d:Bp β)(r:α->α->Prop)(q:β->β->Prop)[hc:Vb c r][hd:Vb d q]:Vb (Ai c d) (fun x y=>r x.1 y.1∧q x.2 y.2):=⟨fun⟨us,ts,e,h1,h2⟩ hs h=>by
 subst e;obtain⟨vs1,vs2,rfl,k1,k2⟩:=h.app
 obtain⟨x,a1,a2⟩:=hc.sim h1 hs k1
 obtain⟨y,b1,b2⟩:=hd.sim h2 hs k2
 exact⟨(x,y),⟨a1,b1⟩,vs1,vs2,rfl,a2,b2⟩⟩
theorem Vb.map{α β:Type}{c:Bp α}{r:α->α->Prop}[hc:Vb c r](f:β->α)(g:α->β)(h:∀y,f (g y)=y):Vb (Bn f c) (fun x y=>r (f x) (f y)):=⟨fun k hs hv=>by
 obtain⟨y,a1,a2⟩:=hc.sim k hs hv
 exact⟨g y,by show r _ (f (g y));rw [h];exact a1,by show c.rep _ _ (f (g y)) _;rw [h];exact a2⟩⟩
section
variable {α:Type} {c:Bp α} {r:α -> α -> Prop} [hc:Vb c r] {b:Nat} {w w':World} {S:Nat -> Prop} {xs:List α} {v:Value}
theorem AD.siB(h:AD c w S xs v)(hs:eN b w w'):∃ys,Sv r xs ys∧AD c w' S ys v:=by
 obtain⟨a,cap,h1,h2,h3,h4⟩:=h
 by_cases hl:0<xs.length
 ·obtain⟨d,off,h5,h6,h8⟩:=h4 hl
  obtain⟨ys,k1,k2⟩:=Sv.pick (r:=fun i x y=>r x y∧∃us,c.rep w' S y us∧AM w' d (off+i*c.n) us) (xs:=xs) (s:=0) fun i x hx=>by
   obtain⟨us,h9,h10⟩:=h8 i x hx
   obtain⟨us',q1,q2⟩:=h10.siB hs
   obtain⟨y,p1,p2⟩:=hc.sim h9 hs q1
   exact⟨y,p1,us',p2,by rw [Nat.zero_add];exact q2⟩
  have get:∀i x,xs[i]? =some x->∃y,ys[i]? =some y:=fun i x hx=>⟨_,List.getElem?_eq_getElem (by have:=(List.getElem?_eq_some_iff.1 hx).1;omega)⟩
  refine⟨ys,⟨k1,fun i x y hx hy=>(k2 i x y hx hy).1⟩,a,cap,by rw [k1];exact h1,by rw [k1];exact h2,h3,fun _=>⟨d,off,h5,h6,fun i y hy=>?_⟩⟩
  have hx:xs[i]? =some (xs[i]'(by have:=(List.getElem?_eq_some_iff.1 hy).1;omega)):=List.getElem?_eq_getElem _
  have:=(k2 i _ y hx hy).2
  rwa [Nat.zero_add]at this
 ·obtain rfl:xs=[]:=List.eq_nil_of_length_eq_zero (by omega)
  exact⟨[],⟨rfl,fun i x y h=>by simp at h⟩,a,cap,h1,h2,h3,fun h=>absurd h hl⟩
theorem AB.siB{B:Nat}{e:TypeId}(h:AB c w B S e xs v)(hs:eN b w w')(hb:∀g,v.ownBlock=some g->g≠b):∃ys,Sv r xs ys∧AB c w' B S e ys v:=by
 obtain⟨cs,h1,h2⟩:=h
 obtain⟨ys,k1,k2⟩:=Sv.pick (r:=fun i x y=>r x y∧c.rep w' S y (Ae cs c.n i)) (xs:=xs) (s:=0) fun i x hx=>by
  obtain⟨y,p1,p2⟩:=hc.sim (h2 i x hx) hs (UC.refl _)
  exact⟨y,p1,by rw [Nat.zero_add];exact p2⟩
 refine⟨ys,⟨k1,fun i x y hx hy=>(k2 i x y hx hy).1⟩,cs,by rw [k1];exact ownsRow.keep h1 (fun g hg=>hs.upd.block g (hb g hg)),fun i y hy=>?_⟩
 have hx:xs[i]? =some (xs[i]'(by have:=(List.getElem?_eq_some_iff.1 hy).1;omega)):=List.getElem?_eq_getElem _
 have:=(k2 i _ y hx hy).2
 rwa [Nat.zero_add]at this
end
instance {α:Type}(c:Bp α)(r:α->α->Prop)[Vb c r]:Vb (Ci c) (Sv r):=⟨fun⟨v,e,h⟩ hs k=>by
 subst e;obtain⟨v',rfl,k2⟩:=k.one
 obtain⟨a,cap,rfl,_⟩:=id h
 obtain⟨ys,p1,p2⟩:=h.siB hs
 cases k2
 exact⟨ys,p1,_,rfl,p2⟩⟩
section
variable {P:Program} {N:Nat} {o:Oper} {K:KL} {w:World}
end
/-! ## What a slice's elements lead to, but for the blocks of one kind -/
def Oy(w:World)(k:Nat):Option TypeId:=match w.heap[k]? with
 |some (.cells _ e _)=>some e
 |_=>none
def RT(w:World)(B hi:Nat)(v:Value)(tx:TypeId):Nat->Prop:=fun k=>SX B hi v k∧Oy w k≠some tx
def GF{α:Type}(c:Bp α)(w:World)(B hi:Nat)(e:TypeId)(xs:List α)(v:Value)(tx:TypeId):Prop:=AB c w B (RT w B hi v tx) e xs v
theorem Oy.same{w w':World}{k:Nat}(h:w'.heap[k]? =w.heap[k]?):Oy w' k=Oy w k:=by unfold Oy;rw [h]
section
variable {α:Type} {c:Bp α} {w w':World} {B hi:Nat} {e tx:TypeId} {xs:List α} {v:Value}
theorem GF.keep(h:GF c w B hi e xs v tx)(h1:∀g,v.ownBlock=some g->w'.heap[g]? =w.heap[g]?)(h2:∀k,RT w B hi v tx k->w'.heap[k]? =w.heap[k]?):GF c w' B hi e xs v tx:=
 AB.keep h h1 (fun k q=>⟨q.1,by rw [Oy.same (h2 k q)];exact q.2⟩) h2
theorem GF.ext(h:GF c w B hi e xs v tx)(he:AJ w w')(hle:hi<=w.heap.size):GF c w' B hi e xs v tx:=
 h.keep (fun g hg=>he.block g (AB.blk h g hg).2) (fun k q=>he.block k (by have:=q.1.2.1;omega))
theorem GF.upd{b:Nat}(h:GF c w B hi e xs v tx)(hu:Gi b w w')(hne:∀g,v.ownBlock=some g->g≠b)(hb:b<B∨hi<=b:=by omega):GF c w' B hi e xs v tx:=
 h.keep (fun g hg=>hu.block g (hne g hg)) (fun k q=>hu.block k (by have:=q.1.1;have:=q.1.2.1;omega))
theorem GF.but{p:Nat->Prop}(h:GF c w B hi e xs v tx)(hb:CS p w w')(hne:∀k,p k->∀g,v.ownBlock=some g->k≠g)(hle:hi<=w.heap.size)(hs:∀k,p k->k<B∨hi<=k):GF c w' B hi e xs v tx:=
 h.keep (fun g hg=>hb.block g (AB.blk h g hg).2 (fun e=>hne g e g hg rfl)) (fun k q=>hb.block k (by have:=q.1.2.1;omega) (fun e=>by have:=hs k e;have:=q.1.1;have:=q.1.2.1;omega))
theorem GF.wide{hi':Nat}(h:GF c w B hi e xs v tx)(hle:hi<=hi':=by omega):GF c w B hi' e xs v tx:=
 AB.keep h (fun _ _=>rfl) (fun k q=>⟨⟨q.1.1,by have:=q.1.2.1;omega,q.1.2.2⟩,q.2⟩) (fun _ _=>rfl)
theorem GF.base{B':Nat}(h:GF c w B hi e xs v tx)(hB:B'<=B):GF c w B' hi e xs v tx:=
 AB.keep (AB.base h hB) (fun _ _=>rfl) (fun k q=>⟨⟨by have:=q.1.1;omega,q.1.2⟩,q.2⟩) (fun _ _=>rfl)
theorem GF.nil{S:Nat->Prop}(h:AB c w B S e [] v):GF c w B hi e [] v tx:=by
 obtain⟨cs,h1,_⟩:=h
 exact⟨cs,h1,fun i x hx=>by simp at hx⟩
end
section
variable {P:Program} {N:Nat} {K:KL} {o:Oper} {α:Type} {c:Bp α} {w:World} {B hi B2 hi2:Nat} {e tx:TypeId} {xs ys zs:List α} {v u:Value}
end
/-! ## Functions that are handed what is to be done with their result: whatever it be -/
end Go.Eng
namespace Go.Eng
open Go Go.RowKit
/-! ## Facts that move on together -/
class Mv(w w':World)(A:Prop)(A':outParam Prop)(S:outParam Prop):Prop where
 mv:A->S->AJ w w'->A'
class Mu(b:Nat)(w w':World)(A:Prop)(A':outParam Prop)(S:outParam Prop):Prop where
 mv:A->S->Gi b w w'->A'
section
variable {w w':World} {b d lo hi B:Nat} {us:List Value} {t e e1 e2 tx:TypeId} {α:Type} {c:Bp α} {xs:List α} {xss:List (List α)} {v:Value} {vs:List Value}
instance:Mv w w' (BK w d us t) (BK w' d us t) True:=⟨fun h _ k=>h.ext k⟩
instance [CM c]:Mv w w' (AB c w B (Iv 0 0) e xs v) (AB c w' B (Iv 0 0) e xs v) True:=⟨fun h _ k=>AB.ext h k⟩
instance:Mv w w' (AD c w (Iv lo hi) xs v) (AD c w' (Iv lo hi) xs v) (hi<=w.heap.size):=⟨fun h s k=>h.old k s⟩
instance:Mv w w' (AB c w B (SX B hi v) e xs v) (AB c w' B (SX B hi v) e xs v) (hi<=w.heap.size):=⟨fun h s k=>AB.extN h k s⟩
instance:Mv w w' (GF c w B hi e xs v tx) (GF c w' B hi e xs v tx) (hi<=w.heap.size):=⟨fun h s k=>GF.ext h k s⟩
instance [CM c]:Mv w w' (own2 c w B hi e1 e2 xss v vs) (own2 c w' B hi e1 e2 xss v vs) (hi<=w.heap.size):=⟨fun h s k=>own2.ext h k s⟩
instance:Mu b w w' (BK w d us t) (BK w' d us t) (d≠b):=⟨fun h s k=>h.upd k s⟩
instance:Mu b w w' (AD c w (Iv lo hi) xs v) (AD c w' (Iv lo hi) xs v) (b<lo∨hi<=b):=⟨fun h s k=>AD.upd h k s⟩
end
theorem CB{w w':World}{P1 Q1 S1 P2 Q2 S2:Prop}[i1:Mv w w' P1 Q1 S1][i2:Mv w w' P2 Q2 S2](h1:P1)(h2:P2)(k:AJ w w')(s1:S1:=by and_intros<;>first|trivial|omega)(s2:S2:=by and_intros<;>first|trivial|omega):Q1∧Q2:=⟨i1.mv h1 s1 k,i2.mv h2 s2 k⟩
theorem FS{w w':World}{P1 Q1 S1 P2 Q2 S2 P3 Q3 S3:Prop}[i1:Mv w w' P1 Q1 S1][i2:Mv w w' P2 Q2 S2][i3:Mv w w' P3 Q3 S3](h1:P1)(h2:P2)(h3:P3)(k:AJ w w')(s1:S1:=by and_intros<;>first|trivial|omega)(s2:S2:=by and_intros<;>first|trivial|omega)(s3:S3:=by and_intros<;>first|trivial|omega):Q1∧Q2∧Q3:=⟨i1.mv h1 s1 k,i2.mv h2 s2 k,i3.mv h3 s3 k⟩
theorem JX{w w':World}{P1 Q1 S1 P2 Q2 S2 P3 Q3 S3 P4 Q4 S4:Prop}[i1:Mv w w' P1 Q1 S1][i2:Mv w w' P2 Q2 S2][i3:Mv w w' P3 Q3 S3][i4:Mv w w' P4 Q4 S4](h1:P1)(h2:P2)(h3:P3)(h4:P4)(k:AJ w w')(s1:S1:=by and_intros<;>first|trivial|omega)(s2:S2:=by and_intros<;>first|trivial|omega)(s3:S3:=by and_intros<;>first|trivial|omega)(s4:S4:=by and_intros<;>first|trivial|omega):Q1∧Q2∧Q3∧Q4:=⟨i1.mv h1 s1 k,i2.mv h2 s2 k,i3.mv h3 s3 k,i4.mv h4 s4 k⟩
theorem Ee{w w':World}{P1 Q1 S1 P2 Q2 S2 P3 Q3 S3 P4 Q4 S4 P5 Q5 S5:Prop}[i1:Mv w w' P1 Q1 S1][i2:Mv w w' P2 Q2 S2][i3:Mv w w' P3 Q3 S3][i4:Mv w w' P4 Q4 S4][i5:Mv w w' P5 Q5 S5](h1:P1)(h2:P2)(h3:P3)(h4:P4)(h5:P5)(k:AJ w w')(s1:S1:=by and_intros<;>first|trivial|omega)(s2:S2:=by and_intros<;>first|trivial|omega)(s3:S3:=by and_intros<;>first|trivial|omega)(s4:S4:=by and_intros<;>first|trivial|omega)(s5:S5:=by and_intros<;>first|trivial|omega):Q1∧Q2∧Q3∧Q4∧Q5:=⟨i1.mv h1 s1 k,i2.mv h2 s2 k,i3.mv h3 s3 k,i4.mv h4 s4 k,i5.mv h5 s5 k⟩
theorem Lw{w w':World}{P1 Q1 S1 P2 Q2 S2 P3 Q3 S3 P4 Q4 S4 P5 Q5 S5 P6 Q6 S6:Prop}[i1:Mv w w' P1 Q1 S1][i2:Mv w w' P2 Q2 S2][i3:Mv w w' P3 Q3 S3][i4:Mv w w' P4 Q4 S4][i5:Mv w w' P5 Q5 S5][i6:Mv w w' P6 Q6 S6](h1:P1)(h2:P2)(h3:P3)(h4:P4)(h5:P5)(h6:P6)(k:AJ w w')(s1:S1:=by and_intros<;>first|trivial|omega)(s2:S2:=by and_intros<;>first|trivial|omega)(s3:S3:=by and_intros<;>first|trivial|omega)(s4:S4:=by and_intros<;>first|trivial|omega)(s5:S5:=by and_intros<;>first|trivial|omega)(s6:S6:=by and_intros<;>first|trivial|omega):Q1∧Q2∧Q3∧Q4∧Q5∧Q6:=⟨i1.mv h1 s1 k,i2.mv h2 s2 k,i3.mv h3 s3 k,i4.mv h4 s4 k,i5.mv h5 s5 k,i6.mv h6 s6 k⟩
theorem TP{w w':World}{P1 Q1 S1 P2 Q2 S2 P3 Q3 S3 P4 Q4 S4 P5 Q5 S5 P6 Q6 S6 P7 Q7 S7:Prop}[i1:Mv w w' P1 Q1 S1][i2:Mv w w' P2 Q2 S2][i3:Mv w w' P3 Q3 S3][i4:Mv w w' P4 Q4 S4][i5:Mv w w' P5 Q5 S5][i6:Mv w w' P6 Q6 S6][i7:Mv w w' P7 Q7 S7](h1:P1)(h2:P2)(h3:P3)(h4:P4)(h5:P5)(h6:P6)(h7:P7)(k:AJ w w')(s1:S1:=by and_intros<;>first|trivial|omega)(s2:S2:=by and_intros<;>first|trivial|omega)(s3:S3:=by and_intros<;>first|trivial|omega)(s4:S4:=by and_intros<;>first|trivial|omega)(s5:S5:=by and_intros<;>first|trivial|omega)(s6:S6:=by and_intros<;>first|trivial|omega)(s7:S7:=by and_intros<;>first|trivial|omega):Q1∧Q2∧Q3∧Q4∧Q5∧Q6∧Q7:=⟨i1.mv h1 s1 k,i2.mv h2 s2 k,i3.mv h3 s3 k,i4.mv h4 s4 k,i5.mv h5 s5 k,i6.mv h6 s6 k,i7.mv h7 s7 k⟩
theorem NB{w w':World}{P1 Q1 S1 P2 Q2 S2 P3 Q3 S3 P4 Q4 S4 P5 Q5 S5 P6 Q6 S6 P7 Q7 S7 P8 Q8 S8:Prop}[i1:Mv w w' P1 Q1 S1][i2:Mv w w' P2 Q2 S2][i3:Mv w w' P3 Q3 S3][i4:Mv w w' P4 Q4 S4][i5:Mv w w' P5 Q5 S5][i6:Mv w w' P6 Q6 S6][i7:Mv w w' P7 Q7 S7][i8:Mv w w' P8 Q8 S8](h1:P1)(h2:P2)(h3:P3)(h4:P4)(h5:P5)(h6:P6)(h7:P7)(h8:P8)(k:AJ w w')(s1:S1:=by and_intros<;>first|trivial|omega)(s2:S2:=by and_intros<;>first|trivial|omega)(s3:S3:=by and_intros<;>first|trivial|omega)(s4:S4:=by and_intros<;>first|trivial|omega)(s5:S5:=by and_intros<;>first|trivial|omega)(s6:S6:=by and_intros<;>first|trivial|omega)(s7:S7:=by and_intros<;>first|trivial|omega)(s8:S8:=by and_intros<;>first|trivial|omega):Q1∧Q2∧Q3∧Q4∧Q5∧Q6∧Q7∧Q8:=⟨i1.mv h1 s1 k,i2.mv h2 s2 k,i3.mv h3 s3 k,i4.mv h4 s4 k,i5.mv h5 s5 k,i6.mv h6 s6 k,i7.mv h7 s7 k,i8.mv h8 s8 k⟩
theorem Ky{w w':World}{b:Nat}{P1 Q1 S1 P2 Q2 S2:Prop}[i1:Mu b w w' P1 Q1 S1][i2:Mu b w w' P2 Q2 S2](h1:P1)(h2:P2)(k:Gi b w w')(s1:S1:=by and_intros<;>first|trivial|omega)(s2:S2:=by and_intros<;>first|trivial|omega):Q1∧Q2:=⟨i1.mv h1 s1 k,i2.mv h2 s2 k⟩
theorem OS{w w':World}{b:Nat}{P1 Q1 S1 P2 Q2 S2 P3 Q3 S3:Prop}[i1:Mu b w w' P1 Q1 S1][i2:Mu b w w' P2 Q2 S2][i3:Mu b w w' P3 Q3 S3](h1:P1)(h2:P2)(h3:P3)(k:Gi b w w')(s1:S1:=by and_intros<;>first|trivial|omega)(s2:S2:=by and_intros<;>first|trivial|omega)(s3:S3:=by and_intros<;>first|trivial|omega):Q1∧Q2∧Q3:=⟨i1.mv h1 s1 k,i2.mv h2 s2 k,i3.mv h3 s3 k⟩
theorem OK{w w':World}{b:Nat}{P1 Q1 S1 P2 Q2 S2 P3 Q3 S3 P4 Q4 S4:Prop}[i1:Mu b w w' P1 Q1 S1][i2:Mu b w w' P2 Q2 S2][i3:Mu b w w' P3 Q3 S3][i4:Mu b w w' P4 Q4 S4](h1:P1)(h2:P2)(h3:P3)(h4:P4)(k:Gi b w w')(s1:S1:=by and_intros<;>first|trivial|omega)(s2:S2:=by and_intros<;>first|trivial|omega)(s3:S3:=by and_intros<;>first|trivial|omega)(s4:S4:=by and_intros<;>first|trivial|omega):Q1∧Q2∧Q3∧Q4:=⟨i1.mv h1 s1 k,i2.mv h2 s2 k,i3.mv h3 s3 k,i4.mv h4 s4 k⟩
theorem Ou{w w':World}{b:Nat}{P1 Q1 S1 P2 Q2 S2 P3 Q3 S3 P4 Q4 S4 P5 Q5 S5:Prop}[i1:Mu b w w' P1 Q1 S1][i2:Mu b w w' P2 Q2 S2][i3:Mu b w w' P3 Q3 S3][i4:Mu b w w' P4 Q4 S4][i5:Mu b w w' P5 Q5 S5](h1:P1)(h2:P2)(h3:P3)(h4:P4)(h5:P5)(k:Gi b w w')(s1:S1:=by and_intros<;>first|trivial|omega)(s2:S2:=by and_intros<;>first|trivial|omega)(s3:S3:=by and_intros<;>first|trivial|omega)(s4:S4:=by and_intros<;>first|trivial|omega)(s5:S5:=by and_intros<;>first|trivial|omega):Q1∧Q2∧Q3∧Q4∧Q5:=⟨i1.mv h1 s1 k,i2.mv h2 s2 k,i3.mv h3 s3 k,i4.mv h4 s4 k,i5.mv h5 s5 k⟩
theorem rO{w w':World}{b:Nat}{P1 Q1 S1 P2 Q2 S2 P3 Q3 S3 P4 Q4 S4 P5 Q5 S5 P6 Q6 S6:Prop}[i1:Mu b w w' P1 Q1 S1][i2:Mu b w w' P2 Q2 S2][i3:Mu b w w' P3 Q3 S3][i4:Mu b w w' P4 Q4 S4][i5:Mu b w w' P5 Q5 S5][i6:Mu b w w' P6 Q6 S6](h1:P1)(h2:P2)(h3:P3)(h4:P4)(h5:P5)(h6:P6)(k:Gi b w w')(s1:S1:=by and_intros<;>first|trivial|omega)(s2:S2:=by and_intros<;>first|trivial|omega)(s3:S3:=by and_intros<;>first|trivial|omega)(s4:S4:=by and_intros<;>first|trivial|omega)(s5:S5:=by and_intros<;>first|trivial|omega)(s6:S6:=by and_intros<;>first|trivial|omega):Q1∧Q2∧Q3∧Q4∧Q5∧Q6:=⟨i1.mv h1 s1 k,i2.mv h2 s2 k,i3.mv h3 s3 k,i4.mv h4 s4 k,i5.mv h5 s5 k,i6.mv h6 s6 k⟩
theorem mu8{w w':World}{b:Nat}{P1 Q1 S1 P2 Q2 S2 P3 Q3 S3 P4 Q4 S4 P5 Q5 S5 P6 Q6 S6 P7 Q7 S7 P8 Q8 S8:Prop}[i1:Mu b w w' P1 Q1 S1][i2:Mu b w w' P2 Q2 S2][i3:Mu b w w' P3 Q3 S3][i4:Mu b w w' P4 Q4 S4][i5:Mu b w w' P5 Q5 S5][i6:Mu b w w' P6 Q6 S6][i7:Mu b w w' P7 Q7 S7][i8:Mu b w w' P8 Q8 S8](h1:P1)(h2:P2)(h3:P3)(h4:P4)(h5:P5)(h6:P6)(h7:P7)(h8:P8)(k:Gi b w w')(s1:S1:=by and_intros<;>first|trivial|omega)(s2:S2:=by and_intros<;>first|trivial|omega)(s3:S3:=by and_intros<;>first|trivial|omega)(s4:S4:=by and_intros<;>first|trivial|omega)(s5:S5:=by and_intros<;>first|trivial|omega)(s6:S6:=by and_intros<;>first|trivial|omega)(s7:S7:=by and_intros<;>first|trivial|omega)(s8:S8:=by and_intros<;>first|trivial|omega):Q1∧Q2∧Q3∧Q4∧Q5∧Q6∧Q7∧Q8:=⟨i1.mv h1 s1 k,i2.mv h2 s2 k,i3.mv h3 s3 k,i4.mv h4 s4 k,i5.mv h5 s5 k,i6.mv h6 s6 k,i7.mv h7 s7 k,i8.mv h8 s8 k⟩
end Go.Eng
namespace Go.Eng
open Go Go.RowKit
/-! ## Literals of slice types, said shortly -/
section
variable {P:Program} {N:Nat} {K:KL} {o:Oper} {w:World} {α:Type} {e:TypeId}
theorem nE{t len parts zc sz by'}(c:Bp α)(xs:List α)(S:Nat->Prop)(uls:List (List Value))(ho:o.op= .buildSlice t len parts)(hu:P.underlying t=some (.slice e))(hi:Ca P e=some (zc,sz,by'))
 (hp:(IT K parts.toList).map (List.map fun p=>(p.1,p.2.cells.toList))=some (Fz 0 uls))
 (hb:(Nat.beq sz c.n&&(Nat.blt 0 c.n&&(Nat.ble (len*sz) 16777216&&(Nat.beq uls.length len&&(Nat.beq len xs.length&&uls.all (fun us=>Nat.beq us.length sz))))))=true) (hrep:Mi c w S xs uls) (hS:∀k,S k->k<w.heap.size):
 Fx P N K o w (fun u w'=>∃g,u= .slice (some ⟨g,0,none⟩) len len∧g=w.heap.size∧w'.heap.size=w.heap.size+1∧AJ w w'∧AB c w' g S e xs u):=by
 obtain⟨vs,e1,e2⟩:=Option.map_eq_some_iff.1 hp
 simp only [Bool.and_eq_true]at hb
 obtain⟨b1,b2,b3,b4,b5,b6⟩:=hb
 have b1:=Nat.eq_of_beq_eq_true b1
 have b4:=Nat.eq_of_beq_eq_true b4
 have b5:=Nat.eq_of_beq_eq_true b5
 exact GG (out:=BS uls) ho hu hi e1 e2 (MN uls rfl b6 b4) b3 b1 b2 b5 (PG hrep rfl) hS (by rw [Fw fun us h=>Nat.eq_of_beq_eq_true (List.all_eq_true.1 b6 us h),b4])
theorem BM{t len parts zc sz by'}(c:Bp α)(xs:List α)(uls:List (List Value))(ho:o.op= .buildSlice t len parts)(hu:P.underlying t=some (.slice e))(hi:Ca P e=some (zc,sz,by'))
 (hp:(IT K parts.toList).map (List.map fun p=>(p.1,p.2.cells.toList))=some (Fz 0 uls))
 (hb:(Nat.beq sz c.n&&(Nat.blt 0 c.n&&(Nat.ble (len*sz) 16777216&&(Nat.beq uls.length len&&(Nat.beq len xs.length&&uls.all (fun us=>Nat.beq us.length sz))))))=true) (hrep:Mi c w (Iv 0 0) xs uls):
 Fx P N K o w (fun u w'=>∃g,u= .slice (some ⟨g,0,none⟩) len len∧g=w.heap.size∧w'.heap.size=w.heap.size+1∧AJ w w'∧AB c w' g (Iv 0 0) e xs u):=
 nE c xs (Iv 0 0) uls ho hu hi hp hb hrep fun k h=>by have:=h.2;omega
theorem CD{t parts zc pl}(vs:List Value)(ho:o.op= .build t parts)(hp:(IT K parts.toList).map (List.map fun p=>(p.1,p.2.cells.toList))=some (Fz 0 (vs.map fun v=>[v])))(hz:DM P t=some zc)(hpl:EK P t=some pl)(hf:JS pl zc (Fz 0 (vs.map fun v=>[v]))=some vs):Df P N K o w (.agg vs.toArray):=by
 obtain⟨us,e1,e2⟩:=Option.map_eq_some_iff.1 hp
 exact Cq ho e1 hz hpl e2 hf
end
end Go.Eng
namespace Go.Eng
open Go Go.RowKit
/-! ## The rows of a slice of slices, apart from another slice -/
def Vi(v:Value)(vs:List Value):Prop:=∀(i:Nat) (u:Value),vs[i]? =some u->No v u
theorem Vi.nil(v:Value):Vi v []:=fun i u h=>by simp at h
theorem Vi.app{v:Value}{vs us:List Value}(h:Vi v vs)(h2:Vi v us):Vi v (vs++us):=fun i u hu=>by
 by_cases c:i<vs.length
 ·rw [List.getElem?_append_left c]at hu;exact h i u hu
 ·rw [List.getElem?_append_right (by omega)]at hu;exact h2 _ u hu
section
variable {α:Type} {c:Bp α} [CM c] {w w':World} {B hi lo' hi':Nat} {e1 e2:TypeId} {xss:List (List α)} {v z:Value} {vs:List Value}
theorem Vi.of(h:own2 c w B hi e1 e2 xss v vs)(hz:Bd z lo' hi')(k:hi'<=B∨hi<=lo':=by omega):Vi z vs:=fun i u hu=>by
 have hl:=h.1.1
 have hi2:i<xss.length:=by have:=(List.getElem?_eq_some_iff.1 hu).1;omega
 obtain⟨_,q,_⟩:=h.2.1 i _ u (List.getElem?_eq_getElem hi2) hu
 exact No.of hz q (by omega)
theorem Vi.grew{u u':Value}(hgr:BN w w' u u')(hr:Vi u vs)(h:own2 c w B hi e1 e2 xss v vs):Vi u' vs:=fun i x hx g q hg hq=>by
 have hl:=h.1.1
 have hi2:i<xss.length:=by have:=(List.getElem?_eq_some_iff.1 hx).1;omega
 have hb:=(h.2.1 i _ x (List.getElem?_eq_getElem hi2) hx).1.blk q hq
 rcases hgr.2 g hg with h1|h1
 ·exact hr i x hx g q h1 hq
 ·omega
end
end Go.Eng
namespace Go.Eng
open Go Go.RowKit
/-! ## Own slices that move on with others -/
def OB(A:Prop)(v:Value)(lo hi:Nat):Prop:=A∧Bd v lo hi
theorem Bi{A:Prop}{v:Value}{lo hi:Nat}(h:A)(k:Bd v lo hi):OB A v lo hi:=⟨h,k⟩
section
variable {w w' a:World} {b lo hi B h:Nat} {e:TypeId} {α:Type} {c:Bp α} {xs:List α} {v:Value}
instance [CM c]:Mu b w w' (OB (AB c w B (Iv 0 0) e xs v) v lo hi) (AB c w' B (Iv 0 0) e xs v) (b<lo∨hi<=b):=⟨fun h s k=>AB.upd h.1 k (Nb.of h.2 s)⟩
instance:Mu b w w' (OB (AB c w B (SX B h v) e xs v) v lo hi) (AB c w' B (SX B h v) e xs v) ((b<lo∨hi<=b)∧(b<B∨h<=b)):=⟨fun h s k=>AB.updN h.1 k (Nb.of h.2 s.1) s.2⟩
instance [CM c]:Mu b w w' (OB (FC c w B e xs v) v lo hi) (FC c w' B e xs v) (b<lo∨hi<=b):=⟨fun h s k=>FC.upd h.1 k (Nb.of h.2 s)⟩
theorem dC{P1 Q1 S1:Prop}[i1:Mu b w w' P1 Q1 S1](h1:P1)(k:Gi b w w')(s1:S1:=by and_intros<;>first|trivial|omega):Q1:=i1.mv h1 s1 k
end
end Go.Eng
namespace Go.Eng
open Go Go.RowKit
/-! ## Short words for the walks' texts: what is computed is asked for last -/
theorem z{α:Sort _}{a:α}:a=a:=rfl
@[reducible] def _root_.Go.Value.p (b:Nat):Value:=.pointer (some ⟨b,0,none⟩)
section
variable {P:Program} {N:Nat} {ops:Array Oper} {Q:Exit -> Act -> World -> Prop} {n:Nat} {K:KL} {w w0:World} {f:Nat} {listed:Array Bool} {p:Nat -> Prop}
theorem Mr{o:Oper}{v:Value}(i:Nat)(hi:ops[i]? =some o)(h:∀wx,CS p w0 wx->Df P N K o wx v)(k:Iw P N ops n (noPan Q) p w0 f (listed.setIfInBounds i true) (BC K o.dst v) w)
 (hh:DB ops n=true:=by kernel_rfl) (hc:(Nat.blt i n&&Region.free .any ops listed i&&(Region.ready .any ops listed).contains i)=true:=by kernel_rfl) (hg:o.guard=none:=by rfl) (hd:Bw N o.dst=true:=by rfl):
 Iw P N ops n (noPan Q) p w0 (f+1) listed K w:=Iw.yld i hh hi hc hg hd h k
theorem xP{o:Oper}{Ψ:Value->Prop}(i:Nat)(hi:ops[i]? =some o)(h:YA P N K o Ψ)(k:∀v,Ψ v->Iw P N ops n (noPan Q) p w0 f (listed.setIfInBounds i true) (BC K o.dst v) w)
 (hh:DB ops n=true:=by kernel_rfl) (hc:(Nat.blt i n&&Region.free .any ops listed i&&(Region.ready .any ops listed).contains i)=true:=by kernel_rfl) (hg:o.guard=none:=by rfl) (hd:Bw N o.dst=true:=by rfl):
 Iw P N ops n (noPan Q) p w0 (f+1) listed K w:=Iw.ya i hh hi hc hg hd h k
theorem VW{o:Oper}{R:Value->World->Prop}(i:Nat)(hi:ops[i]? =some o)(h:Fx P N K o w R)(k:∀v w',R v w'->CS p w0 w'∧Iw P N ops n (noPan Q) p w0 f (listed.setIfInBounds i true) (BC K o.dst v) w')
 (hin:Nat.blt i n=true:=by rfl) (hr:Region.ready .any ops listed=[i]:=by kernel_rfl) (hg:o.guard=none:=by rfl) (hd:Bw N o.dst=true:=by rfl):Iw P N ops n (noPan Q) p w0 (f+1) listed K w:=Iw.eff i hi hin hr hg hd h k
theorem Ka{o:Oper}{R:Value->World->Prop}(i:Nat)(hi:ops[i]? =some o)(h:Fx P N K o w R)(k:∀v w',R v w'->AJ w0 w'∧HL P N ops n (noPan Q) w0 f (listed.setIfInBounds i true) (BC K o.dst v) w')
 (hin:Nat.blt i n=true:=by rfl) (hr:Region.ready .any ops listed=[i]:=by kernel_rfl) (h0:FD N ops K o= .yes:=by rfl):HL P N ops n (noPan Q) w0 (f+1) listed K w:=HLe i hi hin hr h0 h k
theorem BO{o:Oper}{v:Value}(i:Nat)(hh:DB ops n=true)(hi:ops[i]? =some o)(h:Df P N K o w0 v)(k:HL P N ops n (noPan Q) w0 f (listed.setIfInBounds i true) (BC K o.dst v) w)
 (hc:(Nat.blt i n&&Region.free .any ops listed i&&(Region.ready .any ops listed).contains i)=true:=by kernel_rfl) (h0:FD N ops K o= .yes:=by rfl):HL P N ops n (noPan Q) w0 (f+1) listed K w:=HLy i hh hi hc h0 h k
theorem GS{o:Oper}{Ψ:Value->Prop}(i:Nat)(hh:DB ops n=true)(hi:ops[i]? =some o)(h:YE P N K o w0 Ψ)(k:∀v,Ψ v->HL P N ops n (noPan Q) w0 f (listed.setIfInBounds i true) (BC K o.dst v) w)
 (hc:(Nat.blt i n&&Region.free .any ops listed i&&(Region.ready .any ops listed).contains i)=true:=by kernel_rfl) (h0:FD N ops K o= .yes:=by rfl):HL P N ops n (noPan Q) w0 (f+1) listed K w:=yN i hh hi hc h0 h k
theorem KD{l:List Oper}(hops:ops=l.toArray)(k:TL P N ops (noPan Q) (l.drop n) K w)(hseq:Region.seqB .any ops (l.drop n).length n listed=true:=by kernel_rfl)(hf:f=(l.drop n).length:=by rfl):HL P N ops n (noPan Q) w0 f listed K w:=HL.tail hops hseq hf k
theorem tG{l:List Oper}(hops:ops=l.toArray)(k:TL P N ops (noPan Q) (l.drop n) K w)(hseq:Region.seqB .any ops (l.drop n).length n listed=true:=by kernel_rfl)(hf:f=(l.drop n).length:=by rfl):Iw P N ops n (noPan Q) p w0 f listed K w:=Iw.tail hops hseq hf k
theorem EP(hh:DB ops n=true)(is:List Nat){f:Nat}{listed:Array Bool}{K:KL}(h:ZP P N ops n Q w0 is f listed K w)(hc:eB ops n is listed=true:=by kernel_rfl):HL P N ops n (noPan Q) w0 f listed K w:=Hr hh is hc h
theorem CZ{id:Nat}{l:List Oper}(n:Nat)(hm:P.follows .mixedOrders=true)(h:∀w',AJ w w'->DB l.toArray n=true->HL P N l.toArray n (noPan Q) w' l.length (Array.replicate l.length false) K w')(hh:DB l.toArray n=true:=by kernel_rfl):
 WC P N (.region id l.toArray true) Q K w:=WC.heldD n hm hh h
theorem BX{id:Nat}{l:List Oper}(hm:P.follows .mixedOrders=true)(h:QL P N l.toArray w (fun a'=>∀w',AJ w w'->Q .normal a' w') l K)(hB:Region.lexB .any l.toArray=true:=by kernel_rfl):WC P N (.region id l.toArray true) Q K w:=WC.quiet hm hB h
theorem Mm{K':KL}(e:K'.map (fun p=>kl K p.1)=K'.map (fun p=>some p.2):=by rfl):QL P N ops w (fun a=>Kn N K' a) [] K:=QL.nil fun a h=>h.sub e
end
section
variable {P:Program} {N:Nat} {Q0:Exit -> Act -> World -> Prop} {K K':KL} {w:World} {fs:List Frame} {ops:Array Oper} {l:List Oper}
theorem DU{R:World->Prop}(r:R w)(e:K'.map (fun p=>kl K p.1)=K'.map (fun p=>some p.2):=by rfl):TL P N ops (FY P Q0 (.lp (fun a u=>Kn N K' a∧R u)::fs)) [] K w:=TL.nil fun _ h=>⟨h.sub e,r⟩
def OH(K:KL):List Nat->KL->Option KL
 |[],acc=>some acc
 |i::is,acc=>match kl K i with
  |some v=>OH K is ((i,v)::acc)
  |none=>none
end
section
variable {P:Program} {N:Nat} {ops:Array Oper} {Q:Exit -> Act -> World -> Prop} {K:KL} {w:World} {l:List Oper} {Qa:Act -> Prop}
theorem Kd(t:Nat){c:Bool}(h:kl K t=some (.bool c))(h1:c=true->TL P N ops Q l ((t,.bool true)::K) w)(h2:c=false->TL P N ops Q l ((t,.bool false)::K) w):TL P N ops Q l K w:=by
 rcases bft c with e|e
 ·exact Kc t e h (h1 e)
 ·exact Kc t e h (h2 e)
theorem Kdq(t:Nat){c:Bool}(h:kl K t=some (.bool c))(h1:c=true->QL P N ops w Qa l ((t,.bool true)::K))(h2:c=false->QL P N ops w Qa l ((t,.bool false)::K)):QL P N ops w Qa l K:=by
 rcases bft c with e|e
 ·exact Kq t e h (h1 e)
 ·exact Kq t e h (h2 e)
end
theorem AD.oj{α:Type}{c:Bp α}{w w':World}{lo H:Nat}{xs:List α}{v:Value}(h:AD c w (Iv lo H) xs v)(he:AJ w w')(hH:H<=w.heap.size:=by assumption):AD c w' (Iv lo H) xs v:=h.old he hH
theorem By{P:Program}{N:Nat}{c:Code}{Q:Exit->Act->World->Prop}{K:KL}{w:World}{a:Act}(hK:Kn N K a)(h:WC P N c Q K w):c.wp P Q a w:=h a hK
section
variable (P:Program) (N:Nat) (ops:Array Oper) (n:Nat) (Q:Exit -> Act -> World -> Prop) (p:Nat -> Prop) (w0:World)
def aJ:List Nat->Nat->Array Bool->KL->World->Prop
 |[]=>fun f listed K w=>Iw P N ops n (noPan Q) p w0 f listed K w
 |i::is=>fun f listed K w=>match f with
  |0=>False
  |f+1=>match ops[i]? with
   |none=>False
   |some o=>match o.guard with
    |some _=>False
    |none=>match Bw N o.dst with
     |false=>False
     |true=>match yq K o.op with
      |some v=>aJ is f (listed.setIfInBounds i true) (BC K o.dst v) w
      |none=>False
end
section
variable {P:Program} {N:Nat} {ops:Array Oper} {Q:Exit -> Act -> World -> Prop} {n:Nat} {p:Nat -> Prop} {w w0:World}
theorem GrA(hh:DB ops n=true):∀(is:List Nat) {f:Nat} {listed:Array Bool} {K:KL},eB ops n is listed=true->aJ P N ops n Q p w0 is f listed K w->Iw P N ops n (noPan Q) p w0 f listed K w
 |[],_,_,_,_,h=>h
 |i::is,0,listed,K,_,h=>h.elim
 |i::is,f+1,listed,K,hc,h=>by
  simp only [eB,Bool.and_eq_true]at hc
  have hc':(Nat.blt i n&&Region.free .any ops listed i&&(Region.ready .any ops listed).contains i)=true:=by simp only [Bool.and_eq_true];exact hc.1
  simp only [aJ]at h
  split at h
  ·exact h.elim
  ·rename_i o hi
   split at h
   ·exact h.elim
   ·rename_i hg
    split at h
    ·exact h.elim
    ·rename_i hd
     split at h
     ·rename_i v hv;exact Iw.yld i hh hi hc' hg hd (fun wx _=>Lo hv) (GrA hh is hc.2 h)
     ·exact h.elim
theorem VY(is:List Nat){f:Nat}{listed:Array Bool}{K:KL}(h:aJ P N ops n Q p w0 is f listed K w)(hh:DB ops n=true:=by kernel_rfl)(hc:eB ops n is listed=true:=by kernel_rfl):Iw P N ops n (noPan Q) p w0 f listed K w:=GrA hh is hc h
end
@[reducible] def Ao (v:Value) (w:World):Ending->World->Prop:=DA fun u U=>u=v∧AJ w U
@[reducible] def AR {α:Type} (c:Bp α) (w:World) (H:Nat) (xs:List α) (v:Value):Prop:=AD c w (Iv 0 H) xs v
end Go.Eng
namespace Go.Eng
open Go Go.RowKit
/-! ## Several steps in one word -/
@[reducible] def lB (us:List Value) (i:Nat) (Z:Value->Prop):Prop:=match us[i]? with
 |some u=>Z u
 |none=>False
theorem lB.ok{us:List Value}{i:Nat}{Z:Value->Prop}(h:lB us i Z):∃u,us[i]? =some u∧Z u:=by
 unfold lB at h
 split at h
 ·rename_i u hu;exact⟨u,hu,h⟩
 ·exact h.elim
section
variable {P:Program} {N:Nat} {ops:Array Oper} {Q:Exit -> Act -> World -> Prop} {K:KL} {w w0:World} {o o2 o3:Oper} {rest:List Oper} {Qa:Act -> Prop} {α β:Type} {r:β}
theorem Cs{A:Option α}{g:α->Option β}{rt:α->Value}{f:Nat}{vs:List Value}(hF:A.bind g=some r)(he:AJ w0 w)(hf:AZ P f=true)
 (hc:∀x,A=some x->Calls P f vs.toArray w (Ao (rt x) w)) (k:∀x,g x=some r->∀w',AJ w w'->AJ w0 w'∧w.heap.size<=w'.heap.size->TL P N ops Q rest (BC K o.dst (rt x)) w')
 (h0:FD N ops K o= .yes:=by rfl) (hcl:oH K o.op=some (f,vs):=by rfl):TL P N ops Q (o::rest) K w:=by
 obtain⟨x,h1,h2⟩:=AH hF
 refine Ef h0 (FW hcl hf (hc _ h1)) fun v w' h=>?_
 obtain⟨rfl,h⟩:=h
 exact k x h2 w' h (Et he h)
theorem Cg{A:Option α}{g:α->Option β}{R:α->Value->World->Prop}{f:Nat}{vs:List Value}(hF:A.bind g=some r)(hf:AZ P f=true)
 (hc:∀x,A=some x->Calls P f vs.toArray w (DA (R x))) (k:∀x,g x=some r->∀v w',R x v w'->TL P N ops Q rest (BC K o.dst v) w')
 (h0:FD N ops K o= .yes:=by rfl) (hcl:oH K o.op=some (f,vs):=by rfl):TL P N ops Q (o::rest) K w:=by
 obtain⟨x,h1,h2⟩:=AH hF
 exact Ef h0 (FW hcl hf (hc _ h1)) fun v w' h=>k x h2 v w' h
section
variable {c:Bp α} {xs:List α} {S:Nat -> Prop} {v:Value} {e t t2 B:Nat} {m:Int} {kk:IntKind} {g:α -> Option β} {sv:α -> Value}
theorem Ix(hF:(AE xs m).bind g=some r)(hs:AD c w S xs v)(hu:P.underlying t=some (.slice e))(hc:Am P e=some c.n)
 (k:∀y,AE xs m=some y->g y=some r->∀u,(∃b off us,u= .pointer (some ⟨b,off,none⟩)∧S b∧c.rep w S y us∧AM w b off us)->TL P N ops Q rest (BC K o.dst u) w)
 (h0:FD N ops K o= .yes:=by rfl) (hi:UK K o.op=some (t,v,kk,m):=by rfl):TL P N ops Q (o::rest) K w:=by
 obtain⟨y,h1,h2⟩:=AH hF
 exact Ye h0 (EJ hi hu hc hs h1) fun u h=>k y h1 h2 u h
theorem Io(hF:(AE xs m).bind g=some r)(hs:AB c w B S e xs v)(hu:P.underlying t=some (.slice e))(hc:Am P e=some c.n)
 (k:∀y,AE xs m=some y->g y=some r->∀u,(∃b us,u= .pointer (some ⟨b,0+m.toNat*c.n,none⟩)∧v.ownBlock=some b∧c.rep w S y us∧AM w b (0+m.toNat*c.n) us)->TL P N ops Q rest (BC K o.dst u) w)
 (h0:FD N ops K o= .yes:=by rfl) (hi:UK K o.op=some (t,v,kk,m):=by rfl):TL P N ops Q (o::rest) K w:=by
 obtain⟨y,h1,h2⟩:=AH hF
 exact Ye h0 (Rm hi hu hc hs h1) fun u h=>k y h1 h2 u h
theorem Iq(hF:(AE xs m).bind g=some r)(hs:AD c w S xs v)(hu:P.underlying t=some (.slice e))(hc:Am P e=some c.n)
 (k:∀y,AE xs m=some y->g y=some r->∀u,(∃b off us,u= .pointer (some ⟨b,off,none⟩)∧S b∧c.rep w S y us∧AM w b off us)->QL P N ops w Qa rest (BC K o.dst u))
 (h0:FD N ops K o= .yes:=by rfl) (hi:UK K o.op=some (t,v,kk,m):=by rfl):QL P N ops w Qa (o::rest) K:=by
 obtain⟨y,h1,h2⟩:=AH hF
 exact Qe h0 (EJ hi hu hc hs h1) fun u h=>k y h1 h2 u h
theorem yV(hF:(AE xs m).bind g=some r)(hs:AB c w B S e xs v)(hu:P.underlying t=some (.slice e))(hc:Am P e=some c.n)
 (k:∀y,AE xs m=some y->g y=some r->∀u,(∃b us,u= .pointer (some ⟨b,0+m.toNat*c.n,none⟩)∧v.ownBlock=some b∧c.rep w S y us∧AM w b (0+m.toNat*c.n) us)->QL P N ops w Qa rest (BC K o.dst u))
 (h0:FD N ops K o= .yes:=by rfl) (hi:UK K o.op=some (t,v,kk,m):=by rfl):QL P N ops w Qa (o::rest) K:=by
 obtain⟨y,h1,h2⟩:=AH hF
 exact Qe h0 (Rm hi hu hc hs h1) fun u h=>k y h1 h2 u h
theorem Il(hF:(AE xs m).bind g=some r)(hs:AD c w S xs v)(hu:P.underlying t=some (.slice e))(hc:Am P e=some c.n)(ha:Bf P t2=some false)
 (k:∀y,g y=some r->∀u,TL P N ops Q rest (BC (BC K o.dst u) o2.dst (sv y)) w)
 (hsv:∀y us,c.rep w S y us->us=[sv y]:=by exact fun _ _ h=>h) (h0:FD N ops K o= .yes:=by rfl) (hi:UK K o.op=some (t,v,kk,m):=by rfl)
 (h2:∀u,FD N ops (BC K o.dst u) o2= .yes:=by intro _;rfl) (hl:∀b off,Rl (BC K o.dst (.pointer (some ⟨b,off,none⟩))) o2.op=some (t2,b,off):=by intro _ _;rfl):TL P N ops Q (o::o2::rest) K w:=by
 refine Ix hF hs hu hc (fun y _ h3 u h=>?_) h0 hi
 obtain⟨b,off,us,rfl,_,h5,h6⟩:=h
 have h5:=hsv _ _ h5
 subst h5
 exact Yl (h2 _) (FG 0 (hl _ _) ha h6 rfl rfl) (k y h3 _)
theorem VU(hF:(AE xs m).bind g=some r)(hs:AB c w B S e xs v)(hu:P.underlying t=some (.slice e))(hc:Am P e=some c.n)(ha:Bf P t2=some false)
 (k:∀y,g y=some r->∀u,TL P N ops Q rest (BC (BC K o.dst u) o2.dst (sv y)) w)
 (hsv:∀y us,c.rep w S y us->us=[sv y]:=by exact fun _ _ h=>h) (h0:FD N ops K o= .yes:=by rfl) (hi:UK K o.op=some (t,v,kk,m):=by rfl)
 (h2:∀u,FD N ops (BC K o.dst u) o2= .yes:=by intro _;rfl) (hl:∀b off,Rl (BC K o.dst (.pointer (some ⟨b,off,none⟩))) o2.op=some (t2,b,off):=by intro _ _;rfl):TL P N ops Q (o::o2::rest) K w:=by
 refine Io hF hs hu hc (fun y _ h3 u h=>?_) h0 hi
 obtain⟨b,us,rfl,_,h5,h6⟩:=h
 have h5:=hsv _ _ h5
 subst h5
 exact Yl (h2 _) (FG 0 (hl _ _) ha h6 rfl rfl) (k y h3 _)
theorem OI(hF:(AE xs m).bind g=some r)(hs:AD c w S xs v)(hu:P.underlying t=some (.slice e))(hc:Am P e=some c.n)(ha:Bf P t2=some false)
 (k:∀y,g y=some r->∀u,QL P N ops w Qa rest (BC (BC K o.dst u) o2.dst (sv y)))
 (hsv:∀y us,c.rep w S y us->us=[sv y]:=by exact fun _ _ h=>h) (h0:FD N ops K o= .yes:=by rfl) (hi:UK K o.op=some (t,v,kk,m):=by rfl)
 (h2:∀u,FD N ops (BC K o.dst u) o2= .yes:=by intro _;rfl) (hl:∀b off,Rl (BC K o.dst (.pointer (some ⟨b,off,none⟩))) o2.op=some (t2,b,off):=by intro _ _;rfl):QL P N ops w Qa (o::o2::rest) K:=by
 refine Iq hF hs hu hc (fun y _ h3 u h=>?_) h0 hi
 obtain⟨b,off,us,rfl,_,h5,h6⟩:=h
 have h5:=hsv _ _ h5
 subst h5
 exact Qy (h2 _) (FG 0 (hl _ _) ha h6 rfl rfl) (k y h3 _)
theorem dE(hF:(AE xs m).bind g=some r)(hs:AB c w B S e xs v)(hu:P.underlying t=some (.slice e))(hc:Am P e=some c.n)(ha:Bf P t2=some false)
 (k:∀y,g y=some r->∀u,QL P N ops w Qa rest (BC (BC K o.dst u) o2.dst (sv y)))
 (hsv:∀y us,c.rep w S y us->us=[sv y]:=by exact fun _ _ h=>h) (h0:FD N ops K o= .yes:=by rfl) (hi:UK K o.op=some (t,v,kk,m):=by rfl)
 (h2:∀u,FD N ops (BC K o.dst u) o2= .yes:=by intro _;rfl) (hl:∀b off,Rl (BC K o.dst (.pointer (some ⟨b,off,none⟩))) o2.op=some (t2,b,off):=by intro _ _;rfl):QL P N ops w Qa (o::o2::rest) K:=by
 refine yV hF hs hu hc (fun y _ h3 u h=>?_) h0 hi
 obtain⟨b,us,rfl,_,h5,h6⟩:=h
 have h5:=hsv _ _ h5
 subst h5
 exact Qy (h2 _) (FG 0 (hl _ _) ha h6 rfl rfl) (k y h3 _)
end
section
variable {t f fo t2 t3 b T e off:Nat} {us:List Value} {c:Bp α} {xs:List α} {S:Nat -> Prop} {v:Value}
theorem Fl(hfo:AK P t f=some fo)(ha:Bf P t2=some false)(hb:BK w b us T)(k:lB us (0+fo) fun u=>TL P N ops Q rest (BC (BC K o.dst (.pointer (some ⟨b,0+fo,none⟩))) o2.dst u) w)
 (h0:FD N ops K o= .yes:=by rfl) (hi:cH K o.op=some (t,f,b,0):=by rfl) (h2:FD N ops (BC K o.dst (.pointer (some ⟨b,0+fo,none⟩))) o2= .yes:=by rfl)
 (hl:Rl (BC K o.dst (.pointer (some ⟨b,0+fo,none⟩))) o2.op=some (t2,b,0+fo):=by rfl):TL P N ops Q (o::o2::rest) K w:=by
 obtain⟨u,hu,k⟩:=k.ok
 exact Yl h0 (BF hi hfo) (Yl h2 (Di hl ha hb hu) k)
theorem Fq(hfo:AK P t f=some fo)(ha:Bf P t2=some false)(hb:BK w b us T)(k:lB us (0+fo) fun u=>QL P N ops w Qa rest (BC (BC K o.dst (.pointer (some ⟨b,0+fo,none⟩))) o2.dst u))
 (h0:FD N ops K o= .yes:=by rfl) (hi:cH K o.op=some (t,f,b,0):=by rfl) (h2:FD N ops (BC K o.dst (.pointer (some ⟨b,0+fo,none⟩))) o2= .yes:=by rfl)
 (hl:Rl (BC K o.dst (.pointer (some ⟨b,0+fo,none⟩))) o2.op=some (t2,b,0+fo):=by rfl):QL P N ops w Qa (o::o2::rest) K:=by
 obtain⟨u,hu,k⟩:=k.ok
 exact Qy h0 (BF hi hfo) (Qy h2 (Di hl ha hb hu) k)
theorem Fc(hfo:AK P t f=some fo)(ha:Bf P t2=some false)(hb:AM w b off us)(k:lB us fo fun u=>TL P N ops Q rest (BC (BC K o.dst (.pointer (some ⟨b,off+fo,none⟩))) o2.dst u) w)
 (h0:FD N ops K o= .yes:=by rfl) (hi:cH K o.op=some (t,f,b,off):=by rfl) (h2:FD N ops (BC K o.dst (.pointer (some ⟨b,off+fo,none⟩))) o2= .yes:=by rfl)
 (hl:Rl (BC K o.dst (.pointer (some ⟨b,off+fo,none⟩))) o2.op=some (t2,b,off+fo):=by rfl):TL P N ops Q (o::o2::rest) K w:=by
 obtain⟨u,hu,k⟩:=k.ok
 exact Yl h0 (BF hi hfo) (Yl h2 (FG fo hl ha hb rfl hu) k)
theorem KW(hfo:AK P t f=some fo)(ha:Bf P t2=some false)(hb:AM w b off us)(k:lB us fo fun u=>QL P N ops w Qa rest (BC (BC K o.dst (.pointer (some ⟨b,off+fo,none⟩))) o2.dst u))
 (h0:FD N ops K o= .yes:=by rfl) (hi:cH K o.op=some (t,f,b,off):=by rfl) (h2:FD N ops (BC K o.dst (.pointer (some ⟨b,off+fo,none⟩))) o2= .yes:=by rfl)
 (hl:Rl (BC K o.dst (.pointer (some ⟨b,off+fo,none⟩))) o2.op=some (t2,b,off+fo):=by rfl):QL P N ops w Qa (o::o2::rest) K:=by
 obtain⟨u,hu,k⟩:=k.ok
 exact Qy h0 (BF hi hfo) (Qy h2 (FG fo hl ha hb rfl hu) k)
theorem Dq(hfo:AK P t f=some fo)(ha:Bf P t2=some false)(hb:BK w b us T)(hu3:P.underlying t3=some (.slice e))(hs:AD c w S xs v)
 (k:TL P N ops Q rest (BC (BC (BC K o.dst (.pointer (some ⟨b,0+fo,none⟩))) o2.dst v) o3.dst (.int .i64 xs.length)) w) (hv:us[0+fo]? =some v:=by rfl)
 (h0:FD N ops K o= .yes:=by rfl) (hi:cH K o.op=some (t,f,b,0):=by rfl) (h2:FD N ops (BC K o.dst (.pointer (some ⟨b,0+fo,none⟩))) o2= .yes:=by rfl)
 (hl:Rl (BC K o.dst (.pointer (some ⟨b,0+fo,none⟩))) o2.op=some (t2,b,0+fo):=by rfl) (h3:FD N ops (BC (BC K o.dst (.pointer (some ⟨b,0+fo,none⟩))) o2.dst v) o3= .yes:=by rfl)
 (hl3:oK (BC (BC K o.dst (.pointer (some ⟨b,0+fo,none⟩))) o2.dst v) o3.op=some (t3,v):=by rfl):TL P N ops Q (o::o2::o3::rest) K w:=
 Yl h0 (BF hi hfo) (Yl h2 (Di hl ha hb hv) (Yl h3 (Bs hl3 hu3 hs) k))
theorem Rf(hfo:AK P t f=some fo)(ha:Bf P t2=some false)(hb:BK w b us T)(hu3:P.underlying t3=some (.slice e))(hs:AD c w S xs v)
 (k:QL P N ops w Qa rest (BC (BC (BC K o.dst (.pointer (some ⟨b,0+fo,none⟩))) o2.dst v) o3.dst (.int .i64 xs.length))) (hv:us[0+fo]? =some v:=by rfl)
 (h0:FD N ops K o= .yes:=by rfl) (hi:cH K o.op=some (t,f,b,0):=by rfl) (h2:FD N ops (BC K o.dst (.pointer (some ⟨b,0+fo,none⟩))) o2= .yes:=by rfl)
 (hl:Rl (BC K o.dst (.pointer (some ⟨b,0+fo,none⟩))) o2.op=some (t2,b,0+fo):=by rfl) (h3:FD N ops (BC (BC K o.dst (.pointer (some ⟨b,0+fo,none⟩))) o2.dst v) o3= .yes:=by rfl)
 (hl3:oK (BC (BC K o.dst (.pointer (some ⟨b,0+fo,none⟩))) o2.dst v) o3.op=some (t3,v):=by rfl):QL P N ops w Qa (o::o2::o3::rest) K:=
 Qy h0 (BF hi hfo) (Qy h2 (Di hl ha hb hv) (Qy h3 (Bs hl3 hu3 hs) k))
end
end
/-! ## A fork one of whose ways returns at once -/
section
variable (N:Nat)
def RX:Nat->Md->List Frame->KL->Option KL
 |0=>fun _ _ _=>none
 |n+1=>fun m fs K=>match m with
  | .c c=>match c with
   | .seq x y=>RX n (.c x) (.seq y::fs) K
   | .region _ ops false=>RX n (.o ops ops.toList) fs K
   | .block id x=>RX n (.c x) (.blk id::fs) K
   | .skip=>RX n (.e .normal) fs K
   | .exit id=>RX n (.e (.exit id)) fs K
   | .ret=>RX n (.e .ret) fs K
   |_=>none
  | .o ops l=>match l with
   |[]=>RX n (.e .normal) fs K
   |o::rest=>match FD N ops K o with
    | .yes=>match yq K o.op with
     |some v=>RX n (.o ops rest) fs (BC K o.dst v)
     |none=>none
    | .skip=>RX n (.o ops rest) fs (BC K o.dst undef)
    | .no=>none
  | .e e=>match fs with
   |[]=>match e with
    | .ret=>some K
    |_=>none
   | .seq c::fs=>match e with
    | .normal=>RX n (.c c) fs K
    | .ret=>RX n (.e .ret) fs K
    | .exit id=>RX n (.e (.exit id)) fs K
    |_=>none
   | .blk id::fs=>match e with
    | .normal=>RX n (.e .normal) fs K
    | .ret=>RX n (.e .ret) fs K
    | .exit id'=>bif Nat.beq id' id then RX n (.e .normal) fs K else RX n (.e (.exit id')) fs K
    |_=>none
   | .lp f::fs=>match e with
    | .ret=>RX n (.e .ret) fs K
    | .exit id=>RX n (.e (.exit id)) fs K
    |_=>none
end
section
variable {P:Program} {N:Nat} {Q0:Exit -> Act -> World -> Prop}
theorem RX.ok:∀(n:Nat) {m:Md} {fs:List Frame} {K K':KL} {w:World},RX N n m fs K=some K'->NX N Q0 .ret K' w->uZ P N Q0 m fs K w
 |0,_,_,_,_,_,h,_=>by cases h
 |n+1,m,fs,K,K',w,h,q=>by
  cases m with
  |c c=>
   cases c with
   |seq x y=>exact WC.seq (RX.ok n h q)
   |region id ops d=>
    cases d with
    |false=>
     have h2:TL P N ops (FY P Q0 fs) ops.toList K w:=RX.ok n h q
     show WC P N (.region id ops false) (FY P Q0 fs) K w
     have:ops=ops.toList.toArray:=by simp
     rw [this];rw [this]at h2
     exact WC.region (by simpa using h2)
    |true=>cases h
   |block id x=>exact WC.block (RX.ok n h q)
   |skip=>exact WC.skip' (RX.ok n h q)
   |exit id=>exact WC.exit' (RX.ok n h q)
   |ret=>exact WC.ret' (RX.ok n h q)
   |cond _ _ _=>cases h
   |loop _=>cases h
   |_=>cases h
  |o ops l=>
   cases l with
   |nil=>exact TL.done (RX.ok n h q)
   |cons o rest=>
    simp only [RX]at h
    split at h
    ·rename_i hg
     split at h
     ·rename_i v hv;exact Yl hg (Lo hv) (RX.ok n h q)
     ·cases h
    ·rename_i hg;exact Sk hg (RX.ok n h q)
    ·cases h
  |e e=>
   cases fs with
   |nil=>
    cases e with
    |ret=>obtain rfl:=Option.some.inj h;exact q
    |_=>cases h
   |cons f fs=>
    cases f with
    |seq c=>
     cases e with
     |normal=>exact NX.seq (RX.ok n h q)
     |ret=>exact NX.then_r (RX.ok n h q)
     |exit id=>exact NX.then_e (RX.ok n h q)
     |_=>cases h
    |blk id=>
     cases e with
     |normal=>exact NX.blk_n (RX.ok n h q)
     |ret=>exact NX.blk_r (RX.ok n h q)
     |exit id'=>
      simp only [RX]at h
      cases hb:Nat.beq id' id with
      |true=>
       rw [hb]at h
       obtain rfl:=Nat.eq_of_beq_eq_true hb
       exact NX.blk_hit (RX.ok n h q)
      |false=>rw [hb]at h;exact NX.blk_miss hb (RX.ok n h q)
     |_=>cases h
    |lp f=>
     cases e with
     |normal=>cases h
     |ret=>exact NX.then_r (RX.ok n h q)
     |exit id=>exact NX.then_e (RX.ok n h q)
     |_=>cases h
def RV(N n:Nat)(m:Md)(fs:List Frame)(K:KL)(rs:List ResultVar):Option Value:=match RX N n m fs K with
 |some K'=>match YL K' rs with
  |some vs=>some (FH vs)
  |none=>none
 |none=>none
theorem RV.ok{n:Nat}{m:Md}{fs:List Frame}{K:KL}{w:World}{fn:Func}{v:Value}{R:Ending->World->Prop}(h:RV N n m fs K fn.results.toList=some v)(hR:R (.returned v) w):uZ P N (bodyPost P fn R) m fs K w:=by
 unfold RV at h
 split at h
 ·rename_i K' h1
  split at h
  ·rename_i vs h2
   obtain rfl:=Option.some.inj h
   exact RX.ok n h1 (Ne (by simp) h2 hR)
  ·cases h
 ·cases h
variable {α:Type} {c:Operand} {x y:Code} {t:Bool} {u:α} {A B:Option α} {r:α} {v:Value} {X:World -> Prop} {fn:Func} {fs:List Frame} {K:KL} {w:World}
theorem Wt(hF:(bif t then some u else B)=some r)(hX:X w)(k:B=some r->WC P N y (FY P (bodyPost P fn (DA fun z U=>z=v∧X U)) fs) K w)(hc:Bm K c=some (.bool t):=by rfl)(hv:u=r->RV N 99 (.c x) fs K fn.results.toList=some v:=by intro h;subst h;rfl):
 WC P N (.cond c x y) (FY P (bodyPost P fn (DA fun z U=>z=v∧X U)) fs) K w:=
 Wc hc hF (fun h=>RV.ok (m:=.c x) (hv (Sy h)) ⟨_,rfl,rfl,hX⟩) k
theorem Wf(hF:(bif t then A else some u)=some r)(hX:X w)(k:A=some r->WC P N x (FY P (bodyPost P fn (DA fun z U=>z=v∧X U)) fs) K w)(hc:Bm K c=some (.bool t):=by rfl)(hv:u=r->RV N 99 (.c y) fs K fn.results.toList=some v:=by intro h;subst h;rfl):
 WC P N (.cond c x y) (FY P (bodyPost P fn (DA fun z U=>z=v∧X U)) fs) K w:=
 Wc hc hF k fun h=>RV.ok (m:=.c y) (hv (Sy h)) ⟨_,rfl,rfl,hX⟩
theorem Iy{c:Code}(hF:some u=some r)(hX:X w)(hv:u=r->RV N 99 (.c c) fs K fn.results.toList=some v:=by intro h;subst h;rfl):WC P N c (FY P (bodyPost P fn (DA fun z U=>z=v∧X U)) fs) K w:=RV.ok (m:=.c c) (hv (Sy hF)) ⟨_,rfl,rfl,hX⟩
theorem DW{ops:Array Oper}{l:List Oper}(hF:some u=some r)(hX:X w)(hv:u=r->RV N 99 (.o ops l) fs K fn.results.toList=some v:=by intro h;subst h;rfl):TL P N ops (FY P (bodyPost P fn (DA fun z U=>z=v∧X U)) fs) l K w:=RV.ok (m:=.o ops l) (hv (Sy hF)) ⟨_,rfl,rfl,hX⟩
theorem Uc{e:Exit}(hF:some u=some r)(hX:X w)(hv:u=r->RV N 99 (.e e) fs K fn.results.toList=some v:=by intro h;subst h;rfl):NX N (FY P (bodyPost P fn (DA fun z U=>z=v∧X U)) fs) e K w:=RV.ok (m:=.e e) (hv (Sy hF)) ⟨_,rfl,rfl,hX⟩
end
section
variable {κ ρ s1 s2 s3 s4 s5 s6 s7 s8:Type} {r:ρ} {k:κ}
theorem Ud{L:κ->s1->s2->Option ρ}{a b}(h:L k a b=some r):∃k',k'=k∧L k' a b=some r:=⟨k,rfl,h⟩
theorem La{L:κ->s1->s2->s3->Option ρ}{a b c}(h:L k a b c=some r):∃k',k'=k∧L k' a b c=some r:=⟨k,rfl,h⟩
theorem GkD{L:κ->s1->s2->s3->s4->Option ρ}{a b c d}(h:L k a b c d=some r):∃k',k'=k∧L k' a b c d=some r:=⟨k,rfl,h⟩
theorem GkE{L:κ->s1->s2->s3->s4->s5->Option ρ}{a b c d e}(h:L k a b c d e=some r):∃k',k'=k∧L k' a b c d e=some r:=⟨k,rfl,h⟩
theorem GkF{L:κ->s1->s2->s3->s4->s5->s6->Option ρ}{a b c d e f}(h:L k a b c d e f=some r):∃k',k'=k∧L k' a b c d e f=some r:=⟨k,rfl,h⟩
end
/-! ## Guards whose ways leave the world alone -/
section
variable {P:Program} {N:Nat} {Q0:Exit -> Act -> World -> Prop} {K K':KL} {w:World} {fs:List Frame} {ops:Array Oper} {l:List Oper} {Q:Exit -> Act -> World -> Prop} {Qa:Act -> Prop}
theorem DI(e:K'.map (fun p=>kl K p.1)=K'.map (fun p=>some p.2):=by rfl):TL P N ops (FY P Q0 (.lp (fun a u=>Kn N K' a∧u=w)::fs)) [] K w:=TL.nil fun _ h=>⟨h.sub e,rfl⟩
theorem WV(k:Nat)(is:List Nat)(j:Nat)(c:Bool){K1:KL}(hk:OH K is [(j,.bool c)]=some K1)(h1:TL P N ops (FY P Q0 (.lp (fun a' w'=>Kn N K1 a'∧w'=w)::fs)) (l.take k) K w)(h2:TL P N ops (FY P Q0 fs) (l.drop k) K1 w):
 TL P N ops (FY P Q0 fs) l K w:=TL.cutD k K1 (fun w'=>w'=w) h1 fun w' e=>e▸h2
def In(N:Nat)(ops:Array Oper):List Oper->KL->Option KL
 |[],K=>some K
 |o::rest,K=>match FD N ops K o with
  | .yes=>match yq K o.op with
   |some v=>In N ops rest (BC K o.dst v)
   |none=>none
  | .skip=>In N ops rest (BC K o.dst undef)
  | .no=>none
theorem In.ok:∀{l:List Oper} {K K':KL},In N ops l K=some K'->TL P N ops Q [] K' w->TL P N ops Q l K w
 |[],K,K',h,q=>by obtain rfl:=Option.some.inj h;exact q
 |o::rest,K,K',h,q=>by
  simp only [In]at h
  split at h
  ·rename_i hg
   split at h
   ·rename_i v hv;exact Yl hg (Lo hv) (In.ok h q)
   ·cases h
  ·rename_i hg;exact Sk hg (In.ok h q)
  ·cases h
theorem In.okq:∀{l:List Oper} {K K':KL},In N ops l K=some K'->QL P N ops w Qa [] K'->QL P N ops w Qa l K
 |[],K,K',h,q=>by obtain rfl:=Option.some.inj h;exact q
 |o::rest,K,K',h,q=>by
  simp only [In]at h
  split at h
  ·rename_i hg
   split at h
   ·rename_i v hv;exact Qy hg (Lo hv) (In.okq h q)
   ·cases h
  ·rename_i hg;exact Qs hg (In.okq h q)
  ·cases h
theorem aB{N:Nat}{Kt K1:KL}{t j:Nat}{c x u v:Bool}(e:c=x)(t1:kl Kt t=some (.bool x))(b1:kl Kt j=some (.bool u))(uv:u=v)(e1:K1.map (fun p=>kl ((t,.bool c)::(j,.bool v)::Kt) p.1)=K1.map (fun p=>some p.2))(a:Act)(h:Kn N Kt a):Kn N K1 a:=by
 subst uv
 refine Kn.sub (Kn.know (u:=.bool x) (h.know b1 rfl) ?_ (by rw [e])) e1
 cases hb:Nat.beq j t with
 |false=>simpa [kl,hb] using t1
 |true=>obtain rfl:=Nat.eq_of_beq_eq_true hb;rw [b1]at t1;simpa [kl] using t1
section
variable {c b:Bool} {K1 Kt Kf:KL}
theorem kZ(k:Nat)(is:List Nat)(j t:Nat)(k2:TL P N ops (FY P Q0 fs) (l.drop k) K1 w)(ha:kl K t=some (.bool c):=by rfl)
 (h1:In N ops (l.take k) ((t,.bool true)::K)=some Kt:=by rfl) (b1:kl Kt j=some (.bool b):=by rfl) (t1:kl Kt t=some (.bool true):=by rfl)
 (h2:In N ops (l.take k) ((t,.bool false)::K)=some Kf:=by rfl) (b2:kl Kf j=some (.bool false):=by rfl) (t2:kl Kf t=some (.bool false):=by rfl) (hk:OH K is [(j,.bool (c&&b))]=some K1:=by rfl)
 (e1:K1.map (fun p=>kl ((t,.bool c)::(j,.bool (c&&b))::Kt) p.1)=K1.map (fun p=>some p.2):=by rfl) (e2:K1.map (fun p=>kl ((t,.bool c)::(j,.bool (c&&b))::Kf) p.1)=K1.map (fun p=>some p.2):=by rfl):TL P N ops (FY P Q0 fs) l K w:=
 WV k is j (c&&b) hk (Kd t ha (fun e=>In.ok h1 (TL.nil fun a h=>⟨aB e t1 b1 (uY e) e1 a h,rfl⟩)) fun e=>In.ok h2 (TL.nil fun a h=>⟨aB e t2 b2 (vE e) e2 a h,rfl⟩)) k2
theorem jT(k:Nat)(is:List Nat)(j t:Nat)(k2:TL P N ops (FY P Q0 fs) (l.drop k) K1 w)(ha:kl K t=some (.bool c):=by rfl)
 (h1:In N ops (l.take k) ((t,.bool true)::K)=some Kt:=by rfl) (b1:kl Kt j=some (.bool true):=by rfl) (t1:kl Kt t=some (.bool true):=by rfl)
 (h2:In N ops (l.take k) ((t,.bool false)::K)=some Kf:=by rfl) (b2:kl Kf j=some (.bool b):=by rfl) (t2:kl Kf t=some (.bool false):=by rfl) (hk:OH K is [(j,.bool (c||b))]=some K1:=by rfl)
 (e1:K1.map (fun p=>kl ((t,.bool c)::(j,.bool (c||b))::Kt) p.1)=K1.map (fun p=>some p.2):=by rfl) (e2:K1.map (fun p=>kl ((t,.bool c)::(j,.bool (c||b))::Kf) p.1)=K1.map (fun p=>some p.2):=by rfl):TL P N ops (FY P Q0 fs) l K w:=
 WV k is j (c||b) hk (Kd t ha (fun e=>In.ok h1 (TL.nil fun a h=>⟨aB e t1 b1 (vB e) e1 a h,rfl⟩)) fun e=>In.ok h2 (TL.nil fun a h=>⟨aB e t2 b2 (uV e) e2 a h,rfl⟩)) k2
theorem Iu(k:Nat)(is:List Nat)(j t:Nat)(b:Bool){c:Bool}{K1 Kx Kf:KL}(hx:OH ((t,.bool true)::K) (t::is) [(j,.bool b)]=some Kx)(h1:TL P N ops (FY P Q0 (.lp (fun a' w'=>Kn N Kx a'∧w'=w)::fs)) (l.take k) ((t,.bool true)::K) w)(k2:TL P N ops (FY P Q0 fs) (l.drop k) K1 w)(ha:kl K t=some (.bool c):=by rfl)
 (h2:In N ops (l.take k) ((t,.bool false)::K)=some Kf:=by rfl) (b2:kl Kf j=some (.bool false):=by rfl) (t2:kl Kf t=some (.bool false):=by rfl) (hk:OH K is [(j,.bool (c&&b))]=some K1:=by rfl) (b1:kl Kx j=some (.bool b):=by rfl) (t1:kl Kx t=some (.bool true):=by rfl)
 (e1:K1.map (fun p=>kl ((t,.bool c)::(j,.bool (c&&b))::Kx) p.1)=K1.map (fun p=>some p.2):=by rfl) (e2:K1.map (fun p=>kl ((t,.bool c)::(j,.bool (c&&b))::Kf) p.1)=K1.map (fun p=>some p.2):=by rfl):TL P N ops (FY P Q0 fs) l K w:=
 Kd t ha (fun e=>TL.cutD k Kx (fun w'=>w'=w) h1 fun w' q=>q▸fun a hK=>k2 a (aB e t1 b1 (uY e) e1 a hK)) fun e=>TL.cutD k Kf (fun w'=>w'=w) (In.ok h2 (TL.nil fun a h=>⟨h,rfl⟩)) fun w' q=>q▸fun a hK=>k2 a (aB e t2 b2 (vE e) e2 a hK)
theorem Rj(k:Nat)(is:List Nat)(j t:Nat)(b:Bool){c:Bool}{K1 Kx Kf:KL}(hx:OH ((t,.bool false)::K) (t::is) [(j,.bool b)]=some Kx)(h1:TL P N ops (FY P Q0 (.lp (fun a' w'=>Kn N Kx a'∧w'=w)::fs)) (l.take k) ((t,.bool false)::K) w)(k2:TL P N ops (FY P Q0 fs) (l.drop k) K1 w)(ha:kl K t=some (.bool c):=by rfl)
 (h2:In N ops (l.take k) ((t,.bool true)::K)=some Kf:=by rfl) (b2:kl Kf j=some (.bool true):=by rfl) (t2:kl Kf t=some (.bool true):=by rfl) (hk:OH K is [(j,.bool (c||b))]=some K1:=by rfl) (b1:kl Kx j=some (.bool b):=by rfl) (t1:kl Kx t=some (.bool false):=by rfl)
 (e1:K1.map (fun p=>kl ((t,.bool c)::(j,.bool (c||b))::Kx) p.1)=K1.map (fun p=>some p.2):=by rfl) (e2:K1.map (fun p=>kl ((t,.bool c)::(j,.bool (c||b))::Kf) p.1)=K1.map (fun p=>some p.2):=by rfl):TL P N ops (FY P Q0 fs) l K w:=
 Kd t ha (fun e=>TL.cutD k Kf (fun w'=>w'=w) (In.ok h2 (TL.nil fun a h=>⟨h,rfl⟩)) fun w' q=>q▸fun a hK=>k2 a (aB e t2 b2 (vB e) e2 a hK)) fun e=>TL.cutD k Kx (fun w'=>w'=w) h1 fun w' q=>q▸fun a hK=>k2 a (aB e t1 b1 (uV e) e1 a hK)
theorem Yh(k:Nat)(is:List Nat)(j t:Nat)(b:Bool){c:Bool}{K1 Kx Kf:KL}(hx:OH ((t,.bool true)::K) (t::is) [(j,.bool b)]=some Kx)(h1:QL P N ops w (fun a'=>Kn N Kx a') (l.take k) ((t,.bool true)::K))(k2:QL P N ops w Qa (l.drop k) K1)(ha:kl K t=some (.bool c):=by rfl)
 (h2:In N ops (l.take k) ((t,.bool false)::K)=some Kf:=by rfl) (b2:kl Kf j=some (.bool false):=by rfl) (t2:kl Kf t=some (.bool false):=by rfl) (hk:OH K is [(j,.bool (c&&b))]=some K1:=by rfl) (b1:kl Kx j=some (.bool b):=by rfl) (t1:kl Kx t=some (.bool true):=by rfl)
 (e1:K1.map (fun p=>kl ((t,.bool c)::(j,.bool (c&&b))::Kx) p.1)=K1.map (fun p=>some p.2):=by rfl) (e2:K1.map (fun p=>kl ((t,.bool c)::(j,.bool (c&&b))::Kf) p.1)=K1.map (fun p=>some p.2):=by rfl):QL P N ops w Qa l K:=
 Kdq t ha (fun e=>QL.cut k Kx h1 fun a hK=>k2 a (aB e t1 b1 (uY e) e1 a hK)) fun e=>QL.cut k Kf (In.okq h2 (QL.nil fun a h=>h)) fun a hK=>k2 a (aB e t2 b2 (vE e) e2 a hK)
end
theorem FO{β:Type}{A:Option Bool}{g:Bool->Option β}{r:β}{c:Bool}{K1 Kx:Bool->KL}{Kf:KL}(k:Nat)(is:List Nat)(j t:Nat)(hF:Option.bind (bif c then A else some false) g=some r)(h1:∀b,A=some b->TL P N ops (FY P Q0 (.lp (fun a' w'=>Kn N (Kx b) a'∧AJ w w')::fs)) (l.take k) ((t,.bool true)::K) w)(k2:∀b,g b=some r->∀w',AJ w w'->TL P N ops (FY P Q0 fs) (l.drop k) (K1 b) w')(ha:kl K t=some (.bool c):=by rfl)
 (hx:∀b,OH ((t,.bool true)::K) (t::is) [(j,.bool b)]=some (Kx b):=by intro _;rfl) (hk:∀b,OH K is [(j,.bool b)]=some (K1 b):=by intro _;rfl) (h2:In N ops (l.take k) ((t,.bool false)::K)=some Kf:=by rfl)
 (t1:∀b,kl (Kx b) t=some (.bool true):=by intro _;rfl) (t2:kl Kf t=some (.bool false):=by rfl)
 (e1:∀b,(K1 b).map (fun p=>kl ((t,.bool c)::Kx b) p.1)=(K1 b).map (fun p=>some p.2):=by intro _;rfl) (e2:(K1 false).map (fun p=>kl ((t,.bool c)::Kf) p.1)=(K1 false).map (fun p=>some p.2):=by rfl):TL P N ops (FY P Q0 fs) l K w:=by
 obtain⟨b,hb,h3⟩:=AH hF
 refine Kd t ha (fun e=>?_) fun e=>?_
 ·replace hb:=OE e hb;exact TL.cutD k (Kx b) (fun w'=>AJ w w') (h1 b hb) fun w' q a hK=>k2 b h3 w' q a ((hK.know (t1 b) (by rw [e])).sub (e1 b))
 ·replace hb:=NL e hb;obtain rfl:=Sy hb;exact TL.cutD k Kf (fun w'=>AJ w w') (In.ok h2 (TL.nil fun a h=>⟨h,AJ.refl _⟩)) fun w' q a hK=>k2 _ h3 w' q a ((hK.know t2 (by rw [e])).sub e2)
theorem Lz{β:Type}{A:Option Bool}{g:Bool->Option β}{r:β}{c:Bool}{K1 Kx:Bool->KL}{Kf:KL}(k:Nat)(is:List Nat)(j t:Nat)(hF:Option.bind (bif c then some true else A) g=some r)(h1:∀b,A=some b->TL P N ops (FY P Q0 (.lp (fun a' w'=>Kn N (Kx b) a'∧AJ w w')::fs)) (l.take k) ((t,.bool false)::K) w)(k2:∀b,g b=some r->∀w',AJ w w'->TL P N ops (FY P Q0 fs) (l.drop k) (K1 b) w')(ha:kl K t=some (.bool c):=by rfl)
 (hx:∀b,OH ((t,.bool false)::K) (t::is) [(j,.bool b)]=some (Kx b):=by intro _;rfl) (hk:∀b,OH K is [(j,.bool b)]=some (K1 b):=by intro _;rfl) (h2:In N ops (l.take k) ((t,.bool true)::K)=some Kf:=by rfl)
 (t1:∀b,kl (Kx b) t=some (.bool false):=by intro _;rfl) (t2:kl Kf t=some (.bool true):=by rfl)
 (e1:∀b,(K1 b).map (fun p=>kl ((t,.bool c)::Kx b) p.1)=(K1 b).map (fun p=>some p.2):=by intro _;rfl) (e2:(K1 true).map (fun p=>kl ((t,.bool c)::Kf) p.1)=(K1 true).map (fun p=>some p.2):=by rfl):TL P N ops (FY P Q0 fs) l K w:=by
 obtain⟨b,hb,h3⟩:=AH hF
 refine Kd t ha (fun e=>?_) fun e=>?_
 ·replace hb:=OE e hb;obtain rfl:=Sy hb;exact TL.cutD k Kf (fun w'=>AJ w w') (In.ok h2 (TL.nil fun a h=>⟨h,AJ.refl _⟩)) fun w' q a hK=>k2 _ h3 w' q a ((hK.know t2 (by rw [e])).sub e2)
 ·replace hb:=NL e hb;exact TL.cutD k (Kx b) (fun w'=>AJ w w') (h1 b hb) fun w' q a hK=>k2 b h3 w' q a ((hK.know (t1 b) (by rw [e])).sub (e1 b))
theorem JB{β:Type}{A:Option Bool}{g:Bool->Option β}{r:β}{c:Bool}{K1 Kx:Bool->KL}{Kf:KL}(k:Nat)(is:List Nat)(j t:Nat)(hF:Option.bind (bif c then A else some false) g=some r)(h1:∀b,A=some b->TL P N ops (FY P Q0 (.lp (fun a' w'=>Kn N (Kx b) a'∧w'=w)::fs)) (l.take k) ((t,.bool true)::K) w)(k2:∀b,g b=some r->TL P N ops (FY P Q0 fs) (l.drop k) (K1 b) w)(ha:kl K t=some (.bool c):=by rfl)
 (hx:∀b,OH ((t,.bool true)::K) (t::is) [(j,.bool b)]=some (Kx b):=by intro _;rfl) (hk:∀b,OH K is [(j,.bool b)]=some (K1 b):=by intro _;rfl) (h2:In N ops (l.take k) ((t,.bool false)::K)=some Kf:=by rfl)
 (t1:∀b,kl (Kx b) t=some (.bool true):=by intro _;rfl) (t2:kl Kf t=some (.bool false):=by rfl)
 (e1:∀b,(K1 b).map (fun p=>kl ((t,.bool c)::Kx b) p.1)=(K1 b).map (fun p=>some p.2):=by intro _;rfl) (e2:(K1 false).map (fun p=>kl ((t,.bool c)::Kf) p.1)=(K1 false).map (fun p=>some p.2):=by rfl):TL P N ops (FY P Q0 fs) l K w:=by
 obtain⟨b,hb,h3⟩:=AH hF
 refine Kd t ha (fun e=>?_) fun e=>?_
 ·replace hb:=OE e hb;exact TL.cutD k (Kx b) (fun w'=>w'=w) (h1 b hb) fun w' q=>q▸fun a hK=>k2 b h3 a ((hK.know (t1 b) (by rw [e])).sub (e1 b))
 ·replace hb:=NL e hb;obtain rfl:=Sy hb;exact TL.cutD k Kf (fun w'=>w'=w) (In.ok h2 (TL.nil fun a h=>⟨h,rfl⟩)) fun w' q=>q▸fun a hK=>k2 _ h3 a ((hK.know t2 (by rw [e])).sub e2)
theorem Pi{β:Type}{A:Option Bool}{g:Bool->Option β}{r:β}{c:Bool}{K1 Kx:Bool->KL}{Kf:KL}(k:Nat)(is:List Nat)(j t:Nat)(hF:Option.bind (bif c then some true else A) g=some r)(h1:∀b,A=some b->TL P N ops (FY P Q0 (.lp (fun a' w'=>Kn N (Kx b) a'∧w'=w)::fs)) (l.take k) ((t,.bool false)::K) w)(k2:∀b,g b=some r->TL P N ops (FY P Q0 fs) (l.drop k) (K1 b) w)(ha:kl K t=some (.bool c):=by rfl)
 (hx:∀b,OH ((t,.bool false)::K) (t::is) [(j,.bool b)]=some (Kx b):=by intro _;rfl) (hk:∀b,OH K is [(j,.bool b)]=some (K1 b):=by intro _;rfl) (h2:In N ops (l.take k) ((t,.bool true)::K)=some Kf:=by rfl)
 (t1:∀b,kl (Kx b) t=some (.bool false):=by intro _;rfl) (t2:kl Kf t=some (.bool true):=by rfl)
 (e1:∀b,(K1 b).map (fun p=>kl ((t,.bool c)::Kx b) p.1)=(K1 b).map (fun p=>some p.2):=by intro _;rfl) (e2:(K1 true).map (fun p=>kl ((t,.bool c)::Kf) p.1)=(K1 true).map (fun p=>some p.2):=by rfl):TL P N ops (FY P Q0 fs) l K w:=by
 obtain⟨b,hb,h3⟩:=AH hF
 refine Kd t ha (fun e=>?_) fun e=>?_
 ·replace hb:=OE e hb;obtain rfl:=Sy hb;exact TL.cutD k Kf (fun w'=>w'=w) (In.ok h2 (TL.nil fun a h=>⟨h,rfl⟩)) fun w' q=>q▸fun a hK=>k2 _ h3 a ((hK.know t2 (by rw [e])).sub e2)
 ·replace hb:=NL e hb;exact TL.cutD k (Kx b) (fun w'=>w'=w) (h1 b hb) fun w' q=>q▸fun a hK=>k2 b h3 a ((hK.know (t1 b) (by rw [e])).sub (e1 b))
theorem Lt{β:Type}{A:Option Bool}{g:Bool->Option β}{r:β}{c:Bool}{K1 Kx:Bool->KL}{Kf:KL}(k:Nat)(is:List Nat)(j t:Nat)(hF:Option.bind (bif c then A else some false) g=some r)(h1:∀b,A=some b->QL P N ops w (fun a'=>Kn N (Kx b) a') (l.take k) ((t,.bool true)::K))(k2:∀b,g b=some r->QL P N ops w Qa (l.drop k) (K1 b))(ha:kl K t=some (.bool c):=by rfl)
 (hx:∀b,OH ((t,.bool true)::K) (t::is) [(j,.bool b)]=some (Kx b):=by intro _;rfl) (hk:∀b,OH K is [(j,.bool b)]=some (K1 b):=by intro _;rfl) (h2:In N ops (l.take k) ((t,.bool false)::K)=some Kf:=by rfl)
 (t1:∀b,kl (Kx b) t=some (.bool true):=by intro _;rfl) (t2:kl Kf t=some (.bool false):=by rfl)
 (e1:∀b,(K1 b).map (fun p=>kl ((t,.bool c)::Kx b) p.1)=(K1 b).map (fun p=>some p.2):=by intro _;rfl) (e2:(K1 false).map (fun p=>kl ((t,.bool c)::Kf) p.1)=(K1 false).map (fun p=>some p.2):=by rfl):QL P N ops w Qa l K:=by
 obtain⟨b,hb,h3⟩:=AH hF
 refine Kdq t ha (fun e=>?_) fun e=>?_
 ·replace hb:=OE e hb;exact QL.cut k (Kx b) (h1 b hb) fun a hK=>k2 b h3 a ((hK.know (t1 b) (by rw [e])).sub (e1 b))
 ·replace hb:=NL e hb;obtain rfl:=Sy hb;exact QL.cut k Kf (In.okq h2 (QL.nil fun a h=>h)) fun a hK=>k2 _ h3 a ((hK.know t2 (by rw [e])).sub e2)
theorem VD{β:Type}{A:Option Bool}{g:Bool->Option β}{r:β}{c:Bool}{K1 Kx:Bool->KL}{Kf:KL}(k:Nat)(is:List Nat)(j t:Nat)(hF:Option.bind (bif c then some true else A) g=some r)(h1:∀b,A=some b->QL P N ops w (fun a'=>Kn N (Kx b) a') (l.take k) ((t,.bool false)::K))(k2:∀b,g b=some r->QL P N ops w Qa (l.drop k) (K1 b))(ha:kl K t=some (.bool c):=by rfl)
 (hx:∀b,OH ((t,.bool false)::K) (t::is) [(j,.bool b)]=some (Kx b):=by intro _;rfl) (hk:∀b,OH K is [(j,.bool b)]=some (K1 b):=by intro _;rfl) (h2:In N ops (l.take k) ((t,.bool true)::K)=some Kf:=by rfl)
 (t1:∀b,kl (Kx b) t=some (.bool false):=by intro _;rfl) (t2:kl Kf t=some (.bool true):=by rfl)
 (e1:∀b,(K1 b).map (fun p=>kl ((t,.bool c)::Kx b) p.1)=(K1 b).map (fun p=>some p.2):=by intro _;rfl) (e2:(K1 true).map (fun p=>kl ((t,.bool c)::Kf) p.1)=(K1 true).map (fun p=>some p.2):=by rfl):QL P N ops w Qa l K:=by
 obtain⟨b,hb,h3⟩:=AH hF
 refine Kdq t ha (fun e=>?_) fun e=>?_
 ·replace hb:=OE e hb;obtain rfl:=Sy hb;exact QL.cut k Kf (In.okq h2 (QL.nil fun a h=>h)) fun a hK=>k2 _ h3 a ((hK.know t2 (by rw [e])).sub e2)
 ·replace hb:=NL e hb;exact QL.cut k (Kx b) (h1 b hb) fun a hK=>k2 b h3 a ((hK.know (t1 b) (by rw [e])).sub (e1 b))
end
/-! ## Pointers against nil -/
theorem UW{P:Program}{N:Nat}{K:KL}{w:World}{fn:Func}{p ty b T:Nat}{us:List Value}{R:Ending->World->Prop}(hb:BK w b us T)(ha:Bf P ty=some true)(hn:Am P ty=some us.length)(hR:R (.returned (.agg us.toArray)) w)
 (hr:fn.results=List.toArray [.cell p ty]:=by rfl) (hk:kl K p=some (.pointer (some ⟨b,0,none⟩)):=by rfl):NX N (bodyPost P fn R) .ret K w:=
 NX.end (vs:=[.agg us.toArray]) hr ⟨⟨b,hk,Ey ha hn hb⟩,trivial⟩ hR
end Go.Eng
namespace Go.Eng
open Go Go.RowKit
/-! ## Code in a round's frame, and behind a range over a function -/
def VX:Option Nat->Fence
 |none=>Fence.wide
 |some l=>Fence.wide.inRound l
theorem Rq(r:Option Nat)(f:FuncId):(VX r).fn f:=by cases r<;>exact trivial
theorem WQ(r:Option Nat)(n:Nat):(VX r).depth.isSome=true->1<=n:=by cases r<;>intro h<;>cases h
theorem VL{P:Program}{r:Option Nat}{n:Nat}{f:FuncId}{args:Array Value}{w:World}{R:Ending->World->Prop}(h:Calls P f args w R):CallsIn (VX r) n P f args w R:=by
 have h2:CallsIn Fence.wide n P f args w R:=callsIn_wide.2 h
 cases r with
 |none=>exact h2
 |some l=>exact CallsIn.inRound l h2
theorem Zr{P:Program}{r:Option Nat}{n:Nat}{row:String}{args:Array Value}{w:World}{R:Value->World->Prop}(h:Rows P row args w R):RowsIn (VX r) n P row args w R:=by
 have h2:RowsIn Fence.wide n P row args w R:=fun c cs _=>by
  obtain⟨v,w',hr,hs⟩:=h c cs
  exact⟨v,w',hr,stepsIn_wide.2 hs⟩
 cases r with
 |none=>exact h2
 |some l=>exact h2
def DQ(Q:Exit->Act->World->Prop)(ds:List Deferred):Exit->Act->World->Prop:=fun e a w=>a.defers=[]∧e≠ .outgrown∧Q e { a with defers:=ds } w
def fQ(o:Oper):Bool:=match o.op with
 | .defer _=>false
 |_=>true
theorem Ej(a:Act)(d:Option Tmp)(v:Value):(a.put d v).defers=a.defers:=by cases d<;>rfl
theorem Hc(a:Act)(ds:List Deferred)(d:Option Tmp)(v:Value):({ a with defers:=ds }:Act).put d v={ a.put d v with defers:=ds }:=by cases d<;>rfl
def VV(Q1 Q:Exit->Act->World->Prop)(ds:List Deferred):Prop:=∀e a w,Q1 e a w->a.defers=[]∧e≠ .outgrown∧Q e { a with defers:=ds } w
theorem xN{Q:Exit->Act->World->Prop}{ds:List Deferred}:VV (DQ Q ds) Q ds:=fun _ _ _ h=>h
theorem yJ{Q:Exit->Act->World->Prop}{ds:List Deferred}:VV (noPan (DQ Q ds)) Q ds:=fun e _ _ h=>by cases e<;>first|exact h|exact h.elim
section
variable {P:Program} {Q Q1:Exit -> Act -> World -> Prop} {ds:List Deferred} {r:Option Nat} {n:Nat}
theorem VV.out(q:VV Q1 Q ds):¬LetsOut Q1:=fun⟨_,_,h⟩=>(q _ _ _ h).2.1 rfl
theorem TK(q:VV Q1 Q ds){o:Oper}{a:Act}{w:World}{K:Act->World->Prop}(ha:a.defers≠[])(hK:∀a' w',a'.defers≠[]->K a' w'->False)(h:o.wp P a w K Q1):False:=by
 unfold Oper.wp at h
 generalize (execOp a.eval o).run P w=x at h
 cases x with
 |ok v w'=>
  cases v with
  |value v=>exact hK _ _ (by rw [Ej];exact ha) h
  |skip=>exact hK _ _ (by rw [Ej];exact ha) h
  |defer d=>exact hK _ _ (by rw [Ej];exact List.cons_ne_nil _ _) h
  |enter f args=>
   obtain⟨e,w'',_,hR,_⟩:=h []
   cases e with
   |returned v=>exact hK _ _ (by rw [Ej];exact ha) hR
   |panicked c=>exact ha (q _ _ _ hR).1
   |outgrown=>exact q.out hR
  |row row args=>
   obtain⟨v,w'',hR,_⟩:=h default []
   exact hK _ _ (by rw [Ej];exact ha) hR
  |_=>exact h
 |halt e w'=>
  cases e with
  |panic v=>exact ha (q _ _ _ h).1
  |_=>exact h
theorem fZ(q:VV Q1 Q ds){o:Oper}{a:Act}{w:World}{K K':Act->World->Prop}(ho:fQ o=true)(ha:a.defers=[])(hd:∀a' w',a'.defers≠[]->K a' w'->False)
 (hK:∀a' w',a'.defers=[]->K a' w'->K' { a' with defers:=ds } w') (h:o.wp P a w K Q1):o.wpIn (VX r) n P { a with defers:=ds } w K' Q:=by
 refine⟨fun f _=>Rq r f,?_⟩
 have hs:o.semAt (VX r).round ({ a with defers:=ds }:Act).eval=execOp a.eval o:=by
  rw [Oper.semAt_eq _ _ _ (fun c hc=>by unfold fQ at ho;rw [hc]at ho;cases ho)];rfl
 rw [hs]
 unfold Oper.wp at h
 generalize (execOp a.eval o).run P w=x at h
 cases x with
 |ok v w'=>
  cases v with
  |value v=>show K' (({ a with defers:=ds }:Act).put o.dst v) w';rw [Hc];exact hK _ _ (by rw [Ej];exact ha) h
  |skip=>show K' (({ a with defers:=ds }:Act).put o.dst undef) w';rw [Hc];exact hK _ _ (by rw [Ej];exact ha) h
  |defer d=>exact absurd h fun h=>hd _ _ (by rw [Ej];exact List.cons_ne_nil _ _) h
  |enter f args=>
   refine⟨WQ r n,(VL h).mono fun e w'' hR=>?_⟩
   cases e with
   |returned v=>show K' (({ a with defers:=ds }:Act).put o.dst v) w'';rw [Hc];exact hK _ _ (by rw [Ej];exact ha) hR
   |panicked c=>exact(q _ _ _ hR).2.2
   |outgrown=>exact(q.out hR).elim
  |row row args=>
   refine⟨WQ r n,(Zr h).mono fun v w'' hR=>?_⟩
   rw [Hc];exact hK _ _ (by rw [Ej];exact ha) hR
  |_=>exact h.elim
 |halt e w'=>
  cases e with
  |panic v=>exact(q _ _ _ h).2.2
  |_=>exact h
variable {ops:Array Oper}
theorem MI(q:VV Q1 Q ds):∀{l:List Oper} {a:Act} {w:World},a.defers≠[]->wpList P ops Q1 l a w->False
 |[],a,w,ha,h=>ha (q _ _ _ h).1
 |o::l,a,w,ha,h=>by
  unfold wpList at h
  split at h
  ·rcases h with h|⟨_,h⟩
   ·exact TK q ha (fun a' w' h1 h2=>MI q h1 h2) h
   ·exact q.out h
  ·exact MI q (by rw [Ej];exact ha) h
theorem PV(q:VV Q1 Q ds):∀{l:List Oper} {a:Act} {w:World},l.all fQ=true->a.defers=[]->wpList P ops Q1 l a w->wpListIn (VX r) n P ops Q l { a with defers:=ds } w
 |[],a,w,_,ha,h=>(q _ _ _ h).2.2
 |o::l,a,w,hn,ha,h=>by
  rw [List.all_cons,Bool.and_eq_true]at hn
  unfold wpList at h
  unfold wpListIn
  split at h
  ·rename_i hw
   rw [if_pos hw]
   rcases h with h|⟨_,h⟩
   ·exact fZ q hn.1 ha (fun a' w' h1 h2=>MI q h1 h2) (fun a' w' h1 h2=>PV q hn.2 h1 h2) h
   ·exact(q.out h).elim
  ·rename_i hw
   rw [if_neg hw]
   refine⟨fun f _=>Rq r f,?_⟩
   rw [Hc];exact PV q hn.2 (by rw [Ej];exact ha) h
theorem bT(q:VV Q1 Q ds){i:Nat}{a:Act}{w:World}{K:Act->World->Prop}(ha:a.defers≠[])(hK:∀a' w',a'.defers≠[]->K a' w'->False)(h:wpOp P ops Q1 i K a w):False:=by
 unfold wpOp at h
 split at h
 ·exact hK _ _ ha h
 ·split at h
  ·rcases h with h|⟨_,h⟩
   ·exact TK q ha hK h
   ·exact q.out h
  ·exact hK _ _ (by rw [Ej];exact ha) h
theorem QB(q:VV Q1 Q ds):∀{f:Nat} {listed:Array Bool} {a:Act} {w:World},a.defers≠[]->wpAny P .any ops Q1 f listed a w->False
 |0,listed,a,w,ha,h=>ha (q _ _ _ h.2).1
 |f+1,listed,a,w,ha,h=>by
  obtain⟨h1,h2⟩:=h
  cases hr:Region.ready .any ops listed with
  |nil=>exact ha (q _ _ _ (h1 hr)).1
  |cons i l=>exact bT q ha (fun a' w' k1 k2=>QB q k1 k2) (h2 i (by rw [hr];exact List.mem_cons_self))
theorem rL(q:VV Q1 Q ds){i:Nat}{a:Act}{w:World}{K K':Act->World->Prop}(hn:ops.toList.all fQ=true)(ha:a.defers=[])(hd:∀a' w',a'.defers≠[]->K a' w'->False)
 (hK:∀a' w',a'.defers=[]->K a' w'->K' { a' with defers:=ds } w') (h:wpOp P ops Q1 i K a w):wpOpIn (VX r) n P ops Q i K' { a with defers:=ds } w:=by
 unfold wpOp at h
 unfold wpOpIn
 cases ho:ops[i]? with
 |none=>rw [ho]at h;exact hK _ _ ha h
 |some o=>
  rw [ho]at h
  have h:if Region.wanted o (yielded ops a.tmps)then o.wp P a w K Q1∨(o.asks P a w∧LetsOut Q1)else K (a.put o.dst undef) w:=h
  show if Region.wanted o (yielded ops a.tmps)then _ else _
  have hm:o∈ops.toList:=by
   obtain⟨h1,h2⟩:=Array.getElem?_eq_some_iff.1 ho
   rw [←h2];exact Array.getElem_mem_toList h1
  have hno:=List.all_eq_true.1 hn o hm
  split at h
  ·rename_i hw
   rw [if_pos hw]
   rcases h with h|⟨_,h⟩
   ·exact fZ q hno ha hd hK h
   ·exact(q.out h).elim
  ·rename_i hw
   rw [if_neg hw]
   refine⟨fun f _=>Rq r f,?_⟩
   rw [Hc];exact hK _ _ (by rw [Ej];exact ha) h
theorem Yv(q:VV Q1 Q ds)(hn:ops.toList.all fQ=true):∀{f:Nat} {listed:Array Bool} {a:Act} {w:World},a.defers=[]->wpAny P .any ops Q1 f listed a w->wpAnyIn (VX r) n P .any ops Q f listed { a with defers:=ds } w
 |0,listed,a,w,ha,h=>⟨h.1,(q _ _ _ h.2).2.2⟩
 |f+1,listed,a,w,ha,h=>⟨fun e=>(q _ _ _ (h.1 e)).2.2,fun i hi=>rL q hn ha (fun a' w' k1 k2=>QB q k1 k2) (fun a' w' k1 k2=>Yv q hn k1 k2) (h.2 i hi)⟩
end
def WX(P:Program)(N:Nat)(r:Option Nat)(n:Nat)(ds:List Deferred)(c:Code)(Q:Exit->Act->World->Prop)(K:KL)(w:World):Prop:=
 ∀a,Kn N K a->c.wpIn (VX r) n P Q { a with defers:=ds } w
def NY(N:Nat)(ds:List Deferred)(Q:Exit->Act->World->Prop)(e:Exit)(K:KL)(w:World):Prop:=∀a,Kn N K a->Q e { a with defers:=ds } w
section
variable {P:Program} {N:Nat} {r:Option Nat} {n:Nat} {ds:List Deferred} {Q:Exit -> Act -> World -> Prop} {K:KL} {w:World}
theorem WX.seq{x y:Code}(h:WX P N r n ds x (Exit.then (fun a' w'=>y.wpIn (VX r) n P Q a' w') Q) K w):WX P N r n ds (.seq x y) Q K w:=fun a hK=>wpIn_seq (h a hK)
theorem WX.region{id:Nat}{l:List Oper}(hn:l.all fQ=true)(h:TL P N l.toArray (DQ Q ds) l K w):WX P N r n ds (.region id l.toArray false) Q K w:=fun a hK=>wpIn_region_lit (PV xN hn hK.df (h a hK))
theorem WX.block{id:Nat}{c:Code}(h:WX P N r n ds c (Exit.inBlock id Q) K w):WX P N r n ds (.block id c) Q K w:=fun a hK=>wpIn_block (h a hK)
theorem WX.skip(h:NY N ds Q .normal K w):WX P N r n ds .skip Q K w:=fun a hK=>wpIn_skip (h a hK)
theorem WX.exit{id:Nat}(h:NY N ds Q (.exit id) K w):WX P N r n ds (.exit id) Q K w:=fun a hK=>wpIn_exit (h a hK)
theorem WX.ret(h:NY N ds Q .ret K w):WX P N r n ds .ret Q K w:=fun a hK=>wpIn_ret (h a hK)
theorem WX.cond{c:Operand}{x y:Code}{t:Bool}(hc:Bm K c=some (.bool t))(ht:t=true->WX P N r n ds x Q K w)(hf:t=false->WX P N r n ds y Q K w):WX P N r n ds (.cond c x y) Q K w:=
 fun a hK=>wpIn_cond_split (a:={ a with defers:=ds }) (hK.ev hc) (fun h=>ht h a hK) (fun h=>hf h a hK)
theorem WX.heldG{p:Nat->Prop}{id:Nat}{l:List Oper}(m:Nat)(hm:P.follows .mixedOrders=true)(hn:l.all fQ=true)
 (h:∀w',AJ w w'->Iw P N l.toArray m (noPan (DQ Q ds)) p w' l.length (Array.replicate l.length false) K w'):WX P N r n ds (.region id l.toArray true) Q K w:=by
 intro a hK
 have inv0:HeadInv .any l.toArray m (Array.replicate l.length false):=
  ⟨by simp,fun j oj _ hl=>(by rw [getD_replicate_false]at hl;cases hl),fun t _ ht=>getD_in (by simpa using ht) (getD_replicate_false _ _)⟩
 have h1:=CL.any _ _ _ _ (h w.drew (AJ.drew w) (by simpa using inv0) (CS.refl p _) a hK)
 refine wpIn_region_any hm ?_
 exact Yv yJ (by simpa using hn) hK.df (by simpa using h1)
end
section
variable (P:Program) (N:Nat) (r:Option Nat) (n0:Nat) (ds:List Deferred) (Q0:Exit -> Act -> World -> Prop)
def Ng:List Frame->Exit->Act->World->Prop
 |[]=>Q0
 | .seq c::fs=>Exit.then (fun a w=>c.wpIn (VX r) n0 P (Ng fs) a w) (Ng fs)
 | .blk id::fs=>Exit.inBlock id (Ng fs)
 | .lp f::fs=>Exit.then f (Ng fs)
def ON(m:Md)(fs:List Frame)(K:KL)(w:World):Prop:=match m with
 | .c c=>WX P N r n0 ds c (Ng P r n0 Q0 fs) K w
 | .o ops l=>TL P N ops (DQ (Ng P r n0 Q0 fs) ds) l K w
 | .e e=>NY N ds (Ng P r n0 Q0 fs) e K w
def Dr:Nat->Md->List Frame->KL->World->Prop
 |0=>fun m fs K w=>ON P N r n0 ds Q0 m fs K w
 |n+1=>fun m fs K w=>match m with
  | .c c=>match c with
   | .seq x y=>Dr n (.c x) (.seq y::fs) K w
   | .region _ ops false=>match ops.toList.all fQ with
    |true=>Dr n (.o ops ops.toList) fs K w
    |false=>False
   | .block id x=>Dr n (.c x) (.blk id::fs) K w
   | .skip=>Dr n (.e .normal) fs K w
   | .exit id=>Dr n (.e (.exit id)) fs K w
   | .ret=>Dr n (.e .ret) fs K w
   |_=>False
  | .o ops l=>match l with
   |[]=>Dr n (.e .normal) fs K w
   |o::rest=>match FD N ops K o with
    | .yes=>match yq K o.op with
     |some v=>Dr n (.o ops rest) fs (BC K o.dst v) w
     |none=>False
    | .skip=>Dr n (.o ops rest) fs (BC K o.dst undef) w
    | .no=>False
  | .e e=>match fs with
   |[]=>False
   | .seq c::fs=>match e with
    | .normal=>Dr n (.c c) fs K w
    | .ret=>Dr n (.e .ret) fs K w
    | .exit id=>Dr n (.e (.exit id)) fs K w
    |_=>False
   | .blk id::fs=>match e with
    | .normal=>Dr n (.e .normal) fs K w
    | .ret=>Dr n (.e .ret) fs K w
    | .exit id'=>bif Nat.beq id' id then Dr n (.e .normal) fs K w else Dr n (.e (.exit id')) fs K w
    |_=>False
   | .lp _::_=>False
end
section
variable {P:Program} {N:Nat} {r:Option Nat} {n0:Nat} {ds:List Deferred} {Q0:Exit -> Act -> World -> Prop}
theorem NY.of_out{Q:Exit->Act->World->Prop}{K:KL}{w:World}(h:NY N ds Q .normal K w):∀a,Kn N K a->DQ Q ds .normal a w:=fun a hK=>⟨hK.df,by simp,h a hK⟩
theorem Dr.ok:∀(n:Nat) {m:Md} {fs:List Frame} {K:KL} {w:World},Dr P N r n0 ds Q0 n m fs K w->ON P N r n0 ds Q0 m fs K w
 |0,_,_,_,_,h=>h
 |n+1,m,fs,K,w,h=>by
  cases m with
  |c c=>
   cases c with
   |seq x y=>exact WX.seq (Dr.ok n h)
   |region id ops d=>
    cases d with
    |false=>
     simp only [Dr]at h
     split at h
     case h_2=>exact h.elim
     rename_i h1
     have h2:TL P N ops (DQ (Ng P r n0 Q0 fs) ds) ops.toList K w:=Dr.ok n h
     show WX P N r n0 ds (.region id ops false) (Ng P r n0 Q0 fs) K w
     have:ops=ops.toList.toArray:=by simp
     rw [this];rw [this]at h2
     exact WX.region (by simpa using h1) (by simpa using h2)
    |true=>exact h.elim
   |block id x=>exact WX.block (Dr.ok n h)
   |skip=>exact WX.skip (Dr.ok n h)
   |exit id=>exact WX.exit (Dr.ok n h)
   |ret=>exact WX.ret (Dr.ok n h)
   |cond _ _ _=>exact h.elim
   |loop _=>exact h.elim
   |_=>exact h.elim
  |o ops l=>
   cases l with
   |nil=>exact TL.nil (NY.of_out (Dr.ok n h:ON P N r n0 ds Q0 (.e .normal) fs K w))
   |cons o rest=>
    simp only [Dr]at h
    split at h
    ·rename_i hg
     split at h
     ·rename_i v hv;exact Yl hg (Lo hv) (Dr.ok n h)
     ·exact h.elim
    ·rename_i hg;exact Sk hg (Dr.ok n h)
    ·exact h.elim
  |e e=>
   cases fs with
   |nil=>exact h.elim
   |cons f fs=>
    cases f with
    |seq c=>
     cases e with
     |normal=>exact(Dr.ok n h:ON P N r n0 ds Q0 (.c c) fs K w)
     |ret=>exact(Dr.ok n h:ON P N r n0 ds Q0 (.e .ret) fs K w)
     |exit id=>exact(Dr.ok n h:ON P N r n0 ds Q0 (.e (.exit id)) fs K w)
     |_=>exact h.elim
    |blk id=>
     cases e with
     |normal=>exact(Dr.ok n h:ON P N r n0 ds Q0 (.e .normal) fs K w)
     |ret=>exact(Dr.ok n h:ON P N r n0 ds Q0 (.e .ret) fs K w)
     |exit id'=>
      simp only [Dr]at h
      cases hb:Nat.beq id' id with
      |true=>
       rw [hb]at h
       obtain rfl:=Nat.eq_of_beq_eq_true hb
       have h2:ON P N r n0 ds Q0 (.e .normal) fs K w:=Dr.ok n h
       intro a hK
       have:=h2 a hK
       simpa [Ng,Exit.inBlock] using this
      |false=>
       rw [hb]at h
       have h2:ON P N r n0 ds Q0 (.e (.exit id')) fs K w:=Dr.ok n h
       intro a hK
       have:=h2 a hK
       have hne:id'≠id:=fun e=>by rw [e]at hb;simp at hb
       simpa [Ng,Exit.inBlock,hne] using this
     |_=>exact h.elim
    |lp f=>exact h.elim
variable {K:KL} {w:World} {fs:List Frame} {ops:Array Oper}
end
/-! ## A range over slices.Backward -/
def Ob(w:World)(k:Nat)(o:Obj):Prop:=w.heap[k]? =some o
theorem Ob.lt{w:World}{k:Nat}{o:Obj}(h:Ob w k o):k<w.heap.size:=(Array.getElem?_eq_some_iff.1 h).1
theorem Ob.ext{w w':World}{k:Nat}{o:Obj}(h:Ob w k o)(he:AJ w w'):Ob w' k o:=by unfold Ob;rw [he.block k h.lt];exact h
theorem Ob.upd{w w':World}{k c:Nat}{o:Obj}(h:Ob w k o)(he:Gi c w w')(hne:k≠c):Ob w' k o:=by unfold Ob;rw [he.block k hne];exact h
theorem Ob.but{p:Nat->Prop}{w w':World}{k:Nat}{o:Obj}(h:Ob w k o)(he:CS p w w')(hne:∀j,p j->j≠k):Ob w' k o:=by unfold Ob;rw [he.block k h.lt (fun e=>hne k e rfl)];exact h
instance {w w':World}{d:Nat}{o:Obj}:Mv w w' (Ob w d o) (Ob w' d o) True:=⟨fun h _ k=>h.ext k⟩
instance {b:Nat}{w w':World}{d:Nat}{o:Obj}:Mu b w w' (Ob w d o) (Ob w' d o) (d≠b):=⟨fun h s k=>h.upd k s⟩
section
variable {P:Program} {fn:Func} {gf b:Nat} {tx:TypeId} {v:Value} {xs:List Int} {lo hi:Nat} {ts ti te tb:TypeId} {tys:Array TypeId} {i0 i1 i2 i3:Nat} {t1 t2 t3 t4 t5 t6 t7 t8 t9 t10 t11 t12 t13 t14 t15 t16 t17:TypeId} {p1 p2 p3 p4 p5 p6 p7 p8 p9 p10 p11 p12 p13 p14 p15 p16 p17:String} {a1 a2 a3 a4 a5 a6 a7 a8 a9 a10 a11 a12 a13 a14 a15 a16 a17:Array Edge}
end
end Go.Eng
namespace Go.Eng
open Go Go.RowKit
/-! ## Operations that only allocate, and may be done at any time -/
def eY(K:KL)(o:Oper):Prop:=∀d,o.dst=some d->kl K d=none
def aD(K K':KL):Prop:=∀t v,kl K t=some v->kl K' t=some v
def aA(o o2:Oper):Prop:=∀d d2,o.dst=some d->o2.dst=some d2->d≠d2
def outs:List (Nat×Nat)->Nat->Prop
 |[],_=>True
 |(l,h)::r,b=>(b<l∨h<=b)∧outs r b
def Vv:List (Nat×Nat)->Nat->Prop
 |[],_=>True
 |(_,h)::r,m=>h<=m∧Vv r m
theorem Vv.mono{m m':Nat}(h:m<=m'):∀{iv:List (Nat×Nat)},Vv iv m->Vv iv m'
 |[],_=>trivial
 |_::_,k=>⟨Nat.le_trans k.1 h,Vv.mono h k.2⟩
theorem Vv.outs{m b:Nat}(h:m<=b):∀{iv:List (Nat×Nat)},Vv iv m->outs iv b
 |[],_=>trivial
 |_::_,k=>⟨.inr (Nat.le_trans k.1 h),Vv.outs h k.2⟩
theorem aA.symm{o o2:Oper}(h:aA o o2):aA o2 o:=fun d d2 e e2 g=>h d2 d e2 e g.symm
theorem NN{K:KL}{d:Option Tmp}{v:Value}(t:Nat):kl (BC K d v) t=match d with|some d=>(bif Nat.beq d t then some v else kl K t)|none=>kl K t:=by
 cases d<;>rfl
theorem aD.put{K:KL}{o:Oper}{v:Value}(h:eY K o):aD K (BC K o.dst v):=fun t u e=>by
 rw [NN]
 cases hd:o.dst with
 |none=>exact e
 |some d=>
  have hn:=h d hd
  show(bif Nat.beq d t then some v else kl K t)=some u
  cases c:Nat.beq d t with
  |false=>exact e
  |true=>rw [←Nat.eq_of_beq_eq_true c,hn]at e;cases e
theorem eY.put{K:KL}{o o2:Oper}{v:Value}(h:eY K o)(hne:aA o o2):eY (BC K o2.dst v) o:=fun d hd=>by
 rw [NN]
 cases hd2:o2.dst with
 |none=>exact h d hd
 |some d2=>
  show(bif Nat.beq d2 d then some v else kl K d)=none
  cases c:Nat.beq d2 d with
  |false=>exact h d hd
  |true=>exact absurd (Nat.eq_of_beq_eq_true c).symm (hne d d2 hd hd2)
theorem TZ{K:KL}{o o2:Oper}{v v2:Value}(hne:aA o o2)(t:Nat):kl (BC (BC K o.dst v) o2.dst v2) t=kl (BC (BC K o2.dst v2) o.dst v) t:=by
 simp only [NN]
 cases hd:o.dst with
 |none=>cases o2.dst<;>rfl
 |some d=>
  cases hd2:o2.dst with
  |none=>rfl
  |some d2=>
   show(bif Nat.beq d2 t then some v2 else(bif Nat.beq d t then some v else kl K t))=(bif Nat.beq d t then some v else(bif Nat.beq d2 t then some v2 else kl K t))
   cases c:Nat.beq d2 t with
   |false=>rfl
   |true=>
    cases c2:Nat.beq d t with
    |false=>rfl
    |true=>exact absurd ((Nat.eq_of_beq_eq_true c2).trans (Nat.eq_of_beq_eq_true c).symm) (hne d d2 hd hd2)
section
variable {P:Program} {N:Nat} {ops:Array Oper} {n:Nat} {Q:Exit -> Act -> World -> Prop}
theorem Fx.sub{K K':KL}{o:Oper}{w:World}{R:Value->World->Prop}(h:Fx P N K o w R)(hs:aD K K'):Fx P N K' o w R:=fun a hK Kt Q hk=>h a ⟨hK.df,hK.sz,fun t v e=>hK.get t v (hs t v e)⟩ Kt Q hk
theorem Fx.mono{K:KL}{o:Oper}{w:World}{R R':Value->World->Prop}(h:Fx P N K o w R)(hm:∀v w',R v w'->R' v w'):Fx P N K o w R':=fun a hK Kt Q hk=>h a hK Kt Q fun v w' hR=>hk v w' (hm v w' hR)
theorem Df.sub{K K':KL}{o:Oper}{w:World}{v:Value}(h:Df P N K o w v)(hs:aD K K'):Df P N K' o w v:=fun a hK w' hw=>h a ⟨hK.df,hK.sz,fun t v e=>hK.get t v (hs t v e)⟩ w' hw
def Lh(ops:Array Oper):List Nat->List Nat->Array Bool->Bool
 |[],js,listed=>!(Region.ready .any ops listed).isEmpty&&(Region.ready .any ops listed).all fun x=>js.contains x
 |i::is,js,listed=>Lh ops is (i::js) listed&&Lh ops is js (listed.setIfInBounds i true)
def nO(ops:Array Oper)(n:Nat):List Nat->Nat->Array Bool->Bool
 |[],j,listed=>Nat.blt j n&&Region.free .any ops listed j&&(Region.ready .any ops listed).contains j
 |i::is,j,listed=>nO ops n is j listed&&nO ops n is j (listed.setIfInBounds i true)
class PB(P:outParam Program)(N:outParam Nat)(ops:outParam (Array Oper))(n:outParam Nat)(G:outParam (World->World->Prop))(B:outParam (World->Prop))(T:Nat->Array Bool->KL->World->Prop):Prop where
 refl:∀w,G w w
 ext:∀{w w2 w3},G w w2->AJ w2 w3->G w w3
 trans:∀{w w2 w3},G w w2->G w2 w3->G w w3
 size:∀{w w2},G w w2->w.heap.size<=w2.heap.size
 many:∀{f listed K w} (js:List Nat),Lh ops [] js listed=true->(∀j∈js,∃(o:Oper) (R:Value->World->Prop),ops[j]? =some o∧j<n∧o.guard=none∧Bw N o.dst=true∧Fx P N K o w R∧∀v w',R v w'->G w w'∧T f (listed.setIfInBounds j true) (BC K o.dst v) w')->T (f+1) listed K w
 yld:∀{f listed K w} {o:Oper} {v:Value} (j:Nat),DB ops n=true->ops[j]? =some o->nO ops n [] j listed=true->o.guard=none->Bw N o.dst=true->(∀wx,B wx->Df P N K o wx v)->T f (listed.setIfInBounds j true) (BC K o.dst v) w->T (f+1) listed K w
 perm:∀{f listed K K' w},(∀t,kl K' t=kl K t)->T f listed K w->T f listed K' w
def TH(P:Program)(N:Nat)(ops:Array Oper)(n:Nat)(Q:Exit->Act->World->Prop)(w0:World)(f:Nat)(listed:Array Bool)(K:KL)(w:World):Prop:=HL P N ops n (noPan Q) w0 f listed K w
theorem Lh.rdy{js:List Nat}{listed:Array Bool}(h:Lh ops [] js listed=true):(Region.ready .any ops listed).isEmpty=false∧∀j∈Region.ready .any ops listed,j∈js:=by
 simp only [Lh,Bool.and_eq_true,Bool.not_eq_true']at h
 exact⟨h.1,fun j hj=>by simpa using List.all_eq_true.1 h.2 j hj⟩
instance PB.h{w0:World}:PB P N ops n AJ (fun wx=>AJ w0 wx) (TH P N ops n Q w0) where
 refl:=AJ.refl
 ext:=AJ.trans
 trans:=AJ.trans
 size:=fun h=>h.size
 many:=by
  intro f listed K w js hr h inv hx a hK
  refine HL.many rfl (Lh.rdy hr).1 (fun j hj=>?_) inv hx a hK
  obtain⟨o,R,hi,hin,hg,hd,he,hk⟩:=h j ((Lh.rdy hr).2 j hj)
  exact HB.eff j hi (by simp [Nat.blt];omega) (by simpa using hj) hg hd he fun v w' hR=>⟨AJ.trans hx (hk v w' hR).1,(hk v w' hR).2⟩
 yld:=fun j hh hi hc hg hd h k=>HL.yld j hh hi hc hg hd (h _ (AJ.refl _)) k
 perm:=fun hk h inv hx a hK=>h inv hx a ⟨hK.df,hK.sz,fun t v e=>hK.get t v (by rw [hk];exact e)⟩
end
section
variable (P:Program) (N:Nat) (ops:Array Oper) (n:Nat) (G:World -> World -> Prop)
structure Pd where
 i:Nat
 o:Oper
 K:KL
 lo:Nat
 V:Nat->Value
 F:Nat->World->Prop
 hi:ops[i]? =some o
 hin:i<n
 hg:o.guard=none
 hd:Bw N o.dst=true
 eff:∀wx,lo<=wx.heap.size->Fx P N K o wx (fun v w'=>AJ wx w'∧w'.heap.size=wx.heap.size+1∧v=V wx.heap.size∧F wx.heap.size w')
 st:∀b w w',lo<=b->F b w->G w w'->F b w'
 lt:∀b w,F b w->b<w.heap.size
def PX(T:Nat->Array Bool->KL->World->Prop):List (Pd P N ops n G)->List (Nat×Nat)->Nat->Array Bool->KL->World->Prop
 |[],_,f,listed,K,w=>T f listed K w
 |q::qs,iv,f,listed,K,w=>q.lo<=w.heap.size->eY K q.o->aD q.K K->Vv iv w.heap.size->(∀q2∈qs,q.i≠q2.i∧aA q.o q2.o)->
  PX T qs iv (f+1) listed K w∧∀b w',AJ w w'->q.lo<=b->q.F b w'->outs iv b->PX T qs ((b,b+1)::iv) f (listed.setIfInBounds q.i true) (BC K q.o.dst (q.V b)) w'
def OBx(T:Nat->Array Bool->KL->World->Prop)(qs:List (Pd P N ops n G))(iv:List (Nat×Nat))(j f:Nat)(listed:Array Bool)(K:KL)(w:World):Prop:=
 ∃o:Oper,ops[j]? =some o∧j<n∧o.guard=none∧Bw N o.dst=true∧eY K o∧(∀q∈qs,j≠q.i∧aA q.o o)∧
  ∀wx,AJ w wx->∃R,Fx P N K o wx R∧∀v w',R v w'->G wx w'∧∃ivj,Vv ivj w'.heap.size∧(∀b,outs iv b->(b<wx.heap.size∨w'.heap.size<=b)->outs ivj b)∧PX P N ops n G T qs ivj f (listed.setIfInBounds j true) (BC K o.dst v) w'
end
section
variable {P:Program} {N:Nat} {ops:Array Oper} {n:Nat} {G:World -> World -> Prop} {B:World -> Prop} {T:Nat -> Array Bool -> KL -> World -> Prop} [hT:PB P N ops n G B T]
include hT
theorem PX.perm:∀{qs:List (Pd P N ops n G)} {iv:List (Nat×Nat)} {f:Nat} {listed:Array Bool} {K K':KL} {w:World},(∀t,kl K' t=kl K t)->PX P N ops n G T qs iv f listed K w->PX P N ops n G T qs iv f listed K' w
 |[],_,_,_,_,_,_,hk,h=>hT.perm hk h
 |q::qs,_,_,_,_,_,_,hk,h=>fun h1 h2 h3 h4 h5=>by
  obtain⟨a,b⟩:=h h1 (fun d hd=>by rw [←hk];exact h2 d hd) (fun t v e=>by rw [←hk];exact h3 t v e) h4 h5
  exact⟨PX.perm hk a,fun c w' x1 x2 x3 x4=>PX.perm (fun t=>by rw [NN,NN];split<;>simp only [hk]) (b c w' x1 x2 x3 x4)⟩
theorem PX.many:∀{qs:List (Pd P N ops n G)} {iv:List (Nat×Nat)} {f:Nat} {listed:Array Bool} {K:KL} {w:World} (js:List Nat),Lh ops (qs.map fun q=>q.i) js listed=true->(∀j∈js,OBx P N ops n G T qs iv j f listed K w)->PX P N ops n G T qs iv (f+1) listed K w
 |[],iv,f,listed,K,w,js,hr,h=>hT.many js hr fun j hj=>by
  obtain⟨o,hi,hin,hg,hd,_,_,he⟩:=h j hj
  obtain⟨R,e,k⟩:=he w (AJ.refl w)
  refine⟨o,R,hi,hin,hg,hd,e,fun v w' hR=>?_⟩
  obtain⟨h1,ivj,_,_,h2⟩:=k v w' hR
  exact⟨h1,h2⟩
 |q::qs,iv,f,listed,K,w,js,hr,h=>fun hlo hfq hsq hh hq0=>by
  simp only [List.map_cons,Lh,Bool.and_eq_true]at hr
  have tl:∀q2,q2∈qs->q2∈q::qs:=fun _ h=>List.mem_cons_of_mem _ h
  have c2:∀b w',AJ w w'->q.lo<=b->q.F b w'->outs iv b->PX P N ops n G T qs ((b,b+1)::iv) (f+1) (listed.setIfInBounds q.i true) (BC K q.o.dst (q.V b)) w':=by
   intro b w' hx hb hF ho
   have hbw:=q.lt b w' hF
   refine PX.many js hr.2 fun j hj=>?_
   obtain⟨o,hi,hin,hg,hd,hfr,hne,he⟩:=h j hj
   have dq:=(hne q List.mem_cons_self).2
   refine⟨o,hi,hin,hg,hd,hfr.put dq.symm,fun q2 h2=>hne q2 (tl q2 h2),fun wx hwx=>?_⟩
   obtain⟨R,e,k⟩:=he wx (AJ.trans hx hwx)
   refine⟨R,e.sub (aD.put hfq),fun v w2 hR=>?_⟩
   obtain⟨hG,ivj,hh2,ho2,h2⟩:=k v w2 hR
   have s1:=hwx.size
   have s2:=hT.size hG
   refine⟨hG,(b,b+1)::ivj,⟨by show b+1<=w2.heap.size;omega,hh2⟩,fun b' hb' hb2=>⟨hb'.1,ho2 b' hb'.2 hb2⟩,?_⟩
   have h3:=(h2 (by have:=hx.size;omega) (hfq.put dq) (fun t u e=>aD.put hfr t u (hsq t u e)) hh2 hq0).2 b w2 (AJ.refl w2) hb (q.st b wx w2 hb (q.st b w' wx hb hF (hT.ext (hT.refl w') hwx)) hG) (ho2 b ho (.inl (by omega)))
   rw [Array.setIfInBounds_comm true true (hne q List.mem_cons_self).1]at h3
   exact PX.perm (fun t=>(TZ (o:=o) (o2:=q.o) dq.symm t).symm) h3
  refine⟨PX.many (q.i::js) hr.1 fun j hj=>?_,c2⟩
  rcases List.mem_cons.1 hj with rfl|hj
  ·refine⟨q.o,q.hi,q.hin,q.hg,q.hd,hfq,fun q2 h2=>⟨(hq0 q2 h2).1,(hq0 q2 h2).2.symm⟩,fun wx hwx=>?_⟩
   have hs:=hwx.size
   refine⟨_,(q.eff wx (by omega)).sub hsq,fun v w' ⟨r1,r2,r3,r4⟩=>?_⟩
   subst r3
   have hh3:=hh.mono hs
   exact⟨hT.ext (hT.refl wx) r1,(wx.heap.size,wx.heap.size+1)::iv,⟨by show wx.heap.size+1<=w'.heap.size;omega,hh3.mono (by omega)⟩,fun b' hb' hb2=>⟨by show b'<wx.heap.size∨wx.heap.size+1<=b';omega,hb'⟩,c2 _ w' (AJ.trans hwx r1) (by omega) r4 (hh3.outs (Nat.le_refl _))⟩
  ·obtain⟨o,hi,hin,hg,hd,hfr,hne,he⟩:=h j hj
   have dq:=(hne q List.mem_cons_self).2
   refine⟨o,hi,hin,hg,hd,hfr,fun q2 h2=>hne q2 (tl q2 h2),fun wx hwx=>?_⟩
   obtain⟨R,e,k⟩:=he wx hwx
   refine⟨R,e,fun v w2 hR=>?_⟩
   obtain⟨hG,ivj,hh2,ho2,h2⟩:=k v w2 hR
   have s1:=hwx.size
   have s2:=hT.size hG
   exact⟨hG,ivj,hh2,ho2,(h2 (by omega) (hfq.put dq) (fun t u e=>aD.put hfr t u (hsq t u e)) hh2 hq0).1⟩
theorem PX.yld:∀{qs:List (Pd P N ops n G)} {iv:List (Nat×Nat)} {f:Nat} {listed:Array Bool} {K:KL} {w:World} {o:Oper} {v:Value} (j:Nat),DB ops n=true->ops[j]? =some o->nO ops n (qs.map fun q=>q.i) j listed=true->o.guard=none->Bw N o.dst=true->eY K o->(∀q∈qs,j≠q.i∧aA q.o o)->(∀wx,B wx->Df P N K o wx v)->PX P N ops n G T qs iv f (listed.setIfInBounds j true) (BC K o.dst v) w->PX P N ops n G T qs iv (f+1) listed K w
 |[],_,_,_,_,_,_,_,j,hh,hi,hc,hg,hd,_,_,h,k=>hT.yld j hh hi hc hg hd h k
 |q::qs,iv,f,listed,K,w,o,v,j,hh,hi,hc,hg,hd,hfr,hne,h,k=>fun hlo hfq hsq hig0 hq0=>by
  simp only [List.map_cons,nO,Bool.and_eq_true]at hc
  have dq:=(hne q List.mem_cons_self).2
  have hne2:∀q2∈qs,j≠q2.i∧aA q2.o o:=fun q2 h2=>hne q2 (List.mem_cons_of_mem _ h2)
  have hk:=k hlo (hfq.put dq) (fun t u e=>aD.put hfr t u (hsq t u e)) hig0 hq0
  refine⟨PX.yld j hh hi hc.1 hg hd hfr hne2 h hk.1,fun b w' hx hb hF ho=>?_⟩
  refine PX.yld j hh hi hc.2 hg hd (hfr.put dq.symm) hne2 (fun wx hB=>(h wx hB).sub (aD.put hfq)) ?_
  ·have h2:=hk.2 b w' hx hb hF ho
   rw [Array.setIfInBounds_comm true true (hne q List.mem_cons_self).1]at h2
   exact PX.perm (fun t=>(TZ (o:=o) (o2:=q.o) dq.symm t).symm) h2
end
/-! What the walks say -/
def aE(qs:List (Nat×Option Tmp))(i:Nat)(d:Option Tmp):Bool:=qs.all fun q=>!(Nat.beq i q.1)&&(match d,q.2 with|some a,some b=>!(Nat.beq b a)|_,_=>true)
def NG(K:KL)(d:Option Tmp):Bool:=match d with|some d=>(kl K d).isNone|none=>true
theorem NG.h{K:KL}{o:Oper}(h:NG K o.dst=true):eY K o:=fun d hd=>by
 rw [hd]at h;simpa [NG] using h
section
variable {P:Program} {N:Nat} {ops:Array Oper} {n:Nat} {G:World -> World -> Prop} {qs:List (Pd P N ops n G)} {o:Oper}
theorem aE.h{i:Nat}(h:aE (qs.map fun q=>(q.i,q.o.dst)) i o.dst=true):∀q∈qs,i≠q.i∧aA q.o o:=fun q hq=>by
 have:=List.all_eq_true.1 h (q.i,q.o.dst) (List.mem_map.2 ⟨q,hq,rfl⟩)
 simp only [Bool.and_eq_true,Bool.not_eq_true']at this
 refine⟨fun e=>?_,fun d d2 e e2 g=>?_⟩
 ·have h1:=this.1
  rw [e]at h1
  rw [Nat.beq_refl]at h1;cases h1
 ·have h2:=this.2
  rw [e,e2]at h2
  subst g
  simp [Nat.beq_refl]at h2
end
section
variable {P:Program} {N:Nat} {ops:Array Oper} {n:Nat} {G:World -> World -> Prop} {B:World -> Prop} {T:Nat -> Array Bool -> KL -> World -> Prop} [hT:PB P N ops n G B T] {qs:List (Pd P N ops n G)} {iv:List (Nat × Nat)} {f:Nat} {listed:Array Bool} {K:KL} {w:World} {o:Oper} {Q:Exit -> Act -> World -> Prop}
include hT
theorem PXy{v:Value}(j:Nat)(hh:DB ops n=true)(hi:ops[j]? =some o)(hc:nO ops n (qs.map fun q=>q.i) j listed=true)(h:∀wx,B wx->Df P N K o wx v)(k:PX P N ops n G T qs iv f (listed.setIfInBounds j true) (BC K o.dst v) w)
 (hg:o.guard=none:=by rfl) (hd:Bw N o.dst=true:=by rfl) (hf:NG K o.dst=true:=by rfl) (hq:aE (qs.map fun q=>(q.i,q.o.dst)) j o.dst=true:=by rfl):PX P N ops n G T qs iv (f+1) listed K w:=
 PX.yld j hh hi hc hg hd (NG.h hf) (aE.h hq) h k
theorem rT{q:Pd P N ops n G}(j:Nat)(hi:ops[j]? =some o)(hc:Lh ops ((q::qs).map fun q=>q.i) [j] listed=true)
 (h:∀wx,AJ w wx->∃R,Fx P N K o wx R∧∀v w',R v w'->G wx w'∧PX P N ops n G T (q::qs) ((wx.heap.size,w'.heap.size)::iv) f (listed.setIfInBounds j true) (BC K o.dst v) w')
 (hin:Nat.blt j n=true:=by rfl) (hg:o.guard=none:=by rfl) (hd:Bw N o.dst=true:=by rfl) (hf:NG K o.dst=true:=by rfl) (hq:aE ((q::qs).map fun q=>(q.i,q.o.dst)) j o.dst=true:=by rfl):PX P N ops n G T (q::qs) iv (f+1) listed K w:=fun h1 h2 h3 hh h5=>
 PX.many [j] hc (fun j' hj'=>by
  obtain rfl:j'=j:=by simpa using hj'
  refine⟨o,hi,by have h0:=hin;simp [Nat.blt]at h0;omega,hg,hd,NG.h hf,aE.h hq,fun wx hx=>?_⟩
  obtain⟨R,he,hk⟩:=h wx hx
  refine⟨R,he,fun v w' hR=>?_⟩
  obtain⟨h1,h2⟩:=hk v w' hR
  have s:=hT.size h1
  have s2:=hx.size
  exact⟨h1,(wx.heap.size,w'.heap.size)::iv,⟨Nat.le_refl _,hh.mono (by omega)⟩,fun b hb hb2=>⟨hb2,hb⟩,h2⟩) h1 h2 h3 hh h5
theorem PXp(i:Nat)(V:Nat->Value)(F:Nat->World->Prop)(hi:ops[i]? =some o)(eff:∀wx,w.heap.size<=wx.heap.size->Fx P N K o wx (fun v w'=>AJ wx w'∧w'.heap.size=wx.heap.size+1∧v=V wx.heap.size∧F wx.heap.size w'))(st:∀b w1 w',w.heap.size<=b->F b w1->G w1 w'->F b w')(lt:∀b w1,F b w1->b<w1.heap.size)
 (hh:Vv iv w.heap.size) (hin:Nat.blt i n=true) (hg:o.guard=none) (hd:Bw N o.dst=true) (hf:NG K o.dst=true) (hq:aE (qs.map fun q=>(q.i,q.o.dst)) i o.dst=true)
 (h:∀hin hg hd,PX P N ops n G T (⟨i,o,K,w.heap.size,V,F,hi,hin,hg,hd,eff,st,lt⟩::qs) iv f listed K w):PX P N ops n G T qs iv (f+1) listed K w:=
 (h (by have h0:=hin;simp [Nat.blt]at h0;omega) hg hd (Nat.le_refl _) (NG.h hf) (fun _ _ e=>e) hh fun q2 h2=>⟨(aE.h hq q2 h2).1,(aE.h hq q2 h2).2.symm⟩).1
theorem PXd{q:Pd P N ops n G}(hc:Lh ops (qs.map fun q=>q.i) [q.i] listed=true)(k:∀b wx,AJ w wx->q.lo<=b->q.F b wx->outs iv b->PX P N ops n G T qs ((b,b+1)::iv) f (listed.setIfInBounds q.i true) (BC K q.o.dst (q.V b)) wx):PX P N ops n G T (q::qs) iv f listed K w:=fun hlo hfq hsq hh hq0=>
 ⟨PX.many [q.i] hc fun j hj=>by
  obtain rfl:j=q.i:=by simpa using hj
  refine⟨q.o,q.hi,q.hin,q.hg,q.hd,hfq,fun q2 h2=>⟨(hq0 q2 h2).1,(hq0 q2 h2).2.symm⟩,fun wx hwx=>?_⟩
  have hs:=hwx.size
  refine⟨_,(q.eff wx (by omega)).sub hsq,fun v w' ⟨r1,r2,r3,r4⟩=>?_⟩
  subst r3
  have hh3:=hh.mono hs
  exact⟨hT.ext (hT.refl wx) r1,(wx.heap.size,wx.heap.size+1)::iv,⟨by show wx.heap.size+1<=w'.heap.size;omega,hh3.mono (by omega)⟩,fun b' hb' hb2=>⟨by show b'<wx.heap.size∨wx.heap.size+1<=b';omega,hb'⟩,k _ w' (AJ.trans hwx r1) (by omega) r4 (hh3.outs (Nat.le_refl _))⟩,k⟩
end
section
variable {P:Program} {N:Nat} {ops:Array Oper} {n:Nat} {iv:List (Nat × Nat)} {f:Nat} {listed:Array Bool} {K:KL} {w:World} {o:Oper} {Q:Exit -> Act -> World -> Prop}
theorem Rw{t:TypeId}{zs:List Value}(ho:o.op= .alloc t)(hz:DM P t=some zs)(wx:World):Fx P N K o wx (fun v w'=>AJ wx w'∧w'.heap.size=wx.heap.size+1∧v= .pointer (some ⟨wx.heap.size,0,none⟩)∧BK w' wx.heap.size zs t):=
 (AY ho hz).mono fun v w' ⟨b,e,e1,e2,e3,e4⟩=>by subst e1;exact⟨e3,e2,e,e4⟩
theorem BK.extA{zs:List Value}{t:TypeId}(b:Nat)(w1 w':World)(_:w.heap.size<=b)(h:BK w1 b zs t)(hG:AJ w1 w'):BK w' b zs t:=h.ext hG
theorem AB.extA{α:Type}{c:Bp α}[CM c]{e:TypeId}{k:Nat}{xs:List α}(b:Nat)(w1 w':World)(_:w.heap.size<=b)(h:AB c w1 b (Iv 0 0) e xs (.slice (some ⟨b,0,none⟩) k k))(hG:AJ w1 w'):AB c w' b (Iv 0 0) e xs (.slice (some ⟨b,0,none⟩) k k):=h.ext hG
abbrev uM(b:Nat):Value:=.pointer (some ⟨b,0,none⟩)
theorem oS{w0:World}{t:TypeId}{zs:List Value}(i:Nat)(hi:ops[i]? =some o)(ho:o.op= .alloc t)(hz:DM P t=some zs)
 (h:∀eff st lt hin hg hd,PX P N ops n AJ (TH P N ops n Q w0) [⟨i,o,K,w.heap.size,uM,fun b w'=>BK w' b zs t,hi,hin,hg,hd,eff,st,lt⟩] [] f listed K w)
 (hin:Nat.blt i n=true:=by rfl) (hg:o.guard=none:=by rfl) (hd:Bw N o.dst=true:=by rfl) (hf:NG K o.dst=true:=by rfl):HL P N ops n (noPan Q) w0 (f+1) listed K w:=
 (PXp (T:=TH P N ops n Q w0) (qs:=[]) (iv:=[]) i _ _ hi (fun wx _=>Rw ho hz wx) BK.extA (fun b w1 h=>BK.lt h) trivial hin hg hd hf rfl (h _ _ _))
section
variable {α:Type} {c:Bp α} [CM c] {t e:TypeId} {l c2:Operand} {zs:List Value} {sz by' k:Nat} {m m':Int} {kd kd':IntKind} {z:α} (i:Nat) (hi:ops[i]? = some o) (ho:o.op = .makeSlice t l c2) (hu:P.underlying t = some (.slice e)) (hin0:Ca P e = some (zs,sz,by')) (hl:Bm K l = some (.int kd m)) (hc:Bm K c2 = some (.int kd' m')) (hmm:m' = m) (hk:MY m by' = some k) (hsz:sz = c.n) (hpos:Nat.blt 0 c.n = true) (hz:∀ w,c.rep w (Iv 0 0) z zs)
include ho hu hin0 hl hc hmm hk hsz hpos hz
end
theorem Va{w0:World}{q:Pd P N ops n AJ}{qs:List (Pd P N ops n AJ)}{v:Value}(j:Nat)(hh:DB ops n=true)(hi:ops[j]? =some o)(hc:nO ops n ((q::qs).map fun q=>q.i) j listed=true)(h:Df P N K o w0 v)(k:PX P N ops n AJ (TH P N ops n Q w0) (q::qs) iv f (listed.setIfInBounds j true) (BC K o.dst v) w)
 (hg:o.guard=none:=by rfl) (hd:Bw N o.dst=true:=by rfl) (hf:NG K o.dst=true:=by rfl) (hq:aE ((q::qs).map fun q=>(q.i,q.o.dst)) j o.dst=true:=by rfl):PX P N ops n AJ (TH P N ops n Q w0) (q::qs) iv (f+1) listed K w:=
 PXy (T:=TH P N ops n Q w0) j hh hi hc (fun wx hx a hK w' hw=>h a hK w' (AJ.trans hx hw)) k hg hd hf hq
section
variable {K0:KL} {i lo k:Nat} {o0:Oper} {t e:TypeId} {zs:List Value} {α:Type} {c:Bp α} {z:α}
theorem AaQ{G:World->World->Prop}{B:World->Prop}{T:Nat->Array Bool->KL->World->Prop}[hT:PB P N ops n G B T]{qs:List (Pd P N ops n G)}{hi hin hg hd eff st lt}(hc:Lh ops (qs.map fun q=>q.i) [i] listed=true)(k:∀b wx,AJ w wx->(lo<=b∧b<wx.heap.size)->BK wx b zs t->outs iv b->PX P N ops n G T qs ((b,b+1)::iv) f (listed.setIfInBounds i true) (BC K o0.dst (uM b)) wx):PX P N ops n G T (⟨i,o0,K0,lo,uM,fun b w'=>BK w' b zs t,hi,hin,hg,hd,eff,st,lt⟩::qs) iv f listed K w:=
 PXd hc fun b wx h1 h2 h3 h4=>k b wx h1 ⟨h2,BK.lt h3⟩ h3 h4
theorem YX{w0:World}{hi hin hg hd eff st lt}(hc:Lh ops [] [i] listed=true)(k:∀b wx,AJ w wx->(lo<=b∧b<wx.heap.size)->BK wx b zs t->outs iv b->HL P N ops n (noPan Q) w0 f (listed.setIfInBounds i true) (BC K o0.dst (uM b)) wx):PX P N ops n AJ (TH P N ops n Q w0) [⟨i,o0,K0,lo,uM,fun b w'=>BK w' b zs t,hi,hin,hg,hd,eff,st,lt⟩] iv f listed K w:=AaQ (T:=TH P N ops n Q w0) (qs:=[]) hc k
end
end
end Go.Eng
namespace Go.Eng
open Go Go.RowKit
/-! ## An element is put into a slice: slices.Insert -/
def ZG{α:Type}(by':Nat)(xs:List α)(i:Int)(v:List α):Option (List α):=match v with
 |[x]=>if 0<=i∧i<=xs.length∧(xs.length+1)*by'<=140737488355328∧xs.length+1<=9223372036854775807 then some (xs.take i.toNat++x::xs.drop i.toNat)else none
 |_=>none
def RL{α:Type}(c:Bp α)(w:World)(S:Nat->Prop)(xs:List α)(cs:List Value):Prop:=cs.length=xs.length*c.n∧∀i x,xs[i]? =some x->c.rep w S x (Ae cs c.n i)
section
variable {α:Type} {c:Bp α} {w w':World} {S:Nat -> Prop} {xs ys:List α} {cs ds:List Value}
theorem OZ{n p j:Nat}(h:cs.length=p*n)(hj:j<p):Ae (cs++ds) n j=Ae cs n j:=by
 have:(j+1)*n<=p*n:=Nat.mul_le_mul_right _ hj
 rw [Nat.add_mul]at this
 apply List.ext_getElem?
 intro q
 by_cases hq:q<n
 ·rw [Av hq,Av hq,List.getElem?_append_left (by omega)]
 ·rw [List.getElem?_eq_none (by simp [Ae];omega),List.getElem?_eq_none (by simp [Ae];omega)]
theorem Mz{n p j:Nat}(h:cs.length=p*n):Ae (cs++ds) n (p+j)=Ae ds n j:=by
 apply List.ext_getElem?
 intro q
 by_cases hq:q<n
 ·rw [Av hq,Av hq,List.getElem?_append_right (by rw [h,Nat.add_mul];omega)]
  congr 1
  rw [h,Nat.add_mul];omega
 ·rw [List.getElem?_eq_none (by simp [Ae];omega),List.getElem?_eq_none (by simp [Ae];omega)]
theorem RL.app(h:RL c w S xs cs)(k:RL c w S ys ds):RL c w S (xs++ys) (cs++ds):=by
 refine⟨by simp [h.1,k.1,Nat.add_mul],fun i x hx=>?_⟩
 by_cases hi:i<xs.length
 ·rw [List.getElem?_append_left hi]at hx
  rw [OZ h.1 hi];exact h.2 i x hx
 ·rw [List.getElem?_append_right (by omega)]at hx
  obtain⟨j,rfl⟩:∃j,i=xs.length+j:=⟨i-xs.length,by omega⟩
  rw [Mz h.1]
  exact k.2 j x (by rwa [show xs.length+j-xs.length=j by omega]at hx)
theorem RL.take(h:RL c w S xs cs){k:Nat}(hk:k<=xs.length):RL c w S (xs.take k) (cs.take (k*c.n)):=by
 have hm:k*c.n<=xs.length*c.n:=Nat.mul_le_mul_right _ hk
 have hl:(cs.take (k*c.n)).length=k*c.n:=by rw [List.length_take,h.1];omega
 refine⟨by rw [hl,List.length_take];congr 1;omega,fun i x hx=>?_⟩
 rw [List.getElem?_take]at hx
 split at hx
 ·rename_i hi
  have:=h.2 i x hx
  rw [←List.take_append_drop (k*c.n) cs,OZ hl hi]at this
  exact this
 ·cases hx
theorem RL.drop(h:RL c w S xs cs){k:Nat}(hk:k<=xs.length):RL c w S (xs.drop k) (cs.drop (k*c.n)):=by
 have hm:k*c.n<=xs.length*c.n:=Nat.mul_le_mul_right _ hk
 have hl:(cs.take (k*c.n)).length=k*c.n:=by rw [List.length_take,h.1];omega
 refine⟨by rw [List.length_drop,List.length_drop,h.1,Nat.sub_mul],fun i x hx=>?_⟩
 rw [List.getElem?_drop]at hx
 have:=h.2 (k+i) x hx
 rw [←List.take_append_drop (k*c.n) cs,Mz hl]at this
 exact this
theorem RL.any[CM c](h:RL c w S xs cs){w2:World}{S2:Nat->Prop}:RL c w2 S2 xs cs:=⟨h.1,fun i x hx=>CM.any (h.2 i x hx)⟩
theorem RL.one(h:RL c w S xs cs)(hp:0<c.n):∀v∈cs,v.oneCell'=true:=fun v hv=>by
 obtain⟨q,hq,rfl⟩:=List.getElem_of_mem hv
 have hi:q/c.n<xs.length:=Nat.div_lt_of_lt_mul (by rw [Nat.mul_comm,←h.1];exact hq)
 have hr:=h.2 _ _ (List.getElem?_eq_getElem hi)
 have:=List.all_eq_true.1 (c.one hr)
 refine this _ (List.mem_of_getElem? (i:=q%c.n) ?_)
 rw [Av (Nat.mod_lt _ hp),Nat.mul_comm,Nat.div_add_mod]
 exact List.getElem?_eq_getElem hq
theorem RL.row{B:Nat}{e g cap:Nat}{cur:Array Value}(hb:B<=g)(hh:w.heap[g]? =some (.cells cur e (0,0)))(hs:cur.size=cap*c.n)(hn:xs.length<=cap)(hc:cap<=maxLen)(ht:cur.toList.take (xs.length*c.n)=cs)(h:RL c w S xs cs):AB c w B S e xs (.slice (some ⟨g,0,none⟩) xs.length cap):=
 ⟨cs,⟨h.1,.inr ⟨g,cap,cur,rfl,hb,hh,hn,hc,hs,ht⟩⟩,h.2⟩
end
theorem Up{L A U:List Value}{a m N:Nat}(hA:A=L.take N)(ha:a<=N)(hU:U.length=m)(hL:N+m<=L.length):
 ((L.take (a+m)++A.drop a++L.drop (a+m+(A.drop a).length)).take a++U++(L.take (a+m)++A.drop a++L.drop (a+m+(A.drop a).length)).drop (a+U.length)).take (N+m)=A.take a++U++A.drop a:=by
 subst hA
 have h1:((L.take N).drop a).length=N-a:=by simp;omega
 have h2:(L.take (a+m)).length=a+m:=by simp;omega
 rw [h1,hU]
 have e1:(L.take (a+m)++(L.take N).drop a++L.drop (a+m+(N-a))).take a=(L.take N).take a:=by
  rw [List.append_assoc,List.take_append_of_le_length (by omega),List.take_take,List.take_take]
  congr 1;omega
 have e2:(L.take (a+m)++(L.take N).drop a++L.drop (a+m+(N-a))).drop (a+m)=(L.take N).drop a++L.drop (a+m+(N-a)):=by
  rw [List.append_assoc,List.drop_append_of_le_length (by omega),List.drop_of_length_le (by omega),List.nil_append]
 rw [e1,e2,←List.append_assoc]
 have h3:((L.take N).take a++U++(L.take N).drop a).length=N+m:=by simp [hU];omega
 rw [List.take_append_of_le_length (by omega),List.take_of_length_le (by omega)]
theorem SJ{A U Z:List Value}{a m N:Nat}(hN:A.length=N)(ha:a<=N)(hU:U.length=m)(hZ:N+m-a<=Z.length):
 (((A.take a++Z).take a++U++(A.take a++Z).drop (a+U.length)).take (a+m)++A.drop a++((A.take a++Z).take a++U++(A.take a++Z).drop (a+U.length)).drop (a+m+(A.drop a).length)).take (N+m)=A.take a++U++A.drop a:=by
 have h0:(A.take a).length=a:=by simp;omega
 have e0:(A.take a++Z).take a=A.take a:=by rw [List.take_append_of_le_length (by omega),List.take_of_length_le (by omega)]
 rw [e0]
 have h1:(A.take a++U).length=a+m:=by simp [hU];omega
 have e1:(A.take a++U++(A.take a++Z).drop (a+U.length)).take (a+m)=A.take a++U:=by rw [List.take_append_of_le_length (by omega),List.take_of_length_le (by omega)]
 rw [e1]
 have h3:(A.take a++U++A.drop a).length=N+m:=by simp [hU];omega
 rw [List.take_append_of_le_length (by omega),List.take_of_length_le (by omega)]
section
variable {P:Program} {N:Nat} {α:Type} {c:Bp α} {w:World} {B:Nat} {S:Nat -> Prop} {e:TypeId} {xs:List α} {v:Value} {o:Oper} {K:KL}
theorem AB.at2{g:Nat}{m:Int}{y:α}(hs:AB c w B S e xs v)(hv:v.ownBlock=some g)(hg:AE xs m=some y):∃us,c.rep w S y us∧AM w g (0+m.toNat*c.n) us:=by
 obtain⟨cs,h0,h3⟩:=hs
 obtain⟨g0,g1,g2⟩:=Fe hg
 have h1:=h0
 obtain⟨hl,⟨rfl,hn⟩|⟨g',cap,cur,rfl,hb,hh,h5,h6,h7,h8⟩⟩:=h1
 ·cases hv
 ·obtain rfl:g'=g:=Option.some.inj hv
  refine⟨_,h3 _ _ g2,fun j u hu=>?_⟩
  have hjn:j<c.n:=by
   have:=(List.getElem?_eq_some_iff.1 hu).1
   simp [Ae]at this;omega
  rw [Av hjn]at hu
  have:=h0.cells (g:=g') rfl _ _ hu
  rw [CA]at this
  rw [show 0+m.toNat*c.n+j=0+(m.toNat*c.n+j) by omega];exact⟨this,by simp [World.frozen?,hh]⟩
theorem eE{t x a n cap}(ho:o.op= .call { callee:=.builtin .cap,args:=#[x],argTypes:=#[t] })(hu:P.underlying t=some (.slice e))(hx:Bm K x=some (.slice a n cap)):Df P N K o w (.int .i64 cap):=by
 intro a' hK w' _
 simp [execOp,ho,resolve,invoke,builtin,hK.ev hx,Builtin.cap_,run_underlying hu,goInt]
theorem RJ{t x hi k2 g n cap sz}{m2:Nat}{z:Int}(ho:o.op= .slice t x none (some hi) none)(hu:P.underlying t=some (.slice e))(hc:Am P e=some sz)(hx:Bm K x=some (.slice (some ⟨g,0,none⟩) n cap))(h2:Bm K hi=some (.int k2 z))(hz:z=m2)(hm:m2<=cap)(h0:0<cap):Df P N K o w (.slice (some ⟨g,0,none⟩) m2 cap):=by
 intro a' hK w' _
 subst hz
 obtain⟨i,hi2,hsz⟩:=Option.map_eq_some_iff.1 hc
 have e1:(Instr.sliceBound (.int k2 m2) cap .sliceAcap).run P w'= .ok (m2:Int).toNat w':=FU (by omega) (by omega)
 have hn:¬cap=0:=by omega
 simp [execOp,ho,hK.ev hx,hK.ev h2,Instr.sliceAt,Instr.slice,run_underlying hu,Instr.sliceBounds,e1,sizeOf,typeInfo,hi2,hsz,hn,CA]
theorem EY{t x lo k1 g n cap sz}{m1:Nat}{z:Int}(ho:o.op= .slice t x (some lo) none none)(hu:P.underlying t=some (.slice e))(hc:Am P e=some sz)(hx:Bm K x=some (.slice (some ⟨g,0,none⟩) n cap))(h1:Bm K lo=some (.int k1 z))(hz:z=m1)(hm:m1<=n)(h0:m1<cap):Df P N K o w (.slice (some ⟨g,m1*sz,none⟩) (n-m1) (cap-m1)):=by
 intro a' hK w' _
 subst hz
 obtain⟨i,hi2,hsz⟩:=Option.map_eq_some_iff.1 hc
 have e2:(Instr.sliceBound (.int k1 m1) n .sliceB).run P w'= .ok (m1:Int).toNat w':=FU (by omega) (by omega)
 have hn:¬cap=m1:=by omega
 simp [execOp,ho,hK.ev hx,hK.ev h1,Instr.sliceAt,Instr.slice,run_underlying hu,Instr.sliceBounds,e2,sizeOf,typeInfo,hi2,hsz,hn,CA]
def RF(w:World)(v:Value):Prop:=∀g,v.ownBlock=some g->∃(cur:Array Value) (t:TypeId),w.heap[g]? =some (.cells cur t (0,0))
theorem AB.plain(h:AB c w B S e xs v):RF w v:=fun g hg=>by
 obtain⟨cs,⟨_,⟨rfl,_⟩|⟨g',cap,cur,rfl,_,hh,_⟩⟩,_⟩:=h
 ·cases hg
 ·obtain rfl:g'=g:=Option.some.inj hg
  exact⟨cur,e,hh⟩
theorem UV{by':Nat}{xs v r:List α}{i:Int}(h:ZG by' xs i v=some r):∃(x:α) (k:Nat),v=[x]∧i=k∧k<=xs.length∧(xs.length+1)*by'<=140737488355328∧xs.length+1<=9223372036854775807∧r=xs.take k++x::xs.drop k:=by
 unfold ZG at h
 split at h
 ·rename_i x
  split at h
  ·rename_i hc
   obtain⟨h1,h2,h3,h4⟩:=hc
   injection h with h
   exact⟨x,i.toNat,rfl,by omega,by omega,h3,h4,h.symm⟩
  ·cases h
 ·cases h
theorem Ts[CM c]{w1:World}{S2 S1:Nat->Prop}{x:α}{cs us:List Value}{cur:Array Value}{g i cap:Nat}(hR:RL c w1 S1 xs cs)(hx:c.rep w1 S2 x us)(hl:us.length=c.n)(hi:i<=xs.length)(hb:B<=g)(hh:w.heap[g]? =some (.cells cur e (0,0)))(hs:cur.size=cap*c.n)(hn:xs.length+1<=cap)(hc:cap<=maxLen)
 (ht:cur.toList.take ((xs.length+1)*c.n)=cs.take (i*c.n)++us++cs.drop (i*c.n)):AB c w B (Iv 0 0) e (xs.take i++x::xs.drop i) (.slice (some ⟨g,0,none⟩) (xs.length+1) cap):=by
 have h1:RL c w1 S2 [x] us:=⟨by simp [hl],fun j y hy=>by
  cases j with
  |zero=>
   obtain rfl:x=y:=by simpa using hy
   have:Ae us c.n 0=us:=by simp only [Ae,Nat.zero_mul,List.drop_zero];rw [←hl,List.take_length]
   rw [this];exact hx
  |succ j=>simp at hy⟩
 have h2:=((hR.take hi).any (w2:=w) (S2:=Iv 0 0)).app ((h1.any (w2:=w) (S2:=Iv 0 0)).app ((hR.drop hi).any (w2:=w) (S2:=Iv 0 0)))
 have e1:xs.take i++([x]++xs.drop i)=xs.take i++x::xs.drop i:=by simp
 have e2:(xs.take i++([x]++xs.drop i)).length=xs.length+1:=by simp;omega
 have h3:=RL.row (B:=B) (e:=e) (cap:=cap) (cur:=cur) hb hh hs (by rw [e2];exact hn) hc (by rw [e2,ht,List.append_assoc]) h2
 rw [e2]at h3
 rw [e1]at h3
 exact h3
theorem Fx.run{R:Value->World->Prop}(h:∀a,Kn N K a->∃v' w',(execOp a.eval o).run P w= .ok (.value v') w'∧R v' w'):Fx P N K o w R:=by
 intro a hK Kt Q hk
 obtain⟨v',w',hr,hR⟩:=h a hK
 unfold Oper.wp
 rw [hr]
 exact hk _ _ hR
theorem KM{t e ty:TypeId}{sz:Nat}{i:TypeInfo}(hu:P.underlying t=some (.slice e))(hi:P.info? e=some i)(hsz:i.size=sz){g o dl dc:Nat}{a:Addr}{sl sc:Nat}{cs:List Value}{cur:Array Value}(hn:cs.length=min sl dl*sz)
 (hsrc:∀j v,cs[j]? =some v->w.cell? (a.add j)=some v) (hg:w.heap[g]? =some (.cells cur e (0,0))) (ho:o+cs.length<=cur.size) (h1:∀v∈cs,v.oneCell'=true):
 (Builtin.copy_ #[t,t] ty #[.slice (some ⟨g,o,none⟩) dl dc,.slice (some a) sl sc]).run P w= .ok (goInt (min sl dl)) (w.setRow g (cur.toList.take o++cs++cur.toList.drop (o+cs.length)).toArray):=by
 have hl:=run_loadCells_list (P:=P) w a cs hsrc
 have hst:=run_storeCells_at P g o e cs 0 cur w hg (by omega) h1
 simp only [Nat.add_zero]at hst
 have hm:Nat.min sl dl=min sl dl:=rfl
 simp [Builtin.copy_,run_underlying hu,Builtin.lenOf,Builtin.firstCells,sizeOf,typeInfo,hi,hsz,hm,←hn,hl,hst]
 exact congrArg goInt (by omega)
theorem LX{t x y v1 v2 v' w'}(ho:o.op= .call { callee:=.builtin .copy,args:=#[x,y],argTypes:=#[t,t] })(hx:Bm K x=some v1)(hy:Bm K y=some v2)(hr:(Builtin.copy_ #[t,t] o.type #[v1,v2]).run P w= .ok v' w'):Fx P N K o w (fun _ w2=>w2=w'):=
 Fx.run fun a hK=>⟨v',w',by
  unfold execOp
  simp only [ho,resolve,invoke,builtin,Sem.run_bind,Sem.run_pure,Result.andThen_ok,List.map_toArray,List.map_cons,List.map_nil,hK.ev hx,hK.ev hy,hr],rfl⟩
theorem WJ{t tn x y v1 v2 v' w'}(ho:o.op= .call { callee:=.builtin .append,args:=#[x,y],argTypes:=#[t,tn] })(hx:Bm K x=some v1)(hy:Bm K y=some v2)(hr:(Builtin.append_ #[t,tn] o.type #[v1,v2]).run P w= .ok v' w'):Fx P N K o w (fun v2 w2=>v2=v'∧w2=w'):=
 Fx.run fun a hK=>⟨v',w',by
  unfold execOp
  simp only [ho,resolve,invoke,builtin,Sem.run_bind,Sem.run_pure,Result.andThen_ok,List.map_toArray,List.map_cons,List.map_nil,hK.ev hx,hK.ev hy,hr],rfl,rfl⟩
theorem Vj{f:FuncId}{fn:Func}{t tr:TypeId}{x y:Operand}{v1 v2:Value}{ts:Array TypeId}(ho:o.op= .call { callee:= .value (.func f),args:= #[x,y],argTypes:=ts })(hf:P.funcs[f]? =some fn)(hname:(fn.name== "runtime.NumGoroutine")=false)(hb:fn.body.isNone=true)(hn:Extern.findNext fn=none)
 (he:Extern.find fn=some (Extern.SlicesOverlaps.overlaps #[t,t] #[tr])) (hx:Bm K x=some v1) (hy:Bm K y=some v2) (hr:(Extern.SlicesOverlaps.overlaps #[t,t] #[tr] #[v1,v2]).run P w= .ok (.bool false) w):Fx P N K o w (fun v w2=>v= .bool false∧w2=w):=
 Fx.run fun a hK=>⟨.bool false,w,by
  have hc:=run_callFunc_extern (P:=P) hf hname hb hn he #[v1,v2] w
  rw [hr]at hc
  simp only [Result.andThen_ok]at hc
  have he2:(#[x,y]:Array Operand).map a.eval= #[v1,v2]:=by simp [hK.ev hx,hK.ev hy]
  have hfv:a.eval (.func f)= .func (.func f) #[] #[]:=rfl
  unfold execOp
  simp only [ho,resolve,invoke,Sem.run_bind,Sem.run_pure,Result.andThen_ok,he2,hfv,Deferred.ofValue]
  simpa using hc,rfl,rfl⟩
end
end Go.Eng
namespace Go.Eng
open Go Go.RowKit
/-! ## Structs whose last field is a struct of plain fields, compared -/
section
variable {P:Program} {N:Nat} {K:KL} {o:Oper} {w:World}
end
end Go.Eng
