/- The proof engine: what a function of the model computes, said by a plain function; no condition. -/
import Derived.Test.YtejmafeocaidlaaDoorEngA
set_option linter.all false
namespace Go.Eng
open Go Go.RowKit
end Go.Eng
namespace Go.Eng
open Go Go.RowKit
end Go.Eng
namespace Go.Eng
/-! ## Pointers that may be nil -/
end Go.Eng
namespace Go.Eng
end Go.Eng
namespace Go.Eng
open Go Go.RowKit
/-! ## Slices of which nothing is told -/
end Go.Eng
namespace Go
@[reducible] def Value.i (x:Int):Value:=.int .i64 x
end Go
namespace Go.Eng
open Go Go.RowKit
/-! ## Cells whose numbers may turn: what is written into them is not told -/
inductive GR:Value->Value->Prop
 |refl (u:Value):GR u u
 |int (k:IntKind) (m n:Int):GR (.int k m) (.int k n)
 |bool (a b:Bool):GR (.bool a) (.bool b)
 |str (a b:ByteArray):GR (.string a) (.string b)
theorem GR.trans{a b c:Value}(h:GR a b)(k:GR b c):GR a c:=by
 cases h with
 |refl=>exact k
 |int kk m n=>cases k with
  |refl=>exact .int kk m n
  |int _ _ q=>exact .int kk m q
 |bool x y=>cases k with
  |refl=>exact .bool x y
  |bool _ q=>exact .bool x q
 |str x y=>cases k with
  |refl=>exact .str x y
  |str _ q=>exact .str x q
def GT(us vs:List Value):Prop:=us.length=vs.length∧∀(j:Nat) (u v:Value),us[j]? =some u->vs[j]? =some v->GR u v
theorem GT.refl(us:List Value):GT us us:=⟨rfl,fun j u v h k=>by rw [h]at k;obtain rfl:=Option.some.inj k;exact .refl _⟩
structure GY(p:Nat->Prop)(w w':World):Prop where
 but:AR p w w'
 cell:∀b off u,w.cell? ⟨b,off,none⟩=some u->∃u',w'.cell? ⟨b,off,none⟩=some u'∧GR u u'
 froz:∀b off,b<w.heap.size->w.frozen? ⟨b,off,none⟩=false->w'.frozen? ⟨b,off,none⟩=false
section
variable {p q:Nat -> Prop} {w a c:World}
theorem GY.refl(p:Nat->Prop)(w:World):GY p w w:=⟨AR.refl p w,fun _ _ u h=>⟨u,h,.refl _⟩,fun _ _ _ h=>h⟩
theorem GY.ofBut(h:AR p w a)(hb:∀k,k<w.heap.size->a.heap[k]? =w.heap[k]?):GY p w a:=
 ⟨h,fun b off u hu=>⟨u,by rw [World.cell?_of_block (w:=w) (hb b (World.block_lt_of_cell? _ _ hu))];exact hu,.refl _⟩,fun b off hl hf=>by rw [Bt (hb b hl)];exact hf⟩
theorem GY.then(h:GY p w a)(k:GY q a c)(hb:AR p w c):GY p w c:=
 ⟨hb,fun b off u hu=>by
  obtain⟨u1,h1,h2⟩:=h.cell b off u hu
  obtain⟨u2,h3,h4⟩:=k.cell b off u1 h1
  exact⟨u2,h3,h2.trans h4⟩,fun b off hl hf=>k.froz b off (Nat.lt_of_lt_of_le hl h.but.size) (h.froz b off hl hf)⟩
theorem GY.ext(h:GY p w a)(he:AO a c):GY p w c:=
 h.then (q:=fun _=>False) (GY.ofBut ⟨he.os,he.tape,he.output,he.size,fun k hk _=>he.block k hk⟩ fun k hk=>he.block k hk) (h.but.ext he)
theorem GY.sim(h:GY p w a)(k:GY q a c)(hq:∀k,q k->p k∨w.heap.size<=k):GY p w c:=h.then k (h.but.but k.but hq)
theorem GY.upd{b:Nat}(h:GY p w a)(hu:Dd b a c)(hb:w.heap.size<=b):GY p w c:=
 ⟨h.but.upd hu (.inr hb),fun d off u hd=>by
  obtain⟨u1,h1,h2⟩:=h.cell d off u hd
  have:=World.block_lt_of_cell? _ _ hd
  exact⟨u1,by rw [World.cell?_of_block (w:=a) (hu.block d (by show d≠b;have:d<w.heap.size:=this;omega))];exact h1,h2⟩,fun d off hl hf=>by
  rw [Bt (hu.block d (by omega))];exact h.froz d off hl hf⟩
end
theorem AJ.cons{w:World}{b off:Nat}{u:Value}{us:List Value}(h:AJ w b off (u::us)):(w.cell? ⟨b,off,none⟩=some u∧w.frozen? ⟨b,off,none⟩=false)∧AJ w b (off+1) us:=
 ⟨by have:=h 0 u rfl;rwa [Nat.add_zero]at this,fun j v hj=>by have:=h (j+1) v (by simpa using hj);rwa [show off+(j+1)=off+1+j by omega]at this⟩
theorem AJ.mk{w:World}{b off:Nat}{u:Value}{us:List Value}(h0:w.cell? ⟨b,off,none⟩=some u∧w.frozen? ⟨b,off,none⟩=false)(h:AJ w b (off+1) us):AJ w b off (u::us):=fun j v hj=>by
 cases j with
 |zero=>obtain rfl:u=v:=by simpa using hj
        rw [Nat.add_zero];exact h0
 |succ j=>rw [show off+(j+1)=off+1+j by omega];exact h j v (by simpa using hj)
theorem AJ.sim{p:Nat->Prop}{w w':World}(hs:GY p w w'){b:Nat}:∀{us:List Value} {off:Nat},AJ w b off us->∃us',GT us us'∧AJ w' b off us'
 |[],off,_=>⟨[],GT.refl _,fun j u h=>by simp at h⟩
 |u::us,off,h=>by
  obtain⟨⟨h1,h2⟩,h3⟩:=h.cons
  obtain⟨us',⟨k1,k2⟩,k3⟩:=AJ.sim hs h3
  obtain⟨u',h4,h5⟩:=hs.cell b off u h1
  refine⟨u'::us',⟨by simp [k1],fun j x y hx hy=>?_⟩,AJ.mk ⟨h4,hs.froz b off (World.block_lt_of_cell? _ _ h1) h2⟩ k3⟩
  cases j with
  |zero=>obtain rfl:u=x:=by simpa using hx
         obtain rfl:u'=y:=by simpa using hy
         exact h5
  |succ j=>exact k2 j x y (by simpa using hx) (by simpa using hy)
/-! ## Codecs that do not tell numbers -/
class IH{α:Type}(c:Ax α):Prop where
 sim:∀{p:Nat->Prop} {w w':World} {S:Nat->Prop} {x:α} {vs vs':List Value},c.rep w S x vs->GY p w w'->GT vs vs'->c.rep w' S x vs'
theorem GT.one{u:Value}{vs:List Value}(h:GT [u] vs):∃v,vs=[v]∧GR u v:=by
 obtain⟨v,rfl⟩:=List.length_eq_one_iff.1 h.1.symm
 exact⟨v,rfl,h.2 0 u v rfl rfl⟩
theorem GT.app{us ts vs:List Value}(h:GT (us++ts) vs):∃vs1 vs2,vs=vs1++vs2∧GT us vs1∧GT ts vs2:=by
 obtain⟨h1,h2⟩:=h
 rw [List.length_append]at h1
 refine⟨vs.take us.length,vs.drop us.length,(List.take_append_drop _ _).symm,⟨by simp;omega,fun j u v hu hv=>?_⟩,⟨by simp;omega,fun j u v hu hv=>?_⟩⟩
 ·have hj:=(List.getElem?_eq_some_iff.1 hu).1
  rw [List.getElem?_take,if_pos hj]at hv
  exact h2 j u v (by rw [List.getElem?_append_left hj];exact hu) hv
 ·rw [List.getElem?_drop]at hv
  exact h2 (us.length+j) u v (by rw [List.getElem?_append_right (by omega),Nat.add_sub_cancel_left];exact hu) hv
instance {α β:Type}(c:Ax α)(d:Ax β)[hc:IH c][hd:IH d]:IH (BP c d):=⟨fun⟨us,ts,e,h1,h2⟩ hs h=>by
 subst e;obtain⟨vs1,vs2,rfl,k1,k2⟩:=h.app
 exact⟨vs1,vs2,rfl,hc.sim h1 hs k1,hd.sim h2 hs k2⟩⟩
instance {α β:Type}(f:β->α)(c:Ax α)[hc:IH c]:IH (DC f c):=⟨fun h hs k=>hc.sim h hs k⟩
theorem AD.sim{α:Type}{c:Ax α}[hc:IH c]{p:Nat->Prop}{w w':World}{S:Nat->Prop}{xs:List α}{v:Value}(h:AD c w S xs v)(hs:GY p w w'):AD c w' S xs v:=by
 obtain⟨a,cap,h1,h2,h3,h4⟩:=h
 refine⟨a,cap,h1,h2,h3,fun hl=>?_⟩
 obtain⟨b,off,h5,h6,h8⟩:=h4 hl
 refine⟨b,off,h5,h6,fun i x hx=>?_⟩
 obtain⟨us,h9,h10⟩:=h8 i x hx
 obtain⟨us',k1,k2⟩:=h10.sim hs
 exact⟨us',hc.sim h9 hs k1,k2⟩
instance {α:Type}(c:Ax α)[IH c]:IH (Fp c):=⟨fun⟨v,e,h⟩ hs k=>by
 subst e;obtain⟨v',rfl,k2⟩:=k.one
 obtain⟨a,cap,rfl,_⟩:=id h
 cases k2
 exact⟨_,rfl,h.sim hs⟩⟩
section
variable {P:Program} {N:Nat} {o:Oper} {K:KL} {w:World}
end
/-! ## Worlds, in fewer words -/
theorem AC.slG{α:Type}{c:Ax α}{w:World}{B:Nat}{S S':Nat->Prop}{e:TypeId}{xs:List α}{v:Value}(h:AC c w B S e xs v)(hS:∀k,S k->S' k)(hb:∀g,v.ownBlock=some g->S' g):AD c w S' xs v:=by
 obtain⟨cs,h0,h3⟩:=h
 have h0':=h0
 obtain⟨hl,⟨rfl,hn⟩|⟨g,cap,cur,rfl,_,hh,h5,h6,h7,h8⟩⟩:=h0'
 ·have:xs=[]:=List.eq_nil_of_length_eq_zero hn
  subst this;exact AD.nil _ _ _
 ·refine⟨some ⟨g,0,none⟩,cap,rfl,⟨h5,fun h=>by cases h⟩,by simpa [maxLen] using h6,fun hpos=>⟨g,0,rfl,hb g rfl,fun i x hx=>⟨_,c.mono (h3 i x hx) hS (fun _ _=>rfl),fun j u hu=>?_⟩⟩⟩
  have hjn:j<c.n:=by
   have:=(List.getElem?_eq_some_iff.1 hu).1
   simp [AL]at this;omega
  rw [AY hjn]at hu
  have:=h0.cells (g:=g) rfl _ _ hu
  rw [BS]at this
  rw [show 0+i*c.n+j=0+(i*c.n+j) by omega];exact⟨this,by simp [World.frozen?,hh]⟩
theorem nr{n:Nat}:n<=n:=Nat.le_refl n
end Go.Eng
namespace Go.Eng
open Go Go.RowKit
/-! ## Own slices of own slices: built by literals and appends, written by calls -/
def Ka:Ax Value where
 n:=1
 rep:=fun _ _ x vs=>vs=[x]∧x.oneCell'=true
 len:=fun h=>by rw [h.1];rfl
 one:=fun h=>by rw [h.1];simp [h.2]
 mono:=fun h _ _=>h
instance:BU Ka:=⟨fun h=>h⟩
theorem Lh{w:World}{B:Nat}{S:Nat->Prop}{e:TypeId}{vs:List Value}{v:Value}(h:AC Ka w B S e vs v):w.ownsRow B e 1 v vs.length vs:=by
 obtain⟨cs,h1,h2⟩:=h
 have hl:cs.length=vs.length:=by have:=h1.1;simpa [Ka] using this
 have e1:cs=vs:=by
  apply List.ext_getElem?
  intro i
  by_cases hi:i<vs.length
  ·have h3:=(h2 i vs[i] (List.getElem?_eq_getElem hi)).1
   have h4:(AL cs 1 i)[0]? =some vs[i]:=by rw [show AL cs 1 i=[vs[i]]from h3];rfl
   rw [AY (by omega)]at h4
   rw [List.getElem?_eq_getElem hi,←h4];congr 1;omega
  ·rw [List.getElem?_eq_none (by omega),List.getElem?_eq_none (by omega)]
 rw [e1]at h1;exact h1
section
variable {α:Type} {c:Ax α} [BU c] {w w':World} {B B1 B2 hi lo1 hi1 lo2 hi2:Nat} {S:Nat -> Prop} {e1 e2:TypeId} {xss:List (List α)} {xs ys:List α} {v u t:Value} {vs:List Value}
theorem Bf.raw(h:Bf c w B hi e1 e2 xss v vs):AC Ka w B (Iv 0 0) e1 vs v:=by
 have hl:vs.length=xss.length:=by have:=h.1.1;omega
 have h1:=h.1
 rw [←hl]at h1
 refine⟨vs,h1,fun i x hx=>⟨OT hx,?_⟩⟩
 have hi:i<xss.length:=by have:=(List.getElem?_eq_some_iff.1 hx).1;omega
 exact(h.2.1 i _ x (List.getElem?_eq_getElem hi) hx).1.one
theorem Bf.of(h:AC Ka w B S e1 vs v)(hl:vs.length=xss.length)(hin:∀(i:Nat) (xs:List α) (u:Value),xss[i]? =some xs->vs[i]? =some u->AC c w B (Iv 0 0) e2 xs u∧Bd u B hi∧No v u)
 (hd:∀(i j:Nat) (u u':Value),i≠j->vs[i]? =some u->vs[j]? =some u'->No u u'):Bf c w B hi e1 e2 xss v vs:=by
 have h1:=Lh h
 rw [hl]at h1
 exact⟨h1,hin,hd⟩
theorem Bf.base{B':Nat}(h:Bf c w B hi e1 e2 xss v vs)(hB:B'<=B):Bf c w B' hi e1 e2 xss v vs:=by
 refine Bf.of (AC.base h.raw hB) (by have:=h.1.1;omega) (fun i xs u hx hu=>?_) h.2.2
 obtain⟨p,q,r⟩:=h.2.1 i xs u hx hu
 exact⟨p.base hB,fun g hg=>by have:=q g hg;omega,r⟩
theorem Bf.put{m:Int}{zs:List α}(h:Bf c w B hi e1 e2 xss v vs)(hy:AS xss m=some xs)(hu:vs[m.toNat]? =some u)(hb:AR (pO u) w w')(hle:hi<=w.heap.size)(ho:AC c w' B1 (Iv 0 0) e2 zs u)(hB:B<=B1):Bf c w' B hi e1 e2 (xss.set m.toNat zs) v vs:=by
 obtain⟨_,hbu,hvu⟩:=h.sub hy hu
 obtain⟨a,b,d⟩:=h
 refine⟨?_,fun i x t hx ht=>?_,d⟩
 ·rw [List.length_set]
  exact ownsRow.keep a (fun g hg=>hb.block g (a.lt g hg).2 (fun e=>hvu g g hg e rfl))
 ·rcases JE hx with ⟨rfl,rfl⟩|⟨hne,hx3⟩
  ·obtain rfl:u=t:=Option.some.inj (hu.symm.trans ht)
   exact⟨ho.base hB,hbu,hvu⟩
  ·obtain⟨p,q,r⟩:=b i x t hx3 ht
   exact⟨p.keep (fun g hg=>hb.block g (by have:=q g hg;omega) (fun e=>d m.toNat i u t hne hu ht g g e hg rfl)) (fun _ h=>h) (fun k h=>absurd h.2 (Nat.not_lt_zero k)),q,r⟩
end
section
variable {P:Program} {N:Nat} {K:KL} {o:Oper} {α:Type} {c:Ax α} [BU c] {w:World} {B hi B2 hi2:Nat} {e1 e2:TypeId} {xss yss zss:List (List α)} {v u:Value} {vs us:List Value}
end
end Go.Eng
namespace Go.Eng
open Go Go.RowKit
/-! ## A slice that is handed over to grow -/
def Gr(w:World)(v v':Value):Prop:=∀g,v'.ownBlock=some g->v.ownBlock=some g∨w.heap.size<=g
theorem Gr.refl(w:World)(v:Value):Gr w v v:=fun g hg=>.inl hg
theorem Aj.of{w w':World}{v v':Value}(h:AR (pO v) w w')(g:Gr w v v'):Aj w w' v v':=
 ⟨⟨h.os,h.tape,h.output,h.size,fun k hk hne=>h.block k hk (fun e=>hne e.symm)⟩,g⟩
end Go.Eng
namespace Go.Eng
open Go Go.RowKit
/-! ## The end of an own slice, that may grow -/
def Bj{α:Type}(c:Ax α)(w:World)(B:Nat)(e:TypeId)(xs:List α)(v:Value):Prop:=
 ∃cs,cs.length=xs.length*c.n∧(∀i x,xs[i]? =some x->c.rep w (Iv 0 0) x (AL cs c.n i))∧
  (v= .slice none 0 0∧xs.length=0∨∃g off cap cur,v= .slice (some ⟨g,off,none⟩) xs.length cap∧B<=g∧w.heap[g]? =some (.cells cur e (0,0))∧xs.length<=cap∧cap<=maxLen∧off+cap*c.n<=cur.size∧(cur.toList.drop off).take (xs.length*c.n)=cs)
section
variable {α:Type} {c:Ax α} {w w':World} {B:Nat} {e:TypeId} {xs zs:List α} {v u:Value}
theorem Bj.of(h:AC c w B (Iv 0 0) e xs v):Bj c w B e xs v:=by
 obtain⟨cs,⟨hl,h1⟩,h3⟩:=h
 refine⟨cs,hl,h3,?_⟩
 rcases h1 with h1|⟨g,cap,cur,rfl,a1,a2,a3,a4,a5,a6⟩
 ·exact .inl h1
 ·exact .inr ⟨g,0,cap,cur,rfl,a1,a2,a3,a4,by omega,by simpa using a6⟩
theorem Bj.blk(h:Bj c w B e xs v):Bd v B w.heap.size:=by
 obtain⟨cs,_,_,⟨rfl,_⟩|⟨g,off,cap,cur,rfl,a1,a2,_⟩⟩:=h
 ·intro g hg;cases hg
 ·intro q hq
  simp [Value.ownBlock]at hq;subst hq
  exact⟨a1,(Array.getElem?_eq_some_iff.1 a2).1⟩
theorem Bj.base{B':Nat}(h:Bj c w B e xs v)(hB:B'<=B):Bj c w B' e xs v:=by
 obtain⟨cs,h1,h2,h3⟩:=h
 refine⟨cs,h1,h2,?_⟩
 rcases h3 with h3|⟨g,off,cap,cur,a0,a1,rest⟩
 ·exact .inl h3
 ·exact .inr ⟨g,off,cap,cur,a0,by omega,rest⟩
theorem Bj.keep[BU c](h:Bj c w B e xs v)(hg:∀g,v.ownBlock=some g->w'.heap[g]? =w.heap[g]?):Bj c w' B e xs v:=by
 obtain⟨cs,h1,h2,h3⟩:=h
 refine⟨cs,h1,fun i x hx=>BU.any (h2 i x hx),?_⟩
 rcases h3 with h3|⟨g,off,cap,cur,rfl,a1,a2,rest⟩
 ·exact .inl h3
 ·exact .inr ⟨g,off,cap,cur,rfl,a1,(hg g rfl).trans a2,rest⟩
theorem Bj.ext[BU c](h:Bj c w B e xs v)(he:AO w w'):Bj c w' B e xs v:=h.keep (fun g hg=>he.block g (h.blk g hg).2)
theorem Bj.upd[BU c]{b:Nat}(h:Bj c w B e xs v)(hu:Dd b w w')(hne:Nb v b):Bj c w' B e xs v:=h.keep (fun g hg=>hu.block g (hne g hg))
theorem Bj.butF[BU c]{p:Nat->Prop}(h:Bj c w B e xs v)(hb:AR p w w')(hne:∀k,p k->∀g,v.ownBlock=some g->k≠g):Bj c w' B e xs v:=h.keep (fun g hg=>hb.block g (h.blk g hg).2 (fun e=>hne g e g hg rfl))
theorem Bj.sl[BU c]{S:Nat->Prop}(h:Bj c w B e xs v)(hb:∀g,v.ownBlock=some g->S g):AD c w S xs v:=by
 obtain⟨cs,hl,h3,⟨rfl,hn⟩|⟨g,off,cap,cur,rfl,_,hh,h5,h6,h7,h8⟩⟩:=h
 ·have:xs=[]:=List.eq_nil_of_length_eq_zero hn
  subst this;exact AD.nil _ _ _
 ·refine⟨some ⟨g,off,none⟩,cap,rfl,⟨h5,fun h=>by cases h⟩,by simpa [maxLen] using h6,fun hpos=>⟨g,off,rfl,hb g rfl,fun i x hx=>⟨_,BU.any (h3 i x hx),fun j u hu=>?_⟩⟩⟩
  have hjn:j<c.n:=by
   have:=(List.getElem?_eq_some_iff.1 hu).1
   simp [AL]at this;omega
  have hi:i<xs.length:=(List.getElem?_eq_some_iff.1 hx).1
  rw [AY hjn,←h8,List.getElem?_take]at hu
  split at hu
  ·rw [List.getElem?_drop]at hu
   have e1:off+i*c.n+j=off+(i*c.n+j):=by omega
   rw [e1]
   refine⟨?_,by simp [World.frozen?,hh]⟩
   have hu2:cur[off+(i*c.n+j)]? =some u:=by simpa using hu
   rw [cell_of_row w g _ cur e (0,0) hh];exact hu2
  ·cases hu
theorem Bj.slf[BU c]{lo hi:Nat}(h:Bj c w B e xs v)(h1:lo<=B)(h2:w.heap.size<=hi):AD c w (Iv lo hi) xs v:=h.sl (fun g hg=>by have:=h.blk g hg;exact⟨by omega,by omega⟩)
theorem Bj.slb[BU c]{lo hi:Nat}(h:Bj c w B e xs v)(hb:Bd v lo hi):AD c w (Iv lo hi) xs v:=h.sl hb
def QT{α:Type}(c:Ax α)(v u:Value)(xs zs:List α):Prop:=(∀(w:World) (B:Nat) (e:TypeId),Bj c w B e xs v->Bj c w B e zs u)∧∀g,u.ownBlock=some g->v.ownBlock=some g
theorem QT.mk'{k cap:Nat}{a:Option Addr}(hk:k<=xs.length)(hcap:xs.length<=cap)(ha:a=none->cap=0)(hsp:∀ad,a=some ad->ad.spot=none):QT c (.slice a xs.length cap) (.slice (if cap=k then a else a.map (·.add (k*c.n))) (xs.length-k) (cap-k)) xs (xs.drop k):=by
 have hzl:(xs.drop k).length=xs.length-k:=by simp
 refine⟨fun w B e h=>?_,fun g hg=>?_⟩
 ·obtain⟨cs,hl,h3,h4⟩:=h
  have hkn:k*c.n<=xs.length*c.n:=Nat.mul_le_mul_right _ hk
  refine⟨cs.drop (k*c.n),by rw [List.length_drop,hl,hzl,Nat.sub_mul],fun i x hx=>?_,?_⟩
  ·rw [List.getElem?_drop]at hx
   have:=h3 _ _ hx
   have e1:AL (cs.drop (k*c.n)) c.n i=AL cs c.n (k+i):=by
    unfold AL;rw [List.drop_drop];congr 2;rw [Nat.add_mul]
   rw [e1];exact this
  ·rcases h4 with ⟨h5,hn⟩|⟨g,off,cap2,cur,h5,a1,a2,a3,a4,a5,a6⟩
   ·injection h5 with h6 h7 h8
    subst h6 h8
    left
    refine⟨by simp;omega,by rw [hzl];omega⟩
   ·injection h5 with h6 h7 h8
    subst h6 h8
    right
    by_cases hc:cap=k
    ·subst hc
     have hx:xs.length=cap:=by omega
     refine⟨g,off,0,cur,by rw [hzl];simp,a1,a2,by rw [hzl];omega,by simp [maxLen],by omega,?_⟩
     rw [hzl,←a6,hx];simp
    ·refine⟨g,off+k*c.n,cap-k,cur,by rw [hzl,if_neg hc];simp [BS],a1,a2,by rw [hzl];omega,by omega,?_,?_⟩
     ·rw [Nat.sub_mul];have:k*c.n<=cap*c.n:=Nat.mul_le_mul_right _ (by omega)
      omega
     ·rw [hzl,←a6,←List.drop_drop,List.drop_take,Nat.sub_mul]
 ·cases a with
  |none=>split at hg<;>simp [Value.ownBlock]at hg
  |some ad=>
   split at hg
   ·exact hg
   ·simp only [Option.map_some,Value.ownBlock]at hg ⊢
    rw [←hg];congr 1
    obtain⟨b,of,sp⟩:=ad
    unfold Addr.add;split<;>rfl
section
variable {P:Program} {N:Nat} {K:KL} {o:Oper} {S:Nat -> Prop}
theorem Bj.spot(h:Bj c w B e xs v):∀ad n cap,v= .slice (some ad) n cap->ad.spot=none:=by
 obtain⟨_,_,_,⟨rfl,_⟩|⟨g,off,cap,cur,rfl,_⟩⟩:=h
 ·intro ad n cap h;cases h
 ·intro ad n cap h;injection h with h;injection h with h;subst h;rfl
variable {ys:List α}
end
end
end Go.Eng
namespace Go.Eng
open Go Go.RowKit
/-! ## Short words for the plain texts -/
theorem BJ{α β:Type}{a:α}{f:α->Option β}:Option.bind (some a) f=f a:=rfl
theorem cT{α:Type}{x y:α}:(bif true then x else y)=x:=rfl
theorem cF{α:Type}{x y:α}:(bif false then x else y)=y:=rfl
theorem wT(i:Nat)(h:i<4611686018427387904:=by omega):IntKind.wrap IntKind.i64 ((i:Int)+1)=((i+1:Nat):Int):=Th h
theorem BV{α:Type}{a r:α}(h:some a=some r):r=a:=(Option.some.inj h).symm
theorem SP(b:Bool):b=true∨b=false:=Bool.eq_false_or_eq_true b
end Go.Eng
namespace Go.Eng
open Go Go.RowKit
/-! ## Parts of an own slice: its beginning, its end, and clear -/
def Mi(v:Value)(i n:Nat):Value:=match v with
 | .slice a m cap=>.slice (if cap=i then a else a.map (·.add (i*n))) (m-i) (cap-i)
 |v=>v
section
variable {α:Type} {c:Ax α} {w w':World} {B:Nat} {S:Nat -> Prop} {e:TypeId} {xs zs:List α} {v u:Value}
theorem Gr.cut{w:World}{v v':Value}{m:Nat}(h:Gr w v v'):Gr w v (Nz v' m):=fun g hg=>h g (by rwa [Kk]at hg)
section
variable {P:Program} {N:Nat} {K:KL} {o:Oper}
theorem Jc{t x lo k1 m1}(ho:o.op= .slice t x (some lo) none none)(hu:P.underlying t=some (.slice e))(hc:Am P e=some c.n)(hx:Ay K x=some v)(h1:Ay K lo=some (.int k1 m1))
 (hs:AD c w S xs v) (hz:EL xs m1 xs.length=some zs) (hp:∀ad n cap,v= .slice (some ad) n cap->ad.spot=none):YE P N K o w (fun u=>AD c w S zs u∧QT c v u xs zs∧u=Mi v m1.toNat c.n):=by
 obtain⟨a,cap,rfl,g1,g3,g4⟩:=hs
 unfold EL at hz
 split at hz
 ·rename_i hb
  injection hz with hz;subst hz
  obtain⟨i,hi2,hsz⟩:=Option.map_eq_some_iff.1 hc
  refine⟨_,fun a' hK w' he=>?_,GE (e:=e) g1 g3 g4 hb.1 hb.2.1 hb.2.2,?_,?_⟩
  ·have e2:(Instr.sliceBound (.int k1 m1) xs.length .sliceB).run P w'= .ok m1.toNat w':=DG (by omega) (by omega)
   simp [execOp,ho,hK.ev hx,hK.ev h1,Instr.sliceAt,Instr.slice,run_underlying hu,Instr.sliceBounds,e2,sizeOf,typeInfo,hi2,hsz]
  ·have e3:(xs.take ((xs.length:Int)).toNat).drop m1.toNat=xs.drop m1.toNat:=by simp
   rw [e3]
   have:=QT.mk' (c:=c) (xs:=xs) (k:=m1.toNat) (cap:=cap) (a:=a) (by omega) g1.1 g1.2 (fun ad h=>hp ad _ _ (by rw [h]))
   simpa using this
  ·simp [Mi]
 ·cases hz
end
end
end Go.Eng
namespace Go.Eng
open Go Go.RowKit
/-! ## Numbers that turn within what is only read: what is read then is told by its shape -/
inductive HR:Value->Value->Prop
 |refl (u:Value):HR u u
 |int (k:IntKind) (m n:Int):HR (.int k m) (.int k n)
theorem HR.trans{a b c:Value}(h:HR a b)(k:HR b c):HR a c:=by
 cases h with
 |refl=>exact k
 |int kk m n=>cases k with
  |refl=>exact .int kk m n
  |int _ _ q=>exact .int kk m q
def Jb(us vs:List Value):Prop:=us.length=vs.length∧∀(j:Nat) (u v:Value),us[j]? =some u->vs[j]? =some v->HR u v
theorem Jb.refl(us:List Value):Jb us us:=⟨rfl,fun j u v h k=>by rw [h]at k;obtain rfl:=Option.some.inj k;exact .refl _⟩
theorem Jb.one{u:Value}{vs:List Value}(h:Jb [u] vs):∃v,vs=[v]∧HR u v:=by
 obtain⟨v,rfl⟩:=List.length_eq_one_iff.1 h.1.symm
 exact⟨v,rfl,h.2 0 u v rfl rfl⟩
theorem Jb.app{us ts vs:List Value}(h:Jb (us++ts) vs):∃vs1 vs2,vs=vs1++vs2∧Jb us vs1∧Jb ts vs2:=by
 obtain⟨h1,h2⟩:=h
 rw [List.length_append]at h1
 refine⟨vs.take us.length,vs.drop us.length,(List.take_append_drop _ _).symm,⟨by simp;omega,fun j u v hu hv=>?_⟩,⟨by simp;omega,fun j u v hu hv=>?_⟩⟩
 ·have hj:=(List.getElem?_eq_some_iff.1 hu).1
  rw [List.getElem?_take,if_pos hj]at hv
  exact h2 j u v (by rw [List.getElem?_append_left hj];exact hu) hv
 ·rw [List.getElem?_drop]at hv
  exact h2 (us.length+j) u v (by rw [List.getElem?_append_right (by omega),Nat.add_sub_cancel_left];exact hu) hv
structure Ma(b:Nat)(w w':World):Prop where
 upd:Dd b w w'
 cell:∀d off u,w.cell? ⟨d,off,none⟩=some u->∃u',w'.cell? ⟨d,off,none⟩=some u'∧HR u u'
 froz:∀d off,d<w.heap.size->w.frozen? ⟨d,off,none⟩=false->w'.frozen? ⟨d,off,none⟩=false
 row:∀cur ty fz,w.heap[b]? =some (.cells cur ty fz)->∃cur',w'.heap[b]? =some (.cells cur' ty fz)∧Jb cur.toList cur'.toList
theorem AJ.siB{c:Nat}{w w':World}(hs:Ma c w w'){b:Nat}:∀{us:List Value} {off:Nat},AJ w b off us->∃us',Jb us us'∧AJ w' b off us'
 |[],off,_=>⟨[],Jb.refl _,fun j u h=>by simp at h⟩
 |u::us,off,h=>by
  obtain⟨⟨h1,h2⟩,h3⟩:=h.cons
  obtain⟨us',⟨k1,k2⟩,k3⟩:=AJ.siB hs h3
  obtain⟨u',h4,h5⟩:=hs.cell b off u h1
  refine⟨u'::us',⟨by simp [k1],fun j x y hx hy=>?_⟩,AJ.mk ⟨h4,hs.froz b off (World.block_lt_of_cell? _ _ h1) h2⟩ k3⟩
  cases j with
  |zero=>obtain rfl:u=x:=by simpa using hx
         obtain rfl:u'=y:=by simpa using hy
         exact h5
  |succ j=>exact k2 j x y (by simpa using hx) (by simpa using hy)
def Ia{α:Type}(r:α->α->Prop)(xs ys:List α):Prop:=ys.length=xs.length∧∀(i:Nat) (x y:α),xs[i]? =some x->ys[i]? =some y->r x y
theorem Ia.pick{α:Type}{r:Nat->α->α->Prop}:∀{xs:List α} {s:Nat},(∀(i:Nat) (x:α),xs[i]? =some x->∃y,r (s+i) x y)->∃ys:List α,ys.length=xs.length∧∀(i:Nat) (x y:α),xs[i]? =some x->ys[i]? =some y->r (s+i) x y
 |[],s,_=>⟨[],rfl,fun i x y h=>by simp at h⟩
 |x::xs,s,h=>by
  obtain⟨y,hy⟩:=h 0 x rfl
  obtain⟨ys,h1,h2⟩:=Ia.pick (r:=r) (xs:=xs) (s:=s+1) fun i z hz=>by
   have:=h (i+1) z (by simpa using hz)
   rwa [show s+(i+1)=s+1+i by omega]at this
  refine⟨y::ys,by simp [h1],fun i a b ha hb=>?_⟩
  cases i with
  |zero=>obtain rfl:x=a:=by simpa using ha
         obtain rfl:y=b:=by simpa using hb
         exact hy
  |succ i=>have:=h2 i a b (by simpa using ha) (by simpa using hb)
           rwa [show s+1+i=s+(i+1) by omega]at this
class KN{α:Type}(c:Ax α)(r:outParam (α->α->Prop)):Prop where
 sim:∀{b:Nat} {w w':World} {S:Nat->Prop} {x:α} {vs vs':List Value},c.rep w S x vs->Ma b w w'->Jb vs vs'->∃x',r x x'∧c.rep w' S x' vs'
instance (k:IntKind):KN (AI k) (fun _ _=>True):=⟨fun e _ h=>by
 obtain rfl:=e;obtain⟨v,rfl,h2⟩:=h.one
 cases h2 with
 |refl=>exact⟨_,trivial,rfl⟩
 |int _ _ n=>exact⟨n,trivial,rfl⟩⟩
instance:KN DL Eq:=⟨fun e _ h=>by
 obtain rfl:=e;obtain⟨v,rfl,h2⟩:=h.one
 cases h2;exact⟨_,rfl,rfl⟩⟩
instance:KN CT Eq:=⟨fun e _ h=>by
 obtain rfl:=e;obtain⟨v,rfl,h2⟩:=h.one
 cases h2;exact⟨_,rfl,rfl⟩⟩
instance {α β:Type}(c:Ax α)(d:Ax β)(r:α->α->Prop)(q:β->β->Prop)[hc:KN c r][hd:KN d q]:KN (BP c d) (fun x y=>r x.1 y.1∧q x.2 y.2):=⟨fun⟨us,ts,e,h1,h2⟩ hs h=>by
 subst e;obtain⟨vs1,vs2,rfl,k1,k2⟩:=h.app
 obtain⟨x,a1,a2⟩:=hc.sim h1 hs k1
 obtain⟨y,b1,b2⟩:=hd.sim h2 hs k2
 exact⟨(x,y),⟨a1,b1⟩,vs1,vs2,rfl,a2,b2⟩⟩
theorem KN.map{α β:Type}{c:Ax α}{r:α->α->Prop}[hc:KN c r](f:β->α)(g:α->β)(h:∀y,f (g y)=y):KN (DC f c) (fun x y=>r (f x) (f y)):=⟨fun k hs hv=>by
 obtain⟨y,a1,a2⟩:=hc.sim k hs hv
 exact⟨g y,by show r _ (f (g y));rw [h];exact a1,by show c.rep _ _ (f (g y)) _;rw [h];exact a2⟩⟩
section
variable {α:Type} {c:Ax α} {r:α -> α -> Prop} [hc:KN c r] {b:Nat} {w w':World} {S:Nat -> Prop} {xs:List α} {v:Value}
theorem AD.siB(h:AD c w S xs v)(hs:Ma b w w'):∃ys,Ia r xs ys∧AD c w' S ys v:=by
 obtain⟨a,cap,h1,h2,h3,h4⟩:=h
 by_cases hl:0<xs.length
 ·obtain⟨d,off,h5,h6,h8⟩:=h4 hl
  obtain⟨ys,k1,k2⟩:=Ia.pick (r:=fun i x y=>r x y∧∃us,c.rep w' S y us∧AJ w' d (off+i*c.n) us) (xs:=xs) (s:=0) fun i x hx=>by
   obtain⟨us,h9,h10⟩:=h8 i x hx
   obtain⟨us',q1,q2⟩:=h10.siB hs
   obtain⟨y,p1,p2⟩:=hc.sim h9 hs q1
   exact⟨y,p1,us',p2,by rw [Nat.zero_add];exact q2⟩
  have get:∀i x,xs[i]? =some x->∃y,ys[i]? =some y:=fun i x hx=>⟨_,List.getElem?_eq_getElem (by have:=(List.getElem?_eq_some_iff.1 hx).1;omega)⟩
  refine⟨ys,⟨k1,fun i x y hx hy=>(k2 i x y hx hy).1⟩,a,cap,by rw [k1];exact h1,by rw [k1];exact h2,h3,fun _=>⟨d,off,h5,h6,fun i y hy=>?_⟩⟩
  have hx:xs[i]? =some (xs[i]'(by have:=(List.getElem?_eq_some_iff.1 hy).1;omega)):=List.getElem?_eq_getElem _
  have:=(k2 i _ y hx hy).2
  rwa [Nat.zero_add]at this
 ·obtain rfl:xs=[]:=List.eq_nil_of_length_eq_zero (by omega)
  exact⟨[],⟨rfl,fun i x y h=>by simp at h⟩,a,cap,h1,h2,h3,fun h=>absurd h hl⟩
theorem AC.siB{B:Nat}{e:TypeId}(h:AC c w B S e xs v)(hs:Ma b w w')(hb:∀g,v.ownBlock=some g->g≠b):∃ys,Ia r xs ys∧AC c w' B S e ys v:=by
 obtain⟨cs,h1,h2⟩:=h
 obtain⟨ys,k1,k2⟩:=Ia.pick (r:=fun i x y=>r x y∧c.rep w' S y (AL cs c.n i)) (xs:=xs) (s:=0) fun i x hx=>by
  obtain⟨y,p1,p2⟩:=hc.sim (h2 i x hx) hs (Jb.refl _)
  exact⟨y,p1,by rw [Nat.zero_add];exact p2⟩
 refine⟨ys,⟨k1,fun i x y hx hy=>(k2 i x y hx hy).1⟩,cs,by rw [k1];exact ownsRow.keep h1 (fun g hg=>hs.upd.block g (hb g hg)),fun i y hy=>?_⟩
 have hx:xs[i]? =some (xs[i]'(by have:=(List.getElem?_eq_some_iff.1 hy).1;omega)):=List.getElem?_eq_getElem _
 have:=(k2 i _ y hx hy).2
 rwa [Nat.zero_add]at this
end
instance {α:Type}(c:Ax α)(r:α->α->Prop)[KN c r]:KN (Fp c) (Ia r):=⟨fun⟨v,e,h⟩ hs k=>by
 subst e;obtain⟨v',rfl,k2⟩:=k.one
 obtain⟨a,cap,rfl,_⟩:=id h
 obtain⟨ys,p1,p2⟩:=h.siB hs
 cases k2
 exact⟨ys,p1,_,rfl,p2⟩⟩
section
variable {P:Program} {N:Nat} {o:Oper} {K:KL} {w:World}
end
/-! ## What a slice's elements lead to, but for the blocks of one kind -/
def Gp(w:World)(k:Nat):Option TypeId:=match w.heap[k]? with
 |some (.cells _ e _)=>some e
 |_=>none
def RT(w:World)(B hi:Nat)(v:Value)(tx:TypeId):Nat->Prop:=fun k=>SX B hi v k∧Gp w k≠some tx
def Cp{α:Type}(c:Ax α)(w:World)(B hi:Nat)(e:TypeId)(xs:List α)(v:Value)(tx:TypeId):Prop:=AC c w B (RT w B hi v tx) e xs v
theorem Gp.same{w w':World}{k:Nat}(h:w'.heap[k]? =w.heap[k]?):Gp w' k=Gp w k:=by unfold Gp;rw [h]
section
variable {α:Type} {c:Ax α} {w w':World} {B hi:Nat} {e tx:TypeId} {xs:List α} {v:Value}
theorem Cp.keep(h:Cp c w B hi e xs v tx)(h1:∀g,v.ownBlock=some g->w'.heap[g]? =w.heap[g]?)(h2:∀k,RT w B hi v tx k->w'.heap[k]? =w.heap[k]?):Cp c w' B hi e xs v tx:=
 AC.keep h h1 (fun k q=>⟨q.1,by rw [Gp.same (h2 k q)];exact q.2⟩) h2
theorem Cp.ext(h:Cp c w B hi e xs v tx)(he:AO w w')(hle:hi<=w.heap.size):Cp c w' B hi e xs v tx:=
 h.keep (fun g hg=>he.block g (AC.blk h g hg).2) (fun k q=>he.block k (by have:=q.1.2.1;omega))
theorem Cp.upd{b:Nat}(h:Cp c w B hi e xs v tx)(hu:Dd b w w')(hne:∀g,v.ownBlock=some g->g≠b)(hb:b<B∨hi<=b:=by omega):Cp c w' B hi e xs v tx:=
 h.keep (fun g hg=>hu.block g (hne g hg)) (fun k q=>hu.block k (by have:=q.1.1;have:=q.1.2.1;omega))
theorem Cp.but{p:Nat->Prop}(h:Cp c w B hi e xs v tx)(hb:AR p w w')(hne:∀k,p k->∀g,v.ownBlock=some g->k≠g)(hle:hi<=w.heap.size)(hs:∀k,p k->k<B∨hi<=k):Cp c w' B hi e xs v tx:=
 h.keep (fun g hg=>hb.block g (AC.blk h g hg).2 (fun e=>hne g e g hg rfl)) (fun k q=>hb.block k (by have:=q.1.2.1;omega) (fun e=>by have:=hs k e;have:=q.1.1;have:=q.1.2.1;omega))
theorem Cp.wide{hi':Nat}(h:Cp c w B hi e xs v tx)(hle:hi<=hi':=by omega):Cp c w B hi' e xs v tx:=
 AC.keep h (fun _ _=>rfl) (fun k q=>⟨⟨q.1.1,by have:=q.1.2.1;omega,q.1.2.2⟩,q.2⟩) (fun _ _=>rfl)
theorem Cp.base{B':Nat}(h:Cp c w B hi e xs v tx)(hB:B'<=B):Cp c w B' hi e xs v tx:=
 AC.keep (AC.base h hB) (fun _ _=>rfl) (fun k q=>⟨⟨by have:=q.1.1;omega,q.1.2⟩,q.2⟩) (fun _ _=>rfl)
theorem Cp.nil{S:Nat->Prop}(h:AC c w B S e [] v):Cp c w B hi e [] v tx:=by
 obtain⟨cs,h1,_⟩:=h
 exact⟨cs,h1,fun i x hx=>by simp at hx⟩
end
section
variable {P:Program} {N:Nat} {K:KL} {o:Oper} {α:Type} {c:Ax α} {w:World} {B hi B2 hi2:Nat} {e tx:TypeId} {xs ys zs:List α} {v u:Value}
end
/-! ## Functions that are handed what is to be done with their result: whatever it be -/
structure KI where
 any:{α:Type}->(α->Prop)->(α->Option Unit)->Option Unit
 out:∀{α:Type} {p:α->Prop} {f:α->Option Unit},any p f=some ()->∀x,p x->f x=some ()
 inn:∀{α:Type} {p:α->Prop} {f:α->Option Unit},(∀x,p x->f x=some ())->any p f=some ()
theorem TI{O:KI}{α:Type}{p:α->Prop}{f:α->Option Unit}(h:O.any p f=some ())(x:α)(hx:p x):f x=some ():=O.out h x hx
theorem Ri{P:Program}{f:FuncId}{vs:Array Value}{w:World}(h:Calls P f vs w (DY fun u w2=>∃r:Bool,u= .bool r∧AO w w2∧(bif r then some ()else none)=some ())):Calls P f vs w (DY fun u w2=>u= .bool true∧AO w w2):=
 Calls.mono h fun e w2 ⟨v,h1,r,h2,h3,h4⟩=>⟨v,h1,(match r,h2,h4 with|true,h2,_=>h2|false,_,h4=>nomatch h4),h3⟩
theorem KI.is:Nonempty KI:=by
 classical
 exact⟨⟨fun p f=>if∀x,p x->f x=some ()then some ()else none,(fun h=>by
  split at h
  ·rename_i q;exact q
  ·cases h),fun h=>if_pos h⟩⟩
end Go.Eng
namespace Go.Eng
open Go Go.RowKit
/-! ## Facts that move on together -/
class Mv(w w':World)(A:Prop)(A':outParam Prop)(S:outParam Prop):Prop where
 mv:A->S->AO w w'->A'
class Mu(b:Nat)(w w':World)(A:Prop)(A':outParam Prop)(S:outParam Prop):Prop where
 mv:A->S->Dd b w w'->A'
class Mb(b:Nat)(w w':World)(A:Prop)(A':outParam Prop)(S:outParam Prop):Prop where
 mv:A->S->AR (pB b) w w'->A'
section
variable {w w':World} {b d lo hi B:Nat} {us:List Value} {t e e1 e2 tx:TypeId} {α:Type} {c:Ax α} {xs:List α} {xss:List (List α)} {v:Value} {vs:List Value}
instance:Mv w w' (Ap w d us t) (Ap w' d us t) True:=⟨fun h _ k=>h.ext k⟩
instance [BU c]:Mv w w' (AC c w B (Iv 0 0) e xs v) (AC c w' B (Iv 0 0) e xs v) True:=⟨fun h _ k=>AC.ext h k⟩
instance:Mv w w' (AD c w (Iv lo hi) xs v) (AD c w' (Iv lo hi) xs v) (hi<=w.heap.size):=⟨fun h s k=>h.old k s⟩
instance:Mv w w' (AC c w B (SX B hi v) e xs v) (AC c w' B (SX B hi v) e xs v) (hi<=w.heap.size):=⟨fun h s k=>AC.extN h k s⟩
instance:Mv w w' (Cp c w B hi e xs v tx) (Cp c w' B hi e xs v tx) (hi<=w.heap.size):=⟨fun h s k=>Cp.ext h k s⟩
instance [BU c]:Mv w w' (Bf c w B hi e1 e2 xss v vs) (Bf c w' B hi e1 e2 xss v vs) (hi<=w.heap.size):=⟨fun h s k=>Bf.ext h k s⟩
instance:Mu b w w' (Ap w d us t) (Ap w' d us t) (d≠b):=⟨fun h s k=>h.upd k s⟩
instance:Mu b w w' (AD c w (Iv lo hi) xs v) (AD c w' (Iv lo hi) xs v) (b<lo∨hi<=b):=⟨fun h s k=>AD.upd h k s⟩
instance:Mb b w w' (Ap w d us t) (Ap w' d us t) (b≠d):=⟨fun h s k=>Ap.but h k (AG s)⟩
instance:Mb b w w' (AD c w (Iv lo hi) xs v) (AD c w' (Iv lo hi) xs v) ((b<lo∨hi<=b)∧hi<=w.heap.size):=⟨fun h s k=>AD.but h k (AG s.1) s.2⟩
end
theorem DO{w w':World}{P1 Q1 S1 P2 Q2 S2:Prop}[i1:Mv w w' P1 Q1 S1][i2:Mv w w' P2 Q2 S2](h1:P1)(h2:P2)(k:AO w w')(s:S1∧S2:=by and_intros<;>first|trivial|omega):Q1∧Q2:=⟨i1.mv h1 s.1 k,i2.mv h2 s.2 k⟩
theorem KJ{w w':World}{P1 Q1 S1 P2 Q2 S2 P3 Q3 S3:Prop}[i1:Mv w w' P1 Q1 S1][i2:Mv w w' P2 Q2 S2][i3:Mv w w' P3 Q3 S3](h1:P1)(h2:P2)(h3:P3)(k:AO w w')(s:S1∧S2∧S3:=by and_intros<;>first|trivial|omega):Q1∧Q2∧Q3:=⟨i1.mv h1 s.1 k,i2.mv h2 s.2.1 k,i3.mv h3 s.2.2 k⟩
theorem Ja{w w':World}{P1 Q1 S1 P2 Q2 S2 P3 Q3 S3 P4 Q4 S4:Prop}[i1:Mv w w' P1 Q1 S1][i2:Mv w w' P2 Q2 S2][i3:Mv w w' P3 Q3 S3][i4:Mv w w' P4 Q4 S4](h1:P1)(h2:P2)(h3:P3)(h4:P4)(k:AO w w')(s:S1∧S2∧S3∧S4:=by and_intros<;>first|trivial|omega):Q1∧Q2∧Q3∧Q4:=⟨i1.mv h1 s.1 k,i2.mv h2 s.2.1 k,i3.mv h3 s.2.2.1 k,i4.mv h4 s.2.2.2 k⟩
theorem Jg{w w':World}{P1 Q1 S1 P2 Q2 S2 P3 Q3 S3 P4 Q4 S4 P5 Q5 S5:Prop}[i1:Mv w w' P1 Q1 S1][i2:Mv w w' P2 Q2 S2][i3:Mv w w' P3 Q3 S3][i4:Mv w w' P4 Q4 S4][i5:Mv w w' P5 Q5 S5](h1:P1)(h2:P2)(h3:P3)(h4:P4)(h5:P5)(k:AO w w')(s:S1∧S2∧S3∧S4∧S5:=by and_intros<;>first|trivial|omega):Q1∧Q2∧Q3∧Q4∧Q5:=⟨i1.mv h1 s.1 k,i2.mv h2 s.2.1 k,i3.mv h3 s.2.2.1 k,i4.mv h4 s.2.2.2.1 k,i5.mv h5 s.2.2.2.2 k⟩
theorem JR{w w':World}{P1 Q1 S1 P2 Q2 S2 P3 Q3 S3 P4 Q4 S4 P5 Q5 S5 P6 Q6 S6:Prop}[i1:Mv w w' P1 Q1 S1][i2:Mv w w' P2 Q2 S2][i3:Mv w w' P3 Q3 S3][i4:Mv w w' P4 Q4 S4][i5:Mv w w' P5 Q5 S5][i6:Mv w w' P6 Q6 S6](h1:P1)(h2:P2)(h3:P3)(h4:P4)(h5:P5)(h6:P6)(k:AO w w')(s:S1∧S2∧S3∧S4∧S5∧S6:=by and_intros<;>first|trivial|omega):Q1∧Q2∧Q3∧Q4∧Q5∧Q6:=⟨i1.mv h1 s.1 k,i2.mv h2 s.2.1 k,i3.mv h3 s.2.2.1 k,i4.mv h4 s.2.2.2.1 k,i5.mv h5 s.2.2.2.2.1 k,i6.mv h6 s.2.2.2.2.2 k⟩
theorem En{w w':World}{P1 Q1 S1 P2 Q2 S2 P3 Q3 S3 P4 Q4 S4 P5 Q5 S5 P6 Q6 S6 P7 Q7 S7:Prop}[i1:Mv w w' P1 Q1 S1][i2:Mv w w' P2 Q2 S2][i3:Mv w w' P3 Q3 S3][i4:Mv w w' P4 Q4 S4][i5:Mv w w' P5 Q5 S5][i6:Mv w w' P6 Q6 S6][i7:Mv w w' P7 Q7 S7](h1:P1)(h2:P2)(h3:P3)(h4:P4)(h5:P5)(h6:P6)(h7:P7)(k:AO w w')(s:S1∧S2∧S3∧S4∧S5∧S6∧S7:=by and_intros<;>first|trivial|omega):Q1∧Q2∧Q3∧Q4∧Q5∧Q6∧Q7:=⟨i1.mv h1 s.1 k,i2.mv h2 s.2.1 k,i3.mv h3 s.2.2.1 k,i4.mv h4 s.2.2.2.1 k,i5.mv h5 s.2.2.2.2.1 k,i6.mv h6 s.2.2.2.2.2.1 k,i7.mv h7 s.2.2.2.2.2.2 k⟩
theorem GX{w w':World}{P1 Q1 S1 P2 Q2 S2 P3 Q3 S3 P4 Q4 S4 P5 Q5 S5 P6 Q6 S6 P7 Q7 S7 P8 Q8 S8:Prop}[i1:Mv w w' P1 Q1 S1][i2:Mv w w' P2 Q2 S2][i3:Mv w w' P3 Q3 S3][i4:Mv w w' P4 Q4 S4][i5:Mv w w' P5 Q5 S5][i6:Mv w w' P6 Q6 S6][i7:Mv w w' P7 Q7 S7][i8:Mv w w' P8 Q8 S8](h1:P1)(h2:P2)(h3:P3)(h4:P4)(h5:P5)(h6:P6)(h7:P7)(h8:P8)(k:AO w w')(s:S1∧S2∧S3∧S4∧S5∧S6∧S7∧S8:=by and_intros<;>first|trivial|omega):Q1∧Q2∧Q3∧Q4∧Q5∧Q6∧Q7∧Q8:=⟨i1.mv h1 s.1 k,i2.mv h2 s.2.1 k,i3.mv h3 s.2.2.1 k,i4.mv h4 s.2.2.2.1 k,i5.mv h5 s.2.2.2.2.1 k,i6.mv h6 s.2.2.2.2.2.1 k,i7.mv h7 s.2.2.2.2.2.2.1 k,i8.mv h8 s.2.2.2.2.2.2.2 k⟩
theorem NF{w w':World}{b:Nat}{P1 Q1 S1 P2 Q2 S2:Prop}[i1:Mu b w w' P1 Q1 S1][i2:Mu b w w' P2 Q2 S2](h1:P1)(h2:P2)(k:Dd b w w')(s:S1∧S2:=by and_intros<;>first|trivial|omega):Q1∧Q2:=⟨i1.mv h1 s.1 k,i2.mv h2 s.2 k⟩
theorem Ju{w w':World}{b:Nat}{P1 Q1 S1 P2 Q2 S2 P3 Q3 S3:Prop}[i1:Mu b w w' P1 Q1 S1][i2:Mu b w w' P2 Q2 S2][i3:Mu b w w' P3 Q3 S3](h1:P1)(h2:P2)(h3:P3)(k:Dd b w w')(s:S1∧S2∧S3:=by and_intros<;>first|trivial|omega):Q1∧Q2∧Q3:=⟨i1.mv h1 s.1 k,i2.mv h2 s.2.1 k,i3.mv h3 s.2.2 k⟩
theorem JG{w w':World}{b:Nat}{P1 Q1 S1 P2 Q2 S2 P3 Q3 S3 P4 Q4 S4:Prop}[i1:Mu b w w' P1 Q1 S1][i2:Mu b w w' P2 Q2 S2][i3:Mu b w w' P3 Q3 S3][i4:Mu b w w' P4 Q4 S4](h1:P1)(h2:P2)(h3:P3)(h4:P4)(k:Dd b w w')(s:S1∧S2∧S3∧S4:=by and_intros<;>first|trivial|omega):Q1∧Q2∧Q3∧Q4:=⟨i1.mv h1 s.1 k,i2.mv h2 s.2.1 k,i3.mv h3 s.2.2.1 k,i4.mv h4 s.2.2.2 k⟩
theorem KE{w w':World}{b:Nat}{P1 Q1 S1 P2 Q2 S2 P3 Q3 S3 P4 Q4 S4 P5 Q5 S5:Prop}[i1:Mu b w w' P1 Q1 S1][i2:Mu b w w' P2 Q2 S2][i3:Mu b w w' P3 Q3 S3][i4:Mu b w w' P4 Q4 S4][i5:Mu b w w' P5 Q5 S5](h1:P1)(h2:P2)(h3:P3)(h4:P4)(h5:P5)(k:Dd b w w')(s:S1∧S2∧S3∧S4∧S5:=by and_intros<;>first|trivial|omega):Q1∧Q2∧Q3∧Q4∧Q5:=⟨i1.mv h1 s.1 k,i2.mv h2 s.2.1 k,i3.mv h3 s.2.2.1 k,i4.mv h4 s.2.2.2.1 k,i5.mv h5 s.2.2.2.2 k⟩
theorem IJ{w w':World}{b:Nat}{P1 Q1 S1 P2 Q2 S2 P3 Q3 S3 P4 Q4 S4 P5 Q5 S5 P6 Q6 S6:Prop}[i1:Mu b w w' P1 Q1 S1][i2:Mu b w w' P2 Q2 S2][i3:Mu b w w' P3 Q3 S3][i4:Mu b w w' P4 Q4 S4][i5:Mu b w w' P5 Q5 S5][i6:Mu b w w' P6 Q6 S6](h1:P1)(h2:P2)(h3:P3)(h4:P4)(h5:P5)(h6:P6)(k:Dd b w w')(s:S1∧S2∧S3∧S4∧S5∧S6:=by and_intros<;>first|trivial|omega):Q1∧Q2∧Q3∧Q4∧Q5∧Q6:=⟨i1.mv h1 s.1 k,i2.mv h2 s.2.1 k,i3.mv h3 s.2.2.1 k,i4.mv h4 s.2.2.2.1 k,i5.mv h5 s.2.2.2.2.1 k,i6.mv h6 s.2.2.2.2.2 k⟩
theorem MZ{w w':World}{b:Nat}{P1 Q1 S1 P2 Q2 S2 P3 Q3 S3 P4 Q4 S4 P5 Q5 S5 P6 Q6 S6 P7 Q7 S7:Prop}[i1:Mu b w w' P1 Q1 S1][i2:Mu b w w' P2 Q2 S2][i3:Mu b w w' P3 Q3 S3][i4:Mu b w w' P4 Q4 S4][i5:Mu b w w' P5 Q5 S5][i6:Mu b w w' P6 Q6 S6][i7:Mu b w w' P7 Q7 S7](h1:P1)(h2:P2)(h3:P3)(h4:P4)(h5:P5)(h6:P6)(h7:P7)(k:Dd b w w')(s:S1∧S2∧S3∧S4∧S5∧S6∧S7:=by and_intros<;>first|trivial|omega):Q1∧Q2∧Q3∧Q4∧Q5∧Q6∧Q7:=⟨i1.mv h1 s.1 k,i2.mv h2 s.2.1 k,i3.mv h3 s.2.2.1 k,i4.mv h4 s.2.2.2.1 k,i5.mv h5 s.2.2.2.2.1 k,i6.mv h6 s.2.2.2.2.2.1 k,i7.mv h7 s.2.2.2.2.2.2 k⟩
theorem Hk{w w':World}{b:Nat}{P1 Q1 S1 P2 Q2 S2 P3 Q3 S3 P4 Q4 S4 P5 Q5 S5 P6 Q6 S6 P7 Q7 S7 P8 Q8 S8:Prop}[i1:Mu b w w' P1 Q1 S1][i2:Mu b w w' P2 Q2 S2][i3:Mu b w w' P3 Q3 S3][i4:Mu b w w' P4 Q4 S4][i5:Mu b w w' P5 Q5 S5][i6:Mu b w w' P6 Q6 S6][i7:Mu b w w' P7 Q7 S7][i8:Mu b w w' P8 Q8 S8](h1:P1)(h2:P2)(h3:P3)(h4:P4)(h5:P5)(h6:P6)(h7:P7)(h8:P8)(k:Dd b w w')(s:S1∧S2∧S3∧S4∧S5∧S6∧S7∧S8:=by and_intros<;>first|trivial|omega):Q1∧Q2∧Q3∧Q4∧Q5∧Q6∧Q7∧Q8:=⟨i1.mv h1 s.1 k,i2.mv h2 s.2.1 k,i3.mv h3 s.2.2.1 k,i4.mv h4 s.2.2.2.1 k,i5.mv h5 s.2.2.2.2.1 k,i6.mv h6 s.2.2.2.2.2.1 k,i7.mv h7 s.2.2.2.2.2.2.1 k,i8.mv h8 s.2.2.2.2.2.2.2 k⟩
theorem FV{w w':World}{b:Nat}{P1 Q1 S1 P2 Q2 S2:Prop}[i1:Mb b w w' P1 Q1 S1][i2:Mb b w w' P2 Q2 S2](h1:P1)(h2:P2)(k:AR (pB b) w w')(s:S1∧S2:=by and_intros<;>first|trivial|omega):Q1∧Q2:=⟨i1.mv h1 s.1 k,i2.mv h2 s.2 k⟩
theorem La{w w':World}{b:Nat}{P1 Q1 S1 P2 Q2 S2 P3 Q3 S3:Prop}[i1:Mb b w w' P1 Q1 S1][i2:Mb b w w' P2 Q2 S2][i3:Mb b w w' P3 Q3 S3](h1:P1)(h2:P2)(h3:P3)(k:AR (pB b) w w')(s:S1∧S2∧S3:=by and_intros<;>first|trivial|omega):Q1∧Q2∧Q3:=⟨i1.mv h1 s.1 k,i2.mv h2 s.2.1 k,i3.mv h3 s.2.2 k⟩
theorem Hf{w w':World}{b:Nat}{P1 Q1 S1 P2 Q2 S2 P3 Q3 S3 P4 Q4 S4:Prop}[i1:Mb b w w' P1 Q1 S1][i2:Mb b w w' P2 Q2 S2][i3:Mb b w w' P3 Q3 S3][i4:Mb b w w' P4 Q4 S4](h1:P1)(h2:P2)(h3:P3)(h4:P4)(k:AR (pB b) w w')(s:S1∧S2∧S3∧S4:=by and_intros<;>first|trivial|omega):Q1∧Q2∧Q3∧Q4:=⟨i1.mv h1 s.1 k,i2.mv h2 s.2.1 k,i3.mv h3 s.2.2.1 k,i4.mv h4 s.2.2.2 k⟩
theorem Ol{w w':World}{b:Nat}{P1 Q1 S1 P2 Q2 S2 P3 Q3 S3 P4 Q4 S4 P5 Q5 S5:Prop}[i1:Mb b w w' P1 Q1 S1][i2:Mb b w w' P2 Q2 S2][i3:Mb b w w' P3 Q3 S3][i4:Mb b w w' P4 Q4 S4][i5:Mb b w w' P5 Q5 S5](h1:P1)(h2:P2)(h3:P3)(h4:P4)(h5:P5)(k:AR (pB b) w w')(s:S1∧S2∧S3∧S4∧S5:=by and_intros<;>first|trivial|omega):Q1∧Q2∧Q3∧Q4∧Q5:=⟨i1.mv h1 s.1 k,i2.mv h2 s.2.1 k,i3.mv h3 s.2.2.1 k,i4.mv h4 s.2.2.2.1 k,i5.mv h5 s.2.2.2.2 k⟩
theorem KH{w w':World}{b:Nat}{P1 Q1 S1 P2 Q2 S2 P3 Q3 S3 P4 Q4 S4 P5 Q5 S5 P6 Q6 S6:Prop}[i1:Mb b w w' P1 Q1 S1][i2:Mb b w w' P2 Q2 S2][i3:Mb b w w' P3 Q3 S3][i4:Mb b w w' P4 Q4 S4][i5:Mb b w w' P5 Q5 S5][i6:Mb b w w' P6 Q6 S6](h1:P1)(h2:P2)(h3:P3)(h4:P4)(h5:P5)(h6:P6)(k:AR (pB b) w w')(s:S1∧S2∧S3∧S4∧S5∧S6:=by and_intros<;>first|trivial|omega):Q1∧Q2∧Q3∧Q4∧Q5∧Q6:=⟨i1.mv h1 s.1 k,i2.mv h2 s.2.1 k,i3.mv h3 s.2.2.1 k,i4.mv h4 s.2.2.2.1 k,i5.mv h5 s.2.2.2.2.1 k,i6.mv h6 s.2.2.2.2.2 k⟩
theorem NS{w w':World}{b:Nat}{P1 Q1 S1 P2 Q2 S2 P3 Q3 S3 P4 Q4 S4 P5 Q5 S5 P6 Q6 S6 P7 Q7 S7:Prop}[i1:Mb b w w' P1 Q1 S1][i2:Mb b w w' P2 Q2 S2][i3:Mb b w w' P3 Q3 S3][i4:Mb b w w' P4 Q4 S4][i5:Mb b w w' P5 Q5 S5][i6:Mb b w w' P6 Q6 S6][i7:Mb b w w' P7 Q7 S7](h1:P1)(h2:P2)(h3:P3)(h4:P4)(h5:P5)(h6:P6)(h7:P7)(k:AR (pB b) w w')(s:S1∧S2∧S3∧S4∧S5∧S6∧S7:=by and_intros<;>first|trivial|omega):Q1∧Q2∧Q3∧Q4∧Q5∧Q6∧Q7:=⟨i1.mv h1 s.1 k,i2.mv h2 s.2.1 k,i3.mv h3 s.2.2.1 k,i4.mv h4 s.2.2.2.1 k,i5.mv h5 s.2.2.2.2.1 k,i6.mv h6 s.2.2.2.2.2.1 k,i7.mv h7 s.2.2.2.2.2.2 k⟩
theorem HO{w w':World}{b:Nat}{P1 Q1 S1 P2 Q2 S2 P3 Q3 S3 P4 Q4 S4 P5 Q5 S5 P6 Q6 S6 P7 Q7 S7 P8 Q8 S8:Prop}[i1:Mb b w w' P1 Q1 S1][i2:Mb b w w' P2 Q2 S2][i3:Mb b w w' P3 Q3 S3][i4:Mb b w w' P4 Q4 S4][i5:Mb b w w' P5 Q5 S5][i6:Mb b w w' P6 Q6 S6][i7:Mb b w w' P7 Q7 S7][i8:Mb b w w' P8 Q8 S8](h1:P1)(h2:P2)(h3:P3)(h4:P4)(h5:P5)(h6:P6)(h7:P7)(h8:P8)(k:AR (pB b) w w')(s:S1∧S2∧S3∧S4∧S5∧S6∧S7∧S8:=by and_intros<;>first|trivial|omega):Q1∧Q2∧Q3∧Q4∧Q5∧Q6∧Q7∧Q8:=⟨i1.mv h1 s.1 k,i2.mv h2 s.2.1 k,i3.mv h3 s.2.2.1 k,i4.mv h4 s.2.2.2.1 k,i5.mv h5 s.2.2.2.2.1 k,i6.mv h6 s.2.2.2.2.2.1 k,i7.mv h7 s.2.2.2.2.2.2.1 k,i8.mv h8 s.2.2.2.2.2.2.2 k⟩
end Go.Eng
namespace Go.Eng
open Go Go.RowKit
/-! ## Literals of slice types, said shortly -/
section
variable {P:Program} {N:Nat} {K:KL} {o:Oper} {w:World} {α:Type} {e:TypeId}
theorem Du{t len parts zc sz by'}(c:Ax α)(xs:List α)(S:Nat->Prop)(uls:List (List Value))(ho:o.op= .buildSlice t len parts)(hu:P.underlying t=some (.slice e))(hi:CN P e=some (zc,sz,by'))
 (hp:(DU K parts.toList).map (List.map fun p=>(p.1,p.2.cells.toList))=some (Cm 0 uls))
 (hb:(Nat.beq sz c.n&&(Nat.blt 0 c.n&&(Nat.ble (len*sz) 16777216&&(Nat.beq uls.length len&&(Nat.beq len xs.length&&uls.all (fun us=>Nat.beq us.length sz))))))=true) (hrep:Ga c w S xs uls) (hS:∀k,S k->k<w.heap.size):
 DI P N K o w (fun u w'=>∃g,u= .slice (some ⟨g,0,none⟩) len len∧g=w.heap.size∧w'.heap.size=w.heap.size+1∧AO w w'∧AC c w' g S e xs u):=by
 obtain⟨vs,e1,e2⟩:=Option.map_eq_some_iff.1 hp
 simp only [Bool.and_eq_true]at hb
 obtain⟨b1,b2,b3,b4,b5,b6⟩:=hb
 have b1:=Nat.eq_of_beq_eq_true b1
 have b4:=Nat.eq_of_beq_eq_true b4
 have b5:=Nat.eq_of_beq_eq_true b5
 exact GI (out:=Af uls) ho hu hi e1 e2 (Ji uls rfl b6 b4) b3 b1 b2 b5 (Lp hrep rfl) hS (by rw [Cl fun us h=>Nat.eq_of_beq_eq_true (List.all_eq_true.1 b6 us h),b4])
theorem Au{t len parts zc sz by'}(c:Ax α)(xs:List α)(uls:List (List Value))(ho:o.op= .buildSlice t len parts)(hu:P.underlying t=some (.slice e))(hi:CN P e=some (zc,sz,by'))
 (hp:(DU K parts.toList).map (List.map fun p=>(p.1,p.2.cells.toList))=some (Cm 0 uls))
 (hb:(Nat.beq sz c.n&&(Nat.blt 0 c.n&&(Nat.ble (len*sz) 16777216&&(Nat.beq uls.length len&&(Nat.beq len xs.length&&uls.all (fun us=>Nat.beq us.length sz))))))=true) (hrep:Ga c w (Iv 0 0) xs uls):
 DI P N K o w (fun u w'=>∃g,u= .slice (some ⟨g,0,none⟩) len len∧g=w.heap.size∧w'.heap.size=w.heap.size+1∧AO w w'∧AC c w' g (Iv 0 0) e xs u):=
 Du c xs (Iv 0 0) uls ho hu hi hp hb hrep fun k h=>by have:=h.2;omega
theorem Ko{t parts zc pl}(vs:List Value)(ho:o.op= .build t parts)(hp:(DU K parts.toList).map (List.map fun p=>(p.1,p.2.cells.toList))=some (Cm 0 (vs.map fun v=>[v])))(hz:Cu P t=some zc)(hpl:CD P t=some pl)(hf:Dx pl zc (Cm 0 (vs.map fun v=>[v]))=some vs):Bk P N K o w (.agg vs.toArray):=by
 obtain⟨us,e1,e2⟩:=Option.map_eq_some_iff.1 hp
 exact BQ ho e1 hz hpl e2 hf
end
end Go.Eng
namespace Go.Eng
open Go Go.RowKit
/-! ## The rows of a slice of slices, apart from another slice -/
def Mh(v:Value)(vs:List Value):Prop:=∀(i:Nat) (u:Value),vs[i]? =some u->No v u
theorem Mh.nil(v:Value):Mh v []:=fun i u h=>by simp at h
theorem Mh.app{v:Value}{vs us:List Value}(h:Mh v vs)(h2:Mh v us):Mh v (vs++us):=fun i u hu=>by
 by_cases c:i<vs.length
 ·rw [List.getElem?_append_left c]at hu;exact h i u hu
 ·rw [List.getElem?_append_right (by omega)]at hu;exact h2 _ u hu
section
variable {α:Type} {c:Ax α} [BU c] {w w':World} {B hi lo' hi':Nat} {e1 e2:TypeId} {xss:List (List α)} {v z:Value} {vs:List Value}
theorem Mh.of(h:Bf c w B hi e1 e2 xss v vs)(hz:Bd z lo' hi')(k:hi'<=B∨hi<=lo':=by omega):Mh z vs:=fun i u hu=>by
 have hl:=h.1.1
 have hi2:i<xss.length:=by have:=(List.getElem?_eq_some_iff.1 hu).1;omega
 obtain⟨_,q,_⟩:=h.2.1 i _ u (List.getElem?_eq_getElem hi2) hu
 exact No.of hz q (by omega)
end
end Go.Eng
namespace Go.Eng
open Go Go.RowKit
/-! ## Own slices that move on with others -/
def OB(A:Prop)(v:Value)(lo hi:Nat):Prop:=A∧Bd v lo hi
theorem AH{A:Prop}{v:Value}{lo hi:Nat}(h:A)(k:Bd v lo hi):OB A v lo hi:=⟨h,k⟩
theorem Nb.alt{v:Value}{b lo hi:Nat}(h:Bd v lo hi)(k:b<lo∨hi<=b):∀g,v.ownBlock=some g->b≠g:=fun g hg=>by have:=h g hg;omega
section
variable {w w' a:World} {b lo hi B h:Nat} {e:TypeId} {α:Type} {c:Ax α} {xs:List α} {v:Value}
instance [BU c]:Mu b w w' (OB (AC c w B (Iv 0 0) e xs v) v lo hi) (AC c w' B (Iv 0 0) e xs v) (b<lo∨hi<=b):=⟨fun h s k=>AC.upd h.1 k (Nb.of h.2 s)⟩
instance:Mu b w w' (OB (AC c w B (SX B h v) e xs v) v lo hi) (AC c w' B (SX B h v) e xs v) ((b<lo∨hi<=b)∧(b<B∨h<=b)):=⟨fun h s k=>AC.updN h.1 k (Nb.of h.2 s.1) s.2⟩
instance [BU c]:Mu b w w' (OB (Bj c w B e xs v) v lo hi) (Bj c w' B e xs v) (b<lo∨hi<=b):=⟨fun h s k=>Bj.upd h.1 k (Nb.of h.2 s)⟩
instance [BU c]:Mb b w w' (OB (AC c w B (Iv 0 0) e xs v) v lo hi) (AC c w' B (Iv 0 0) e xs v) (b<lo∨hi<=b):=⟨fun h s k=>AC.butF h.1 k (AG (Nb.alt h.2 s))⟩
instance:Mb b w w' (OB (AC c w B (SX B h v) e xs v) v lo hi) (AC c w' B (SX B h v) e xs v) ((b<lo∨hi<=b)∧(b<B∨h<=b)∧h<=w.heap.size):=⟨fun h s k=>AC.butN h.1 k (AG (Nb.alt h.2 s.1)) s.2.2 (AG s.2.1)⟩
instance [BU c]:Mb b w w' (OB (Bj c w B e xs v) v lo hi) (Bj c w' B e xs v) (b<lo∨hi<=b):=⟨fun h s k=>Bj.butF h.1 k (AG (Nb.alt h.2 s))⟩
theorem Sq{P1 Q1 S1:Prop}[i1:Mu b w w' P1 Q1 S1](h1:P1)(k:Dd b w w')(s1:S1:=by and_intros<;>first|trivial|omega):Q1:=i1.mv h1 s1 k
theorem TW{P1 Q1 S1:Prop}[i1:Mb b w w' P1 Q1 S1](h1:P1)(k:AR (pB b) w w')(s1:S1:=by and_intros<;>first|trivial|omega):Q1:=i1.mv h1 s1 k
theorem CI(h:AR (pB b) w a)(k:AR (pB b) a w'):AR (pB b) w w':=AR.but h k (AG (Or.inl rfl))
end
end Go.Eng
namespace Go.Eng
open Go Go.RowKit
/-! ## Short words for the walks' texts: what is computed is asked for last -/
theorem z{α:Sort _}{a:α}:a=a:=rfl
@[reducible] def _root_.Go.Value.p (b:Nat):Value:=.pointer (some ⟨b,0,none⟩)
section
variable {P:Program} {N:Nat} {ops:Array Oper} {Q:Exit -> Act -> World -> Prop} {n:Nat} {K:KL} {w w0:World} {f:Nat} {listed:Array Bool} {p:Nat -> Prop}
theorem DN{o:Oper}{v:Value}(i:Nat)(hi:ops[i]? =some o)(h:∀wx,AR p w0 wx->Bk P N K o wx v)(k:Cc P N ops n (noPan Q) p w0 f (listed.setIfInBounds i true) (AX K o.dst v) w)
 (hh:BX ops n=true:=by kernel_rfl) (hc:(Nat.blt i n&&Region.free .any ops listed i&&(Region.ready .any ops listed).contains i)=true:=by kernel_rfl) (hg:o.guard=none:=by rfl) (hd:Aw N o.dst=true:=by rfl):
 Cc P N ops n (noPan Q) p w0 (f+1) listed K w:=Cc.yld i hh hi hc hg hd h k
theorem Lc{o:Oper}{Ψ:Value->Prop}(i:Nat)(hi:ops[i]? =some o)(h:YA P N K o Ψ)(k:∀v,Ψ v->Cc P N ops n (noPan Q) p w0 f (listed.setIfInBounds i true) (AX K o.dst v) w)
 (hh:BX ops n=true:=by kernel_rfl) (hc:(Nat.blt i n&&Region.free .any ops listed i&&(Region.ready .any ops listed).contains i)=true:=by kernel_rfl) (hg:o.guard=none:=by rfl) (hd:Aw N o.dst=true:=by rfl):
 Cc P N ops n (noPan Q) p w0 (f+1) listed K w:=Cc.ya i hh hi hc hg hd h k
theorem ED{o:Oper}{R:Value->World->Prop}(i:Nat)(hi:ops[i]? =some o)(h:DI P N K o w R)(k:∀v w',R v w'->AR p w0 w'∧Cc P N ops n (noPan Q) p w0 f (listed.setIfInBounds i true) (AX K o.dst v) w')
 (hin:Nat.blt i n=true:=by rfl) (hr:Region.ready .any ops listed=[i]:=by kernel_rfl) (hg:o.guard=none:=by rfl) (hd:Aw N o.dst=true:=by rfl):Cc P N ops n (noPan Q) p w0 (f+1) listed K w:=Cc.eff i hi hin hr hg hd h k
theorem OK{o:Oper}{R:Value->World->Prop}(i:Nat)(hi:ops[i]? =some o)(h:DI P N K o w R)(k:∀v w',R v w'->AR p w0 w'∧Cc P N ops n (noPan Q) p w0 f (listed.setIfInBounds i true) (AX K o.dst v) w')
 (hin:Nat.blt i n=true:=by rfl) (hr:(Region.ready .any ops listed).contains i=true:=by kernel_rfl) (hg:o.guard=none:=by rfl) (hd:Aw N o.dst=true:=by rfl):OE P N ops n (noPan Q) p w0 f listed K w i:=OE.eff i hi hin hr hg hd h k
theorem Qz{o:Oper}{R:Value->World->Prop}(i:Nat)(hi:ops[i]? =some o)(h:DI P N K o w R)(k:∀v w',R v w'->AO w0 w'∧HL P N ops n (noPan Q) w0 f (listed.setIfInBounds i true) (AX K o.dst v) w')
 (hin:Nat.blt i n=true:=by rfl) (hr:Region.ready .any ops listed=[i]:=by kernel_rfl) (h0:CL N ops K o= .yes:=by rfl):HL P N ops n (noPan Q) w0 (f+1) listed K w:=TS i hi hin hr h0 h k
theorem Cb{o:Oper}{v:Value}(i:Nat)(hh:BX ops n=true)(hi:ops[i]? =some o)(h:Bk P N K o w0 v)(k:HL P N ops n (noPan Q) w0 f (listed.setIfInBounds i true) (AX K o.dst v) w)
 (hc:(Nat.blt i n&&Region.free .any ops listed i&&(Region.ready .any ops listed).contains i)=true:=by kernel_rfl) (h0:CL N ops K o= .yes:=by rfl):HL P N ops n (noPan Q) w0 (f+1) listed K w:=Rz i hh hi hc h0 h k
theorem KO{o:Oper}{Ψ:Value->Prop}(i:Nat)(hh:BX ops n=true)(hi:ops[i]? =some o)(h:YE P N K o w0 Ψ)(k:∀v,Ψ v->HL P N ops n (noPan Q) w0 f (listed.setIfInBounds i true) (AX K o.dst v) w)
 (hc:(Nat.blt i n&&Region.free .any ops listed i&&(Region.ready .any ops listed).contains i)=true:=by kernel_rfl) (h0:CL N ops K o= .yes:=by rfl):HL P N ops n (noPan Q) w0 (f+1) listed K w:=Rw i hh hi hc h0 h k
theorem LZ{l:List Oper}(hops:ops=l.toArray)(k:TL P N ops (noPan Q) (l.drop n) K w)(hseq:Region.seqB .any ops (l.drop n).length n listed=true:=by kernel_rfl)(hf:f=(l.drop n).length:=by rfl):HL P N ops n (noPan Q) w0 f listed K w:=HL.tail hops hseq hf k
theorem Hh{l:List Oper}(hops:ops=l.toArray)(k:TL P N ops (noPan Q) (l.drop n) K w)(hseq:Region.seqB .any ops (l.drop n).length n listed=true:=by kernel_rfl)(hf:f=(l.drop n).length:=by rfl):Cc P N ops n (noPan Q) p w0 f listed K w:=Cc.tail hops hseq hf k
theorem IL(hh:BX ops n=true)(is:List Nat){f:Nat}{listed:Array Bool}{K:KL}(h:LJ P N ops n Q w0 is f listed K w)(hc:Nm ops n is listed=true:=by kernel_rfl):HL P N ops n (noPan Q) w0 f listed K w:=Hr hh is hc h
theorem EP{id:Nat}{l:List Oper}(n:Nat)(hm:P.follows .mixedOrders=true)(h:∀w',AO w w'->BX l.toArray n=true->HL P N l.toArray n (noPan Q) w' l.length (Array.replicate l.length false) K w')(hh:BX l.toArray n=true:=by kernel_rfl):
 WC P N (.region id l.toArray true) Q K w:=WC.heldD n hm hh h
theorem BZ{id:Nat}{l:List Oper}(hm:P.follows .mixedOrders=true)(h:QL P N l.toArray w (fun a'=>∀w',AO w w'->Q .normal a' w') l K)(hB:Region.lexB .any l.toArray=true:=by kernel_rfl):WC P N (.region id l.toArray true) Q K w:=WC.quiet hm hB h
theorem FS{K':KL}(e:K'.map (fun p=>kl K p.1)=K'.map (fun p=>some p.2):=by rfl):QL P N ops w (fun a=>Kn N K' a) [] K:=QL.nil fun a h=>h.sub e
end
section
variable {P:Program} {N:Nat} {Q0:Exit -> Act -> World -> Prop} {K K':KL} {w:World} {fs:List Frame} {ops:Array Oper} {l:List Oper}
theorem DW{R:World->Prop}(r:R w)(e:K'.map (fun p=>kl K p.1)=K'.map (fun p=>some p.2):=by rfl):TL P N ops (CW P Q0 (.lp (fun a u=>Kn N K' a∧R u)::fs)) [] K w:=TL.nil fun _ h=>⟨h.sub e,r⟩
def HC(K:KL):List Nat->KL->Option KL
 |[],acc=>some acc
 |i::is,acc=>match kl K i with
  |some v=>HC K is ((i,v)::acc)
  |none=>none
end
section
variable {P:Program} {N:Nat} {ops:Array Oper} {Q:Exit -> Act -> World -> Prop} {K:KL} {w:World} {l:List Oper} {Qa:Act -> Prop}
theorem Kd(t:Nat){c:Bool}(h:kl K t=some (.bool c))(h1:c=true->TL P N ops Q l ((t,.bool true)::K) w)(h2:c=false->TL P N ops Q l ((t,.bool false)::K) w):TL P N ops Q l K w:=by
 rcases SP c with e|e
 ·exact Kc t e h (h1 e)
 ·exact Kc t e h (h2 e)
theorem Rs(t:Nat){c:Bool}(h:kl K t=some (.bool c))(h1:c=true->QL P N ops w Qa l ((t,.bool true)::K))(h2:c=false->QL P N ops w Qa l ((t,.bool false)::K)):QL P N ops w Qa l K:=by
 rcases SP c with e|e
 ·exact Kq t e h (h1 e)
 ·exact Kq t e h (h2 e)
end
theorem AD.oj{α:Type}{c:Ax α}{w w':World}{lo H:Nat}{xs:List α}{v:Value}(h:AD c w (Iv lo H) xs v)(he:AO w w')(hH:H<=w.heap.size:=by assumption):AD c w' (Iv lo H) xs v:=h.old he hH
theorem Dj{P:Program}{N:Nat}{c:Code}{Q:Exit->Act->World->Prop}{K:KL}{w:World}{a:Act}(hK:Kn N K a)(h:WC P N c Q K w):c.wp P Q a w:=h a hK
section
variable (P:Program) (N:Nat) (ops:Array Oper) (n:Nat) (Q:Exit -> Act -> World -> Prop) (p:Nat -> Prop) (w0:World)
def Li:List Nat->Nat->Array Bool->KL->World->Prop
 |[]=>fun f listed K w=>Cc P N ops n (noPan Q) p w0 f listed K w
 |i::is=>fun f listed K w=>match f with
  |0=>False
  |f+1=>match ops[i]? with
   |none=>False
   |some o=>match o.guard with
    |some _=>False
    |none=>match Aw N o.dst with
     |false=>False
     |true=>match yq K o.op with
      |some v=>Li is f (listed.setIfInBounds i true) (AX K o.dst v) w
      |none=>False
end
section
variable {P:Program} {N:Nat} {ops:Array Oper} {Q:Exit -> Act -> World -> Prop} {n:Nat} {p:Nat -> Prop} {w w0:World}
theorem SS(hh:BX ops n=true):∀(is:List Nat) {f:Nat} {listed:Array Bool} {K:KL},Nm ops n is listed=true->Li P N ops n Q p w0 is f listed K w->Cc P N ops n (noPan Q) p w0 f listed K w
 |[],_,_,_,_,h=>h
 |i::is,0,listed,K,_,h=>h.elim
 |i::is,f+1,listed,K,hc,h=>by
  simp only [Nm,Bool.and_eq_true]at hc
  have hc':(Nat.blt i n&&Region.free .any ops listed i&&(Region.ready .any ops listed).contains i)=true:=by simp only [Bool.and_eq_true];exact hc.1
  simp only [Li]at h
  split at h
  ·exact h.elim
  ·rename_i o hi
   split at h
   ·exact h.elim
   ·rename_i hg
    split at h
    ·exact h.elim
    ·rename_i hd
     split at h
     ·rename_i v hv;exact Cc.yld i hh hi hc' hg hd (fun wx _=>Ew hv) (SS hh is hc.2 h)
     ·exact h.elim
theorem EJ(is:List Nat){f:Nat}{listed:Array Bool}{K:KL}(h:Li P N ops n Q p w0 is f listed K w)(hh:BX ops n=true:=by kernel_rfl)(hc:Nm ops n is listed=true:=by kernel_rfl):Cc P N ops n (noPan Q) p w0 f listed K w:=SS hh is hc h
end
@[reducible] def BO (v:Value) (w:World):Ending->World->Prop:=DY fun u U=>u=v∧AO w U
theorem CK{p:Nat->Prop}{w a c:World}{b:Nat}(h:AR p w a)(hu:Dd b a c)(hb:w.heap.size<=b:=by omega):AR p w c∧c.heap.size=a.heap.size:=HI h hu (.inr hb)
@[reducible] def BF {α:Type} (c:Ax α) (w:World) (H:Nat) (xs:List α) (v:Value):Prop:=AD c w (Iv 0 H) xs v
end Go.Eng
namespace Go.Eng
open Go Go.RowKit
/-! ## Several steps in one word -/
@[reducible] def NQ (us:List Value) (i:Nat) (Z:Value->Prop):Prop:=match us[i]? with
 |some u=>Z u
 |none=>False
theorem NQ.ok{us:List Value}{i:Nat}{Z:Value->Prop}(h:NQ us i Z):∃u,us[i]? =some u∧Z u:=by
 unfold NQ at h
 split at h
 ·rename_i u hu;exact⟨u,hu,h⟩
 ·exact h.elim
section
variable {P:Program} {N:Nat} {ops:Array Oper} {Q:Exit -> Act -> World -> Prop} {K:KL} {w w0:World} {o o2 o3:Oper} {rest:List Oper} {Qa:Act -> Prop} {α β:Type} {r:β}
theorem Cs{A:Option α}{g:α->Option β}{rt:α->Value}{f:Nat}{vs:List Value}(hF:A.bind g=some r)(he:AO w0 w)(hf:Ar P f=true)
 (hc:∀x,A=some x->Calls P f vs.toArray w (BO (rt x) w)) (k:∀x,g x=some r->∀w',AO w w'->AO w0 w'∧w.heap.size<=w'.heap.size->TL P N ops Q rest (AX K o.dst (rt x)) w')
 (h0:CL N ops K o= .yes:=by rfl) (hcl:OH K o.op=some (f,vs):=by rfl):TL P N ops Q (o::rest) K w:=by
 obtain⟨x,h1,h2⟩:=AM hF
 refine Ef h0 (Dk hcl hf (hc _ h1)) fun v w' h=>?_
 obtain⟨rfl,h⟩:=h
 exact k x h2 w' h (Et he h)
theorem Cg{A:Option α}{g:α->Option β}{R:α->Value->World->Prop}{f:Nat}{vs:List Value}(hF:A.bind g=some r)(hf:Ar P f=true)
 (hc:∀x,A=some x->Calls P f vs.toArray w (DY (R x))) (k:∀x,g x=some r->∀v w',R x v w'->TL P N ops Q rest (AX K o.dst v) w')
 (h0:CL N ops K o= .yes:=by rfl) (hcl:OH K o.op=some (f,vs):=by rfl):TL P N ops Q (o::rest) K w:=by
 obtain⟨x,h1,h2⟩:=AM hF
 exact Ef h0 (Dk hcl hf (hc _ h1)) fun v w' h=>k x h2 v w' h
section
variable {c:Ax α} {xs:List α} {S:Nat -> Prop} {v:Value} {e t t2 B:Nat} {m:Int} {kk:IntKind} {g:α -> Option β} {sv:α -> Value}
theorem Ix(hF:(AS xs m).bind g=some r)(hs:AD c w S xs v)(hu:P.underlying t=some (.slice e))(hc:Am P e=some c.n)
 (k:∀y,AS xs m=some y->g y=some r->∀u,(∃b off us,u= .pointer (some ⟨b,off,none⟩)∧S b∧c.rep w S y us∧AJ w b off us)->TL P N ops Q rest (AX K o.dst u) w)
 (h0:CL N ops K o= .yes:=by rfl) (hi:Jh K o.op=some (t,v,kk,m):=by rfl):TL P N ops Q (o::rest) K w:=by
 obtain⟨y,h1,h2⟩:=AM hF
 exact Ye h0 (Mk hi hu hc hs h1) fun u h=>k y h1 h2 u h
theorem Io(hF:(AS xs m).bind g=some r)(hs:AC c w B S e xs v)(hu:P.underlying t=some (.slice e))(hc:Am P e=some c.n)
 (k:∀y,AS xs m=some y->g y=some r->∀u,(∃b us,u= .pointer (some ⟨b,0+m.toNat*c.n,none⟩)∧v.ownBlock=some b∧c.rep w S y us∧AJ w b (0+m.toNat*c.n) us)->TL P N ops Q rest (AX K o.dst u) w)
 (h0:CL N ops K o= .yes:=by rfl) (hi:Jh K o.op=some (t,v,kk,m):=by rfl):TL P N ops Q (o::rest) K w:=by
 obtain⟨y,h1,h2⟩:=AM hF
 exact Ye h0 (Hg hi hu hc hs h1) fun u h=>k y h1 h2 u h
theorem Iq(hF:(AS xs m).bind g=some r)(hs:AD c w S xs v)(hu:P.underlying t=some (.slice e))(hc:Am P e=some c.n)
 (k:∀y,AS xs m=some y->g y=some r->∀u,(∃b off us,u= .pointer (some ⟨b,off,none⟩)∧S b∧c.rep w S y us∧AJ w b off us)->QL P N ops w Qa rest (AX K o.dst u))
 (h0:CL N ops K o= .yes:=by rfl) (hi:Jh K o.op=some (t,v,kk,m):=by rfl):QL P N ops w Qa (o::rest) K:=by
 obtain⟨y,h1,h2⟩:=AM hF
 exact Qe h0 (Mk hi hu hc hs h1) fun u h=>k y h1 h2 u h
theorem Tj(hF:(AS xs m).bind g=some r)(hs:AC c w B S e xs v)(hu:P.underlying t=some (.slice e))(hc:Am P e=some c.n)
 (k:∀y,AS xs m=some y->g y=some r->∀u,(∃b us,u= .pointer (some ⟨b,0+m.toNat*c.n,none⟩)∧v.ownBlock=some b∧c.rep w S y us∧AJ w b (0+m.toNat*c.n) us)->QL P N ops w Qa rest (AX K o.dst u))
 (h0:CL N ops K o= .yes:=by rfl) (hi:Jh K o.op=some (t,v,kk,m):=by rfl):QL P N ops w Qa (o::rest) K:=by
 obtain⟨y,h1,h2⟩:=AM hF
 exact Qe h0 (Hg hi hu hc hs h1) fun u h=>k y h1 h2 u h
theorem Il(hF:(AS xs m).bind g=some r)(hs:AD c w S xs v)(hu:P.underlying t=some (.slice e))(hc:Am P e=some c.n)(ha:Bc P t2=some false)
 (k:∀y,g y=some r->∀u,TL P N ops Q rest (AX (AX K o.dst u) o2.dst (sv y)) w)
 (hsv:∀y us,c.rep w S y us->us=[sv y]:=by exact fun _ _ h=>h) (h0:CL N ops K o= .yes:=by rfl) (hi:Jh K o.op=some (t,v,kk,m):=by rfl)
 (h2:∀u,CL N ops (AX K o.dst u) o2= .yes:=by intro _;rfl) (hl:∀b off,IP (AX K o.dst (.pointer (some ⟨b,off,none⟩))) o2.op=some (t2,b,off):=by intro _ _;rfl):TL P N ops Q (o::o2::rest) K w:=by
 refine Ix hF hs hu hc (fun y _ h3 u h=>?_) h0 hi
 obtain⟨b,off,us,rfl,_,h5,h6⟩:=h
 have h5:=hsv _ _ h5
 subst h5
 exact Yl (h2 _) (FX 0 (hl _ _) ha h6 rfl rfl) (k y h3 _)
theorem Ot(hF:(AS xs m).bind g=some r)(hs:AC c w B S e xs v)(hu:P.underlying t=some (.slice e))(hc:Am P e=some c.n)(ha:Bc P t2=some false)
 (k:∀y,g y=some r->∀u,TL P N ops Q rest (AX (AX K o.dst u) o2.dst (sv y)) w)
 (hsv:∀y us,c.rep w S y us->us=[sv y]:=by exact fun _ _ h=>h) (h0:CL N ops K o= .yes:=by rfl) (hi:Jh K o.op=some (t,v,kk,m):=by rfl)
 (h2:∀u,CL N ops (AX K o.dst u) o2= .yes:=by intro _;rfl) (hl:∀b off,IP (AX K o.dst (.pointer (some ⟨b,off,none⟩))) o2.op=some (t2,b,off):=by intro _ _;rfl):TL P N ops Q (o::o2::rest) K w:=by
 refine Io hF hs hu hc (fun y _ h3 u h=>?_) h0 hi
 obtain⟨b,us,rfl,_,h5,h6⟩:=h
 have h5:=hsv _ _ h5
 subst h5
 exact Yl (h2 _) (FX 0 (hl _ _) ha h6 rfl rfl) (k y h3 _)
theorem JL(hF:(AS xs m).bind g=some r)(hs:AD c w S xs v)(hu:P.underlying t=some (.slice e))(hc:Am P e=some c.n)(ha:Bc P t2=some false)
 (k:∀y,g y=some r->∀u,QL P N ops w Qa rest (AX (AX K o.dst u) o2.dst (sv y)))
 (hsv:∀y us,c.rep w S y us->us=[sv y]:=by exact fun _ _ h=>h) (h0:CL N ops K o= .yes:=by rfl) (hi:Jh K o.op=some (t,v,kk,m):=by rfl)
 (h2:∀u,CL N ops (AX K o.dst u) o2= .yes:=by intro _;rfl) (hl:∀b off,IP (AX K o.dst (.pointer (some ⟨b,off,none⟩))) o2.op=some (t2,b,off):=by intro _ _;rfl):QL P N ops w Qa (o::o2::rest) K:=by
 refine Iq hF hs hu hc (fun y _ h3 u h=>?_) h0 hi
 obtain⟨b,off,us,rfl,_,h5,h6⟩:=h
 have h5:=hsv _ _ h5
 subst h5
 exact Qy (h2 _) (FX 0 (hl _ _) ha h6 rfl rfl) (k y h3 _)
theorem NV(hF:(AS xs m).bind g=some r)(hs:AC c w B S e xs v)(hu:P.underlying t=some (.slice e))(hc:Am P e=some c.n)(ha:Bc P t2=some false)
 (k:∀y,g y=some r->∀u,QL P N ops w Qa rest (AX (AX K o.dst u) o2.dst (sv y)))
 (hsv:∀y us,c.rep w S y us->us=[sv y]:=by exact fun _ _ h=>h) (h0:CL N ops K o= .yes:=by rfl) (hi:Jh K o.op=some (t,v,kk,m):=by rfl)
 (h2:∀u,CL N ops (AX K o.dst u) o2= .yes:=by intro _;rfl) (hl:∀b off,IP (AX K o.dst (.pointer (some ⟨b,off,none⟩))) o2.op=some (t2,b,off):=by intro _ _;rfl):QL P N ops w Qa (o::o2::rest) K:=by
 refine Tj hF hs hu hc (fun y _ h3 u h=>?_) h0 hi
 obtain⟨b,us,rfl,_,h5,h6⟩:=h
 have h5:=hsv _ _ h5
 subst h5
 exact Qy (h2 _) (FX 0 (hl _ _) ha h6 rfl rfl) (k y h3 _)
end
section
variable {t f fo t2 t3 b T e off:Nat} {us:List Value} {c:Ax α} {xs:List α} {S:Nat -> Prop} {v:Value}
theorem Fl(hfo:Aa P t f=some fo)(ha:Bc P t2=some false)(hb:Ap w b us T)(k:NQ us (0+fo) fun u=>TL P N ops Q rest (AX (AX K o.dst (.pointer (some ⟨b,0+fo,none⟩))) o2.dst u) w)
 (h0:CL N ops K o= .yes:=by rfl) (hi:MY K o.op=some (t,f,b,0):=by rfl) (h2:CL N ops (AX K o.dst (.pointer (some ⟨b,0+fo,none⟩))) o2= .yes:=by rfl)
 (hl:IP (AX K o.dst (.pointer (some ⟨b,0+fo,none⟩))) o2.op=some (t2,b,0+fo):=by rfl):TL P N ops Q (o::o2::rest) K w:=by
 obtain⟨u,hu,k⟩:=k.ok
 exact Yl h0 (Bz hi hfo) (Yl h2 (EO hl ha hb hu) k)
theorem Fq(hfo:Aa P t f=some fo)(ha:Bc P t2=some false)(hb:Ap w b us T)(k:NQ us (0+fo) fun u=>QL P N ops w Qa rest (AX (AX K o.dst (.pointer (some ⟨b,0+fo,none⟩))) o2.dst u))
 (h0:CL N ops K o= .yes:=by rfl) (hi:MY K o.op=some (t,f,b,0):=by rfl) (h2:CL N ops (AX K o.dst (.pointer (some ⟨b,0+fo,none⟩))) o2= .yes:=by rfl)
 (hl:IP (AX K o.dst (.pointer (some ⟨b,0+fo,none⟩))) o2.op=some (t2,b,0+fo):=by rfl):QL P N ops w Qa (o::o2::rest) K:=by
 obtain⟨u,hu,k⟩:=k.ok
 exact Qy h0 (Bz hi hfo) (Qy h2 (EO hl ha hb hu) k)
theorem Fc(hfo:Aa P t f=some fo)(ha:Bc P t2=some false)(hb:AJ w b off us)(k:NQ us fo fun u=>TL P N ops Q rest (AX (AX K o.dst (.pointer (some ⟨b,off+fo,none⟩))) o2.dst u) w)
 (h0:CL N ops K o= .yes:=by rfl) (hi:MY K o.op=some (t,f,b,off):=by rfl) (h2:CL N ops (AX K o.dst (.pointer (some ⟨b,off+fo,none⟩))) o2= .yes:=by rfl)
 (hl:IP (AX K o.dst (.pointer (some ⟨b,off+fo,none⟩))) o2.op=some (t2,b,off+fo):=by rfl):TL P N ops Q (o::o2::rest) K w:=by
 obtain⟨u,hu,k⟩:=k.ok
 exact Yl h0 (Bz hi hfo) (Yl h2 (FX fo hl ha hb rfl hu) k)
theorem QU(hfo:Aa P t f=some fo)(ha:Bc P t2=some false)(hb:AJ w b off us)(k:NQ us fo fun u=>QL P N ops w Qa rest (AX (AX K o.dst (.pointer (some ⟨b,off+fo,none⟩))) o2.dst u))
 (h0:CL N ops K o= .yes:=by rfl) (hi:MY K o.op=some (t,f,b,off):=by rfl) (h2:CL N ops (AX K o.dst (.pointer (some ⟨b,off+fo,none⟩))) o2= .yes:=by rfl)
 (hl:IP (AX K o.dst (.pointer (some ⟨b,off+fo,none⟩))) o2.op=some (t2,b,off+fo):=by rfl):QL P N ops w Qa (o::o2::rest) K:=by
 obtain⟨u,hu,k⟩:=k.ok
 exact Qy h0 (Bz hi hfo) (Qy h2 (FX fo hl ha hb rfl hu) k)
theorem FQ(hfo:Aa P t f=some fo)(ha:Bc P t2=some false)(hb:Ap w b us T)(hu3:P.underlying t3=some (.slice e))(hs:AD c w S xs v)
 (k:TL P N ops Q rest (AX (AX (AX K o.dst (.pointer (some ⟨b,0+fo,none⟩))) o2.dst v) o3.dst (.int .i64 xs.length)) w) (hv:us[0+fo]? =some v:=by rfl)
 (h0:CL N ops K o= .yes:=by rfl) (hi:MY K o.op=some (t,f,b,0):=by rfl) (h2:CL N ops (AX K o.dst (.pointer (some ⟨b,0+fo,none⟩))) o2= .yes:=by rfl)
 (hl:IP (AX K o.dst (.pointer (some ⟨b,0+fo,none⟩))) o2.op=some (t2,b,0+fo):=by rfl) (h3:CL N ops (AX (AX K o.dst (.pointer (some ⟨b,0+fo,none⟩))) o2.dst v) o3= .yes:=by rfl)
 (hl3:OM (AX (AX K o.dst (.pointer (some ⟨b,0+fo,none⟩))) o2.dst v) o3.op=some (t3,v):=by rfl):TL P N ops Q (o::o2::o3::rest) K w:=
 Yl h0 (Bz hi hfo) (Yl h2 (EO hl ha hb hv) (Yl h3 (FJ hl3 hu3 hs) k))
theorem KA(hfo:Aa P t f=some fo)(ha:Bc P t2=some false)(hb:Ap w b us T)(hu3:P.underlying t3=some (.slice e))(hs:AD c w S xs v)
 (k:QL P N ops w Qa rest (AX (AX (AX K o.dst (.pointer (some ⟨b,0+fo,none⟩))) o2.dst v) o3.dst (.int .i64 xs.length))) (hv:us[0+fo]? =some v:=by rfl)
 (h0:CL N ops K o= .yes:=by rfl) (hi:MY K o.op=some (t,f,b,0):=by rfl) (h2:CL N ops (AX K o.dst (.pointer (some ⟨b,0+fo,none⟩))) o2= .yes:=by rfl)
 (hl:IP (AX K o.dst (.pointer (some ⟨b,0+fo,none⟩))) o2.op=some (t2,b,0+fo):=by rfl) (h3:CL N ops (AX (AX K o.dst (.pointer (some ⟨b,0+fo,none⟩))) o2.dst v) o3= .yes:=by rfl)
 (hl3:OM (AX (AX K o.dst (.pointer (some ⟨b,0+fo,none⟩))) o2.dst v) o3.op=some (t3,v):=by rfl):QL P N ops w Qa (o::o2::o3::rest) K:=
 Qy h0 (Bz hi hfo) (Qy h2 (EO hl ha hb hv) (Qy h3 (FJ hl3 hu3 hs) k))
end
end
/-! ## A fork one of whose ways returns at once -/
section
variable (N:Nat)
def RX:Nat->Md->List Frame->KL->Option KL
 |0=>fun _ _ _=>none
 |n+1=>fun m fs K=>match m with
  | .c c=>match c with
   | .seq x y=>RX n (.c x) (.seq y::fs) K
   | .region _ ops false=>RX n (.o ops ops.toList) fs K
   | .block id x=>RX n (.c x) (.blk id::fs) K
   | .skip=>RX n (.e .normal) fs K
   | .exit id=>RX n (.e (.exit id)) fs K
   | .ret=>RX n (.e .ret) fs K
   |_=>none
  | .o ops l=>match l with
   |[]=>RX n (.e .normal) fs K
   |o::rest=>match CL N ops K o with
    | .yes=>match yq K o.op with
     |some v=>RX n (.o ops rest) fs (AX K o.dst v)
     |none=>none
    | .skip=>RX n (.o ops rest) fs (AX K o.dst undef)
    | .no=>none
  | .e e=>match fs with
   |[]=>match e with
    | .ret=>some K
    |_=>none
   | .seq c::fs=>match e with
    | .normal=>RX n (.c c) fs K
    | .ret=>RX n (.e .ret) fs K
    | .exit id=>RX n (.e (.exit id)) fs K
    |_=>none
   | .blk id::fs=>match e with
    | .normal=>RX n (.e .normal) fs K
    | .ret=>RX n (.e .ret) fs K
    | .exit id'=>bif Nat.beq id' id then RX n (.e .normal) fs K else RX n (.e (.exit id')) fs K
    |_=>none
   | .lp f::fs=>match e with
    | .ret=>RX n (.e .ret) fs K
    | .exit id=>RX n (.e (.exit id)) fs K
    |_=>none
end
section
variable {P:Program} {N:Nat} {Q0:Exit -> Act -> World -> Prop}
theorem RX.ok:∀(n:Nat) {m:Md} {fs:List Frame} {K K':KL} {w:World},RX N n m fs K=some K'->NX N Q0 .ret K' w->Qk P N Q0 m fs K w
 |0,_,_,_,_,_,h,_=>by cases h
 |n+1,m,fs,K,K',w,h,q=>by
  cases m with
  |c c=>
   cases c with
   |seq x y=>exact WC.seq (RX.ok n h q)
   |region id ops d=>
    cases d with
    |false=>
     have h2:TL P N ops (CW P Q0 fs) ops.toList K w:=RX.ok n h q
     show WC P N (.region id ops false) (CW P Q0 fs) K w
     have:ops=ops.toList.toArray:=by simp
     rw [this];rw [this]at h2
     exact WC.region (by simpa using h2)
    |true=>cases h
   |block id x=>exact WC.block (RX.ok n h q)
   |skip=>exact WC.skip' (RX.ok n h q)
   |exit id=>exact WC.exit' (RX.ok n h q)
   |ret=>exact WC.ret' (RX.ok n h q)
   |cond _ _ _=>cases h
   |loop _=>cases h
   |_=>cases h
  |o ops l=>
   cases l with
   |nil=>exact TL.done (RX.ok n h q)
   |cons o rest=>
    simp only [RX]at h
    split at h
    ·rename_i hg
     split at h
     ·rename_i v hv;exact Yl hg (Ew hv) (RX.ok n h q)
     ·cases h
    ·rename_i hg;exact Sk hg (RX.ok n h q)
    ·cases h
  |e e=>
   cases fs with
   |nil=>
    cases e with
    |ret=>obtain rfl:=Option.some.inj h;exact q
    |_=>cases h
   |cons f fs=>
    cases f with
    |seq c=>
     cases e with
     |normal=>exact NX.seq (RX.ok n h q)
     |ret=>exact NX.then_r (RX.ok n h q)
     |exit id=>exact NX.then_e (RX.ok n h q)
     |_=>cases h
    |blk id=>
     cases e with
     |normal=>exact NX.blk_n (RX.ok n h q)
     |ret=>exact NX.blk_r (RX.ok n h q)
     |exit id'=>
      simp only [RX]at h
      cases hb:Nat.beq id' id with
      |true=>
       rw [hb]at h
       obtain rfl:=Nat.eq_of_beq_eq_true hb
       exact NX.blk_hit (RX.ok n h q)
      |false=>rw [hb]at h;exact NX.blk_miss hb (RX.ok n h q)
     |_=>cases h
    |lp f=>
     cases e with
     |normal=>cases h
     |ret=>exact NX.then_r (RX.ok n h q)
     |exit id=>exact NX.then_e (RX.ok n h q)
     |_=>cases h
def RV(N n:Nat)(m:Md)(fs:List Frame)(K:KL)(rs:List ResultVar):Option Value:=match RX N n m fs K with
 |some K'=>match KZ K' rs with
  |some vs=>some (CQ vs)
  |none=>none
 |none=>none
theorem RV.ok{n:Nat}{m:Md}{fs:List Frame}{K:KL}{w:World}{fn:Func}{v:Value}{R:Ending->World->Prop}(h:RV N n m fs K fn.results.toList=some v)(hR:R (.returned v) w):Qk P N (bodyPost P fn R) m fs K w:=by
 unfold RV at h
 split at h
 ·rename_i K' h1
  split at h
  ·rename_i vs h2
   obtain rfl:=Option.some.inj h
   exact RX.ok n h1 (Ne (by simp) h2 hR)
  ·cases h
 ·cases h
variable {α:Type} {c:Operand} {x y:Code} {t:Bool} {u:α} {A B:Option α} {r:α} {v:Value} {X:World -> Prop} {fn:Func} {fs:List Frame} {K:KL} {w:World}
theorem Wt(hF:(bif t then some u else B)=some r)(hX:X w)(k:B=some r->WC P N y (CW P (bodyPost P fn (DY fun z U=>z=v∧X U)) fs) K w)(hc:Ay K c=some (.bool t):=by rfl)(hv:u=r->RV N 99 (.c x) fs K fn.results.toList=some v:=by intro h;subst h;rfl):
 WC P N (.cond c x y) (CW P (bodyPost P fn (DY fun z U=>z=v∧X U)) fs) K w:=
 Wc hc hF (fun h=>RV.ok (m:=.c x) (hv (Ld h)) ⟨_,rfl,rfl,hX⟩) k
theorem Wf(hF:(bif t then A else some u)=some r)(hX:X w)(k:A=some r->WC P N x (CW P (bodyPost P fn (DY fun z U=>z=v∧X U)) fs) K w)(hc:Ay K c=some (.bool t):=by rfl)(hv:u=r->RV N 99 (.c y) fs K fn.results.toList=some v:=by intro h;subst h;rfl):
 WC P N (.cond c x y) (CW P (bodyPost P fn (DY fun z U=>z=v∧X U)) fs) K w:=
 Wc hc hF k fun h=>RV.ok (m:=.c y) (hv (Ld h)) ⟨_,rfl,rfl,hX⟩
theorem RD{c:Code}(hF:some u=some r)(hX:X w)(hv:u=r->RV N 99 (.c c) fs K fn.results.toList=some v:=by intro h;subst h;rfl):WC P N c (CW P (bodyPost P fn (DY fun z U=>z=v∧X U)) fs) K w:=RV.ok (m:=.c c) (hv (Ld hF)) ⟨_,rfl,rfl,hX⟩
theorem DF{ops:Array Oper}{l:List Oper}(hF:some u=some r)(hX:X w)(hv:u=r->RV N 99 (.o ops l) fs K fn.results.toList=some v:=by intro h;subst h;rfl):TL P N ops (CW P (bodyPost P fn (DY fun z U=>z=v∧X U)) fs) l K w:=RV.ok (m:=.o ops l) (hv (Ld hF)) ⟨_,rfl,rfl,hX⟩
theorem Qd{e:Exit}(hF:some u=some r)(hX:X w)(hv:u=r->RV N 99 (.e e) fs K fn.results.toList=some v:=by intro h;subst h;rfl):NX N (CW P (bodyPost P fn (DY fun z U=>z=v∧X U)) fs) e K w:=RV.ok (m:=.e e) (hv (Ld hF)) ⟨_,rfl,rfl,hX⟩
end
section
variable {κ ρ s1 s2 s3 s4 s5 s6 s7 s8:Type} {r:ρ} {k:κ}
theorem Nt{L:κ->s1->s2->Option ρ}{a b}(h:L k a b=some r):∃k',k'=k∧L k' a b=some r:=⟨k,rfl,h⟩
theorem RQ{L:κ->s1->s2->s3->Option ρ}{a b c}(h:L k a b c=some r):∃k',k'=k∧L k' a b c=some r:=⟨k,rfl,h⟩
theorem Qi{L:κ->s1->s2->s3->s4->Option ρ}{a b c d}(h:L k a b c d=some r):∃k',k'=k∧L k' a b c d=some r:=⟨k,rfl,h⟩
theorem Pt{L:κ->s1->s2->s3->s4->s5->Option ρ}{a b c d e}(h:L k a b c d e=some r):∃k',k'=k∧L k' a b c d e=some r:=⟨k,rfl,h⟩
theorem Tp{L:κ->s1->s2->s3->s4->s5->s6->Option ρ}{a b c d e f}(h:L k a b c d e f=some r):∃k',k'=k∧L k' a b c d e f=some r:=⟨k,rfl,h⟩
end
/-! ## Guards whose ways leave the world alone -/
section
variable {P:Program} {N:Nat} {Q0:Exit -> Act -> World -> Prop} {K K':KL} {w:World} {fs:List Frame} {ops:Array Oper} {l:List Oper} {Q:Exit -> Act -> World -> Prop} {Qa:Act -> Prop}
theorem Dc(e:K'.map (fun p=>kl K p.1)=K'.map (fun p=>some p.2):=by rfl):TL P N ops (CW P Q0 (.lp (fun a u=>Kn N K' a∧u=w)::fs)) [] K w:=TL.nil fun _ h=>⟨h.sub e,rfl⟩
theorem Ki(k:Nat)(is:List Nat)(j:Nat)(c:Bool){K1:KL}(hk:HC K is [(j,.bool c)]=some K1)(h1:TL P N ops (CW P Q0 (.lp (fun a' w'=>Kn N K1 a'∧w'=w)::fs)) (l.take k) K w)(h2:TL P N ops (CW P Q0 fs) (l.drop k) K1 w):
 TL P N ops (CW P Q0 fs) l K w:=TL.cutD k K1 (fun w'=>w'=w) h1 fun w' e=>e▸h2
def De(N:Nat)(ops:Array Oper):List Oper->KL->Option KL
 |[],K=>some K
 |o::rest,K=>match CL N ops K o with
  | .yes=>match yq K o.op with
   |some v=>De N ops rest (AX K o.dst v)
   |none=>none
  | .skip=>De N ops rest (AX K o.dst undef)
  | .no=>none
theorem De.ok:∀{l:List Oper} {K K':KL},De N ops l K=some K'->TL P N ops Q [] K' w->TL P N ops Q l K w
 |[],K,K',h,q=>by obtain rfl:=Option.some.inj h;exact q
 |o::rest,K,K',h,q=>by
  simp only [De]at h
  split at h
  ·rename_i hg
   split at h
   ·rename_i v hv;exact Yl hg (Ew hv) (De.ok h q)
   ·cases h
  ·rename_i hg;exact Sk hg (De.ok h q)
  ·cases h
theorem De.okq:∀{l:List Oper} {K K':KL},De N ops l K=some K'->QL P N ops w Qa [] K'->QL P N ops w Qa l K
 |[],K,K',h,q=>by obtain rfl:=Option.some.inj h;exact q
 |o::rest,K,K',h,q=>by
  simp only [De]at h
  split at h
  ·rename_i hg
   split at h
   ·rename_i v hv;exact Qy hg (Ew hv) (De.okq h q)
   ·cases h
  ·rename_i hg;exact Qs hg (De.okq h q)
  ·cases h
theorem Lf{N:Nat}{Kt K1:KL}{t j:Nat}{c x u v:Bool}(e:c=x)(t1:kl Kt t=some (.bool x))(b1:kl Kt j=some (.bool u))(uv:u=v)(e1:K1.map (fun p=>kl ((t,.bool c)::(j,.bool v)::Kt) p.1)=K1.map (fun p=>some p.2))(a:Act)(h:Kn N Kt a):Kn N K1 a:=by
 subst uv
 refine Kn.sub (Kn.know (u:=.bool x) (h.know b1 rfl) ?_ (by rw [e])) e1
 cases hb:Nat.beq j t with
 |false=>simpa [kl,hb] using t1
 |true=>obtain rfl:=Nat.eq_of_beq_eq_true hb;rw [b1]at t1;simpa [kl] using t1
section
variable {c b:Bool} {K1 Kt Kf:KL}
theorem KD(k:Nat)(is:List Nat)(j t:Nat)(k2:TL P N ops (CW P Q0 fs) (l.drop k) K1 w)(ha:kl K t=some (.bool c):=by rfl)
 (h1:De N ops (l.take k) ((t,.bool true)::K)=some Kt:=by rfl) (b1:kl Kt j=some (.bool b):=by rfl) (t1:kl Kt t=some (.bool true):=by rfl)
 (h2:De N ops (l.take k) ((t,.bool false)::K)=some Kf:=by rfl) (b2:kl Kf j=some (.bool false):=by rfl) (t2:kl Kf t=some (.bool false):=by rfl) (hk:HC K is [(j,.bool (c&&b))]=some K1:=by rfl)
 (e1:K1.map (fun p=>kl ((t,.bool c)::(j,.bool (c&&b))::Kt) p.1)=K1.map (fun p=>some p.2):=by rfl) (e2:K1.map (fun p=>kl ((t,.bool c)::(j,.bool (c&&b))::Kf) p.1)=K1.map (fun p=>some p.2):=by rfl):TL P N ops (CW P Q0 fs) l K w:=
 Ki k is j (c&&b) hk (Kd t ha (fun e=>De.ok h1 (TL.nil fun a h=>⟨Lf e t1 b1 (Qj e) e1 a h,rfl⟩)) fun e=>De.ok h2 (TL.nil fun a h=>⟨Lf e t2 b2 (Qp e) e2 a h,rfl⟩)) k2
theorem Qg(k:Nat)(is:List Nat)(j t:Nat)(k2:TL P N ops (CW P Q0 fs) (l.drop k) K1 w)(ha:kl K t=some (.bool c):=by rfl)
 (h1:De N ops (l.take k) ((t,.bool true)::K)=some Kt:=by rfl) (b1:kl Kt j=some (.bool true):=by rfl) (t1:kl Kt t=some (.bool true):=by rfl)
 (h2:De N ops (l.take k) ((t,.bool false)::K)=some Kf:=by rfl) (b2:kl Kf j=some (.bool b):=by rfl) (t2:kl Kf t=some (.bool false):=by rfl) (hk:HC K is [(j,.bool (c||b))]=some K1:=by rfl)
 (e1:K1.map (fun p=>kl ((t,.bool c)::(j,.bool (c||b))::Kt) p.1)=K1.map (fun p=>some p.2):=by rfl) (e2:K1.map (fun p=>kl ((t,.bool c)::(j,.bool (c||b))::Kf) p.1)=K1.map (fun p=>some p.2):=by rfl):TL P N ops (CW P Q0 fs) l K w:=
 Ki k is j (c||b) hk (Kd t ha (fun e=>De.ok h1 (TL.nil fun a h=>⟨Lf e t1 b1 (Qo e) e1 a h,rfl⟩)) fun e=>De.ok h2 (TL.nil fun a h=>⟨Lf e t2 b2 (QQ e) e2 a h,rfl⟩)) k2
theorem Hi(k:Nat)(is:List Nat)(j t:Nat)(b:Bool){c:Bool}{K1 Kx Kf:KL}(hx:HC ((t,.bool true)::K) (t::is) [(j,.bool b)]=some Kx)(h1:TL P N ops (CW P Q0 (.lp (fun a' w'=>Kn N Kx a'∧w'=w)::fs)) (l.take k) ((t,.bool true)::K) w)(k2:TL P N ops (CW P Q0 fs) (l.drop k) K1 w)(ha:kl K t=some (.bool c):=by rfl)
 (h2:De N ops (l.take k) ((t,.bool false)::K)=some Kf:=by rfl) (b2:kl Kf j=some (.bool false):=by rfl) (t2:kl Kf t=some (.bool false):=by rfl) (hk:HC K is [(j,.bool (c&&b))]=some K1:=by rfl) (b1:kl Kx j=some (.bool b):=by rfl) (t1:kl Kx t=some (.bool true):=by rfl)
 (e1:K1.map (fun p=>kl ((t,.bool c)::(j,.bool (c&&b))::Kx) p.1)=K1.map (fun p=>some p.2):=by rfl) (e2:K1.map (fun p=>kl ((t,.bool c)::(j,.bool (c&&b))::Kf) p.1)=K1.map (fun p=>some p.2):=by rfl):TL P N ops (CW P Q0 fs) l K w:=
 Kd t ha (fun e=>TL.cutD k Kx (fun w'=>w'=w) h1 fun w' q=>q▸fun a hK=>k2 a (Lf e t1 b1 (Qj e) e1 a hK)) fun e=>TL.cutD k Kf (fun w'=>w'=w) (De.ok h2 (TL.nil fun a h=>⟨h,rfl⟩)) fun w' q=>q▸fun a hK=>k2 a (Lf e t2 b2 (Qp e) e2 a hK)
theorem Nd(k:Nat)(is:List Nat)(j t:Nat)(b:Bool){c:Bool}{K1 Kx Kf:KL}(hx:HC ((t,.bool false)::K) (t::is) [(j,.bool b)]=some Kx)(h1:TL P N ops (CW P Q0 (.lp (fun a' w'=>Kn N Kx a'∧w'=w)::fs)) (l.take k) ((t,.bool false)::K) w)(k2:TL P N ops (CW P Q0 fs) (l.drop k) K1 w)(ha:kl K t=some (.bool c):=by rfl)
 (h2:De N ops (l.take k) ((t,.bool true)::K)=some Kf:=by rfl) (b2:kl Kf j=some (.bool true):=by rfl) (t2:kl Kf t=some (.bool true):=by rfl) (hk:HC K is [(j,.bool (c||b))]=some K1:=by rfl) (b1:kl Kx j=some (.bool b):=by rfl) (t1:kl Kx t=some (.bool false):=by rfl)
 (e1:K1.map (fun p=>kl ((t,.bool c)::(j,.bool (c||b))::Kx) p.1)=K1.map (fun p=>some p.2):=by rfl) (e2:K1.map (fun p=>kl ((t,.bool c)::(j,.bool (c||b))::Kf) p.1)=K1.map (fun p=>some p.2):=by rfl):TL P N ops (CW P Q0 fs) l K w:=
 Kd t ha (fun e=>TL.cutD k Kf (fun w'=>w'=w) (De.ok h2 (TL.nil fun a h=>⟨h,rfl⟩)) fun w' q=>q▸fun a hK=>k2 a (Lf e t2 b2 (Qo e) e2 a hK)) fun e=>TL.cutD k Kx (fun w'=>w'=w) h1 fun w' q=>q▸fun a hK=>k2 a (Lf e t1 b1 (QQ e) e1 a hK)
theorem Ks(k:Nat)(is:List Nat)(j t:Nat)(b:Bool){c:Bool}{K1 Kx Kf:KL}(hx:HC ((t,.bool true)::K) (t::is) [(j,.bool b)]=some Kx)(h1:QL P N ops w (fun a'=>Kn N Kx a') (l.take k) ((t,.bool true)::K))(k2:QL P N ops w Qa (l.drop k) K1)(ha:kl K t=some (.bool c):=by rfl)
 (h2:De N ops (l.take k) ((t,.bool false)::K)=some Kf:=by rfl) (b2:kl Kf j=some (.bool false):=by rfl) (t2:kl Kf t=some (.bool false):=by rfl) (hk:HC K is [(j,.bool (c&&b))]=some K1:=by rfl) (b1:kl Kx j=some (.bool b):=by rfl) (t1:kl Kx t=some (.bool true):=by rfl)
 (e1:K1.map (fun p=>kl ((t,.bool c)::(j,.bool (c&&b))::Kx) p.1)=K1.map (fun p=>some p.2):=by rfl) (e2:K1.map (fun p=>kl ((t,.bool c)::(j,.bool (c&&b))::Kf) p.1)=K1.map (fun p=>some p.2):=by rfl):QL P N ops w Qa l K:=
 Rs t ha (fun e=>QL.cut k Kx h1 fun a hK=>k2 a (Lf e t1 b1 (Qj e) e1 a hK)) fun e=>QL.cut k Kf (De.okq h2 (QL.nil fun a h=>h)) fun a hK=>k2 a (Lf e t2 b2 (Qp e) e2 a hK)
end
theorem Fe{β:Type}{A:Option Bool}{g:Bool->Option β}{r:β}{c:Bool}{K1 Kx:Bool->KL}{Kf:KL}(k:Nat)(is:List Nat)(j t:Nat)(hF:Option.bind (bif c then A else some false) g=some r)(h1:∀b,A=some b->TL P N ops (CW P Q0 (.lp (fun a' w'=>Kn N (Kx b) a'∧AO w w')::fs)) (l.take k) ((t,.bool true)::K) w)(k2:∀b,g b=some r->∀w',AO w w'->TL P N ops (CW P Q0 fs) (l.drop k) (K1 b) w')(ha:kl K t=some (.bool c):=by rfl)
 (hx:∀b,HC ((t,.bool true)::K) (t::is) [(j,.bool b)]=some (Kx b):=by intro _;rfl) (hk:∀b,HC K is [(j,.bool b)]=some (K1 b):=by intro _;rfl) (h2:De N ops (l.take k) ((t,.bool false)::K)=some Kf:=by rfl)
 (t1:∀b,kl (Kx b) t=some (.bool true):=by intro _;rfl) (t2:kl Kf t=some (.bool false):=by rfl)
 (e1:∀b,(K1 b).map (fun p=>kl ((t,.bool c)::Kx b) p.1)=(K1 b).map (fun p=>some p.2):=by intro _;rfl) (e2:(K1 false).map (fun p=>kl ((t,.bool c)::Kf) p.1)=(K1 false).map (fun p=>some p.2):=by rfl):TL P N ops (CW P Q0 fs) l K w:=by
 obtain⟨b,hb,h3⟩:=AM hF
 refine Kd t ha (fun e=>?_) fun e=>?_
 ·replace hb:=HH e hb;exact TL.cutD k (Kx b) (fun w'=>AO w w') (h1 b hb) fun w' q a hK=>k2 b h3 w' q a ((hK.know (t1 b) (by rw [e])).sub (e1 b))
 ·replace hb:=Gu e hb;obtain rfl:=Ld hb;exact TL.cutD k Kf (fun w'=>AO w w') (De.ok h2 (TL.nil fun a h=>⟨h,AO.refl _⟩)) fun w' q a hK=>k2 _ h3 w' q a ((hK.know t2 (by rw [e])).sub e2)
theorem Jy{β:Type}{A:Option Bool}{g:Bool->Option β}{r:β}{c:Bool}{K1 Kx:Bool->KL}{Kf:KL}(k:Nat)(is:List Nat)(j t:Nat)(hF:Option.bind (bif c then some true else A) g=some r)(h1:∀b,A=some b->TL P N ops (CW P Q0 (.lp (fun a' w'=>Kn N (Kx b) a'∧AO w w')::fs)) (l.take k) ((t,.bool false)::K) w)(k2:∀b,g b=some r->∀w',AO w w'->TL P N ops (CW P Q0 fs) (l.drop k) (K1 b) w')(ha:kl K t=some (.bool c):=by rfl)
 (hx:∀b,HC ((t,.bool false)::K) (t::is) [(j,.bool b)]=some (Kx b):=by intro _;rfl) (hk:∀b,HC K is [(j,.bool b)]=some (K1 b):=by intro _;rfl) (h2:De N ops (l.take k) ((t,.bool true)::K)=some Kf:=by rfl)
 (t1:∀b,kl (Kx b) t=some (.bool false):=by intro _;rfl) (t2:kl Kf t=some (.bool true):=by rfl)
 (e1:∀b,(K1 b).map (fun p=>kl ((t,.bool c)::Kx b) p.1)=(K1 b).map (fun p=>some p.2):=by intro _;rfl) (e2:(K1 true).map (fun p=>kl ((t,.bool c)::Kf) p.1)=(K1 true).map (fun p=>some p.2):=by rfl):TL P N ops (CW P Q0 fs) l K w:=by
 obtain⟨b,hb,h3⟩:=AM hF
 refine Kd t ha (fun e=>?_) fun e=>?_
 ·replace hb:=HH e hb;obtain rfl:=Ld hb;exact TL.cutD k Kf (fun w'=>AO w w') (De.ok h2 (TL.nil fun a h=>⟨h,AO.refl _⟩)) fun w' q a hK=>k2 _ h3 w' q a ((hK.know t2 (by rw [e])).sub e2)
 ·replace hb:=Gu e hb;exact TL.cutD k (Kx b) (fun w'=>AO w w') (h1 b hb) fun w' q a hK=>k2 b h3 w' q a ((hK.know (t1 b) (by rw [e])).sub (e1 b))
theorem Is{β:Type}{A:Option Bool}{g:Bool->Option β}{r:β}{c:Bool}{K1 Kx:Bool->KL}{Kf:KL}(k:Nat)(is:List Nat)(j t:Nat)(hF:Option.bind (bif c then A else some false) g=some r)(h1:∀b,A=some b->TL P N ops (CW P Q0 (.lp (fun a' w'=>Kn N (Kx b) a'∧w'=w)::fs)) (l.take k) ((t,.bool true)::K) w)(k2:∀b,g b=some r->TL P N ops (CW P Q0 fs) (l.drop k) (K1 b) w)(ha:kl K t=some (.bool c):=by rfl)
 (hx:∀b,HC ((t,.bool true)::K) (t::is) [(j,.bool b)]=some (Kx b):=by intro _;rfl) (hk:∀b,HC K is [(j,.bool b)]=some (K1 b):=by intro _;rfl) (h2:De N ops (l.take k) ((t,.bool false)::K)=some Kf:=by rfl)
 (t1:∀b,kl (Kx b) t=some (.bool true):=by intro _;rfl) (t2:kl Kf t=some (.bool false):=by rfl)
 (e1:∀b,(K1 b).map (fun p=>kl ((t,.bool c)::Kx b) p.1)=(K1 b).map (fun p=>some p.2):=by intro _;rfl) (e2:(K1 false).map (fun p=>kl ((t,.bool c)::Kf) p.1)=(K1 false).map (fun p=>some p.2):=by rfl):TL P N ops (CW P Q0 fs) l K w:=by
 obtain⟨b,hb,h3⟩:=AM hF
 refine Kd t ha (fun e=>?_) fun e=>?_
 ·replace hb:=HH e hb;exact TL.cutD k (Kx b) (fun w'=>w'=w) (h1 b hb) fun w' q=>q▸fun a hK=>k2 b h3 a ((hK.know (t1 b) (by rw [e])).sub (e1 b))
 ·replace hb:=Gu e hb;obtain rfl:=Ld hb;exact TL.cutD k Kf (fun w'=>w'=w) (De.ok h2 (TL.nil fun a h=>⟨h,rfl⟩)) fun w' q=>q▸fun a hK=>k2 _ h3 a ((hK.know t2 (by rw [e])).sub e2)
theorem Ei{β:Type}{A:Option Bool}{g:Bool->Option β}{r:β}{c:Bool}{K1 Kx:Bool->KL}{Kf:KL}(k:Nat)(is:List Nat)(j t:Nat)(hF:Option.bind (bif c then A else some false) g=some r)(h1:∀b,A=some b->QL P N ops w (fun a'=>Kn N (Kx b) a') (l.take k) ((t,.bool true)::K))(k2:∀b,g b=some r->QL P N ops w Qa (l.drop k) (K1 b))(ha:kl K t=some (.bool c):=by rfl)
 (hx:∀b,HC ((t,.bool true)::K) (t::is) [(j,.bool b)]=some (Kx b):=by intro _;rfl) (hk:∀b,HC K is [(j,.bool b)]=some (K1 b):=by intro _;rfl) (h2:De N ops (l.take k) ((t,.bool false)::K)=some Kf:=by rfl)
 (t1:∀b,kl (Kx b) t=some (.bool true):=by intro _;rfl) (t2:kl Kf t=some (.bool false):=by rfl)
 (e1:∀b,(K1 b).map (fun p=>kl ((t,.bool c)::Kx b) p.1)=(K1 b).map (fun p=>some p.2):=by intro _;rfl) (e2:(K1 false).map (fun p=>kl ((t,.bool c)::Kf) p.1)=(K1 false).map (fun p=>some p.2):=by rfl):QL P N ops w Qa l K:=by
 obtain⟨b,hb,h3⟩:=AM hF
 refine Rs t ha (fun e=>?_) fun e=>?_
 ·replace hb:=HH e hb;exact QL.cut k (Kx b) (h1 b hb) fun a hK=>k2 b h3 a ((hK.know (t1 b) (by rw [e])).sub (e1 b))
 ·replace hb:=Gu e hb;obtain rfl:=Ld hb;exact QL.cut k Kf (De.okq h2 (QL.nil fun a h=>h)) fun a hK=>k2 _ h3 a ((hK.know t2 (by rw [e])).sub e2)
theorem Ig{β:Type}{A:Option Bool}{g:Bool->Option β}{r:β}{c:Bool}{K1 Kx:Bool->KL}{Kf:KL}(k:Nat)(is:List Nat)(j t:Nat)(hF:Option.bind (bif c then some true else A) g=some r)(h1:∀b,A=some b->QL P N ops w (fun a'=>Kn N (Kx b) a') (l.take k) ((t,.bool false)::K))(k2:∀b,g b=some r->QL P N ops w Qa (l.drop k) (K1 b))(ha:kl K t=some (.bool c):=by rfl)
 (hx:∀b,HC ((t,.bool false)::K) (t::is) [(j,.bool b)]=some (Kx b):=by intro _;rfl) (hk:∀b,HC K is [(j,.bool b)]=some (K1 b):=by intro _;rfl) (h2:De N ops (l.take k) ((t,.bool true)::K)=some Kf:=by rfl)
 (t1:∀b,kl (Kx b) t=some (.bool false):=by intro _;rfl) (t2:kl Kf t=some (.bool true):=by rfl)
 (e1:∀b,(K1 b).map (fun p=>kl ((t,.bool c)::Kx b) p.1)=(K1 b).map (fun p=>some p.2):=by intro _;rfl) (e2:(K1 true).map (fun p=>kl ((t,.bool c)::Kf) p.1)=(K1 true).map (fun p=>some p.2):=by rfl):QL P N ops w Qa l K:=by
 obtain⟨b,hb,h3⟩:=AM hF
 refine Rs t ha (fun e=>?_) fun e=>?_
 ·replace hb:=HH e hb;obtain rfl:=Ld hb;exact QL.cut k Kf (De.okq h2 (QL.nil fun a h=>h)) fun a hK=>k2 _ h3 a ((hK.know t2 (by rw [e])).sub e2)
 ·replace hb:=Gu e hb;exact QL.cut k (Kx b) (h1 b hb) fun a hK=>k2 b h3 a ((hK.know (t1 b) (by rw [e])).sub (e1 b))
end
/-! ## Pointers against nil -/
theorem FG{P:Program}{N:Nat}{K:KL}{w:World}{fn:Func}{p ty b T:Nat}{us:List Value}{R:Ending->World->Prop}(hb:Ap w b us T)(ha:Bc P ty=some true)(hn:Am P ty=some us.length)(hR:R (.returned (.agg us.toArray)) w)
 (hr:fn.results=List.toArray [.cell p ty]:=by rfl) (hk:kl K p=some (.pointer (some ⟨b,0,none⟩)):=by rfl):NX N (bodyPost P fn R) .ret K w:=
 NX.end (vs:=[.agg us.toArray]) hr ⟨⟨b,hk,Ct ha hn hb⟩,trivial⟩ hR
end Go.Eng
namespace Go.Eng
open Go Go.RowKit
/-! ## Code in a round's frame, and behind a range over a function -/
def KK:Option Nat->Fence
 |none=>Fence.wide
 |some l=>Fence.wide.inRound l
theorem IS(r:Option Nat)(f:FuncId):(KK r).fn f:=by cases r<;>exact trivial
theorem Kb(r:Option Nat)(n:Nat):(KK r).depth.isSome=true->1<=n:=by cases r<;>intro h<;>cases h
theorem Jx{P:Program}{r:Option Nat}{n:Nat}{f:FuncId}{args:Array Value}{w:World}{R:Ending->World->Prop}(h:Calls P f args w R):CallsIn (KK r) n P f args w R:=by
 have h2:CallsIn Fence.wide n P f args w R:=callsIn_wide.2 h
 cases r with
 |none=>exact h2
 |some l=>exact CallsIn.inRound l h2
theorem LU{P:Program}{r:Option Nat}{n:Nat}{row:String}{args:Array Value}{w:World}{R:Value->World->Prop}(h:Rows P row args w R):RowsIn (KK r) n P row args w R:=by
 have h2:RowsIn Fence.wide n P row args w R:=fun c cs _=>by
  obtain⟨v,w',hr,hs⟩:=h c cs
  exact⟨v,w',hr,stepsIn_wide.2 hs⟩
 cases r with
 |none=>exact h2
 |some l=>exact h2
def DQ(Q:Exit->Act->World->Prop)(ds:List Deferred):Exit->Act->World->Prop:=fun e a w=>a.defers=[]∧e≠ .outgrown∧Q e { a with defers:=ds } w
def NN(o:Oper):Bool:=match o.op with
 | .defer _=>false
 |_=>true
theorem CF(a:Act)(d:Option Tmp)(v:Value):(a.put d v).defers=a.defers:=by cases d<;>rfl
theorem DM(a:Act)(ds:List Deferred)(d:Option Tmp)(v:Value):({ a with defers:=ds }:Act).put d v={ a.put d v with defers:=ds }:=by cases d<;>rfl
def KF(Q1 Q:Exit->Act->World->Prop)(ds:List Deferred):Prop:=∀e a w,Q1 e a w->a.defers=[]∧e≠ .outgrown∧Q e { a with defers:=ds } w
theorem Rk{Q:Exit->Act->World->Prop}{ds:List Deferred}:KF (DQ Q ds) Q ds:=fun _ _ _ h=>h
theorem Ru{Q:Exit->Act->World->Prop}{ds:List Deferred}:KF (noPan (DQ Q ds)) Q ds:=fun e _ _ h=>by cases e<;>first|exact h|exact h.elim
section
variable {P:Program} {Q Q1:Exit -> Act -> World -> Prop} {ds:List Deferred} {r:Option Nat} {n:Nat}
theorem KF.out(q:KF Q1 Q ds):¬LetsOut Q1:=fun⟨_,_,h⟩=>(q _ _ _ h).2.1 rfl
theorem JH(q:KF Q1 Q ds){o:Oper}{a:Act}{w:World}{K:Act->World->Prop}(ha:a.defers≠[])(hK:∀a' w',a'.defers≠[]->K a' w'->False)(h:o.wp P a w K Q1):False:=by
 unfold Oper.wp at h
 generalize (execOp a.eval o).run P w=x at h
 cases x with
 |ok v w'=>
  cases v with
  |value v=>exact hK _ _ (by rw [CF];exact ha) h
  |skip=>exact hK _ _ (by rw [CF];exact ha) h
  |defer d=>exact hK _ _ (by rw [CF];exact List.cons_ne_nil _ _) h
  |enter f args=>
   obtain⟨e,w'',_,hR,_⟩:=h []
   cases e with
   |returned v=>exact hK _ _ (by rw [CF];exact ha) hR
   |panicked c=>exact ha (q _ _ _ hR).1
   |outgrown=>exact q.out hR
  |row row args=>
   obtain⟨v,w'',hR,_⟩:=h default []
   exact hK _ _ (by rw [CF];exact ha) hR
  |_=>exact h
 |halt e w'=>
  cases e with
  |panic v=>exact ha (q _ _ _ h).1
  |_=>exact h
theorem Mr(q:KF Q1 Q ds){o:Oper}{a:Act}{w:World}{K K':Act->World->Prop}(ho:NN o=true)(ha:a.defers=[])(hd:∀a' w',a'.defers≠[]->K a' w'->False)
 (hK:∀a' w',a'.defers=[]->K a' w'->K' { a' with defers:=ds } w') (h:o.wp P a w K Q1):o.wpIn (KK r) n P { a with defers:=ds } w K' Q:=by
 refine⟨fun f _=>IS r f,?_⟩
 have hs:o.semAt (KK r).round ({ a with defers:=ds }:Act).eval=execOp a.eval o:=by
  rw [Oper.semAt_eq _ _ _ (fun c hc=>by unfold NN at ho;rw [hc]at ho;cases ho)];rfl
 rw [hs]
 unfold Oper.wp at h
 generalize (execOp a.eval o).run P w=x at h
 cases x with
 |ok v w'=>
  cases v with
  |value v=>show K' (({ a with defers:=ds }:Act).put o.dst v) w';rw [DM];exact hK _ _ (by rw [CF];exact ha) h
  |skip=>show K' (({ a with defers:=ds }:Act).put o.dst undef) w';rw [DM];exact hK _ _ (by rw [CF];exact ha) h
  |defer d=>exact absurd h fun h=>hd _ _ (by rw [CF];exact List.cons_ne_nil _ _) h
  |enter f args=>
   refine⟨Kb r n,(Jx h).mono fun e w'' hR=>?_⟩
   cases e with
   |returned v=>show K' (({ a with defers:=ds }:Act).put o.dst v) w'';rw [DM];exact hK _ _ (by rw [CF];exact ha) hR
   |panicked c=>exact(q _ _ _ hR).2.2
   |outgrown=>exact(q.out hR).elim
  |row row args=>
   refine⟨Kb r n,(LU h).mono fun v w'' hR=>?_⟩
   rw [DM];exact hK _ _ (by rw [CF];exact ha) hR
  |_=>exact h.elim
 |halt e w'=>
  cases e with
  |panic v=>exact(q _ _ _ h).2.2
  |_=>exact h
variable {ops:Array Oper}
theorem FI(q:KF Q1 Q ds):∀{l:List Oper} {a:Act} {w:World},a.defers≠[]->wpList P ops Q1 l a w->False
 |[],a,w,ha,h=>ha (q _ _ _ h).1
 |o::l,a,w,ha,h=>by
  unfold wpList at h
  split at h
  ·rcases h with h|⟨_,h⟩
   ·exact JH q ha (fun a' w' h1 h2=>FI q h1 h2) h
   ·exact q.out h
  ·exact FI q (by rw [CF];exact ha) h
theorem HJ(q:KF Q1 Q ds):∀{l:List Oper} {a:Act} {w:World},l.all NN=true->a.defers=[]->wpList P ops Q1 l a w->wpListIn (KK r) n P ops Q l { a with defers:=ds } w
 |[],a,w,_,ha,h=>(q _ _ _ h).2.2
 |o::l,a,w,hn,ha,h=>by
  rw [List.all_cons,Bool.and_eq_true]at hn
  unfold wpList at h
  unfold wpListIn
  split at h
  ·rename_i hw
   rw [if_pos hw]
   rcases h with h|⟨_,h⟩
   ·exact Mr q hn.1 ha (fun a' w' h1 h2=>FI q h1 h2) (fun a' w' h1 h2=>HJ q hn.2 h1 h2) h
   ·exact(q.out h).elim
  ·rename_i hw
   rw [if_neg hw]
   refine⟨fun f _=>IS r f,?_⟩
   rw [DM];exact HJ q hn.2 (by rw [CF];exact ha) h
theorem MM(q:KF Q1 Q ds){i:Nat}{a:Act}{w:World}{K:Act->World->Prop}(ha:a.defers≠[])(hK:∀a' w',a'.defers≠[]->K a' w'->False)(h:wpOp P ops Q1 i K a w):False:=by
 unfold wpOp at h
 split at h
 ·exact hK _ _ ha h
 ·split at h
  ·rcases h with h|⟨_,h⟩
   ·exact JH q ha hK h
   ·exact q.out h
  ·exact hK _ _ (by rw [CF];exact ha) h
theorem Ho(q:KF Q1 Q ds):∀{f:Nat} {listed:Array Bool} {a:Act} {w:World},a.defers≠[]->wpAny P .any ops Q1 f listed a w->False
 |0,listed,a,w,ha,h=>ha (q _ _ _ h.2).1
 |f+1,listed,a,w,ha,h=>by
  obtain⟨h1,h2⟩:=h
  cases hr:Region.ready .any ops listed with
  |nil=>exact ha (q _ _ _ (h1 hr)).1
  |cons i l=>exact MM q ha (fun a' w' k1 k2=>Ho q k1 k2) (h2 i (by rw [hr];exact List.mem_cons_self))
theorem QM(q:KF Q1 Q ds){i:Nat}{a:Act}{w:World}{K K':Act->World->Prop}(hn:ops.toList.all NN=true)(ha:a.defers=[])(hd:∀a' w',a'.defers≠[]->K a' w'->False)
 (hK:∀a' w',a'.defers=[]->K a' w'->K' { a' with defers:=ds } w') (h:wpOp P ops Q1 i K a w):wpOpIn (KK r) n P ops Q i K' { a with defers:=ds } w:=by
 unfold wpOp at h
 unfold wpOpIn
 cases ho:ops[i]? with
 |none=>rw [ho]at h;exact hK _ _ ha h
 |some o=>
  rw [ho]at h
  have h:if Region.wanted o (yielded ops a.tmps)then o.wp P a w K Q1∨(o.asks P a w∧LetsOut Q1)else K (a.put o.dst undef) w:=h
  show if Region.wanted o (yielded ops a.tmps)then _ else _
  have hm:o∈ops.toList:=by
   obtain⟨h1,h2⟩:=Array.getElem?_eq_some_iff.1 ho
   rw [←h2];exact Array.getElem_mem_toList h1
  have hno:=List.all_eq_true.1 hn o hm
  split at h
  ·rename_i hw
   rw [if_pos hw]
   rcases h with h|⟨_,h⟩
   ·exact Mr q hno ha hd hK h
   ·exact(q.out h).elim
  ·rename_i hw
   rw [if_neg hw]
   refine⟨fun f _=>IS r f,?_⟩
   rw [DM];exact hK _ _ (by rw [CF];exact ha) h
theorem LD(q:KF Q1 Q ds)(hn:ops.toList.all NN=true):∀{f:Nat} {listed:Array Bool} {a:Act} {w:World},a.defers=[]->wpAny P .any ops Q1 f listed a w->wpAnyIn (KK r) n P .any ops Q f listed { a with defers:=ds } w
 |0,listed,a,w,ha,h=>⟨h.1,(q _ _ _ h.2).2.2⟩
 |f+1,listed,a,w,ha,h=>⟨fun e=>(q _ _ _ (h.1 e)).2.2,fun i hi=>QM q hn ha (fun a' w' k1 k2=>Ho q k1 k2) (fun a' w' k1 k2=>LD q hn k1 k2) (h.2 i hi)⟩
end
def WX(P:Program)(N:Nat)(r:Option Nat)(n:Nat)(ds:List Deferred)(c:Code)(Q:Exit->Act->World->Prop)(K:KL)(w:World):Prop:=
 ∀a,Kn N K a->c.wpIn (KK r) n P Q { a with defers:=ds } w
def NY(N:Nat)(ds:List Deferred)(Q:Exit->Act->World->Prop)(e:Exit)(K:KL)(w:World):Prop:=∀a,Kn N K a->Q e { a with defers:=ds } w
section
variable {P:Program} {N:Nat} {r:Option Nat} {n:Nat} {ds:List Deferred} {Q:Exit -> Act -> World -> Prop} {K:KL} {w:World}
theorem WX.seq{x y:Code}(h:WX P N r n ds x (Exit.then (fun a' w'=>y.wpIn (KK r) n P Q a' w') Q) K w):WX P N r n ds (.seq x y) Q K w:=fun a hK=>wpIn_seq (h a hK)
theorem WX.region{id:Nat}{l:List Oper}(hn:l.all NN=true)(h:TL P N l.toArray (DQ Q ds) l K w):WX P N r n ds (.region id l.toArray false) Q K w:=fun a hK=>wpIn_region_lit (HJ Rk hn hK.df (h a hK))
theorem WX.block{id:Nat}{c:Code}(h:WX P N r n ds c (Exit.inBlock id Q) K w):WX P N r n ds (.block id c) Q K w:=fun a hK=>wpIn_block (h a hK)
theorem WX.skip(h:NY N ds Q .normal K w):WX P N r n ds .skip Q K w:=fun a hK=>wpIn_skip (h a hK)
theorem WX.exit{id:Nat}(h:NY N ds Q (.exit id) K w):WX P N r n ds (.exit id) Q K w:=fun a hK=>wpIn_exit (h a hK)
theorem WX.ret(h:NY N ds Q .ret K w):WX P N r n ds .ret Q K w:=fun a hK=>wpIn_ret (h a hK)
theorem WX.cond{c:Operand}{x y:Code}{t:Bool}(hc:Ay K c=some (.bool t))(ht:t=true->WX P N r n ds x Q K w)(hf:t=false->WX P N r n ds y Q K w):WX P N r n ds (.cond c x y) Q K w:=
 fun a hK=>wpIn_cond_split (a:={ a with defers:=ds }) (hK.ev hc) (fun h=>ht h a hK) (fun h=>hf h a hK)
theorem WX.heldG{p:Nat->Prop}{id:Nat}{l:List Oper}(m:Nat)(hm:P.follows .mixedOrders=true)(hn:l.all NN=true)
 (h:∀w',AO w w'->Cc P N l.toArray m (noPan (DQ Q ds)) p w' l.length (Array.replicate l.length false) K w'):WX P N r n ds (.region id l.toArray true) Q K w:=by
 intro a hK
 have inv0:HeadInv .any l.toArray m (Array.replicate l.length false):=
  ⟨by simp,fun j oj _ hl=>(by rw [getD_replicate_false]at hl;cases hl),fun t _ ht=>getD_in (by simpa using ht) (getD_replicate_false _ _)⟩
 have h1:=BD.any _ _ _ _ (h w.drew (AO.drew w) (by simpa using inv0) (AR.refl p _) a hK)
 refine wpIn_region_any hm ?_
 exact LD Ru (by simpa using hn) hK.df (by simpa using h1)
end
section
variable (P:Program) (N:Nat) (r:Option Nat) (n0:Nat) (ds:List Deferred) (Q0:Exit -> Act -> World -> Prop)
def GG:List Frame->Exit->Act->World->Prop
 |[]=>Q0
 | .seq c::fs=>Exit.then (fun a w=>c.wpIn (KK r) n0 P (GG fs) a w) (GG fs)
 | .blk id::fs=>Exit.inBlock id (GG fs)
 | .lp f::fs=>Exit.then f (GG fs)
def Gf(m:Md)(fs:List Frame)(K:KL)(w:World):Prop:=match m with
 | .c c=>WX P N r n0 ds c (GG P r n0 Q0 fs) K w
 | .o ops l=>TL P N ops (DQ (GG P r n0 Q0 fs) ds) l K w
 | .e e=>NY N ds (GG P r n0 Q0 fs) e K w
def Bi:Nat->Md->List Frame->KL->World->Prop
 |0=>fun m fs K w=>Gf P N r n0 ds Q0 m fs K w
 |n+1=>fun m fs K w=>match m with
  | .c c=>match c with
   | .seq x y=>Bi n (.c x) (.seq y::fs) K w
   | .region _ ops false=>match ops.toList.all NN with
    |true=>Bi n (.o ops ops.toList) fs K w
    |false=>False
   | .block id x=>Bi n (.c x) (.blk id::fs) K w
   | .skip=>Bi n (.e .normal) fs K w
   | .exit id=>Bi n (.e (.exit id)) fs K w
   | .ret=>Bi n (.e .ret) fs K w
   |_=>False
  | .o ops l=>match l with
   |[]=>Bi n (.e .normal) fs K w
   |o::rest=>match CL N ops K o with
    | .yes=>match yq K o.op with
     |some v=>Bi n (.o ops rest) fs (AX K o.dst v) w
     |none=>False
    | .skip=>Bi n (.o ops rest) fs (AX K o.dst undef) w
    | .no=>False
  | .e e=>match fs with
   |[]=>False
   | .seq c::fs=>match e with
    | .normal=>Bi n (.c c) fs K w
    | .ret=>Bi n (.e .ret) fs K w
    | .exit id=>Bi n (.e (.exit id)) fs K w
    |_=>False
   | .blk id::fs=>match e with
    | .normal=>Bi n (.e .normal) fs K w
    | .ret=>Bi n (.e .ret) fs K w
    | .exit id'=>bif Nat.beq id' id then Bi n (.e .normal) fs K w else Bi n (.e (.exit id')) fs K w
    |_=>False
   | .lp _::_=>False
end
section
variable {P:Program} {N:Nat} {r:Option Nat} {n0:Nat} {ds:List Deferred} {Q0:Exit -> Act -> World -> Prop}
theorem NY.of_out{Q:Exit->Act->World->Prop}{K:KL}{w:World}(h:NY N ds Q .normal K w):∀a,Kn N K a->DQ Q ds .normal a w:=fun a hK=>⟨hK.df,by simp,h a hK⟩
theorem Bi.ok:∀(n:Nat) {m:Md} {fs:List Frame} {K:KL} {w:World},Bi P N r n0 ds Q0 n m fs K w->Gf P N r n0 ds Q0 m fs K w
 |0,_,_,_,_,h=>h
 |n+1,m,fs,K,w,h=>by
  cases m with
  |c c=>
   cases c with
   |seq x y=>exact WX.seq (Bi.ok n h)
   |region id ops d=>
    cases d with
    |false=>
     simp only [Bi]at h
     split at h
     case h_2=>exact h.elim
     rename_i h1
     have h2:TL P N ops (DQ (GG P r n0 Q0 fs) ds) ops.toList K w:=Bi.ok n h
     show WX P N r n0 ds (.region id ops false) (GG P r n0 Q0 fs) K w
     have:ops=ops.toList.toArray:=by simp
     rw [this];rw [this]at h2
     exact WX.region (by simpa using h1) (by simpa using h2)
    |true=>exact h.elim
   |block id x=>exact WX.block (Bi.ok n h)
   |skip=>exact WX.skip (Bi.ok n h)
   |exit id=>exact WX.exit (Bi.ok n h)
   |ret=>exact WX.ret (Bi.ok n h)
   |cond _ _ _=>exact h.elim
   |loop _=>exact h.elim
   |_=>exact h.elim
  |o ops l=>
   cases l with
   |nil=>exact TL.nil (NY.of_out (Bi.ok n h:Gf P N r n0 ds Q0 (.e .normal) fs K w))
   |cons o rest=>
    simp only [Bi]at h
    split at h
    ·rename_i hg
     split at h
     ·rename_i v hv;exact Yl hg (Ew hv) (Bi.ok n h)
     ·exact h.elim
    ·rename_i hg;exact Sk hg (Bi.ok n h)
    ·exact h.elim
  |e e=>
   cases fs with
   |nil=>exact h.elim
   |cons f fs=>
    cases f with
    |seq c=>
     cases e with
     |normal=>exact(Bi.ok n h:Gf P N r n0 ds Q0 (.c c) fs K w)
     |ret=>exact(Bi.ok n h:Gf P N r n0 ds Q0 (.e .ret) fs K w)
     |exit id=>exact(Bi.ok n h:Gf P N r n0 ds Q0 (.e (.exit id)) fs K w)
     |_=>exact h.elim
    |blk id=>
     cases e with
     |normal=>exact(Bi.ok n h:Gf P N r n0 ds Q0 (.e .normal) fs K w)
     |ret=>exact(Bi.ok n h:Gf P N r n0 ds Q0 (.e .ret) fs K w)
     |exit id'=>
      simp only [Bi]at h
      cases hb:Nat.beq id' id with
      |true=>
       rw [hb]at h
       obtain rfl:=Nat.eq_of_beq_eq_true hb
       have h2:Gf P N r n0 ds Q0 (.e .normal) fs K w:=Bi.ok n h
       intro a hK
       have:=h2 a hK
       simpa [GG,Exit.inBlock] using this
      |false=>
       rw [hb]at h
       have h2:Gf P N r n0 ds Q0 (.e (.exit id')) fs K w:=Bi.ok n h
       intro a hK
       have:=h2 a hK
       have hne:id'≠id:=fun e=>by rw [e]at hb;simp at hb
       simpa [GG,Exit.inBlock,hne] using this
     |_=>exact h.elim
    |lp f=>exact h.elim
variable {K:KL} {w:World} {fs:List Frame} {ops:Array Oper}
end
/-! ## A range over slices.Backward -/
def Ob(w:World)(k:Nat)(o:Obj):Prop:=w.heap[k]? =some o
theorem Ob.lt{w:World}{k:Nat}{o:Obj}(h:Ob w k o):k<w.heap.size:=(Array.getElem?_eq_some_iff.1 h).1
theorem Ob.ext{w w':World}{k:Nat}{o:Obj}(h:Ob w k o)(he:AO w w'):Ob w' k o:=by unfold Ob;rw [he.block k h.lt];exact h
theorem Ob.upd{w w':World}{k c:Nat}{o:Obj}(h:Ob w k o)(he:Dd c w w')(hne:k≠c):Ob w' k o:=by unfold Ob;rw [he.block k hne];exact h
theorem Ob.but{p:Nat->Prop}{w w':World}{k:Nat}{o:Obj}(h:Ob w k o)(he:AR p w w')(hne:∀j,p j->j≠k):Ob w' k o:=by unfold Ob;rw [he.block k h.lt (fun e=>hne k e rfl)];exact h
instance {w w':World}{d:Nat}{o:Obj}:Mv w w' (Ob w d o) (Ob w' d o) True:=⟨fun h _ k=>h.ext k⟩
instance {b:Nat}{w w':World}{d:Nat}{o:Obj}:Mu b w w' (Ob w d o) (Ob w' d o) (d≠b):=⟨fun h s k=>h.upd k s⟩
instance {b:Nat}{w w':World}{d:Nat}{o:Obj}:Mb b w w' (Ob w d o) (Ob w' d o) (b≠d):=⟨fun h s k=>h.but k (AG s)⟩
section
variable {P:Program} {fn:Func} {gf b:Nat} {tx:TypeId} {v:Value} {xs:List Int} {lo hi:Nat} {ts ti te tb:TypeId} {tys:Array TypeId} {i0 i1 i2 i3:Nat} {t1 t2 t3 t4 t5 t6 t7 t8 t9 t10 t11 t12 t13 t14 t15 t16 t17:TypeId} {p1 p2 p3 p4 p5 p6 p7 p8 p9 p10 p11 p12 p13 p14 p15 p16 p17:String} {a1 a2 a3 a4 a5 a6 a7 a8 a9 a10 a11 a12 a13 a14 a15 a16 a17:Array Edge}
end
end Go.Eng
namespace Go.Eng
open Go Go.RowKit
/-! ## Operations that only allocate, and may be done at any time -/
def Ml(K:KL)(o:Oper):Prop:=∀d,o.dst=some d->kl K d=none
def Lb(K K':KL):Prop:=∀t v,kl K t=some v->kl K' t=some v
def Le(o o2:Oper):Prop:=∀d d2,o.dst=some d->o2.dst=some d2->d≠d2
def outs:List (Nat×Nat)->Nat->Prop
 |[],_=>True
 |(l,h)::r,b=>(b<l∨h<=b)∧outs r b
def KU:List (Nat×Nat)->Nat->Prop
 |[],_=>True
 |(_,h)::r,m=>h<=m∧KU r m
theorem KU.mono{m m':Nat}(h:m<=m'):∀{iv:List (Nat×Nat)},KU iv m->KU iv m'
 |[],_=>trivial
 |_::_,k=>⟨Nat.le_trans k.1 h,KU.mono h k.2⟩
theorem KU.outs{m b:Nat}(h:m<=b):∀{iv:List (Nat×Nat)},KU iv m->outs iv b
 |[],_=>trivial
 |_::_,k=>⟨.inr (Nat.le_trans k.1 h),KU.outs h k.2⟩
theorem Le.symm{o o2:Oper}(h:Le o o2):Le o2 o:=fun d d2 e e2 g=>h d2 d e2 e g.symm
theorem GO{K:KL}{d:Option Tmp}{v:Value}(t:Nat):kl (AX K d v) t=match d with|some d=>(bif Nat.beq d t then some v else kl K t)|none=>kl K t:=by
 cases d<;>rfl
theorem Lb.put{K:KL}{o:Oper}{v:Value}(h:Ml K o):Lb K (AX K o.dst v):=fun t u e=>by
 rw [GO]
 cases hd:o.dst with
 |none=>exact e
 |some d=>
  have hn:=h d hd
  show(bif Nat.beq d t then some v else kl K t)=some u
  cases c:Nat.beq d t with
  |false=>exact e
  |true=>rw [←Nat.eq_of_beq_eq_true c,hn]at e;cases e
theorem Ml.put{K:KL}{o o2:Oper}{v:Value}(h:Ml K o)(hne:Le o o2):Ml (AX K o2.dst v) o:=fun d hd=>by
 rw [GO]
 cases hd2:o2.dst with
 |none=>exact h d hd
 |some d2=>
  show(bif Nat.beq d2 d then some v else kl K d)=none
  cases c:Nat.beq d2 d with
  |false=>exact h d hd
  |true=>exact absurd (Nat.eq_of_beq_eq_true c).symm (hne d d2 hd hd2)
theorem JZ{K:KL}{o o2:Oper}{v v2:Value}(hne:Le o o2)(t:Nat):kl (AX (AX K o.dst v) o2.dst v2) t=kl (AX (AX K o2.dst v2) o.dst v) t:=by
 simp only [GO]
 cases hd:o.dst with
 |none=>cases o2.dst<;>rfl
 |some d=>
  cases hd2:o2.dst with
  |none=>rfl
  |some d2=>
   show(bif Nat.beq d2 t then some v2 else(bif Nat.beq d t then some v else kl K t))=(bif Nat.beq d t then some v else(bif Nat.beq d2 t then some v2 else kl K t))
   cases c:Nat.beq d2 t with
   |false=>rfl
   |true=>
    cases c2:Nat.beq d t with
    |false=>rfl
    |true=>exact absurd ((Nat.eq_of_beq_eq_true c2).trans (Nat.eq_of_beq_eq_true c).symm) (hne d d2 hd hd2)
section
variable {P:Program} {N:Nat} {ops:Array Oper} {n:Nat} {Q:Exit -> Act -> World -> Prop}
theorem DI.sub{K K':KL}{o:Oper}{w:World}{R:Value->World->Prop}(h:DI P N K o w R)(hs:Lb K K'):DI P N K' o w R:=fun a hK Kt Q hk=>h a ⟨hK.df,hK.sz,fun t v e=>hK.get t v (hs t v e)⟩ Kt Q hk
theorem DI.mono{K:KL}{o:Oper}{w:World}{R R':Value->World->Prop}(h:DI P N K o w R)(hm:∀v w',R v w'->R' v w'):DI P N K o w R':=fun a hK Kt Q hk=>h a hK Kt Q fun v w' hR=>hk v w' (hm v w' hR)
theorem Bk.sub{K K':KL}{o:Oper}{w:World}{v:Value}(h:Bk P N K o w v)(hs:Lb K K'):Bk P N K' o w v:=fun a hK w' hw=>h a ⟨hK.df,hK.sz,fun t v e=>hK.get t v (hs t v e)⟩ w' hw
def EM(ops:Array Oper):List Nat->List Nat->Array Bool->Bool
 |[],js,listed=>!(Region.ready .any ops listed).isEmpty&&(Region.ready .any ops listed).all fun x=>js.contains x
 |i::is,js,listed=>EM ops is (i::js) listed&&EM ops is js (listed.setIfInBounds i true)
def NL(ops:Array Oper)(n:Nat):List Nat->Nat->Array Bool->Bool
 |[],j,listed=>Nat.blt j n&&Region.free .any ops listed j&&(Region.ready .any ops listed).contains j
 |i::is,j,listed=>NL ops n is j listed&&NL ops n is j (listed.setIfInBounds i true)
class PB(P:outParam Program)(N:outParam Nat)(ops:outParam (Array Oper))(n:outParam Nat)(G:outParam (World->World->Prop))(B:outParam (World->Prop))(T:Nat->Array Bool->KL->World->Prop):Prop where
 refl:∀w,G w w
 ext:∀{w w2 w3},G w w2->AO w2 w3->G w w3
 trans:∀{w w2 w3},G w w2->G w2 w3->G w w3
 size:∀{w w2},G w w2->w.heap.size<=w2.heap.size
 many:∀{f listed K w} (js:List Nat),EM ops [] js listed=true->(∀j∈js,∃(o:Oper) (R:Value->World->Prop),ops[j]? =some o∧j<n∧o.guard=none∧Aw N o.dst=true∧DI P N K o w R∧∀v w',R v w'->G w w'∧T f (listed.setIfInBounds j true) (AX K o.dst v) w')->T (f+1) listed K w
 yld:∀{f listed K w} {o:Oper} {v:Value} (j:Nat),BX ops n=true->ops[j]? =some o->NL ops n [] j listed=true->o.guard=none->Aw N o.dst=true->(∀wx,B wx->Bk P N K o wx v)->T f (listed.setIfInBounds j true) (AX K o.dst v) w->T (f+1) listed K w
 perm:∀{f listed K K' w},(∀t,kl K' t=kl K t)->T f listed K w->T f listed K' w
def TH(P:Program)(N:Nat)(ops:Array Oper)(n:Nat)(Q:Exit->Act->World->Prop)(w0:World)(f:Nat)(listed:Array Bool)(K:KL)(w:World):Prop:=HL P N ops n (noPan Q) w0 f listed K w
def TG(P:Program)(N:Nat)(ops:Array Oper)(n:Nat)(Q:Exit->Act->World->Prop)(p:Nat->Prop)(w0:World)(f:Nat)(listed:Array Bool)(K:KL)(w:World):Prop:=Cc P N ops n (noPan Q) p w0 f listed K w
theorem EM.rdy{js:List Nat}{listed:Array Bool}(h:EM ops [] js listed=true):(Region.ready .any ops listed).isEmpty=false∧∀j∈Region.ready .any ops listed,j∈js:=by
 simp only [EM,Bool.and_eq_true,Bool.not_eq_true']at h
 exact⟨h.1,fun j hj=>by simpa using List.all_eq_true.1 h.2 j hj⟩
instance PB.h{w0:World}:PB P N ops n AO (fun wx=>AO w0 wx) (TH P N ops n Q w0) where
 refl:=AO.refl
 ext:=AO.trans
 trans:=AO.trans
 size:=fun h=>h.size
 many:=by
  intro f listed K w js hr h inv hx a hK
  refine HL.many rfl (EM.rdy hr).1 (fun j hj=>?_) inv hx a hK
  obtain⟨o,R,hi,hin,hg,hd,he,hk⟩:=h j ((EM.rdy hr).2 j hj)
  exact HB.eff j hi (by simp [Nat.blt];omega) (by simpa using hj) hg hd he fun v w' hR=>⟨AO.trans hx (hk v w' hR).1,(hk v w' hR).2⟩
 yld:=fun j hh hi hc hg hd h k=>HL.yld j hh hi hc hg hd (h _ (AO.refl _)) k
 perm:=fun hk h inv hx a hK=>h inv hx a ⟨hK.df,hK.sz,fun t v e=>hK.get t v (by rw [hk];exact e)⟩
instance PB.g{p:Nat->Prop}{w0:World}:PB P N ops n (AR p) (fun wx=>AR p w0 wx) (TG P N ops n Q p w0) where
 refl:=AR.refl p
 ext:=AR.ext
 trans:=fun h k=>AR.trans h k
 size:=fun h=>h.size
 many:=by
  intro f listed K w js hr h inv hx a hK
  refine Cc.many rfl (EM.rdy hr).1 (fun j hj=>?_) inv hx a hK
  obtain⟨o,R,hi,hin,hg,hd,he,hk⟩:=h j ((EM.rdy hr).2 j hj)
  exact OE.eff j hi (by simp [Nat.blt];omega) (by simpa using hj) hg hd he fun v w' hR=>⟨AR.trans hx (hk v w' hR).1,(hk v w' hR).2⟩
 yld:=fun j hh hi hc hg hd h k=>Cc.yld j hh hi hc hg hd h k
 perm:=fun hk h inv hx a hK=>h inv hx a ⟨hK.df,hK.sz,fun t v e=>hK.get t v (by rw [hk];exact e)⟩
end
section
variable (P:Program) (N:Nat) (ops:Array Oper) (n:Nat) (G:World -> World -> Prop)
structure Pd where
 i:Nat
 o:Oper
 K:KL
 lo:Nat
 V:Nat->Value
 F:Nat->World->Prop
 hi:ops[i]? =some o
 hin:i<n
 hg:o.guard=none
 hd:Aw N o.dst=true
 eff:∀wx,lo<=wx.heap.size->DI P N K o wx (fun v w'=>AO wx w'∧w'.heap.size=wx.heap.size+1∧v=V wx.heap.size∧F wx.heap.size w')
 st:∀b w w',lo<=b->F b w->G w w'->F b w'
 lt:∀b w,F b w->b<w.heap.size
def PX(T:Nat->Array Bool->KL->World->Prop):List (Pd P N ops n G)->List (Nat×Nat)->Nat->Array Bool->KL->World->Prop
 |[],_,f,listed,K,w=>T f listed K w
 |q::qs,iv,f,listed,K,w=>q.lo<=w.heap.size->Ml K q.o->Lb q.K K->KU iv w.heap.size->(∀q2∈qs,q.i≠q2.i∧Le q.o q2.o)->
  PX T qs iv (f+1) listed K w∧∀b w',AO w w'->q.lo<=b->q.F b w'->outs iv b->PX T qs ((b,b+1)::iv) f (listed.setIfInBounds q.i true) (AX K q.o.dst (q.V b)) w'
def TC(T:Nat->Array Bool->KL->World->Prop)(qs:List (Pd P N ops n G))(iv:List (Nat×Nat))(j f:Nat)(listed:Array Bool)(K:KL)(w:World):Prop:=
 ∃o:Oper,ops[j]? =some o∧j<n∧o.guard=none∧Aw N o.dst=true∧Ml K o∧(∀q∈qs,j≠q.i∧Le q.o o)∧
  ∀wx,AO w wx->∃R,DI P N K o wx R∧∀v w',R v w'->G wx w'∧∃ivj,KU ivj w'.heap.size∧(∀b,outs iv b->(b<wx.heap.size∨w'.heap.size<=b)->outs ivj b)∧PX P N ops n G T qs ivj f (listed.setIfInBounds j true) (AX K o.dst v) w'
end
section
variable {P:Program} {N:Nat} {ops:Array Oper} {n:Nat} {G:World -> World -> Prop} {B:World -> Prop} {T:Nat -> Array Bool -> KL -> World -> Prop} [hT:PB P N ops n G B T]
include hT
theorem PX.perm:∀{qs:List (Pd P N ops n G)} {iv:List (Nat×Nat)} {f:Nat} {listed:Array Bool} {K K':KL} {w:World},(∀t,kl K' t=kl K t)->PX P N ops n G T qs iv f listed K w->PX P N ops n G T qs iv f listed K' w
 |[],_,_,_,_,_,_,hk,h=>hT.perm hk h
 |q::qs,_,_,_,_,_,_,hk,h=>fun h1 h2 h3 h4 h5=>by
  obtain⟨a,b⟩:=h h1 (fun d hd=>by rw [←hk];exact h2 d hd) (fun t v e=>by rw [←hk];exact h3 t v e) h4 h5
  exact⟨PX.perm hk a,fun c w' x1 x2 x3 x4=>PX.perm (fun t=>by rw [GO,GO];split<;>simp only [hk]) (b c w' x1 x2 x3 x4)⟩
theorem PX.many:∀{qs:List (Pd P N ops n G)} {iv:List (Nat×Nat)} {f:Nat} {listed:Array Bool} {K:KL} {w:World} (js:List Nat),EM ops (qs.map fun q=>q.i) js listed=true->(∀j∈js,TC P N ops n G T qs iv j f listed K w)->PX P N ops n G T qs iv (f+1) listed K w
 |[],iv,f,listed,K,w,js,hr,h=>hT.many js hr fun j hj=>by
  obtain⟨o,hi,hin,hg,hd,_,_,he⟩:=h j hj
  obtain⟨R,e,k⟩:=he w (AO.refl w)
  refine⟨o,R,hi,hin,hg,hd,e,fun v w' hR=>?_⟩
  obtain⟨h1,ivj,_,_,h2⟩:=k v w' hR
  exact⟨h1,h2⟩
 |q::qs,iv,f,listed,K,w,js,hr,h=>fun hlo hfq hsq hh hq0=>by
  simp only [List.map_cons,EM,Bool.and_eq_true]at hr
  have tl:∀q2,q2∈qs->q2∈q::qs:=fun _ h=>List.mem_cons_of_mem _ h
  have c2:∀b w',AO w w'->q.lo<=b->q.F b w'->outs iv b->PX P N ops n G T qs ((b,b+1)::iv) (f+1) (listed.setIfInBounds q.i true) (AX K q.o.dst (q.V b)) w':=by
   intro b w' hx hb hF ho
   have hbw:=q.lt b w' hF
   refine PX.many js hr.2 fun j hj=>?_
   obtain⟨o,hi,hin,hg,hd,hfr,hne,he⟩:=h j hj
   have dq:=(hne q List.mem_cons_self).2
   refine⟨o,hi,hin,hg,hd,hfr.put dq.symm,fun q2 h2=>hne q2 (tl q2 h2),fun wx hwx=>?_⟩
   obtain⟨R,e,k⟩:=he wx (AO.trans hx hwx)
   refine⟨R,e.sub (Lb.put hfq),fun v w2 hR=>?_⟩
   obtain⟨hG,ivj,hh2,ho2,h2⟩:=k v w2 hR
   have s1:=hwx.size
   have s2:=hT.size hG
   refine⟨hG,(b,b+1)::ivj,⟨by show b+1<=w2.heap.size;omega,hh2⟩,fun b' hb' hb2=>⟨hb'.1,ho2 b' hb'.2 hb2⟩,?_⟩
   have h3:=(h2 (by have:=hx.size;omega) (hfq.put dq) (fun t u e=>Lb.put hfr t u (hsq t u e)) hh2 hq0).2 b w2 (AO.refl w2) hb (q.st b wx w2 hb (q.st b w' wx hb hF (hT.ext (hT.refl w') hwx)) hG) (ho2 b ho (.inl (by omega)))
   rw [Array.setIfInBounds_comm true true (hne q List.mem_cons_self).1]at h3
   exact PX.perm (fun t=>(JZ (o:=o) (o2:=q.o) dq.symm t).symm) h3
  refine⟨PX.many (q.i::js) hr.1 fun j hj=>?_,c2⟩
  rcases List.mem_cons.1 hj with rfl|hj
  ·refine⟨q.o,q.hi,q.hin,q.hg,q.hd,hfq,fun q2 h2=>⟨(hq0 q2 h2).1,(hq0 q2 h2).2.symm⟩,fun wx hwx=>?_⟩
   have hs:=hwx.size
   refine⟨_,(q.eff wx (by omega)).sub hsq,fun v w' ⟨r1,r2,r3,r4⟩=>?_⟩
   subst r3
   have hh3:=hh.mono hs
   exact⟨hT.ext (hT.refl wx) r1,(wx.heap.size,wx.heap.size+1)::iv,⟨by show wx.heap.size+1<=w'.heap.size;omega,hh3.mono (by omega)⟩,fun b' hb' hb2=>⟨by show b'<wx.heap.size∨wx.heap.size+1<=b';omega,hb'⟩,c2 _ w' (AO.trans hwx r1) (by omega) r4 (hh3.outs (Nat.le_refl _))⟩
  ·obtain⟨o,hi,hin,hg,hd,hfr,hne,he⟩:=h j hj
   have dq:=(hne q List.mem_cons_self).2
   refine⟨o,hi,hin,hg,hd,hfr,fun q2 h2=>hne q2 (tl q2 h2),fun wx hwx=>?_⟩
   obtain⟨R,e,k⟩:=he wx hwx
   refine⟨R,e,fun v w2 hR=>?_⟩
   obtain⟨hG,ivj,hh2,ho2,h2⟩:=k v w2 hR
   have s1:=hwx.size
   have s2:=hT.size hG
   exact⟨hG,ivj,hh2,ho2,(h2 (by omega) (hfq.put dq) (fun t u e=>Lb.put hfr t u (hsq t u e)) hh2 hq0).1⟩
theorem PX.yld:∀{qs:List (Pd P N ops n G)} {iv:List (Nat×Nat)} {f:Nat} {listed:Array Bool} {K:KL} {w:World} {o:Oper} {v:Value} (j:Nat),BX ops n=true->ops[j]? =some o->NL ops n (qs.map fun q=>q.i) j listed=true->o.guard=none->Aw N o.dst=true->Ml K o->(∀q∈qs,j≠q.i∧Le q.o o)->(∀wx,B wx->Bk P N K o wx v)->PX P N ops n G T qs iv f (listed.setIfInBounds j true) (AX K o.dst v) w->PX P N ops n G T qs iv (f+1) listed K w
 |[],_,_,_,_,_,_,_,j,hh,hi,hc,hg,hd,_,_,h,k=>hT.yld j hh hi hc hg hd h k
 |q::qs,iv,f,listed,K,w,o,v,j,hh,hi,hc,hg,hd,hfr,hne,h,k=>fun hlo hfq hsq hig0 hq0=>by
  simp only [List.map_cons,NL,Bool.and_eq_true]at hc
  have dq:=(hne q List.mem_cons_self).2
  have hne2:∀q2∈qs,j≠q2.i∧Le q2.o o:=fun q2 h2=>hne q2 (List.mem_cons_of_mem _ h2)
  have hk:=k hlo (hfq.put dq) (fun t u e=>Lb.put hfr t u (hsq t u e)) hig0 hq0
  refine⟨PX.yld j hh hi hc.1 hg hd hfr hne2 h hk.1,fun b w' hx hb hF ho=>?_⟩
  refine PX.yld j hh hi hc.2 hg hd (hfr.put dq.symm) hne2 (fun wx hB=>(h wx hB).sub (Lb.put hfq)) ?_
  ·have h2:=hk.2 b w' hx hb hF ho
   rw [Array.setIfInBounds_comm true true (hne q List.mem_cons_self).1]at h2
   exact PX.perm (fun t=>(JZ (o:=o) (o2:=q.o) dq.symm t).symm) h2
end
/-! What the walks say -/
def LA(qs:List (Nat×Option Tmp))(i:Nat)(d:Option Tmp):Bool:=qs.all fun q=>!(Nat.beq i q.1)&&(match d,q.2 with|some a,some b=>!(Nat.beq b a)|_,_=>true)
def Fi(K:KL)(d:Option Tmp):Bool:=match d with|some d=>(kl K d).isNone|none=>true
theorem Fi.h{K:KL}{o:Oper}(h:Fi K o.dst=true):Ml K o:=fun d hd=>by
 rw [hd]at h;simpa [Fi] using h
section
variable {P:Program} {N:Nat} {ops:Array Oper} {n:Nat} {G:World -> World -> Prop} {qs:List (Pd P N ops n G)} {o:Oper}
theorem LA.h{i:Nat}(h:LA (qs.map fun q=>(q.i,q.o.dst)) i o.dst=true):∀q∈qs,i≠q.i∧Le q.o o:=fun q hq=>by
 have:=List.all_eq_true.1 h (q.i,q.o.dst) (List.mem_map.2 ⟨q,hq,rfl⟩)
 simp only [Bool.and_eq_true,Bool.not_eq_true']at this
 refine⟨fun e=>?_,fun d d2 e e2 g=>?_⟩
 ·have h1:=this.1
  rw [e]at h1
  rw [Nat.beq_refl]at h1;cases h1
 ·have h2:=this.2
  rw [e,e2]at h2
  subst g
  simp [Nat.beq_refl]at h2
end
section
variable {P:Program} {N:Nat} {ops:Array Oper} {n:Nat} {G:World -> World -> Prop} {B:World -> Prop} {T:Nat -> Array Bool -> KL -> World -> Prop} [hT:PB P N ops n G B T] {qs:List (Pd P N ops n G)} {iv:List (Nat × Nat)} {f:Nat} {listed:Array Bool} {K:KL} {w:World} {o:Oper} {Q:Exit -> Act -> World -> Prop}
include hT
theorem TY{v:Value}(j:Nat)(hh:BX ops n=true)(hi:ops[j]? =some o)(hc:NL ops n (qs.map fun q=>q.i) j listed=true)(h:∀wx,B wx->Bk P N K o wx v)(k:PX P N ops n G T qs iv f (listed.setIfInBounds j true) (AX K o.dst v) w)
 (hg:o.guard=none:=by rfl) (hd:Aw N o.dst=true:=by rfl) (hf:Fi K o.dst=true:=by rfl) (hq:LA (qs.map fun q=>(q.i,q.o.dst)) j o.dst=true:=by rfl):PX P N ops n G T qs iv (f+1) listed K w:=
 PX.yld j hh hi hc hg hd (Fi.h hf) (LA.h hq) h k
theorem So{q:Pd P N ops n G}(j:Nat)(hi:ops[j]? =some o)(hc:EM ops ((q::qs).map fun q=>q.i) [j] listed=true)
 (h:∀wx,AO w wx->∃R,DI P N K o wx R∧∀v w',R v w'->G wx w'∧PX P N ops n G T (q::qs) ((wx.heap.size,w'.heap.size)::iv) f (listed.setIfInBounds j true) (AX K o.dst v) w')
 (hin:Nat.blt j n=true:=by rfl) (hg:o.guard=none:=by rfl) (hd:Aw N o.dst=true:=by rfl) (hf:Fi K o.dst=true:=by rfl) (hq:LA ((q::qs).map fun q=>(q.i,q.o.dst)) j o.dst=true:=by rfl):PX P N ops n G T (q::qs) iv (f+1) listed K w:=fun h1 h2 h3 hh h5=>
 PX.many [j] hc (fun j' hj'=>by
  obtain rfl:j'=j:=by simpa using hj'
  refine⟨o,hi,by have h0:=hin;simp [Nat.blt]at h0;omega,hg,hd,Fi.h hf,LA.h hq,fun wx hx=>?_⟩
  obtain⟨R,he,hk⟩:=h wx hx
  refine⟨R,he,fun v w' hR=>?_⟩
  obtain⟨h1,h2⟩:=hk v w' hR
  have s:=hT.size h1
  have s2:=hx.size
  exact⟨h1,(wx.heap.size,w'.heap.size)::iv,⟨Nat.le_refl _,hh.mono (by omega)⟩,fun b hb hb2=>⟨hb2,hb⟩,h2⟩) h1 h2 h3 hh h5
theorem Tf(i:Nat)(V:Nat->Value)(F:Nat->World->Prop)(hi:ops[i]? =some o)(eff:∀wx,w.heap.size<=wx.heap.size->DI P N K o wx (fun v w'=>AO wx w'∧w'.heap.size=wx.heap.size+1∧v=V wx.heap.size∧F wx.heap.size w'))(st:∀b w1 w',w.heap.size<=b->F b w1->G w1 w'->F b w')(lt:∀b w1,F b w1->b<w1.heap.size)
 (hh:KU iv w.heap.size) (hin:Nat.blt i n=true) (hg:o.guard=none) (hd:Aw N o.dst=true) (hf:Fi K o.dst=true) (hq:LA (qs.map fun q=>(q.i,q.o.dst)) i o.dst=true)
 (h:∀hin hg hd,PX P N ops n G T (⟨i,o,K,w.heap.size,V,F,hi,hin,hg,hd,eff,st,lt⟩::qs) iv f listed K w):PX P N ops n G T qs iv (f+1) listed K w:=
 (h (by have h0:=hin;simp [Nat.blt]at h0;omega) hg hd (Nat.le_refl _) (Fi.h hf) (fun _ _ e=>e) hh fun q2 h2=>⟨(LA.h hq q2 h2).1,(LA.h hq q2 h2).2.symm⟩).1
theorem TK{q:Pd P N ops n G}(hc:EM ops (qs.map fun q=>q.i) [q.i] listed=true)(k:∀b wx,AO w wx->q.lo<=b->q.F b wx->outs iv b->PX P N ops n G T qs ((b,b+1)::iv) f (listed.setIfInBounds q.i true) (AX K q.o.dst (q.V b)) wx):PX P N ops n G T (q::qs) iv f listed K w:=fun hlo hfq hsq hh hq0=>
 ⟨PX.many [q.i] hc fun j hj=>by
  obtain rfl:j=q.i:=by simpa using hj
  refine⟨q.o,q.hi,q.hin,q.hg,q.hd,hfq,fun q2 h2=>⟨(hq0 q2 h2).1,(hq0 q2 h2).2.symm⟩,fun wx hwx=>?_⟩
  have hs:=hwx.size
  refine⟨_,(q.eff wx (by omega)).sub hsq,fun v w' ⟨r1,r2,r3,r4⟩=>?_⟩
  subst r3
  have hh3:=hh.mono hs
  exact⟨hT.ext (hT.refl wx) r1,(wx.heap.size,wx.heap.size+1)::iv,⟨by show wx.heap.size+1<=w'.heap.size;omega,hh3.mono (by omega)⟩,fun b' hb' hb2=>⟨by show b'<wx.heap.size∨wx.heap.size+1<=b';omega,hb'⟩,k _ w' (AO.trans hwx r1) (by omega) r4 (hh3.outs (Nat.le_refl _))⟩,k⟩
end
section
variable {P:Program} {N:Nat} {ops:Array Oper} {n:Nat} {iv:List (Nat × Nat)} {f:Nat} {listed:Array Bool} {K:KL} {w:World} {o:Oper} {Q:Exit -> Act -> World -> Prop}
theorem IU{t:TypeId}{zs:List Value}(ho:o.op= .alloc t)(hz:Cu P t=some zs)(wx:World):DI P N K o wx (fun v w'=>AO wx w'∧w'.heap.size=wx.heap.size+1∧v= .pointer (some ⟨wx.heap.size,0,none⟩)∧Ap w' wx.heap.size zs t):=
 (AZ ho hz).mono fun v w' ⟨b,e,e1,e2,e3,e4⟩=>by subst e1;exact⟨e3,e2,e,e4⟩
theorem Ap.butA{p:Nat->Prop}{zs:List Value}{t:TypeId}(hp:∀k,p k->k<w.heap.size)(b:Nat)(w1 w':World)(hb:w.heap.size<=b)(h:Ap w1 b zs t)(hG:AR p w1 w'):Ap w' b zs t:=h.but hG fun k hk=>by have:=hp k hk;omega
theorem AC.butA{α:Type}{c:Ax α}[BU c]{p:Nat->Prop}{e:TypeId}{k:Nat}{xs:List α}(hp:∀k,p k->k<w.heap.size)(b:Nat)(w1 w':World)(hb:w.heap.size<=b)(h:AC c w1 b (Iv 0 0) e xs (.slice (some ⟨b,0,none⟩) k k))(hG:AR p w1 w'):AC c w' b (Iv 0 0) e xs (.slice (some ⟨b,0,none⟩) k k):=h.butF hG fun j hj q hq=>by
 have:b=q:=Option.some.inj hq
 have:=hp j hj
 omega
abbrev QA(b:Nat):Value:=.pointer (some ⟨b,0,none⟩)
theorem Sp{p:Nat->Prop}{w0:World}{t:TypeId}{zs:List Value}(i:Nat)(hi:ops[i]? =some o)(ho:o.op= .alloc t)(hz:Cu P t=some zs)(hp:∀k,p k->k<w.heap.size)
 (h:∀eff st lt hin hg hd,PX P N ops n (AR p) (TG P N ops n Q p w0) [⟨i,o,K,w.heap.size,QA,fun b w'=>Ap w' b zs t,hi,hin,hg,hd,eff,st,lt⟩] [] f listed K w)
 (hin:Nat.blt i n=true:=by rfl) (hg:o.guard=none:=by rfl) (hd:Aw N o.dst=true:=by rfl) (hf:Fi K o.dst=true:=by rfl):Cc P N ops n (noPan Q) p w0 (f+1) listed K w:=
 (Tf (T:=TG P N ops n Q p w0) (qs:=[]) (iv:=[]) i _ _ hi (fun wx _=>IU ho hz wx) (Ap.butA hp) (fun b w1 h=>Ap.lt h) trivial hin hg hd hf rfl (h _ _ _))
section
variable {α:Type} {c:Ax α} [BU c] {t e:TypeId} {l c2:Operand} {zs:List Value} {sz by' k:Nat} {m m':Int} {kd kd':IntKind} {z:α} (i:Nat) (hi:ops[i]? = some o) (ho:o.op = .makeSlice t l c2) (hu:P.underlying t = some (.slice e)) (hin0:CN P e = some (zs,sz,by')) (hl:Ay K l = some (.int kd m)) (hc:Ay K c2 = some (.int kd' m')) (hmm:m' = m) (hk:Nq m by' = some k) (hsz:sz = c.n) (hpos:Nat.blt 0 c.n = true) (hz:∀ w,c.rep w (Iv 0 0) z zs)
include ho hu hin0 hl hc hmm hk hsz hpos hz
end
theorem Sb{w0:World}{p:Nat->Prop}{q:Pd P N ops n (AR p)}{qs:List (Pd P N ops n (AR p))}{v:Value}(j:Nat)(hh:BX ops n=true)(hi:ops[j]? =some o)(hc:NL ops n ((q::qs).map fun q=>q.i) j listed=true)(h:∀wx,AR p w0 wx->Bk P N K o wx v)(k:PX P N ops n (AR p) (TG P N ops n Q p w0) (q::qs) iv f (listed.setIfInBounds j true) (AX K o.dst v) w)
 (hg:o.guard=none:=by rfl) (hd:Aw N o.dst=true:=by rfl) (hf:Fi K o.dst=true:=by rfl) (hq:LA ((q::qs).map fun q=>(q.i,q.o.dst)) j o.dst=true:=by rfl):PX P N ops n (AR p) (TG P N ops n Q p w0) (q::qs) iv (f+1) listed K w:=
 TY (T:=TG P N ops n Q p w0) j hh hi hc h k hg hd hf hq
theorem RB{w0:World}{p:Nat->Prop}{q:Pd P N ops n (AR p)}{qs:List (Pd P N ops n (AR p))}{Ψ:Value->Prop}(j:Nat)(hh:BX ops n=true)(hi:ops[j]? =some o)(hc:NL ops n ((q::qs).map fun q=>q.i) j listed=true)(h:YA P N K o Ψ)(k:∀v,Ψ v->PX P N ops n (AR p) (TG P N ops n Q p w0) (q::qs) iv f (listed.setIfInBounds j true) (AX K o.dst v) w)
 (hg:o.guard=none:=by rfl) (hd:Aw N o.dst=true:=by rfl) (hf:Fi K o.dst=true:=by rfl) (hq:LA ((q::qs).map fun q=>(q.i,q.o.dst)) j o.dst=true:=by rfl):PX P N ops n (AR p) (TG P N ops n Q p w0) (q::qs) iv (f+1) listed K w:=by
 obtain⟨v,h1,h2⟩:=h;exact Sb j hh hi hc (fun wx _=>h1 wx) (k v h2) hg hd hf hq
theorem PX.mapT{G:World->World->Prop}{T T':Nat->Array Bool->KL->World->Prop}(hm:∀f listed K w2,AO w w2->T f listed K w2->T' f listed K w2):∀{qs:List (Pd P N ops n G)} {iv:List (Nat×Nat)} {f:Nat} {listed:Array Bool} {K:KL} {w2:World},AO w w2->PX P N ops n G T qs iv f listed K w2->PX P N ops n G T' qs iv f listed K w2
 |[],_,_,_,_,_,hx,h=>hm _ _ _ _ hx h
 |q::qs,_,_,_,_,_,hx,h=>fun h1 h2 h3 h4 h5=>⟨PX.mapT hm hx (h h1 h2 h3 h4 h5).1,fun b w3 x1 x2 x3 x4=>PX.mapT hm (AO.trans hx x1) ((h h1 h2 h3 h4 h5).2 b w3 x1 x2 x3 x4)⟩
theorem SH{p:Nat->Prop}{w0:World}{qs:List (Pd P N ops n (AR p))}(e:AR p w0 w)(h:PX P N ops n (AR p) (TG P N ops n Q p w) qs iv f listed K w):PX P N ops n (AR p) (TG P N ops n Q p w0) qs iv f listed K w:=
 PX.mapT (fun f listed K w2 hx h inv hx2 a hK=>BD.mono (fun w3 h3=>AR.trans e h3) _ _ _ _ (h inv (AR.ext (AR.refl p w) hx) a hK)) (AO.refl w) h
/-! what was put off is done at last: a box, a slice; 1: and others are put off still -/
section
variable {K0:KL} {i lo k:Nat} {o0:Oper} {t e:TypeId} {zs:List Value} {α:Type} {c:Ax α} {z:α}
theorem RR{G:World->World->Prop}{B:World->Prop}{T:Nat->Array Bool->KL->World->Prop}[hT:PB P N ops n G B T]{qs:List (Pd P N ops n G)}{hi hin hg hd eff st lt}(hc:EM ops (qs.map fun q=>q.i) [i] listed=true)(k:∀b wx,AO w wx->(lo<=b∧b<wx.heap.size)->Ap wx b zs t->outs iv b->PX P N ops n G T qs ((b,b+1)::iv) f (listed.setIfInBounds i true) (AX K o0.dst (QA b)) wx):PX P N ops n G T (⟨i,o0,K0,lo,QA,fun b w'=>Ap w' b zs t,hi,hin,hg,hd,eff,st,lt⟩::qs) iv f listed K w:=
 TK hc fun b wx h1 h2 h3 h4=>k b wx h1 ⟨h2,Ap.lt h3⟩ h3 h4
theorem RI{p:Nat->Prop}{w0:World}{hi hin hg hd eff st lt}(hc:EM ops [] [i] listed=true)(k:∀b wx,AO w wx->(lo<=b∧b<wx.heap.size)->Ap wx b zs t->outs iv b->Cc P N ops n (noPan Q) p w0 f (listed.setIfInBounds i true) (AX K o0.dst (QA b)) wx):PX P N ops n (AR p) (TG P N ops n Q p w0) [⟨i,o0,K0,lo,QA,fun b w'=>Ap w' b zs t,hi,hin,hg,hd,eff,st,lt⟩] iv f listed K w:=RR (T:=TG P N ops n Q p w0) (qs:=[]) hc k
end
end
end Go.Eng
namespace Go.Eng
open Go Go.RowKit
/-! ## An element is put into a slice: slices.Insert -/
def RL{α:Type}(c:Ax α)(w:World)(S:Nat->Prop)(xs:List α)(cs:List Value):Prop:=cs.length=xs.length*c.n∧∀i x,xs[i]? =some x->c.rep w S x (AL cs c.n i)
section
variable {α:Type} {c:Ax α} {w w':World} {S:Nat -> Prop} {xs ys:List α} {cs ds:List Value}
theorem Gl{n p j:Nat}(h:cs.length=p*n)(hj:j<p):AL (cs++ds) n j=AL cs n j:=by
 have:(j+1)*n<=p*n:=Nat.mul_le_mul_right _ hj
 rw [Nat.add_mul]at this
 apply List.ext_getElem?
 intro q
 by_cases hq:q<n
 ·rw [AY hq,AY hq,List.getElem?_append_left (by omega)]
 ·rw [List.getElem?_eq_none (by simp [AL];omega),List.getElem?_eq_none (by simp [AL];omega)]
theorem Fy{n p j:Nat}(h:cs.length=p*n):AL (cs++ds) n (p+j)=AL ds n j:=by
 apply List.ext_getElem?
 intro q
 by_cases hq:q<n
 ·rw [AY hq,AY hq,List.getElem?_append_right (by rw [h,Nat.add_mul];omega)]
  congr 1
  rw [h,Nat.add_mul];omega
 ·rw [List.getElem?_eq_none (by simp [AL];omega),List.getElem?_eq_none (by simp [AL];omega)]
theorem RL.app(h:RL c w S xs cs)(k:RL c w S ys ds):RL c w S (xs++ys) (cs++ds):=by
 refine⟨by simp [h.1,k.1,Nat.add_mul],fun i x hx=>?_⟩
 by_cases hi:i<xs.length
 ·rw [List.getElem?_append_left hi]at hx
  rw [Gl h.1 hi];exact h.2 i x hx
 ·rw [List.getElem?_append_right (by omega)]at hx
  obtain⟨j,rfl⟩:∃j,i=xs.length+j:=⟨i-xs.length,by omega⟩
  rw [Fy h.1]
  exact k.2 j x (by rwa [show xs.length+j-xs.length=j by omega]at hx)
theorem RL.take(h:RL c w S xs cs){k:Nat}(hk:k<=xs.length):RL c w S (xs.take k) (cs.take (k*c.n)):=by
 have hm:k*c.n<=xs.length*c.n:=Nat.mul_le_mul_right _ hk
 have hl:(cs.take (k*c.n)).length=k*c.n:=by rw [List.length_take,h.1];omega
 refine⟨by rw [hl,List.length_take];congr 1;omega,fun i x hx=>?_⟩
 rw [List.getElem?_take]at hx
 split at hx
 ·rename_i hi
  have:=h.2 i x hx
  rw [←List.take_append_drop (k*c.n) cs,Gl hl hi]at this
  exact this
 ·cases hx
theorem RL.drop(h:RL c w S xs cs){k:Nat}(hk:k<=xs.length):RL c w S (xs.drop k) (cs.drop (k*c.n)):=by
 have hm:k*c.n<=xs.length*c.n:=Nat.mul_le_mul_right _ hk
 have hl:(cs.take (k*c.n)).length=k*c.n:=by rw [List.length_take,h.1];omega
 refine⟨by rw [List.length_drop,List.length_drop,h.1,Nat.sub_mul],fun i x hx=>?_⟩
 rw [List.getElem?_drop]at hx
 have:=h.2 (k+i) x hx
 rw [←List.take_append_drop (k*c.n) cs,Fy hl]at this
 exact this
theorem RL.any[BU c](h:RL c w S xs cs){w2:World}{S2:Nat->Prop}:RL c w2 S2 xs cs:=⟨h.1,fun i x hx=>BU.any (h.2 i x hx)⟩
theorem RL.one(h:RL c w S xs cs)(hp:0<c.n):∀v∈cs,v.oneCell'=true:=fun v hv=>by
 obtain⟨q,hq,rfl⟩:=List.getElem_of_mem hv
 have hi:q/c.n<xs.length:=Nat.div_lt_of_lt_mul (by rw [Nat.mul_comm,←h.1];exact hq)
 have hr:=h.2 _ _ (List.getElem?_eq_getElem hi)
 have:=List.all_eq_true.1 (c.one hr)
 refine this _ (List.mem_of_getElem? (i:=q%c.n) ?_)
 rw [AY (Nat.mod_lt _ hp),Nat.mul_comm,Nat.div_add_mod]
 exact List.getElem?_eq_getElem hq
theorem RL.row{B:Nat}{e g cap:Nat}{cur:Array Value}(hb:B<=g)(hh:w.heap[g]? =some (.cells cur e (0,0)))(hs:cur.size=cap*c.n)(hn:xs.length<=cap)(hc:cap<=maxLen)(ht:cur.toList.take (xs.length*c.n)=cs)(h:RL c w S xs cs):AC c w B S e xs (.slice (some ⟨g,0,none⟩) xs.length cap):=
 ⟨cs,⟨h.1,.inr ⟨g,cap,cur,rfl,hb,hh,hn,hc,hs,ht⟩⟩,h.2⟩
end
section
variable {P:Program} {N:Nat} {α:Type} {c:Ax α} {w:World} {B:Nat} {S:Nat -> Prop} {e:TypeId} {xs:List α} {v:Value} {o:Oper} {K:KL}
def JM(w:World)(v:Value):Prop:=∀g,v.ownBlock=some g->∃(cur:Array Value) (t:TypeId),w.heap[g]? =some (.cells cur t (0,0))
theorem AC.plain(h:AC c w B S e xs v):JM w v:=fun g hg=>by
 obtain⟨cs,⟨_,⟨rfl,_⟩|⟨g',cap,cur,rfl,_,hh,_⟩⟩,_⟩:=h
 ·cases hg
 ·obtain rfl:g'=g:=Option.some.inj hg
  exact⟨cur,e,hh⟩
theorem DI.run{R:Value->World->Prop}(h:∀a,Kn N K a->∃v' w',(execOp a.eval o).run P w= .ok (.value v') w'∧R v' w'):DI P N K o w R:=by
 intro a hK Kt Q hk
 obtain⟨v',w',hr,hR⟩:=h a hK
 unfold Oper.wp
 rw [hr]
 exact hk _ _ hR
end
end Go.Eng
namespace Go.Eng
open Go Go.RowKit
/-! ## Structs whose last field is a struct of plain fields, compared -/
section
variable {P:Program} {N:Nat} {K:KL} {o:Oper} {w:World}
end
/-! ## What stands behind an if, walked once -/
def jn{κ β:Type}(x:κ->β)(k:κ):β:=x k
theorem QR{κ ρ:Type}{x:κ->Option ρ}{k:κ}{r:ρ}(h:jn x k=some r):∃k',k'=k∧x k'=some r:=⟨k,rfl,h⟩
theorem WC.joinD{P:Program}{N:Nat}{Q0:Exit->Act->World->Prop}{fs:List Frame}{K:KL}{w:World}{c:Code}(R:Act->World->Prop)(h1:WC P N c (CW P (fun e a w=>e= .normal∧R a w) []) K w)(h2:∀a w',R a w'->CW P Q0 fs .normal a w'):WC P N c (CW P Q0 fs) K w:=WC.join R h1 h2
end Go.Eng
namespace Go.Eng
open Go Go.RowKit
/-! ## A table is written into what is only read -/
inductive LW(w':World)(T:Nat->Prop)(Z:Prop):Value->Value->Prop
 |refl (u:Value):LW w' T Z u u
 |sl (a:Option Addr) (n c:Nat) (v:Value) (xs:List Int) (hz:Z->xs.length<=1048576) (h:AD (AI .i64) w' T xs v):LW w' T Z (.slice a n c) v
def Fj(w':World)(T:Nat->Prop)(Z:Prop)(us vs:List Value):Prop:=us.length=vs.length∧∀(j:Nat) (u v:Value),us[j]? =some u->vs[j]? =some v->LW w' T Z u v
theorem Fj.refl(w':World)(T:Nat->Prop)(Z:Prop)(us:List Value):Fj w' T Z us us:=⟨rfl,fun j u v h k=>by rw [h]at k;obtain rfl:=Option.some.inj k;exact .refl _⟩
theorem Fj.one{w':World}{T:Nat->Prop}{Z:Prop}{u:Value}{vs:List Value}(h:Fj w' T Z [u] vs):∃v,vs=[v]∧LW w' T Z u v:=by
 obtain⟨v,rfl⟩:=List.length_eq_one_iff.1 h.1.symm
 exact⟨v,rfl,h.2 0 u v rfl rfl⟩
theorem Fj.app{w':World}{T:Nat->Prop}{Z:Prop}{us ts vs:List Value}(h:Fj w' T Z (us++ts) vs):∃vs1 vs2,vs=vs1++vs2∧Fj w' T Z us vs1∧Fj w' T Z ts vs2:=by
 obtain⟨h1,h2⟩:=h
 rw [List.length_append]at h1
 refine⟨vs.take us.length,vs.drop us.length,(List.take_append_drop _ _).symm,⟨by simp;omega,fun j u v hu hv=>?_⟩,⟨by simp;omega,fun j u v hu hv=>?_⟩⟩
 ·have hj:=(List.getElem?_eq_some_iff.1 hu).1
  rw [List.getElem?_take,if_pos hj]at hv
  exact h2 j u v (by rw [List.getElem?_append_left hj];exact hu) hv
 ·rw [List.getElem?_drop]at hv
  exact h2 (us.length+j) u v (by rw [List.getElem?_append_right (by omega),Nat.add_sub_cancel_left];exact hu) hv
structure Fh(b:Nat)(T:Nat->Prop)(Z:Prop)(w w':World):Prop where
 upd:Dd b w w'
 cell:∀d off u,w.cell? ⟨d,off,none⟩=some u->∃u',w'.cell? ⟨d,off,none⟩=some u'∧LW w' T Z u u'
 froz:∀d off,w.frozen? ⟨d,off,none⟩=false->w'.frozen? ⟨d,off,none⟩=false
 row:∀cur ty fz,w.heap[b]? =some (.cells cur ty fz)->∃cur',w'.heap[b]? =some (.cells cur' ty fz)∧cur'.size=cur.size
theorem AJ.tur{c:Nat}{T:Nat->Prop}{Z:Prop}{w w':World}(hs:Fh c T Z w w'){b:Nat}:∀{us:List Value} {off:Nat},AJ w b off us->∃us',Fj w' T Z us us'∧AJ w' b off us'
 |[],off,_=>⟨[],Fj.refl _ _ _ _,fun j u h=>by simp at h⟩
 |u::us,off,h=>by
  obtain⟨⟨h1,h2⟩,h3⟩:=h.cons
  obtain⟨us',⟨k1,k2⟩,k3⟩:=AJ.tur hs h3
  obtain⟨u',h4,h5⟩:=hs.cell b off u h1
  refine⟨u'::us',⟨by simp [k1],fun j x y hx hy=>?_⟩,AJ.mk ⟨h4,hs.froz b off h2⟩ k3⟩
  cases j with
  |zero=>obtain rfl:u=x:=by simpa using hx
         obtain rfl:u'=y:=by simpa using hy
         exact h5
  |succ j=>exact k2 j x y (by simpa using hx) (by simpa using hy)
class Js{α:Type}(c:Ax α)(p:outParam (α->Prop)):Prop where
 sim:∀{b:Nat} {w w':World} {S T:Nat->Prop} {Z:Prop} {x:α} {vs vs':List Value},c.rep w S x vs->Fh b T Z w w'->(∀k,T k->S k)->Fj w' T Z vs vs'->∃x',(Z->p x->p x')∧c.rep w' S x' vs'
class GW{α:Type}(c:Ax α)(p:outParam (α->Prop)):Prop where
 sim:∀{b:Nat} {w w':World} {S T:Nat->Prop} {Z:Prop} {x:α} {vs:List Value},c.rep w S x vs->Fh b T Z w w'->(∀k,T k->S k)->∃x',(Z->p x->p x')∧c.rep w' S x' vs
instance {α:Type}(c:Ax α)(p:α->Prop)[h:Js c p]:GW c p:=⟨fun a b k=>h.sim a b k (Fj.refl _ _ _ _)⟩
instance (k:IntKind):Js (AI k) (fun _=>True):=⟨fun e _ _ h=>by
 obtain rfl:=e;obtain⟨v,rfl,h2⟩:=h.one
 cases h2;exact⟨_,fun _ _=>trivial,rfl⟩⟩
instance {α β:Type}(c:Ax α)(d:Ax β)(p:α->Prop)(q:β->Prop)[hc:Js c p][hd:Js d q]:Js (BP c d) (fun x=>p x.1∧q x.2):=⟨fun⟨us,ts,e,h1,h2⟩ hs k h=>by
 subst e;obtain⟨vs1,vs2,rfl,k1,k2⟩:=h.app
 obtain⟨x,a0,a⟩:=hc.sim h1 hs k k1
 obtain⟨y,b0,b⟩:=hd.sim h2 hs k k2
 exact⟨(x,y),fun z hp=>⟨a0 z hp.1,b0 z hp.2⟩,vs1,vs2,rfl,a,b⟩⟩
theorem Js.map{α β:Type}{c:Ax α}{p:α->Prop}[hc:Js c p]{q:β->Prop}(f:β->α)(g:α->β)(h:∀y,f (g y)=y)(hq:∀y,q y↔p (f y)):Js (DC f c) q:=⟨fun k hs hk hv=>by
 obtain⟨y,a0,a⟩:=hc.sim k hs hk hv
 exact⟨g y,fun z hp=>by rw [hq,h];exact a0 z ((hq _).1 hp),by show c.rep _ _ (f (g y)) _;rw [h];exact a⟩⟩
instance {α β:Type}(c:Ax α)(d:Ax β)(p:α->Prop)(q:β->Prop)[hc:GW c p][hd:GW d q]:GW (BP c d) (fun x=>p x.1∧q x.2):=⟨fun⟨us,ts,e,h1,h2⟩ hs k=>by
 obtain⟨x,a0,a⟩:=hc.sim h1 hs k
 obtain⟨y,b0,b⟩:=hd.sim h2 hs k
 exact⟨(x,y),fun z hp=>⟨a0 z hp.1,b0 z hp.2⟩,us,ts,e,a,b⟩⟩
theorem GW.map{α β:Type}{c:Ax α}{p:α->Prop}[hc:GW c p]{q:β->Prop}(f:β->α)(g:α->β)(h:∀y,f (g y)=y)(hq:∀y,q y↔p (f y)):GW (DC f c) q:=⟨fun k hs hk=>by
 obtain⟨y,a0,a⟩:=hc.sim k hs hk
 exact⟨g y,fun z hp=>by rw [hq,h];exact a0 z ((hq _).1 hp),by show c.rep _ _ (f (g y)) _;rw [h];exact a⟩⟩
theorem List.picks{α:Type}{r:Nat->α->Prop}:∀{n s:Nat},(∀i,i<n->∃y,r (s+i) y)->∃ys:List α,ys.length=n∧∀(i:Nat) (y:α),ys[i]? =some y->r (s+i) y
 |0,s,_=>⟨[],rfl,fun i y h=>by simp at h⟩
 |n+1,s,h=>by
  obtain⟨y,hy⟩:=h 0 (by omega)
  obtain⟨ys,h1,h2⟩:=List.picks (r:=r) (n:=n) (s:=s+1) fun i hi=>by
   have:=h (i+1) (by omega)
   rwa [show s+(i+1)=s+1+i by omega]at this
  refine⟨y::ys,by simp [h1],fun i a ha=>?_⟩
  cases i with
  |zero=>obtain rfl:y=a:=by simpa using ha
         exact hy
  |succ i=>have:=h2 i a (by simpa using ha)
           rwa [show s+1+i=s+(i+1) by omega]at this
def Jk{α:Type}(p:α->Prop)(xs:List α):Prop:=xs.length<=1048576∧∀x∈xs,p x
theorem Jk.picked{α:Type}{p:α->Prop}{Z:Prop}{xs ys:List α}(hl:ys.length=xs.length)(h:∀(i:Nat) (y:α),ys[i]? =some y->∃x∈xs,Z->p x->p y):Z->Jk p xs->Jk p ys:=fun z ⟨a,b⟩=>⟨by omega,fun y hy=>by
 obtain⟨i,hi⟩:=List.mem_iff_getElem?.1 hy
 obtain⟨x,hx,k⟩:=h i y hi
 exact k z (b x hx)⟩
theorem AD.tur{α:Type}{c:Ax α}{p:α->Prop}[hc:Js c p]{b:Nat}{w w':World}{S T:Nat->Prop}{Z:Prop}{xs:List α}{v:Value}(h:AD c w S xs v)(hs:Fh b T Z w w')(hT:∀k,T k->S k):∃ys,(Z->Jk p xs->Jk p ys)∧AD c w' S ys v:=by
 obtain⟨a,cap,h1,h2,h3,h4⟩:=h
 by_cases hl:0<xs.length
 ·obtain⟨d,off,h5,h6,h8⟩:=h4 hl
  obtain⟨ys,k1,k2⟩:=List.picks (r:=fun i y=>(∃x∈xs,Z->p x->p y)∧∃us,c.rep w' S y us∧AJ w' d (off+i*c.n) us) (n:=xs.length) (s:=0) fun i hi=>by
   obtain⟨us,h9,h10⟩:=h8 i _ (List.getElem?_eq_getElem hi)
   obtain⟨us',q1,q2⟩:=h10.tur hs
   obtain⟨y,p0,p1⟩:=hc.sim h9 hs hT q1
   exact⟨y,⟨_,List.getElem_mem hi,p0⟩,us',p1,by rw [Nat.zero_add];exact q2⟩
  refine⟨ys,Jk.picked k1 (fun i y hy=>(k2 i y hy).1),a,cap,by rw [k1];exact h1,by rw [k1];exact h2,h3,fun _=>⟨d,off,h5,h6,fun i y hy=>?_⟩⟩
  have:=(k2 i y hy).2
  rwa [Nat.zero_add]at this
 ·obtain rfl:xs=[]:=List.eq_nil_of_length_eq_zero (by omega)
  exact⟨[],fun _ h=>h,a,cap,h1,h2,h3,fun h=>absurd h hl⟩
instance:Js (Fp (AI .i64)) (Jk fun _=>True):=⟨fun⟨v,e,h⟩ hs hT k=>by
 subst e;obtain⟨v',rfl,k2⟩:=k.one
 cases k2 with
 |refl=>obtain⟨ys,p0,p⟩:=h.tur hs hT;exact⟨ys,p0,_,rfl,p⟩
 |sl a n c _ xs hz hx=>exact⟨xs,fun z _=>⟨hz z,fun _ _=>trivial⟩,_,rfl,hx.mono hT (fun _ _=>rfl)⟩⟩
instance {α:Type}(c:Ax α)(p:α->Prop)[Js c p]:GW (Fp c) (Jk p):=⟨fun⟨v,e,h⟩ hs hT=>by
 obtain⟨ys,p0,p⟩:=h.tur hs hT;exact⟨ys,p0,v,e,p⟩⟩
theorem AC.tur{α:Type}{c:Ax α}{p:α->Prop}[hc:GW c p]{b B:Nat}{w w':World}{S T:Nat->Prop}{Z:Prop}{e:TypeId}{xs:List α}{v:Value}(h:AC c w B S e xs v)(hs:Fh b T Z w w')(hT:∀k,T k->S k)(hb:∀g,v.ownBlock=some g->g≠b):∃ys,(Z->Jk p xs->Jk p ys)∧AC c w' B S e ys v:=by
 obtain⟨cs,h1,h2⟩:=h
 obtain⟨ys,k1,k2⟩:=List.picks (r:=fun i y=>(∃x∈xs,Z->p x->p y)∧c.rep w' S y (AL cs c.n i)) (n:=xs.length) (s:=0) fun i hi=>by
  obtain⟨y,p0,p1⟩:=hc.sim (h2 i _ (List.getElem?_eq_getElem hi)) hs hT
  exact⟨y,⟨_,List.getElem_mem hi,p0⟩,by rw [Nat.zero_add];exact p1⟩
 refine⟨ys,Jk.picked k1 (fun i y hy=>(k2 i y hy).1),cs,by rw [k1];exact ownsRow.keep h1 (fun g hg=>hs.upd.block g (hb g hg)),fun i y hy=>?_⟩
 have:=(k2 i y hy).2
 rwa [Nat.zero_add]at this
class LN{α:Type}(c:Ax α):Prop where
 out:∀{w:World} {S:Nat->Prop} {x:α} {us:List Value},c.rep w S x us->∀u∈us,∀a n k,u≠ .slice a n k
instance (k:IntKind):LN (AI k):=⟨fun e u h a n q=>by obtain rfl:=e;obtain rfl:=List.mem_singleton.1 h;exact fun e=>by cases e⟩
instance:LN DL:=⟨fun e u h a n q=>by obtain rfl:=e;obtain rfl:=List.mem_singleton.1 h;exact fun e=>by cases e⟩
instance:LN CT:=⟨fun e u h a n q=>by obtain rfl:=e;obtain rfl:=List.mem_singleton.1 h;exact fun e=>by cases e⟩
instance {α β:Type}(c:Ax α)(d:Ax β)[hc:LN c][hd:LN d]:LN (BP c d):=⟨fun⟨us,ts,e,h1,h2⟩ u h=>by
 subst e;rcases List.mem_append.1 h with h|h
 ·exact hc.out h1 u h
 ·exact hd.out h2 u h⟩
instance {α β:Type}(f:β->α)(c:Ax α)[hc:LN c]:LN (DC f c):=⟨fun h=>hc.out h⟩
theorem AC.turF{α:Type}{c:Ax α}[BU c][hn:LN c]{b B:Nat}{w w':World}{T:Nat->Prop}{Z:Prop}{e:TypeId}{xs:List α}{v:Value}(h:AC c w B (Iv 0 0) e xs v)(hs:Fh b T Z w w'):AC c w' B (Iv 0 0) e xs v:=by
 obtain⟨cs,h1,h2⟩:=h
 refine⟨cs,?_,fun i x hx=>BU.any (h2 i x hx)⟩
 obtain⟨hl,⟨rfl,hn0⟩|⟨g,cap,cur,rfl,hb,hh,h5,h6,h7,h8⟩⟩:=h1
 ·exact⟨hl,.inl ⟨rfl,hn0⟩⟩
 ·by_cases e2:g=b
  ·subst e2
   obtain⟨cur',hh',hsz⟩:=hs.row cur e (0,0) hh
   refine⟨hl,.inr ⟨g,cap,cur',rfl,hb,hh',h5,h6,by rw [hsz];exact h7,?_⟩⟩
   apply List.ext_getElem?
   intro j
   rw [List.getElem?_take]
   by_cases hj:j<xs.length*c.n
   ·have hjc:j<cs.length:=by omega
    have hcj:cur[j]? =some cs[j]:=by
     have h9:=congrArg (fun l=>l[j]?) h8
     simp only [List.getElem?_take,hj,if_true,Array.getElem?_toList]at h9
     rw [h9,List.getElem?_eq_getElem hjc]
    obtain⟨u',k1,k2⟩:=hs.cell g j _ (by rw [cell_of_row w g j cur e (0,0) hh];exact hcj)
    rw [cell_of_row w' g j cur' e (0,0) hh']at k1
    have hp:0<c.n:=by
     rcases Nat.eq_zero_or_pos c.n with h|h
     ·rw [h,Nat.mul_zero]at hj;omega
     ·exact h
    have hi:j/c.n<xs.length:=Nat.div_lt_of_lt_mul (by rw [Nat.mul_comm];exact hj)
    have hm:cs[j]∈AL cs c.n (j/c.n):=by
     refine List.mem_iff_getElem?.2 ⟨j%c.n,?_⟩
     unfold AL
     rw [List.getElem?_take,if_pos (Nat.mod_lt _ hp),List.getElem?_drop,show j/c.n*c.n+j%c.n=j by rw [Nat.mul_comm];exact Nat.div_add_mod j c.n,List.getElem?_eq_getElem hjc]
    have h10:=hn.out (h2 _ _ (List.getElem?_eq_getElem hi)) _ hm
    rw [if_pos hj,Array.getElem?_toList,k1,List.getElem?_eq_getElem hjc]
    generalize cs[j]=z at*
    cases k2 with
    |refl=>rfl
    |sl a n k=>exact absurd rfl (h10 a n k)
   ·rw [if_neg hj,List.getElem?_eq_none (by omega)]
  ·exact⟨hl,.inr ⟨g,cap,cur,rfl,hb,(hs.upd.block g e2).trans hh,h5,h6,h7,h8⟩⟩
theorem QK{p:Value->Prop}{x y z:Value}(h1:p x)(h2:p y)(h3:p z):∀v∈[x,y,z],p v:=fun v h=>by
 simp only [List.mem_cons,List.not_mem_nil,or_false]at h
 rcases h with rfl|rfl|rfl
 ·exact h1
 ·exact h2
 ·exact h3
theorem AD.isS{α:Type}{c:Ax α}{w:World}{S:Nat->Prop}{xs:List α}{v:Value}(h:AD c w S xs v):∃a n k,v= .slice a n k:=by obtain⟨a,cap,h1,_⟩:=h;exact⟨a,_,cap,h1⟩
section
variable {P:Program} {N:Nat} {o:Oper} {K:KL} {w:World}
theorem Qx{α:Type}{c:Ax α}{w1:World}{S S1:Nat->Prop}{e:TypeId}{xs:List α}{v:Value}{y:α}{t:Nat}{k:IntKind}{m:Int}(h:Jh K o.op=some (t,v,k,m))(hu:P.underlying t=some (.slice e))(hc:Am P e=some c.n)(hs:AD c w S xs v)(hs1:AD c w1 S1 xs v)(hg:AS xs m=some y):
 YE P N K o w (fun u=>∃b off us,u= .pointer (some ⟨b,off,none⟩)∧(S b∧S1 b)∧c.rep w S y us∧AJ w b off us):=by
 obtain⟨x,i,ho,hx,hi⟩:=Ip h
 obtain⟨a,cap,rfl,h2,h3,h4⟩:=hs
 obtain⟨a',cap',e1,_,_,h4'⟩:=hs1
 obtain⟨g0,g1,g2⟩:=Cz hg
 obtain⟨b,off,rfl,h5,h7⟩:=h4 (by omega)
 obtain⟨b',off',e2,h5',_⟩:=h4' (by omega)
 injection e1 with e1;rw [e2]at e1;injection e1 with e1;injection e1 with e1
 obtain⟨us,h8,h9⟩:=h7 _ _ g2
 exact⟨_,CU ho hu hc hx hi g0 g1,b,_,us,rfl,⟨h5,e1▸h5'⟩,h8,h9⟩
theorem GU{b off:Nat}:∀(news us:List Value) (i:Nat) (w:World),AJ w b (off+i) us->us.length=news.length->(∀v∈news,v.oneCell'=true)->
 ∃w',(storeCells ⟨b,off,none⟩ news i).run P w= .ok () w'∧Dd b w w'∧(∀d q,d≠b∨q<off+i∨off+i+news.length<=q->w'.cell? ⟨d,q,none⟩=w.cell? ⟨d,q,none⟩)∧
  (∀k v,news[k]? =some v->w'.cell? ⟨b,off+i+k,none⟩=some v)∧(∀d q,w.frozen? ⟨d,q,none⟩=false->w'.frozen? ⟨d,q,none⟩=false)∧(∀cur ty fz,w.heap[b]? =some (.cells cur ty fz)->∃cur',w'.heap[b]? =some (.cells cur' ty fz)∧cur'.size=cur.size)
 |[],us,i,w,_,_,_=>⟨w,by simp [storeCells],⟨rfl,rfl,rfl,rfl,fun _ _=>rfl⟩,fun _ _ _=>rfl,fun k v h=>by simp at h,fun _ _ h=>h,fun cur ty fz h=>⟨cur,h,rfl⟩⟩
 |v::news,[],i,w,_,hl,_=>by simp at hl
 |v::news,u0::us,i,w,hcl,hl,h1=>by
  obtain⟨⟨hcell,hfro⟩,hrest⟩:=hcl.cons
  obtain⟨cur,ty,fz,hrow,hcur⟩:∃cur ty fz,w.heap[b]? =some (.cells cur ty fz)∧cur[off+i]? =some u0:=by
   unfold World.cell? at hcell
   split at hcell
   ·rename_i cur ty fz hrow
    exact⟨cur,ty,fz,hrow,by simpa using hcell⟩
   ·cases hcell
  have hsz:=(Array.getElem?_eq_some_iff.1 hcur).1
  have hu2:=Dd.setRow w b (cur.setIfInBounds (off+i) v)
  have hrow2:=setRow_heap w b cur (cur.setIfInBounds (off+i) v) ty fz hrow
  have hcs:∀d q,d≠b∨q≠off+i->(w.setRow b (cur.setIfInBounds (off+i) v)).cell? ⟨d,q,none⟩=w.cell? ⟨d,q,none⟩:=fun d q hd=>by
   by_cases e:d=b
   ·subst e
    rw [cell_of_row w d q cur ty fz hrow,cell_of_row _ d q _ ty fz hrow2,Array.getElem?_setIfInBounds_ne (by omega)]
   ·exact World.cell?_of_block (w:=w) (hu2.block d e)
  have hfs:∀d q,(w.setRow b (cur.setIfInBounds (off+i) v)).frozen? ⟨d,q,none⟩=w.frozen? ⟨d,q,none⟩:=fun d q=>by
   by_cases e:d=b
   ·subst e;simp only [World.frozen?,hrow,hrow2]
   ·exact Bt (hu2.block d e)
  obtain⟨w2,r1,r2,r3,r4,r5,r6⟩:=GU news us (i+1) (w.setRow b (cur.setIfInBounds (off+i) v)) (fun j x hx=>by
   obtain⟨a1,a2⟩:=hrest j x hx
   rw [show off+(i+1)+j=off+i+1+j by omega]
   exact⟨by rw [hcs _ _ (.inr (by omega))];exact a1,by rw [hfs];exact a2⟩) (by simpa using hl) (fun x hx=>h1 x (List.mem_cons_of_mem _ hx))
  refine⟨w2,?_,⟨r2.os.trans hu2.os,r2.tape.trans hu2.tape,r2.output.trans hu2.output,r2.size.trans hu2.size,fun k hk=>(r2.block k hk).trans (hu2.block k hk)⟩,fun d q hd=>?_,fun k x hx=>?_,fun d q h=>r5 d q (by rw [hfs];exact h),fun c0 t0 f0 h0=>?_⟩
  ·have hadd:(⟨b,off,none⟩:Addr).add i=⟨b,off+i,none⟩:=by simp [Addr.add]
   simp only [storeCells,Sem.run_bind,hadd]
   rw [run_store P w _ v _ (h1 v List.mem_cons_self),hcell]
   simp [hfro,setCell_eq_setRow w b (off+i) cur ty fz v hrow]
   exact r1
  ·rw [List.length_cons]at hd
   rw [r3 d q (by omega),hcs d q (by omega)]
  ·cases k with
   |zero=>
    obtain rfl:v=x:=by simpa using hx
    rw [r3 b (off+i+0) (.inr (.inl (by omega))),cell_of_row _ b _ _ ty fz hrow2]
    simp [hsz]
   |succ k=>
    have:=r4 k x (by simpa using hx)
    rwa [show off+(i+1)+k=off+i+(k+1) by omega]at this
  ·rw [hrow]at h0
   injection h0 with h0;injection h0 with e1 e2 e3
   subst e1 e2 e3
   obtain⟨cur',a1,a2⟩:=r6 _ _ _ hrow2
   exact⟨cur',a1,by rw [a2];simp⟩
theorem Me{t b off:Nat}{us:List Value}{u:Value}{T:Nat->Prop}{Z:Prop}(h:Qn K o.op=some (t,b,off,u))(hcl:AJ w b off us)(hus:∀x∈us,∃a n c,x= .slice a n c)
 (hn:Am P t=some u.cells.toList.length) (hl:us.length=u.cells.toList.length) (h1:u.cells.toList.all Value.oneCell'=true) (hv:∀x∈u.cells.toList,∃xs:List Int,(Z->xs.length<=1048576)∧AD (AI .i64) w T xs x) (hT:∀k,T k->k≠b):
 DI P N K o w (fun _ w'=>Fh b T Z w w'):=by
 obtain⟨x,y,ho,hx,hy⟩:=Kw h
 intro a hK Kt Q hk
 obtain⟨ti,hi,hsz⟩:=Option.map_eq_some_iff.1 hn
 obtain⟨w2,hst,r2,r3,r4,r5,r6⟩:=GU (P:=P) (b:=b) (off:=off) u.cells.toList us 0 w hcl hl (List.all_eq_true.1 h1)
 have hr:(execOp a.eval o).run P w= .ok .skip w2:=by
  simp [execOp,ho,hK.ev hx,hK.ev hy,Instr.storeAt,Instr.sureAddr,storeVar,Sem.run_bind,sizeOf,typeInfo,hi,hsz]at hst ⊢
  rw [hst]
  simp
 unfold Oper.wp
 rw [hr]
 refine hk _ _ ⟨r2,fun d q z hz=>?_,r5,r6⟩
 by_cases e:d=b∧off<=q∧q<off+u.cells.toList.length
 ·obtain⟨rfl,e1,e2⟩:=e
  have hq:q-off<u.cells.toList.length:=by omega
  have h4:=r4 (q-off) _ (List.getElem?_eq_getElem hq)
  rw [show off+0+(q-off)=q by omega]at h4
  refine⟨_,h4,?_⟩
  have hq2:q-off<us.length:=by omega
  have h6:=(hcl (q-off) _ (List.getElem?_eq_getElem hq2)).1
  rw [show off+(q-off)=q by omega,hz]at h6
  obtain⟨a1,n1,c1,h7⟩:=hus _ (List.getElem_mem hq2)
  obtain⟨xs,hz8,h8⟩:=hv _ (List.getElem_mem hq)
  rw [Option.some.inj h6,h7]
  exact .sl _ _ _ _ xs hz8 (h8.mono (fun _ k=>k) (fun k hk2=>r2.block k (hT k hk2)))
 ·exact⟨z,by rw [r3 d q (by omega)];exact hz,.refl _⟩
end
/-! ## Cells of which the slices are their own -/
theorem AC.lift{α:Type}{c:Ax α}{w:World}{B:Nat}{S:Nat->Prop}{e:TypeId}{xs:List α}{u:Value}(h:AC c w 0 S e xs u)(hb:∀g,u.ownBlock=some g->B<=g):AC c w B S e xs u:=by
 obtain⟨cs,⟨h1,h2⟩,h3⟩:=h
 refine⟨cs,⟨h1,?_⟩,h3⟩
 rcases h2 with h2|⟨g,cap,cur,rfl,hg,rest⟩
 ·exact .inl h2
 ·exact .inr ⟨g,cap,cur,rfl,hb g rfl,rest⟩
theorem AC.cod{α:Type}{c c':Ax α}{w:World}{B:Nat}{S S':Nat->Prop}{e:TypeId}{xs:List α}{u:Value}(h:AC c w B S e xs u)(hn:c.n=c'.n)(hw:∀x vs,c.rep w S x vs->c'.rep w S' x vs):AC c' w B S' e xs u:=by
 obtain⟨cs,h1,h2⟩:=h
 exact⟨cs,by rw [←hn];exact h1,fun i x hx=>hw x _ (by rw [←hn];exact h2 i x hx)⟩
def KB{α β γ:Type}(cP:Ax α)(eP:TypeId)(cA:Ax β)(eA:TypeId)(cT:Ax γ)(eT:TypeId):Ax (List α×List β×List γ) where
 n:=3
 rep:=fun w S x vs=>∃u v t la lb,vs=[u,v,t]∧AC cP w 0 (Iv 0 0) eP x.1 u∧AC cA w la (SX la lb v) eA x.2.1 v∧AC cT w 0 (Iv 0 0) eT x.2.2 t∧
  (∀g,u.ownBlock=some g->S g)∧(Bd v la lb∧∀k,la<=k->k<lb->S k)∧(∀g,t.ownBlock=some g->S g)∧Ns u la lb∧Ns t la lb∧
  (∀g q,v.ownBlock=some g->u.ownBlock=some q->g≠q)∧(∀g q,t.ownBlock=some g->u.ownBlock=some q->g≠q)∧(∀g q,t.ownBlock=some g->v.ownBlock=some q->g≠q)
 len:=fun⟨u,v,t,_,_,e,_⟩=>by rw [e];rfl
 one:=fun⟨u,v,t,_,_,e,h1,h2,h3,_⟩=>by rw [e];simp [List.all_cons,AC.one h1,AC.one h2,AC.one h3]
 mono:=fun⟨u,v,t,la,lb,e,h1,h2,h3,a1,⟨a2,a4⟩,a3,n⟩ hS hk=>⟨u,v,t,la,lb,e,h1.keep (fun g hg=>hk g (a1 g hg)) (fun _ k=>k) (fun k q=>absurd q.2 (Nat.not_lt_zero k)),
  h2.keep (fun g hg=>hk g (a4 g (a2 g hg).1 (a2 g hg).2)) (fun _ q=>q) (fun k q=>hk k (a4 k q.1 q.2.1)),h3.keep (fun g hg=>hk g (a3 g hg)) (fun _ k=>k) (fun k q=>absurd q.2 (Nat.not_lt_zero k)),
  fun g hg=>hS g (a1 g hg),⟨a2,fun k h1 h2=>hS k (a4 k h1 h2)⟩,fun g hg=>hS g (a3 g hg),n⟩
section
variable {α β γ:Type} {cP:Ax α} {eP:TypeId} {cA:Ax β} {eA:TypeId} {cT:Ax γ} {eT:TypeId} {w:World} {xs:List α} {ys:List β} {zs:List γ} {u v t:Value} {B B2 B3 lo hi hi2:Nat}
theorem Cx(F:AC cP w B (Iv 0 0) eP xs u)(G:AC cA w B2 (SX B2 hi2 v) eA ys v)(E:AC cT w B3 (Iv 0 0) eT zs t)(hu:Bd u lo hi)(hv:Bd v B2 hi2)(ht:Bd t lo hi)(h2:lo<=B2∧hi2<=hi)(m1:Ns u B2 hi2)(m2:Ns t B2 hi2)
 (n1:∀g q,v.ownBlock=some g->u.ownBlock=some q->g≠q) (n2:∀g q,t.ownBlock=some g->u.ownBlock=some q->g≠q) (n3:∀g q,t.ownBlock=some g->v.ownBlock=some q->g≠q):
 (KB cP eP cA eA cT eT).rep w (Iv lo hi) (xs,ys,zs) [u,v,t]:=
 ⟨u,v,t,B2,hi2,rfl,AC.base F (Nat.zero_le _),G,AC.base E (Nat.zero_le _),hu,⟨hv,fun k h1 h3=>⟨Nat.le_trans h2.1 h1,Nat.lt_of_lt_of_le h3 h2.2⟩⟩,ht,m1,m2,n1,n2,n3⟩
theorem Jj{S:Nat->Prop}{x:List α×List β×List γ}{vs:List Value}(h:(KB cP eP cA eA cT eT).rep w S x vs)(hS:∀k,S k->lo<=k∧k<hi)(hl:lo<=hi):∃u v t la lb,vs=[u,v,t]∧AC cP w lo (Iv 0 0) eP x.1 u∧AC cA w la (SX la lb v) eA x.2.1 v∧AC cT w lo (Iv 0 0) eT x.2.2 t∧Bd u lo hi∧Bd v la lb∧Bd t lo hi∧(lo<=la∧la<=lb∧lb<=hi)∧Ns u la lb∧Ns t la lb∧
 (∀g q,v.ownBlock=some g->u.ownBlock=some q->g≠q)∧(∀g q,t.ownBlock=some g->u.ownBlock=some q->g≠q)∧(∀g q,t.ownBlock=some g->v.ownBlock=some q->g≠q):=by
 obtain⟨u,v,t,la,lb,rfl,h1,h2,h3,a1,⟨a2,a4⟩,a3,m1,m2,n⟩:=h
 by_cases hlb:la<lb
 ·have b1:=hS _ (a4 la (Nat.le_refl _) hlb)
  have b2:=hS _ (a4 (lb-1) (by omega) (by omega))
  exact⟨u,v,t,la,lb,rfl,h1.lift (fun g hg=>(hS g (a1 g hg)).1),h2,h3.lift (fun g hg=>(hS g (a3 g hg)).1),fun g hg=>hS g (a1 g hg),a2,fun g hg=>hS g (a3 g hg),⟨b1.1,by omega,by omega⟩,m1,m2,n⟩
 ·have no:∀g,v.ownBlock≠some g:=fun g hg=>by have:=a2 g hg;omega
  refine⟨u,v,t,lo,lo,rfl,h1.lift (fun g hg=>(hS g (a1 g hg)).1),?_,h3.lift (fun g hg=>(hS g (a3 g hg)).1),fun g hg=>hS g (a1 g hg),fun g hg=>absurd hg (no g),fun g hg=>hS g (a3 g hg),⟨Nat.le_refl _,Nat.le_refl _,hl⟩,fun g _=>by omega,fun g _=>by omega,n⟩
  exact((AC.base h2 (Nat.zero_le _)).lift (fun g hg=>absurd hg (no g))).keep (fun _ _=>rfl) (fun k q=>absurd q.2.1 (by have:=q.1;omega)) (fun _ _=>rfl)
theorem Jf[BU cP][BU cT]{S:Nat->Prop}{x:List α×List β×List γ}{vs:List Value}(h:(KB cP eP cA eA cT eT).rep w S x vs):∃u v t,vs=[u,v,t]∧AD cP w S x.1 u∧AD cA w S x.2.1 v∧AD cT w S x.2.2 t:=by
 obtain⟨u,v,t,la,lb,rfl,h1,h2,h3,a1,⟨a2,a4⟩,a3,_⟩:=h
 exact⟨u,v,t,rfl,h1.slG (fun k q=>absurd q.2 (Nat.not_lt_zero k)) a1,h2.slG (fun k q=>a4 k q.1 q.2.1) (fun g hg=>a4 g (a2 g hg).1 (a2 g hg).2),h3.slG (fun k q=>absurd q.2 (Nat.not_lt_zero k)) a3⟩
theorem AC.weak{δ:Type}{c c':Ax δ}{ds:List δ}{e:TypeId}{S:Nat->Prop}(h:AC c w B S e ds u)(hn:c.n=c'.n)(hw:∀x vs,c.rep w S x vs->c'.rep w S x vs):AC c' w B S e ds u:=h.cod hn hw
end
/-! ## An element of an own slice is appended to it -/
def RJ{α:Type}(c:Ax α)(R:Nat->Prop):Ax α where
 n:=c.n
 rep:=fun w S x us=>c.rep w (fun k=>S k∧R k) x us
 len:=fun h=>c.len h
 one:=fun h=>c.one h
 mono:=fun h hS hk=>c.mono h (fun k q=>⟨hS k q.1,q.2⟩) (fun k q=>hk k q.1)
theorem Hj{α:Type}{c:Ax α}{P:Program}{N:Nat}{o:Oper}{K:KL}{w:World}{B hi g:Nat}{e:TypeId}{xs ys zs:List α}{v u:Value}{t x y zc sz by'}(ho:o.op= .call { callee:=.builtin .append,args:=#[x,y],argTypes:=#[t,t] })(hu:P.underlying t=some (.slice e))(hi1:CN P e=some (zc,sz,by'))(hsz:sz=c.n)(hzc:zc.length=sz)
 (hpos:Nat.blt 0 c.n=true) (hx:Ay K x=some v) (hy:Ay K y=some u) (hs:AC c w B (SX B hi v) e xs v) (hb:B<=w.heap.size) (hle:hi<=w.heap.size) (hr:AC c w g (SX B hi v) e ys u) (hne:∀q,u.ownBlock=some q->B<=q∧v.ownBlock≠some q) (ha:Cf xs ys by'=some zs):
 DI P N K o w (fun v' w'=>AC c w' B (SX B hi v') e zs v'∧Aj w w' v v'):=by
 intro a hK Kt Q hk
 refine Ed (c:=RJ c (SX B hi v)) (S:=SX B hi v) (S':=SX B w.heap.size v) (S2:=SX B w.heap.size v) ho hu hi1 hsz hzc hpos hx hy (hs.cod rfl (fun x vs h=>c.mono h (fun k q=>⟨q,q⟩) (fun _ _=>rfl))) hb
  (AC.slG (c:=RJ c (SX B hi v)) (hr.cod (S':=SX B hi v) rfl (fun x vs h=>c.mono h (fun k q=>⟨q,q⟩) (fun _ _=>rfl))) (fun k q=>⟨q.1,Nat.lt_of_lt_of_le q.2.1 hle,q.2.2⟩) (fun q hq=>⟨(hne q hq).1,(AC.blk hr q hq).2,(hne q hq).2⟩)) ha
  (fun k h=>⟨h.1,Nat.lt_of_lt_of_le h.2.1 hle,h.2.2⟩) (fun _ _ h=>h) (fun k h=>h.2) a hK Kt Q ?_
 rintro v' w' ⟨h3,h4⟩
 refine hk v' w' ⟨?_,h4⟩
 refine AC.cod (c:=RJ c (SX B hi v)) h3 rfl (fun x vs h=>c.mono h (fun k q=>⟨q.2.1,q.2.2.1,fun e=>?_⟩) (fun _ _=>rfl))
 rcases h4.2 k e with h5|h5
 ·exact q.2.2.2 h5
 ·have:=q.2.2.1;omega
end Go.Eng
