/- The proof engine: what a function of the model computes, said by a plain function; no condition. -/
import Derived.Test.YtejmafeocaidlabGreatDoorEngA
set_option linter.all false
namespace Go.Eng
open Go Go.RowKit
theorem own2.at1{α:Type}{c:EJ α}[Es c]{w:World}{B hi:Nat}{e1 e2:TypeId}{xss:List (List α)}{v:Value}{vs:List Value}{m:Int}{xs:List α}{g:Nat}{u:Value}(h:own2 c w B hi e1 e2 xss v vs)(hy:AL xss m=some xs)(hg:v.ownBlock=some g)
 (hcl:Ab w g (0+m.toNat*(Hh c).n) [u]):vs[m.toNat]? =some u:=by
 obtain⟨u',h1,h2⟩:=h.at hy hg rfl hcl
 simp at h1;rw [h1];exact h2
theorem YX{α:Type}{xs:List α}{m:Int}{y:α}(h:AL xs m=some y):m.toNat<xs.length:=by
 obtain⟨h0,h1,_⟩:=HH h;omega
end Go.Eng
namespace Go.Eng
open Go Go.RowKit
theorem yi2{P:Program}{N:Nat}{K:KL}{o:Oper}{α:Type}{c:EJ α}{w w0:World}{B hi:Nat}{e1 e2:TypeId}{xss:List (List α)}{v:Value}{vs:List Value}{n:Nat}{u0:Value}{xs:List α}{t:Nat}{k:IntKind}{m:Int}(h:Wy K o.op=some (t,v,k,m))(hu:P.underlying t=some (.slice e1))(hc:CE P e1=some 1)(hh:ZH c w B hi e1 e2 xss v vs n u0)(hg:AL xss m=some xs):
 YE P N K o w0 (fun u=>∃g,u= .pointer (some ⟨g,0+m.toNat*(Hh c).n,none⟩)∧v.ownBlock=some g):=by
 obtain⟨x,i,ho,hx,hi'⟩:=Vb h
 obtain⟨g0,g1,g2⟩:=HH hg
 obtain⟨⟨hl,⟨rfl,hn⟩|⟨g,cap,cur,rfl,_⟩⟩,_⟩:=hh
 ·omega
 ·exact⟨_,Ha (sz:=(Hh c).n) ho hu hc hx hi' g0 g1,g,rfl,rfl⟩
end Go.Eng
namespace Go.Eng
/-! ## Pointers that may be nil -/
def OQ{α β:Type}(o:Option α)(a:β)(f:α->β):β:=match o with
 |none=>a
 |some x=>f x
theorem Yc{α β:Type}{o:Option α}{A:Option β}{f:α->Option β}{r:β}(h:o=none)(hF:OQ o A f=some r):A=some r:=by subst h;exact hF
theorem aQ{α β:Type}{o:Option α}{x:α}{A:Option β}{f:α->Option β}{r:β}(h:o=some x)(hF:OQ o A f=some r):f x=some r:=by subst h;exact hF
def eL{α:Type}(o:Option α)(p:Prop)(f:α->Prop):Prop:=match o with
 |none=>p
 |some x=>f x
theorem cM{α:Type}{o:Option α}{p:Prop}{f:α->Prop}(h:o=none)(hF:eL o p f):p:=by subst h;exact hF
theorem bX{α:Type}{o:Option α}{x:α}{p:Prop}{f:α->Prop}(h:o=some x)(hF:eL o p f):f x:=by subst h;exact hF
end Go.Eng
namespace Go.Eng
theorem VK{B hi:Nat}{v:Go.Value}{Q:Nat->Prop}(h:∀k,SX B hi v k->Q k):∀k,SX B hi v k->Q k:=h
end Go.Eng
namespace Go.Eng
open Go Go.RowKit
/-! ## Slices of which nothing is told -/
def Ny:EJ Unit where
 n:=1
 rep:=fun _ _ _ vs=>∃a n k,vs=[.slice a n k]
 len:=fun⟨_,_,_,e⟩=>by rw [e];rfl
 one:=fun⟨_,_,_,e⟩=>by rw [e];rfl
 mono:=fun h _ _=>h
instance:Es Ny:=⟨fun h=>h⟩
theorem AF.fog{α:Type}{c:EJ α}{w:World}{S:Nat->Prop}{xs:List (List α)}{v:Value}(h:AF (Hh c) w S xs v):AF Ny w S (xs.map fun _=>()) v:=by
 obtain⟨a,cap,e,h1,h2,h3⟩:=h
 refine⟨a,cap,by rw [CH];exact e,by rw [CH];exact h1,h2,fun hl=>?_⟩
 rw [CH]at hl
 obtain⟨b,off,h4,h5,h6⟩:=h3 hl
 refine⟨b,off,h4,h5,fun i x hx=>?_⟩
 rw [FO]at hx
 obtain⟨y,hy,_⟩:=Ag.1 hx
 obtain⟨us,⟨v',e',a',cap',e2,_⟩,h8⟩:=h6 i y hy
 exact⟨us,⟨a',y.length,cap',by rw [e',e2]⟩,h8⟩
end Go.Eng
namespace Go
@[reducible] def Value.i (x:Int):Value:=.int .i64 x
end Go
namespace Go.Eng
open Go Go.RowKit
/-! ## Cells whose numbers may turn: what is written into them is not told -/
inductive SH:Value->Value->Prop
 |refl (u:Value):SH u u
 |int (k:IntKind) (m n:Int):SH (.int k m) (.int k n)
 |bool (a b:Bool):SH (.bool a) (.bool b)
 |str (a b:ByteArray):SH (.string a) (.string b)
theorem SH.trans{a b c:Value}(h:SH a b)(k:SH b c):SH a c:=by
 cases h with
 |refl=>exact k
 |int kk m n=>cases k with
  |refl=>exact .int kk m n
  |int _ _ q=>exact .int kk m q
 |bool x y=>cases k with
  |refl=>exact .bool x y
  |bool _ q=>exact .bool x q
 |str x y=>cases k with
  |refl=>exact .str x y
  |str _ q=>exact .str x q
def SI(us vs:List Value):Prop:=us.length=vs.length∧∀(j:Nat) (u v:Value),us[j]? =some u->vs[j]? =some v->SH u v
theorem SI.refl(us:List Value):SI us us:=⟨rfl,fun j u v h k=>by rw [h]at k;obtain rfl:=AM k;exact .refl _⟩
structure SO(p:Nat->Prop)(w w':World):Prop where
 but:BH p w w'
 cell:∀b off u,w.cell? ⟨b,off,none⟩=some u->∃u',w'.cell? ⟨b,off,none⟩=some u'∧SH u u'
 froz:∀b off,b<w.heap.size->w.frozen? ⟨b,off,none⟩=false->w'.frozen? ⟨b,off,none⟩=false
section
variable {p q:Nat -> Prop} {w a c:World}
theorem SO.refl(p:Nat->Prop)(w:World):SO p w w:=⟨BH.refl p w,fun _ _ u h=>⟨u,h,.refl _⟩,fun _ _ _ h=>h⟩
theorem SO.ofBut(h:BH p w a)(hb:∀k,k<w.heap.size->a.heap[k]? =w.heap[k]?):SO p w a:=
 ⟨h,fun b off u hu=>⟨u,by rw [FW (w:=w) (hb b (DJ _ _ hu))];exact hu,.refl _⟩,fun b off hl hf=>by rw [Hi (hb b hl)];exact hf⟩
theorem SO.then(h:SO p w a)(k:SO q a c)(hb:BH p w c):SO p w c:=
 ⟨hb,fun b off u hu=>by
  obtain⟨u1,h1,h2⟩:=h.cell b off u hu
  obtain⟨u2,h3,h4⟩:=k.cell b off u1 h1
  exact⟨u2,h3,h2.trans h4⟩,fun b off hl hf=>k.froz b off (Ds hl h.but.size) (h.froz b off hl hf)⟩
theorem SO.ext(h:SO p w a)(he:AU a c):SO p w c:=
 h.then (q:=fun _=>False) (SO.ofBut ⟨he.os,he.tape,he.output,he.size,fun k hk _=>he.block k hk⟩ fun k hk=>he.block k hk) (h.but.ext he)
theorem SO.sim(h:SO p w a)(k:SO q a c)(hq:∀k,q k->p k∨w.heap.size<=k):SO p w c:=h.then k (h.but.but k.but hq)
theorem SO.upd{b:Nat}(h:SO p w a)(hu:JM b a c)(hb:w.heap.size<=b):SO p w c:=
 ⟨h.but.upd hu (.inr hb),fun d off u hd=>by
  obtain⟨u1,h1,h2⟩:=h.cell d off u hd
  have:=DJ _ _ hd
  exact⟨u1,by rw [FW (w:=a) (hu.block d (by show d≠b;have:d<w.heap.size:=this;omega))];exact h1,h2⟩,fun d off hl hf=>by
  rw [Hi (hu.block d (by omega))];exact h.froz d off hl hf⟩
end
theorem Ab.cons{w:World}{b off:Nat}{u:Value}{us:List Value}(h:Ab w b off (u::us)):(w.cell? ⟨b,off,none⟩=some u∧w.frozen? ⟨b,off,none⟩=false)∧Ab w b (off+1) us:=
 ⟨by have:=h 0 u rfl;rwa [Fe]at this,fun j v hj=>by have:=h (j+1) v (by simpa using hj);rwa [show off+(j+1)=off+1+j by omega]at this⟩
theorem Ab.mk{w:World}{b off:Nat}{u:Value}{us:List Value}(h0:w.cell? ⟨b,off,none⟩=some u∧w.frozen? ⟨b,off,none⟩=false)(h:Ab w b (off+1) us):Ab w b off (u::us):=fun j v hj=>by
 cases j with
 |zero=>obtain rfl:u=v:=by simpa using hj
        rw [Fe];exact h0
 |succ j=>rw [show off+(j+1)=off+1+j by omega];exact h j v (by simpa using hj)
theorem Ab.sim{p:Nat->Prop}{w w':World}(hs:SO p w w'){b:Nat}:∀{us:List Value} {off:Nat},Ab w b off us->∃us',SI us us'∧Ab w' b off us'
 |[],off,_=>⟨[],SI.refl _,fun j u h=>by simp at h⟩
 |u::us,off,h=>by
  obtain⟨⟨h1,h2⟩,h3⟩:=h.cons
  obtain⟨us',⟨k1,k2⟩,k3⟩:=Ab.sim hs h3
  obtain⟨u',h4,h5⟩:=hs.cell b off u h1
  refine⟨u'::us',⟨by simp [k1],fun j x y hx hy=>?_⟩,Ab.mk ⟨h4,hs.froz b off (DJ _ _ h1) h2⟩ k3⟩
  cases j with
  |zero=>obtain rfl:u=x:=by simpa using hx
         obtain rfl:u'=y:=by simpa using hy
         exact h5
  |succ j=>exact k2 j x y (by simpa using hx) (by simpa using hy)
/-! ## Codecs that do not tell numbers -/
class Uw{α:Type}(c:EJ α):Prop where
 sim:∀{p:Nat->Prop} {w w':World} {S:Nat->Prop} {x:α} {vs vs':List Value},c.rep w S x vs->SO p w w'->SI vs vs'->c.rep w' S x vs'
theorem SI.one{u:Value}{vs:List Value}(h:SI [u] vs):∃v,vs=[v]∧SH u v:=by
 obtain⟨v,rfl⟩:=FA.1 h.1.symm
 exact⟨v,rfl,h.2 0 u v rfl rfl⟩
theorem SI.app{us ts vs:List Value}(h:SI (us++ts) vs):∃vs1 vs2,vs=vs1++vs2∧SI us vs1∧SI ts vs2:=by
 obtain⟨h1,h2⟩:=h
 rw [Bk]at h1
 refine⟨vs.take us.length,vs.drop us.length,(Cw _ _).symm,⟨by simp;omega,fun j u v hu hv=>?_⟩,⟨by simp;omega,fun j u v hu hv=>?_⟩⟩
 ·have hj:=(AK.1 hu).1
  rw [Bq,BE hj]at hv
  exact h2 j u v (by rw [Ao hj];exact hu) hv
 ·rw [Bx]at hv
  exact h2 (us.length+j) u v (by rw [Ap (by omega),En];exact hu) hv
instance {α β:Type}(c:EJ α)(d:EJ β)[hc:Uw c][hd:Uw d]:Uw (CV c d):=⟨fun⟨us,ts,e,h1,h2⟩ hs h=>by
 subst e;obtain⟨vs1,vs2,rfl,k1,k2⟩:=h.app
 exact⟨vs1,vs2,rfl,hc.sim h1 hs k1,hd.sim h2 hs k2⟩⟩
instance {α β:Type}(f:β->α)(c:EJ α)[hc:Uw c]:Uw (FZ f c):=⟨fun h hs k=>hc.sim h hs k⟩
theorem AF.sim{α:Type}{c:EJ α}[hc:Uw c]{p:Nat->Prop}{w w':World}{S:Nat->Prop}{xs:List α}{v:Value}(h:AF c w S xs v)(hs:SO p w w'):AF c w' S xs v:=by
 obtain⟨a,cap,h1,h2,h3,h4⟩:=h
 refine⟨a,cap,h1,h2,h3,fun hl=>?_⟩
 obtain⟨b,off,h5,h6,h8⟩:=h4 hl
 refine⟨b,off,h5,h6,fun i x hx=>?_⟩
 obtain⟨us,h9,h10⟩:=h8 i x hx
 obtain⟨us',k1,k2⟩:=h10.sim hs
 exact⟨us',hc.sim h9 hs k1,k2⟩
instance {α:Type}(c:EJ α)[Uw c]:Uw (Hh c):=⟨fun⟨v,e,h⟩ hs k=>by
 subst e;obtain⟨v',rfl,k2⟩:=k.one
 obtain⟨a,cap,rfl,_⟩:=id h
 cases k2
 exact⟨_,rfl,h.sim hs⟩⟩
section
variable {P:Program} {N:Nat} {o:Oper} {K:KL} {w:World}
end
/-! ## Worlds, in fewer words -/
theorem AC.slG{α:Type}{c:EJ α}{w:World}{B:Nat}{S S':Nat->Prop}{e:TypeId}{xs:List α}{v:Value}(h:AC c w B S e xs v)(hS:∀k,S k->S' k)(hb:∀g,v.ownBlock=some g->S' g):AF c w S' xs v:=by
 obtain⟨cs,h0,h3⟩:=h
 have h0':=h0
 obtain⟨hl,⟨rfl,hn⟩|⟨g,cap,cur,rfl,_,hh,h5,h6,h7,h8⟩⟩:=h0'
 ·have:xs=[]:=BX hn
  subst this;exact AF.nil _ _ _
 ·refine⟨some ⟨g,0,none⟩,cap,rfl,⟨h5,fun h=>by cases h⟩,by simpa [maxLen] using h6,fun hpos=>⟨g,0,rfl,hb g rfl,fun i x hx=>⟨_,c.mono (h3 i x hx) hS (fun _ _=>rfl),fun j u hu=>?_⟩⟩⟩
  have hjn:j<c.n:=by
   have:=(AK.1 hu).1
   simp [Ba]at this;omega
  rw [CZ hjn]at hu
  have:=h0.cells (g:=g) rfl _ _ hu
  rw [EM]at this
  rw [show 0+i*c.n+j=0+(i*c.n+j) by omega];exact⟨this,by simp [World.frozen?,hh]⟩
theorem nr{n:Nat}:n<=n:=BN n
end Go.Eng
namespace Go.Eng
open Go Go.RowKit
/-! ## Own slices of own slices: built by literals and appends, written by calls -/
def Ph:EJ Value where
 n:=1
 rep:=fun _ _ x vs=>vs=[x]∧x.oneCell'=true
 len:=fun h=>by rw [h.1];rfl
 one:=fun h=>by rw [h.1];simp [h.2]
 mono:=fun h _ _=>h
instance:Es Ph:=⟨fun h=>h⟩
theorem fM{w:World}{B:Nat}{S:Nat->Prop}{e:TypeId}{vs:List Value}{v:Value}(h:AC Ph w B S e vs v):w.ownsRow B e 1 v vs.length vs:=by
 obtain⟨cs,h1,h2⟩:=h
 have hl:cs.length=vs.length:=by have:=h1.1;simpa [Ph] using this
 have e1:cs=vs:=by
  apply Ce
  intro i
  by_cases hi:i<vs.length
  ·have h3:=(h2 i vs[i] (AH hi)).1
   have h4:(Ba cs 1 i)[0]? =some vs[i]:=by rw [show Ba cs 1 i=[vs[i]]from h3];rfl
   rw [CZ (by omega)]at h4
   rw [AH hi,←h4];congr 1;omega
  ·rw [Ay (by omega),Ay (by omega)]
 rw [e1]at h1;exact h1
section
variable {α:Type} {c:EJ α} [Es c] {w w':World} {B B1 B2 hi lo1 hi1 lo2 hi2:Nat} {S:Nat -> Prop} {e1 e2:TypeId} {xss:List (List α)} {xs ys:List α} {v u t:Value} {vs:List Value}
theorem own2.raw(h:own2 c w B hi e1 e2 xss v vs):AC Ph w B (Iv 0 0) e1 vs v:=by
 have hl:vs.length=xss.length:=by have:=h.1.1;omega
 have h1:=h.1
 rw [←hl]at h1
 refine⟨vs,h1,fun i x hx=>⟨iH hx,?_⟩⟩
 have hi:i<xss.length:=by have:=(AK.1 hx).1;omega
 exact(h.2.1 i _ x (AH hi) hx).1.one
theorem own2.of(h:AC Ph w B S e1 vs v)(hl:vs.length=xss.length)(hin:∀(i:Nat) (xs:List α) (u:Value),xss[i]? =some xs->vs[i]? =some u->AC c w B (Iv 0 0) e2 xs u∧Bd u B hi∧No v u)
 (hd:∀(i j:Nat) (u u':Value),i≠j->vs[i]? =some u->vs[j]? =some u'->No u u'):own2 c w B hi e1 e2 xss v vs:=by
 have h1:=fM h
 rw [hl]at h1
 exact⟨h1,hin,hd⟩
theorem own2.base{B':Nat}(h:own2 c w B hi e1 e2 xss v vs)(hB:B'<=B):own2 c w B' hi e1 e2 xss v vs:=by
 refine own2.of (AC.base h.raw hB) (by have:=h.1.1;omega) (fun i xs u hx hu=>?_) h.2.2
 obtain⟨p,q,r⟩:=h.2.1 i xs u hx hu
 exact⟨p.base hB,fun g hg=>by have:=q g hg;omega,r⟩
theorem own2.lit0(h:AC Ph w B S e1 [] v):own2 c w B hi e1 e2 ([]:List (List α)) v []:=
 own2.of h rfl (fun i xs u hx=>by simp at hx) (fun i j u u' _ hx=>by simp at hx)
theorem own2.lit1{g:Nat}(h:AC Ph w g S e1 [u] v)(h1:AC c w B1 (Iv 0 0) e2 xs u)(hb:Bd v g (g+1))(b1:Bd u lo1 hi1)(hB:B<=B1)(hg:B<=g)(hl:B<=lo1)(hh:hi1<=g):own2 c w B g e1 e2 [xs] v [u]:=by
 refine own2.of (AC.base h hg) rfl (fun i x t hx ht=>?_) (fun i j t t' hij ht ht'=>?_)
 ·match i with
  |0=>
   obtain rfl:xs=x:=AM hx
   obtain rfl:u=t:=AM ht
   exact⟨h1.base hB,fun q hq=>by have:=b1 q hq;omega,fun q q' hq hq'=>by have:=hb q hq;have:=b1 q' hq';omega⟩
  |i+1=>simp at hx
 ·match i,j with
  |0,0=>exact absurd rfl hij
  |0,j+1=>simp at ht'
  |i+1,_=>simp at ht
theorem own2.lit2{g:Nat}(h:AC Ph w g S e1 [u,t] v)(h1:AC c w B1 (Iv 0 0) e2 xs u)(h2:AC c w B2 (Iv 0 0) e2 ys t)(hb:Bd v g (g+1))(b1:Bd u lo1 hi1)(b2:Bd t lo2 hi2)(hd:No u t)
 (hB:B<=B1) (hB2:B<=B2) (hg:B<=g) (hl:B<=lo1) (hl2:B<=lo2) (hh:hi1<=g) (hh2:hi2<=g):own2 c w B g e1 e2 [xs,ys] v [u,t]:=by
 refine own2.of (AC.base h hg) rfl (fun i x z hx hz=>?_) (fun i j z z' hij hz hz'=>?_)
 ·match i with
  |0=>
   obtain rfl:xs=x:=AM hx
   obtain rfl:u=z:=AM hz
   exact⟨h1.base hB,fun q hq=>by have:=b1 q hq;omega,fun q q' hq hq'=>by have:=hb q hq;have:=b1 q' hq';omega⟩
  |1=>
   obtain rfl:ys=x:=AM hx
   obtain rfl:t=z:=AM hz
   exact⟨h2.base hB2,fun q hq=>by have:=b2 q hq;omega,fun q q' hq hq'=>by have:=hb q hq;have:=b2 q' hq';omega⟩
  |i+2=>simp at hx
 ·match i,j with
  |0,0=>exact absurd rfl hij
  |1,1=>exact absurd rfl hij
  |0,1=>
   obtain rfl:u=z:=AM hz
   obtain rfl:t=z':=AM hz'
   exact hd
  |1,0=>
   obtain rfl:t=z:=AM hz
   obtain rfl:u=z':=AM hz'
   exact hd.symm
  |i+2,_=>simp at hz
  |_,j+2=>simp at hz'
end
theorem ZE{α β:Type}{xs ys zs:List α}{vs us:List β}{k:Nat}(h:De xs ys k=some zs)(h1:vs.length=xs.length)(h2:us.length=ys.length):De vs us k=some (vs++us)∧zs=xs++ys:=by
 unfold De at h ⊢
 rw [h1,h2]
 split at h
 ·rename_i hc
  rw [BE hc];exact⟨rfl,(AM h).symm⟩
 ·cases h
section
variable {P:Program} {N:Nat} {K:KL} {o:Oper} {α:Type} {c:EJ α} [Es c] {w:World} {B hi B2 hi2:Nat} {e1 e2:TypeId} {xss yss zss:List (List α)} {v u:Value} {vs us:List Value}
theorem QQ{t x y zc sz by'}(ho:o.op= .call { callee:=.builtin .append,args:=#[x,y],argTypes:=#[t,t] })(hu:P.underlying t=some (.slice e1))(hi1:Ev P e1=some (zc,sz,by'))(hsz:sz=1)(hzc:zc.length=sz)
 (hx:DW K x=some v) (hy:DW K y=some u) (h:own2 c w B hi e1 e2 xss v vs) (h2:own2 c w B2 hi2 e1 e2 yss u us) (hB:B<=w.heap.size) (hle:hi<=B2) (hBB:B<=B2) (hh2:hi2<=w.heap.size) (hh:hi<=w.heap.size) (hns:Ns v B2 hi2) (ha:De xss yss by'=some zss):
 IP P N K o w (fun v' w'=>own2 c w' B w'.heap.size e1 e2 zss v' (vs++us)∧Ah w w' v v'):=by
 have hl1:vs.length=xss.length:=by have:=h.1.1;omega
 have hl2:us.length=yss.length:=by have:=h2.1.1;omega
 obtain⟨ha2,rfl⟩:=ZE ha hl1 hl2
 intro a hK Kt Q hk
 refine BA (c:=Ph) (S2:=Iv 0 w.heap.size) ho hu hi1 hsz hzc rfl hx hy h.raw hB (AC.slf h2.raw (Nat.zero_le _) (BN _)) ha2 a hK Kt Q ?_
 rintro v' w' ⟨h3,h4⟩
 have hsize:=h4.1.size
 have nv:∀q,q<w.heap.size->(∀g,v.ownBlock=some g->g≠q)->∀g,v'.ownBlock=some g->g≠q:=fun q hq hne g hg=>by
  rcases h4.2 g hg with h5|h5
  ·exact hne g h5
  ·omega
 have one:∀{B3 hi3:Nat} {xs:List α} {t:Value},hi3<=w.heap.size->B<=B3->(∀g q,v.ownBlock=some g->t.ownBlock=some q->g≠q)->AC c w B3 (Iv 0 0) e2 xs t->Bd t B3 hi3->AC c w' B (Iv 0 0) e2 xs t∧Bd t B w'.heap.size∧No v' t:=fun hh3 hB3 hne p q=>
  ⟨(p.keep (fun g hg=>h4.1.block g (by have:=q g hg;omega) (fun e=>hne g g e.symm hg rfl)) (fun _ h=>h) (fun k h=>absurd h.2 (AV k))).base hB3,fun g hg=>by have:=q g hg;omega,fun g q2 hg hq=>nv q2 (by have:=q q2 hq;omega) (fun g2 hg2=>hne g2 q2 hg2 hq) g hg⟩
 have get:∀i t,(vs++us)[i]? =some t->(i<vs.length∧vs[i]? =some t)∨(vs.length<=i∧us[i-vs.length]? =some t):=fun i t h=>by
  by_cases hi:i<vs.length
  ·rw [Ao hi]at h;exact .inl ⟨hi,h⟩
  ·rw [Ap (by omega)]at h;exact .inr ⟨by omega,h⟩
 have lo:∀i t,vs[i]? =some t->Bd t B hi∧No v t:=fun i t ht=>by
  have hi:i<xss.length:=by have:=(AK.1 ht).1;omega
  exact(h.2.1 i _ t (AH hi) ht).2
 have up:∀i t,us[i]? =some t->Bd t B2 hi2:=fun i t ht=>by
  have hi:i<yss.length:=by have:=(AK.1 ht).1;omega
  exact(h2.2.1 i _ t (AH hi) ht).2.1
 refine hk _ _ ⟨own2.of h3 (by simp;omega) (fun i xs t hx2 ht=>?_) (fun i j t t' hij ht ht'=>?_),h4⟩
 ·rcases get i t ht with ⟨h5,h6⟩|⟨h5,h6⟩
  ·rw [Ao (by omega)]at hx2
   obtain⟨p,q,r⟩:=h.2.1 i xs t hx2 h6
   exact one hh (BN _) r p q
  ·rw [Ap (by omega)]at hx2
   obtain⟨p,q,r⟩:=h2.2.1 (i-vs.length) xs t (by rw [hl1];exact hx2) h6
   exact one hh2 hBB (fun g q2 hg hq=>by have:=hns g hg;have:=q q2 hq;omega) p q
 ·rcases get i t ht with ⟨h5,h6⟩|⟨h5,h6⟩<;>rcases get j t' ht' with ⟨h7,h8⟩|⟨h7,h8⟩
  ·exact h.2.2 i j t t' hij h6 h8
  ·intro g q hg hq;have:=(lo i t h6).1 g hg;have:=up _ t' h8 q hq;omega
  ·intro g q hg hq;have:=(lo j t' h8).1 q hq;have:=up _ t h6 g hg;omega
  ·exact h2.2.2 (i-vs.length) (j-vs.length) t t' (by omega) h6 h8
end
end Go.Eng
namespace Go.Eng
open Go Go.RowKit
/-! ## A slice that is handed over to grow -/
def Gr(w:World)(v v':Value):Prop:=∀g,v'.ownBlock=some g->v.ownBlock=some g∨w.heap.size<=g
theorem Gr.refl(w:World)(v:Value):Gr w v v:=fun g hg=>.inl hg
theorem Gr.grew{w w1 w2:World}{v v1 v2:Value}(h:Gr w v v1)(hw:w.heap.size<=w1.heap.size)(hg:Ah w1 w2 v1 v2):Gr w v v2:=fun g hv=>by
 rcases hg.2 g hv with h1|h1
 ·exact h g h1
 ·exact .inr (by omega)
theorem Ah.of{w w':World}{v v':Value}(h:BH (pO v) w w')(g:Gr w v v'):Ah w w' v v':=
 ⟨⟨h.os,h.tape,h.output,h.size,fun k hk hne=>h.block k hk (fun e=>hne e.symm)⟩,g⟩
end Go.Eng
namespace Go.Eng
open Go Go.RowKit
/-! ## The end of an own slice, that may grow -/
def Jr{α:Type}(c:EJ α)(w:World)(B:Nat)(e:TypeId)(xs:List α)(v:Value):Prop:=
 ∃cs,cs.length=xs.length*c.n∧(∀i x,xs[i]? =some x->c.rep w (Iv 0 0) x (Ba cs c.n i))∧
  (v= .slice none 0 0∧xs.length=0∨∃g off cap cur,v= .slice (some ⟨g,off,none⟩) xs.length cap∧B<=g∧w.heap[g]? =some (.cells cur e (0,0))∧xs.length<=cap∧cap<=maxLen∧off+cap*c.n<=cur.size∧(cur.toList.drop off).take (xs.length*c.n)=cs)
section
variable {α:Type} {c:EJ α} {w w':World} {B:Nat} {e:TypeId} {xs zs:List α} {v u:Value}
theorem Jr.of(h:AC c w B (Iv 0 0) e xs v):Jr c w B e xs v:=by
 obtain⟨cs,⟨hl,h1⟩,h3⟩:=h
 refine⟨cs,hl,h3,?_⟩
 rcases h1 with h1|⟨g,cap,cur,rfl,a1,a2,a3,a4,a5,a6⟩
 ·exact .inl h1
 ·exact .inr ⟨g,0,cap,cur,rfl,a1,a2,a3,a4,by omega,by simpa using a6⟩
theorem Jr.blk(h:Jr c w B e xs v):Bd v B w.heap.size:=by
 obtain⟨cs,_,_,⟨rfl,_⟩|⟨g,off,cap,cur,rfl,a1,a2,_⟩⟩:=h
 ·intro g hg;cases hg
 ·intro q hq
  simp [Value.ownBlock]at hq;subst hq
  exact⟨a1,(CA.1 a2).1⟩
theorem Jr.keep[Es c](h:Jr c w B e xs v)(hg:∀g,v.ownBlock=some g->w'.heap[g]? =w.heap[g]?):Jr c w' B e xs v:=by
 obtain⟨cs,h1,h2,h3⟩:=h
 refine⟨cs,h1,fun i x hx=>Es.any (h2 i x hx),?_⟩
 rcases h3 with h3|⟨g,off,cap,cur,rfl,a1,a2,rest⟩
 ·exact .inl h3
 ·exact .inr ⟨g,off,cap,cur,rfl,a1,(hg g rfl).trans a2,rest⟩
theorem Jr.ext[Es c](h:Jr c w B e xs v)(he:AU w w'):Jr c w' B e xs v:=h.keep (fun g hg=>he.block g (h.blk g hg).2)
theorem Jr.upd[Es c]{b:Nat}(h:Jr c w B e xs v)(hu:JM b w w')(hne:Nb v b):Jr c w' B e xs v:=h.keep (fun g hg=>hu.block g (hne g hg))
theorem Jr.butF[Es c]{p:Nat->Prop}(h:Jr c w B e xs v)(hb:BH p w w')(hne:∀k,p k->∀g,v.ownBlock=some g->k≠g):Jr c w' B e xs v:=h.keep (fun g hg=>hb.block g (h.blk g hg).2 (fun e=>hne g e g hg rfl))
section
variable {P:Program} {N:Nat} {K:KL} {o:Oper} {S:Nat -> Prop}
variable {ys:List α}
end
end
end Go.Eng
namespace Go.Eng
open Go Go.RowKit
/-! ## Short words for the plain texts -/
theorem BJ{α β:Type}{a:α}{f:α->Option β}:Option.bind (some a) f=f a:=rfl
theorem cT{α:Type}{x y:α}:(bif true then x else y)=x:=rfl
theorem cF{α:Type}{x y:α}:(bif false then x else y)=y:=rfl
theorem wT(i:Nat)(h:i<4611686018427387904:=by omega):IntKind.wrap IntKind.i64 ((i:Int)+1)=((i+1:Nat):Int):=wSE h
theorem CF{α:Type}{a r:α}(h:some a=some r):r=a:=(AM h).symm
theorem bft(b:Bool):b=true∨b=false:=Bool.eq_false_or_eq_true b
end Go.Eng
namespace Go.Eng
open Go Go.RowKit
/-! ## Parts of an own slice: its beginning, its end, and clear -/
def Zh(v:Value)(i n:Nat):Value:=match v with
 | .slice a m cap=>.slice (if cap=i then a else a.map (·.add (i*n))) (m-i) (cap-i)
 |v=>v
section
variable {α:Type} {c:EJ α} {w w':World} {B:Nat} {S:Nat -> Prop} {e:TypeId} {xs zs:List α} {v u:Value}
section
variable {P:Program} {N:Nat} {K:KL} {o:Oper}
theorem mM{t x hi k2 m2}(ho:o.op= .slice t x none (some hi) none)(hu:P.underlying t=some (.slice e))(hc:CE P e=some c.n)(hx:DW K x=some v)(h2:DW K hi=some (.int k2 m2))
 (hs:AC c w B S e xs v) (hz:LQ xs 0 m2=some zs):YE P N K o w (fun u=>u=lS v m2.toNat∧zs=xs.take m2.toNat∧AC c w B S e zs u):=by
 have hs0:=hs
 obtain⟨cs,⟨hl,h1⟩,h3⟩:=hs
 unfold LQ at hz
 split at hz
 ·rename_i hb
  injection hz with hz;subst hz
  have he:(xs.take m2.toNat).drop (0:Int).toNat=xs.take m2.toNat:=by simp
  rw [he]
  have hcut:=hs0.cut (m:=m2.toNat) (by omega)
  obtain⟨i,hi2,hsz⟩:=Ag.1 hc
  rcases h1 with ⟨rfl,h0⟩|⟨g,cap,cur,rfl,a1,a2,a3,a4,a5,a6⟩
  ·have hm0:m2=0:=by omega
   subst hm0
   refine⟨.slice none 0 0,fun a' hK w' he=>?_,rfl,rfl,hcut⟩
   have e1:(Instr.sliceBound (.int k2 0) 0 .sliceAcap).run P w'= .ok (0:Int).toNat w':=GP (by omega) (by omega)
   simp [execOp,ho,hK.ev hx,hK.ev h2,Instr.sliceAt,Instr.slice,BZ hu,Instr.sliceBounds,e1,sizeOf,typeInfo,hi2,hsz]
  ·refine⟨.slice (some ⟨g,0,none⟩) m2.toNat cap,fun a' hK w' he=>?_,rfl,rfl,hcut⟩
   have e1:(Instr.sliceBound (.int k2 m2) cap .sliceAcap).run P w'= .ok m2.toNat w':=GP (by omega) (by omega)
   simp [execOp,ho,hK.ev hx,hK.ev h2,Instr.sliceAt,Instr.slice,BZ hu,Instr.sliceBounds,e1,sizeOf,typeInfo,hi2,hsz,EM]
 ·cases hz
theorem fB{t x lo k1 m1}(ho:o.op= .slice t x (some lo) none none)(hu:P.underlying t=some (.slice e))(hc:CE P e=some c.n)(hx:DW K x=some v)(h1:DW K lo=some (.int k1 m1))
 (hs:AC c w B S e xs v) (hz:LQ xs m1 xs.length=some zs):YE P N K o w (fun u=>u=Zh v m1.toNat c.n∧zs=xs.drop m1.toNat∧m1.toNat<=xs.length):=by
 obtain⟨cs,⟨hl,hv⟩,h3⟩:=hs
 unfold LQ at hz
 split at hz
 ·rename_i hb
  injection hz with hz;subst hz
  have he:(xs.take ((xs.length:Int)).toNat).drop m1.toNat=xs.drop m1.toNat:=by simp
  obtain⟨i,hi2,hsz⟩:=Ag.1 hc
  have hcap:∃a cap,v= .slice a xs.length cap∧xs.length<=cap:=by
   rcases hv with ⟨rfl,h0⟩|⟨g,cap,cur,rfl,a1,a2,a3,_⟩
   ·exact⟨none,0,by rw [h0],by omega⟩
   ·exact⟨_,cap,rfl,a3⟩
  obtain⟨a,cap,rfl,hle⟩:=hcap
  refine⟨Zh (.slice a xs.length cap) m1.toNat c.n,fun a' hK w' hx'=>?_,rfl,he,by omega⟩
  have e2:(Instr.sliceBound (.int k1 m1) xs.length .sliceB).run P w'= .ok m1.toNat w':=GP (by omega) (by omega)
  simp [Zh,execOp,ho,hK.ev hx,hK.ev h1,Instr.sliceAt,Instr.slice,BZ hu,Instr.sliceBounds,e2,sizeOf,typeInfo,hi2,hsz]
 ·cases hz
end
end
end Go.Eng
namespace Go.Eng
open Go Go.RowKit
/-! ## Numbers that turn within what is only read: what is read then is told by its shape -/
inductive aW:Value->Value->Prop
 |refl (u:Value):aW u u
 |int (k:IntKind) (m n:Int):aW (.int k m) (.int k n)
def TC(us vs:List Value):Prop:=us.length=vs.length∧∀(j:Nat) (u v:Value),us[j]? =some u->vs[j]? =some v->aW u v
theorem TC.refl(us:List Value):TC us us:=⟨rfl,fun j u v h k=>by rw [h]at k;obtain rfl:=AM k;exact .refl _⟩
theorem TC.one{u:Value}{vs:List Value}(h:TC [u] vs):∃v,vs=[v]∧aW u v:=by
 obtain⟨v,rfl⟩:=FA.1 h.1.symm
 exact⟨v,rfl,h.2 0 u v rfl rfl⟩
theorem TC.app{us ts vs:List Value}(h:TC (us++ts) vs):∃vs1 vs2,vs=vs1++vs2∧TC us vs1∧TC ts vs2:=by
 obtain⟨h1,h2⟩:=h
 rw [Bk]at h1
 refine⟨vs.take us.length,vs.drop us.length,(Cw _ _).symm,⟨by simp;omega,fun j u v hu hv=>?_⟩,⟨by simp;omega,fun j u v hu hv=>?_⟩⟩
 ·have hj:=(AK.1 hu).1
  rw [Bq,BE hj]at hv
  exact h2 j u v (by rw [Ao hj];exact hu) hv
 ·rw [Bx]at hv
  exact h2 (us.length+j) u v (by rw [Ap (by omega),En];exact hu) hv
structure HD(b:Nat)(w w':World):Prop where
 upd:JM b w w'
 cell:∀d off u,w.cell? ⟨d,off,none⟩=some u->∃u',w'.cell? ⟨d,off,none⟩=some u'∧aW u u'
 froz:∀d off,d<w.heap.size->w.frozen? ⟨d,off,none⟩=false->w'.frozen? ⟨d,off,none⟩=false
 row:∀cur ty fz,w.heap[b]? =some (.cells cur ty fz)->∃cur',w'.heap[b]? =some (.cells cur' ty fz)∧TC cur.toList cur'.toList
theorem Ab.siB{c:Nat}{w w':World}(hs:HD c w w'){b:Nat}:∀{us:List Value} {off:Nat},Ab w b off us->∃us',TC us us'∧Ab w' b off us'
 |[],off,_=>⟨[],TC.refl _,fun j u h=>by simp at h⟩
 |u::us,off,h=>by
  obtain⟨⟨h1,h2⟩,h3⟩:=h.cons
  obtain⟨us',⟨k1,k2⟩,k3⟩:=Ab.siB hs h3
  obtain⟨u',h4,h5⟩:=hs.cell b off u h1
  refine⟨u'::us',⟨by simp [k1],fun j x y hx hy=>?_⟩,Ab.mk ⟨h4,hs.froz b off (DJ _ _ h1) h2⟩ k3⟩
  cases j with
  |zero=>obtain rfl:u=x:=by simpa using hx
         obtain rfl:u'=y:=by simpa using hy
         exact h5
  |succ j=>exact k2 j x y (by simpa using hx) (by simpa using hy)
def II{α:Type}(r:α->α->Prop)(xs ys:List α):Prop:=ys.length=xs.length∧∀(i:Nat) (x y:α),xs[i]? =some x->ys[i]? =some y->r x y
theorem II.pick{α:Type}{r:Nat->α->α->Prop}:∀{xs:List α} {s:Nat},(∀(i:Nat) (x:α),xs[i]? =some x->∃y,r (s+i) x y)->∃ys:List α,ys.length=xs.length∧∀(i:Nat) (x y:α),xs[i]? =some x->ys[i]? =some y->r (s+i) x y
 |[],s,_=>⟨[],rfl,fun i x y h=>by simp at h⟩
 |x::xs,s,h=>by
  obtain⟨y,hy⟩:=h 0 x rfl
  obtain⟨ys,h1,h2⟩:=II.pick (r:=r) (xs:=xs) (s:=s+1) fun i z hz=>by
   have:=h (i+1) z (by simpa using hz)
   rwa [show s+(i+1)=s+1+i by omega]at this
  refine⟨y::ys,by simp [h1],fun i a b ha hb=>?_⟩
  cases i with
  |zero=>obtain rfl:x=a:=by simpa using ha
         obtain rfl:y=b:=by simpa using hb
         exact hy
  |succ i=>have:=h2 i a b (by simpa using ha) (by simpa using hb)
           rwa [show s+1+i=s+(i+1) by omega]at this
class Tv{α:Type}(c:EJ α)(r:outParam (α->α->Prop)):Prop where
 sim:∀{b:Nat} {w w':World} {S:Nat->Prop} {x:α} {vs vs':List Value},c.rep w S x vs->HD b w w'->TC vs vs'->∃x',r x x'∧c.rep w' S x' vs'
instance (k:IntKind):Tv (Bo k) (fun _ _=>True):=⟨fun e _ h=>by
 obtain rfl:=e;obtain⟨v,rfl,h2⟩:=h.one
 cases h2 with
 |refl=>exact⟨_,trivial,rfl⟩
 |int _ _ n=>exact⟨n,trivial,rfl⟩⟩
instance:Tv CD Eq:=⟨fun e _ h=>by
 obtain rfl:=e;obtain⟨v,rfl,h2⟩:=h.one
 cases h2;exact⟨_,rfl,rfl⟩⟩
instance:Tv Bc Eq:=⟨fun e _ h=>by
 obtain rfl:=e;obtain⟨v,rfl,h2⟩:=h.one
 cases h2;exact⟨_,rfl,rfl⟩⟩
instance {α β:Type}(c:EJ α)(d:EJ β)(r:α->α->Prop)(q:β->β->Prop)[hc:Tv c r][hd:Tv d q]:Tv (CV c d) (fun x y=>r x.1 y.1∧q x.2 y.2):=⟨fun⟨us,ts,e,h1,h2⟩ hs h=>by
 subst e;obtain⟨vs1,vs2,rfl,k1,k2⟩:=h.app
 obtain⟨x,a1,a2⟩:=hc.sim h1 hs k1
 obtain⟨y,b1,b2⟩:=hd.sim h2 hs k2
 exact⟨(x,y),⟨a1,b1⟩,vs1,vs2,rfl,a2,b2⟩⟩
theorem Tv.map{α β:Type}{c:EJ α}{r:α->α->Prop}[hc:Tv c r](f:β->α)(g:α->β)(h:∀y,f (g y)=y):Tv (FZ f c) (fun x y=>r (f x) (f y)):=⟨fun k hs hv=>by
 obtain⟨y,a1,a2⟩:=hc.sim k hs hv
 exact⟨g y,by show r _ (f (g y));rw [h];exact a1,by show c.rep _ _ (f (g y)) _;rw [h];exact a2⟩⟩
section
variable {α:Type} {c:EJ α} {r:α -> α -> Prop} [hc:Tv c r] {b:Nat} {w w':World} {S:Nat -> Prop} {xs:List α} {v:Value}
theorem AF.siB(h:AF c w S xs v)(hs:HD b w w'):∃ys,II r xs ys∧AF c w' S ys v:=by
 obtain⟨a,cap,h1,h2,h3,h4⟩:=h
 by_cases hl:0<xs.length
 ·obtain⟨d,off,h5,h6,h8⟩:=h4 hl
  obtain⟨ys,k1,k2⟩:=II.pick (r:=fun i x y=>r x y∧∃us,c.rep w' S y us∧Ab w' d (off+i*c.n) us) (xs:=xs) (s:=0) fun i x hx=>by
   obtain⟨us,h9,h10⟩:=h8 i x hx
   obtain⟨us',q1,q2⟩:=h10.siB hs
   obtain⟨y,p1,p2⟩:=hc.sim h9 hs q1
   exact⟨y,p1,us',p2,by rw [Bu];exact q2⟩
  have get:∀i x,xs[i]? =some x->∃y,ys[i]? =some y:=fun i x hx=>⟨_,AH (by have:=(AK.1 hx).1;omega)⟩
  refine⟨ys,⟨k1,fun i x y hx hy=>(k2 i x y hx hy).1⟩,a,cap,by rw [k1];exact h1,by rw [k1];exact h2,h3,fun _=>⟨d,off,h5,h6,fun i y hy=>?_⟩⟩
  have hx:xs[i]? =some (xs[i]'(by have:=(AK.1 hy).1;omega)):=AH _
  have:=(k2 i _ y hx hy).2
  rwa [Bu]at this
 ·obtain rfl:xs=[]:=BX (by omega)
  exact⟨[],⟨rfl,fun i x y h=>by simp at h⟩,a,cap,h1,h2,h3,fun h=>absurd h hl⟩
theorem AC.siB{B:Nat}{e:TypeId}(h:AC c w B S e xs v)(hs:HD b w w')(hb:∀g,v.ownBlock=some g->g≠b):∃ys,II r xs ys∧AC c w' B S e ys v:=by
 obtain⟨cs,h1,h2⟩:=h
 obtain⟨ys,k1,k2⟩:=II.pick (r:=fun i x y=>r x y∧c.rep w' S y (Ba cs c.n i)) (xs:=xs) (s:=0) fun i x hx=>by
  obtain⟨y,p1,p2⟩:=hc.sim (h2 i x hx) hs (TC.refl _)
  exact⟨y,p1,by rw [Bu];exact p2⟩
 refine⟨ys,⟨k1,fun i x y hx hy=>(k2 i x y hx hy).1⟩,cs,by rw [k1];exact ownsRow.keep h1 (fun g hg=>hs.upd.block g (hb g hg)),fun i y hy=>?_⟩
 have hx:xs[i]? =some (xs[i]'(by have:=(AK.1 hy).1;omega)):=AH _
 have:=(k2 i _ y hx hy).2
 rwa [Bu]at this
theorem TC.part{us vs:List Value}(h:TC us vs)(m k:Nat):TC ((us.drop m).take k) ((vs.drop m).take k):=by
 obtain⟨h1,h2⟩:=h
 refine⟨by simp [h1],fun j u v hu hv=>?_⟩
 have hj:j<k:=by have:=(AK.1 hu).1;simp at this;omega
 rw [Bq,BE hj,Bx]at hu hv
 exact h2 _ u v hu hv
theorem AC.siB2{B:Nat}{e:TypeId}(h:AC c w B S e xs v)(hs:HD b w w'):∃ys,II r xs ys∧AC c w' B S e ys v:=by
 obtain⟨cs,h1,h2⟩:=h
 have key:∃cs',TC cs cs'∧w'.ownsRow B e c.n v xs.length cs':=by
  obtain⟨hl,⟨rfl,hn⟩|⟨g,cap,cur,rfl,hb,hh,h5,h6,h7,h8⟩⟩:=h1
  ·exact⟨cs,TC.refl _,hl,.inl ⟨rfl,hn⟩⟩
  ·by_cases e2:g=b
   ·subst e2
    obtain⟨cur',hh',hsi⟩:=hs.row cur e (0,0) hh
    have hsz:cur'.size=cur.size:=by have:=hsi.1;simpa using this.symm
    have sp:=hsi.part 0 cs.length
    rw [GH,GH]at sp
    have e3:cur.toList.take cs.length=cs:=by rw [hl];exact h8
    rw [e3]at sp
    refine⟨cur'.toList.take cs.length,sp,by rw [←sp.1];exact hl,.inr ⟨g,cap,cur',rfl,hb,hh',h5,h6,by rw [hsz];exact h7,by rw [hl]⟩⟩
   ·exact⟨cs,TC.refl _,hl,.inr ⟨g,cap,cur,rfl,hb,(hs.upd.block g e2).trans hh,h5,h6,h7,h8⟩⟩
 obtain⟨cs',k0,k1⟩:=key
 obtain⟨ys,p1,p2⟩:=II.pick (r:=fun i x y=>r x y∧c.rep w' S y (Ba cs' c.n i)) (xs:=xs) (s:=0) fun i x hx=>by
  obtain⟨y,q1,q2⟩:=hc.sim (h2 i x hx) hs (k0.part (i*c.n) c.n)
  exact⟨y,q1,by rw [Bu];exact q2⟩
 refine⟨ys,⟨p1,fun i x y hx hy=>(p2 i x y hx hy).1⟩,cs',by rw [p1];exact k1,fun i y hy=>?_⟩
 have hx:xs[i]? =some (xs[i]'(by have:=(AK.1 hy).1;omega)):=AH _
 have:=(p2 i _ y hx hy).2
 rwa [Bu]at this
end
instance {α:Type}(c:EJ α)(r:α->α->Prop)[Tv c r]:Tv (Hh c) (II r):=⟨fun⟨v,e,h⟩ hs k=>by
 subst e;obtain⟨v',rfl,k2⟩:=k.one
 obtain⟨a,cap,rfl,_⟩:=id h
 obtain⟨ys,p1,p2⟩:=h.siB hs
 cases k2
 exact⟨ys,p1,_,rfl,p2⟩⟩
theorem AF.reg{α:Type}{c:EJ α}[Es c]{w w1:World}{S S1:Nat->Prop}{xs:List α}{v:Value}(h:AF c w S xs v)(h1:AF c w1 S1 xs v):AF c w (fun k=>S k∧S1 k) xs v:=by
 obtain⟨a,cap,rfl,h2,h3,h4⟩:=h
 obtain⟨a',cap',e,_,_,h4'⟩:=h1
 refine⟨a,cap,rfl,h2,h3,fun hl=>?_⟩
 obtain⟨b,off,h5,h6,h8⟩:=h4 hl
 obtain⟨b',off',h5',h6',_⟩:=h4' hl
 have ea:a=a':=by injection e
 have eb:b=b':=by rw [h5,h5']at ea;injection ea with ea;injection ea
 refine⟨b,off,h5,⟨h6,eb▸h6'⟩,fun i x hx=>?_⟩
 obtain⟨us,h9,h10⟩:=h8 i x hx
 exact⟨us,Es.any h9,h10⟩
/-! ## A number is written into what is read -/
section
variable {P:Program} {N:Nat} {o:Oper} {K:KL} {w:World}
theorem Nn{t b off o0:Nat}{us:List Value}{k:IntKind}{m0 m1:Int}(j:Nat)(h:uU K o.op=some (t,b,off,.int k m1))(hcl:Ab w b o0 us)(hj:off=o0+j)(hu:us[j]? =some (.int k m0))(hn:CE P t=some 1):IP P N K o w (fun _ w'=>HD b w w'):=by
 obtain⟨x,y,ho,hx,hy⟩:=Vl h
 have hcell:=hcl j _ hu
 rw [←hj]at hcell
 obtain⟨hcell,hfro⟩:=hcell
 have hlt:b<w.heap.size:=DJ _ _ hcell
 obtain⟨cur,ty,fz,hrow,hcur⟩:∃cur ty fz,w.heap[b]? =some (.cells cur ty fz)∧cur[off]? =some (.int k m0):=by
  unfold World.cell? at hcell
  split at hcell
  ·rename_i cur ty fz hrow
   exact⟨cur,ty,fz,hrow,by simpa using hcell⟩
  ·cases hcell
 intro a hK Kt Q hk
 obtain⟨ti,hi,hsz⟩:=Ag.1 hn
 have hc:(Value.int k m1).cells.toList=[.int k m1]:=rfl
 have hst:(storeCells ⟨b,off,none⟩ (Value.int k m1).cells.toList 0).run P w= .ok () (w.setRow b (cur.setIfInBounds off (.int k m1))):=by
  rw [hc]
  have hadd:(⟨b,off,none⟩:Addr).add 0=⟨b,off,none⟩:=by simp [Addr.add]
  simp only [storeCells,CI,hadd]
  rw [run_store P w _ (.int k m1) _ rfl,hcell]
  simp [hfro,setCell_eq_setRow w b off cur ty fz (.int k m1) hrow]
 have hl1:(Value.int k m1).cells.size=1:=by have:=congrArg List.length hc;simpa using this
 have hr:(execOp a.eval o).run P w= .ok .skip (w.setRow b (cur.setIfInBounds off (.int k m1))):=by
  simp [execOp,ho,hK.ev hx,hK.ev hy,Instr.storeAt,Instr.sureAddr,storeVar,CI,sizeOf,typeInfo,hi,hsz,hl1]at hst ⊢
  rw [hst]
  simp
 unfold Oper.wp
 rw [hr]
 have hu2:=JM.setRow w b (cur.setIfInBounds off (.int k m1))
 have hrow2:=setRow_heap w b cur (cur.setIfInBounds off (.int k m1)) ty fz hrow
 refine hk _ _ ⟨hu2,fun d q x hd=>?_,fun d q hl hf=>?_,fun c0 t0 f0 hd=>?_⟩
 ·by_cases e:d=b
  ·subst e
   rw [cell_of_row w d q cur ty fz hrow]at hd
   rw [cell_of_row _ d q _ ty fz hrow2]
   by_cases e2:off=q
   ·subst e2
    rw [hcur]at hd
    obtain rfl:=AM hd
    have:=(CA.1 hcur).1
    exact⟨.int k m1,by simp [this],.int _ _ _⟩
   ·exact⟨x,by rw [Array.getElem?_setIfInBounds_ne e2];exact hd,.refl _⟩
  ·exact⟨x,by rw [FW (w:=w) (hu2.block d e)];exact hd,.refl _⟩
 ·by_cases e:d=b
  ·subst e
   simp only [World.frozen?,hrow,hrow2]at hf ⊢
   exact hf
  ·rw [Hi (hu2.block d e)];exact hf
 ·rw [hrow]at hd
  injection hd with hd;injection hd with e1 e2 e3
  subst e1 e2 e3
  refine⟨_,hrow2,by simp,fun j u v hu hv=>?_⟩
  simp only [EU]at hu hv
  by_cases e4:off=j
  ·subst e4
   rw [hcur]at hu
   obtain rfl:=AM hu
   have:=(CA.1 hcur).1
   rw [Array.getElem?_setIfInBounds_self_of_lt this]at hv
   obtain rfl:=AM hv
   exact .int _ _ _
  ·rw [Array.getElem?_setIfInBounds_ne e4,hu]at hv
   obtain rfl:=AM hv
   exact .refl _
end
/-! ## What a slice's elements lead to, but for the blocks of one kind -/
def Jj(w:World)(k:Nat):Option TypeId:=match w.heap[k]? with
 |some (.cells _ e _)=>some e
 |_=>none
def RT(w:World)(B hi:Nat)(v:Value)(tx:TypeId):Nat->Prop:=fun k=>SX B hi v k∧Jj w k≠some tx
def Dw{α:Type}(c:EJ α)(w:World)(B hi:Nat)(e:TypeId)(xs:List α)(v:Value)(tx:TypeId):Prop:=AC c w B (RT w B hi v tx) e xs v
theorem Jj.same{w w':World}{k:Nat}(h:w'.heap[k]? =w.heap[k]?):Jj w' k=Jj w k:=by unfold Jj;rw [h]
section
variable {α:Type} {c:EJ α} {w w':World} {B hi:Nat} {e tx:TypeId} {xs:List α} {v:Value}
theorem AC.tag{S:Nat->Prop}(h:AC c w B S e xs v):∀g,v.ownBlock=some g->Jj w g=some e:=by
 obtain⟨cs,⟨_,⟨rfl,_⟩|⟨g,cap,cur,rfl,hb,hh,_⟩⟩,_⟩:=h
 ·intro g hg;cases hg
 ·intro q hq
  have:g=q:=AM hq
  subst this
  simp only [Jj,hh]
theorem Dw.sx(h:Dw c w B hi e xs v tx):AC c w B (SX B hi v) e xs v:=AC.keep h (fun _ _=>rfl) (fun _ k=>k.1) (fun _ _=>rfl)
theorem Dw.keep(h:Dw c w B hi e xs v tx)(h1:∀g,v.ownBlock=some g->w'.heap[g]? =w.heap[g]?)(h2:∀k,RT w B hi v tx k->w'.heap[k]? =w.heap[k]?):Dw c w' B hi e xs v tx:=
 AC.keep h h1 (fun k q=>⟨q.1,by rw [Jj.same (h2 k q)];exact q.2⟩) h2
theorem Dw.ext(h:Dw c w B hi e xs v tx)(he:AU w w')(hle:hi<=w.heap.size):Dw c w' B hi e xs v tx:=
 h.keep (fun g hg=>he.block g (AC.blk h g hg).2) (fun k q=>he.block k (by have:=q.1.2.1;omega))
theorem Dw.upd{b:Nat}(h:Dw c w B hi e xs v tx)(hu:JM b w w')(hne:∀g,v.ownBlock=some g->g≠b)(hb:b<B∨hi<=b:=by omega):Dw c w' B hi e xs v tx:=
 h.keep (fun g hg=>hu.block g (hne g hg)) (fun k q=>hu.block k (by have:=q.1.1;have:=q.1.2.1;omega))
theorem Dw.but{p:Nat->Prop}(h:Dw c w B hi e xs v tx)(hb:BH p w w')(hne:∀k,p k->∀g,v.ownBlock=some g->k≠g)(hle:hi<=w.heap.size)(hs:∀k,p k->k<B∨hi<=k):Dw c w' B hi e xs v tx:=
 h.keep (fun g hg=>hb.block g (AC.blk h g hg).2 (fun e=>hne g e g hg rfl)) (fun k q=>hb.block k (by have:=q.1.2.1;omega) (fun e=>by have:=hs k e;have:=q.1.1;have:=q.1.2.1;omega))
theorem Dw.grewI{t t':Value}(hg:Ah w w' t t')(h:Dw c w B hi e xs v tx)(hne:∀g q,t.ownBlock=some g->v.ownBlock=some q->g≠q)(hle:hi<=w.heap.size)(hs:∀g,t.ownBlock=some g->g<B∨hi<=g):Dw c w' B hi e xs v tx:=
 h.keep (fun g hv=>hg.1.block g (AC.blk h g hv).2 (fun e=>hne g g e.symm hv rfl)) (fun k q=>hg.1.block k (by have:=q.1.2.1;omega) (fun e=>by have:=hs k e.symm;have:=q.1.1;have:=q.1.2.1;omega))
theorem Dw.grewT{t t':Value}(hg:Ah w w' t t')(h:Dw c w B hi e xs v tx)(hne:∀g q,t.ownBlock=some g->v.ownBlock=some q->g≠q)(hle:hi<=w.heap.size)(ht:∀g,t.ownBlock=some g->Jj w g=some tx):Dw c w' B hi e xs v tx:=
 h.keep (fun g hv=>hg.1.block g (AC.blk h g hv).2 (fun e=>hne g g e.symm hv rfl)) (fun k q=>hg.1.block k (by have:=q.1.2.1;omega) (fun e=>q.2 (ht k e.symm)))
theorem Dw.wide{hi':Nat}(h:Dw c w B hi e xs v tx)(hle:hi<=hi':=by omega):Dw c w B hi' e xs v tx:=
 AC.keep h (fun _ _=>rfl) (fun k q=>⟨⟨q.1.1,by have:=q.1.2.1;omega,q.1.2.2⟩,q.2⟩) (fun _ _=>rfl)
theorem Dw.base{B':Nat}(h:Dw c w B hi e xs v tx)(hB:B'<=B):Dw c w B' hi e xs v tx:=
 AC.keep (AC.base h hB) (fun _ _=>rfl) (fun k q=>⟨⟨by have:=q.1.1;omega,q.1.2⟩,q.2⟩) (fun _ _=>rfl)
theorem Dw.nil{S:Nat->Prop}(h:AC c w B S e [] v):Dw c w B hi e [] v tx:=by
 obtain⟨cs,h1,_⟩:=h
 exact⟨cs,h1,fun i x hx=>by simp at hx⟩
theorem AC.slT{lo hi2:Nat}(h:AC c w B (Iv 0 0) e xs v)(hb:Bd v lo hi2)(hne:e≠tx):AF c w (fun k=>Iv lo hi2 k∧Jj w k≠some tx) xs v:=
 h.slG (fun k q=>absurd q.2 (AV k)) (fun g hg=>⟨hb g hg,by rw [h.tag g hg];exact fun e2=>hne (AM e2)⟩)
theorem AC.litT{g k k2 lo hi2:Nat}{u:Value}{w0:World}(h:AC c w g (fun k=>Iv lo hi2 k∧Jj w0 k≠some tx) e xs u)(hu:u= .slice (some ⟨g,0,none⟩) k k2)(h1:lo<=g)(h2:hi2<=g)(hg:g=w0.heap.size)(he:AU w0 w):Dw c w lo g e xs u tx:=
 AC.keep (h.base h1) (fun _ _=>rfl) (fun q hq=>⟨⟨hq.1.1,by have:=hq.1.2;omega,fun e=>by
  subst hu
  have h3:g=q:=AM e
  have:=hq.1.2;omega⟩,by rw [Jj.same (he.block q (by have:=hq.1.2;omega))];exact hq.2⟩) (fun _ _=>rfl)
end
section
variable {P:Program} {N:Nat} {K:KL} {o:Oper} {α:Type} {c:EJ α} {w:World} {B hi B2 hi2:Nat} {e tx:TypeId} {xs ys zs:List α} {v u:Value}
theorem UK{t x y zc sz by'}(ho:o.op= .call { callee:=.builtin .append,args:=#[x,y],argTypes:=#[t,t] })(hu:P.underlying t=some (.slice e))(hi1:Ev P e=some (zc,sz,by'))(hsz:sz=c.n)(hzc:zc.length=sz)
 (hpos:Nat.blt 0 c.n=true) (hx:DW K x=some v) (hy:DW K y=some u) (hs:Dw c w B hi e xs v tx) (hb:B<=w.heap.size) (hle:hi<=w.heap.size) (h2:Dw c w B2 hi2 e ys u tx) (hB:B<=B2) (hh:hi2<=w.heap.size) (het:e≠tx) (hne:∀g,v.ownBlock=some g->g<B2) (ha:De xs ys by'=some zs):
 IP P N K o w (fun v' w'=>Dw c w' B w.heap.size e zs v' tx∧Ah w w' v v'):=by
 have hr:AF c w (fun k=>(B2<=k∧k<w.heap.size)∧Jj w k≠some tx) ys u:=
  AC.slG h2 (fun k q=>⟨⟨q.1.1,by have:=q.1.2.1;omega⟩,q.2⟩) (fun g hg=>⟨AC.blk h2 g hg,by rw [AC.tag h2 g hg];exact fun e2=>het (AM e2)⟩)
 intro a hK Kt Q hk
 refine Ou (S':=RT w B w.heap.size v tx) ho hu hi1 hsz hzc hpos hx hy hs hb hr ha (fun k q=>⟨⟨q.1.1,by have:=q.1.2.1;omega,q.1.2.2⟩,q.2⟩)
  (fun _ _ h=>c.mono h (fun k q=>⟨⟨by have:=q.1.1;omega,q.1.2,fun e=>by have:=hne k e;have:=q.1.1;omega⟩,q.2⟩) (fun _ _=>rfl)) (fun k q=>⟨q.1.2.1,q.1.2.2⟩) a hK Kt Q ?_
 rintro v' w' ⟨h3,h4⟩
 refine hk v' w' ⟨h3.keep (fun _ _=>rfl) (fun k q=>⟨⟨q.1.1,q.1.2.1,fun e=>?_⟩,?_⟩) (fun _ _=>rfl),h4⟩
 ·rcases h4.2 k e with h5|h5
  ·exact q.1.2.2 h5
  ·have:=q.1.2.1;omega
 ·rw [Jj.same (h4.1.block k q.1.2.1 (fun e=>q.1.2.2 e.symm))];exact q.2
end
/-! ## Functions that are handed what is to be done with their result: whatever it be -/
structure Pt where
 any:{α:Type}->(α->Prop)->(α->Option Unit)->Option Unit
 out:∀{α:Type} {p:α->Prop} {f:α->Option Unit},any p f=some ()->∀x,p x->f x=some ()
 inn:∀{α:Type} {p:α->Prop} {f:α->Option Unit},(∀x,p x->f x=some ())->any p f=some ()
theorem aM{O:Pt}{α:Type}{p:α->Prop}{f:α->Option Unit}(h:O.any p f=some ())(x:α)(hx:p x):f x=some ():=O.out h x hx
theorem AbI{P:Program}{f:FuncId}{vs:Array Value}{w:World}(h:Calls P f vs w (Fu fun u w2=>∃r:Bool,u= .bool r∧AU w w2∧(bif r then some ()else none)=some ())):Calls P f vs w (Fu fun u w2=>u= .bool true∧AU w w2):=
 Calls.mono h fun e w2 ⟨v,h1,r,h2,h3,h4⟩=>⟨v,h1,(match r,h2,h4 with|true,h2,_=>h2|false,_,h4=>nomatch h4),h3⟩
theorem Pt.is:Nonempty Pt:=by
 classical
 exact⟨⟨fun p f=>if∀x,p x->f x=some ()then some ()else none,(fun h=>by
  split at h
  ·rename_i q;exact q
  ·cases h),fun h=>BE h⟩⟩
end Go.Eng
namespace Go.Eng
open Go Go.RowKit
/-! ## Facts that move on together -/
class Mv(w w':World)(A:Prop)(A':outParam Prop)(S:outParam Prop):Prop where
 mv:A->S->AU w w'->A'
class Mu(b:Nat)(w w':World)(A:Prop)(A':outParam Prop)(S:outParam Prop):Prop where
 mv:A->S->JM b w w'->A'
class Mb(b:Nat)(w w':World)(A:Prop)(A':outParam Prop)(S:outParam Prop):Prop where
 mv:A->S->BH (pB b) w w'->A'
section
variable {w w':World} {b d lo hi B:Nat} {us:List Value} {t e e1 e2 tx:TypeId} {α:Type} {c:EJ α} {xs:List α} {xss:List (List α)} {v:Value} {vs:List Value}
instance:Mv w w' (BO w d us t) (BO w' d us t) True:=⟨fun h _ k=>h.ext k⟩
instance [Es c]:Mv w w' (AC c w B (Iv 0 0) e xs v) (AC c w' B (Iv 0 0) e xs v) True:=⟨fun h _ k=>AC.ext h k⟩
instance:Mv w w' (AF c w (Iv lo hi) xs v) (AF c w' (Iv lo hi) xs v) (hi<=w.heap.size):=⟨fun h s k=>h.old k s⟩
instance:Mv w w' (AC c w B (SX B hi v) e xs v) (AC c w' B (SX B hi v) e xs v) (hi<=w.heap.size):=⟨fun h s k=>AC.extN h k s⟩
instance:Mv w w' (Dw c w B hi e xs v tx) (Dw c w' B hi e xs v tx) (hi<=w.heap.size):=⟨fun h s k=>Dw.ext h k s⟩
instance [Es c]:Mv w w' (own2 c w B hi e1 e2 xss v vs) (own2 c w' B hi e1 e2 xss v vs) (hi<=w.heap.size):=⟨fun h s k=>own2.ext h k s⟩
instance:Mu b w w' (BO w d us t) (BO w' d us t) (d≠b):=⟨fun h s k=>h.upd k s⟩
instance:Mu b w w' (AF c w (Iv lo hi) xs v) (AF c w' (Iv lo hi) xs v) (b<lo∨hi<=b):=⟨fun h s k=>AF.upd h k s⟩
instance:Mb b w w' (BO w d us t) (BO w' d us t) (b≠d):=⟨fun h s k=>BO.but h k (AY s)⟩
instance:Mb b w w' (AF c w (Iv lo hi) xs v) (AF c w' (Iv lo hi) xs v) ((b<lo∨hi<=b)∧hi<=w.heap.size):=⟨fun h s k=>AF.but h k (AY s.1) s.2⟩
end
theorem Di{w w':World}{P1 Q1 S1 P2 Q2 S2:Prop}[i1:Mv w w' P1 Q1 S1][i2:Mv w w' P2 Q2 S2](h1:P1)(h2:P2)(k:AU w w')(s:S1∧S2:=by and_intros<;>first|trivial|omega):Q1∧Q2:=⟨i1.mv h1 s.1 k,i2.mv h2 s.2 k⟩
theorem FE{w w':World}{P1 Q1 S1 P2 Q2 S2 P3 Q3 S3:Prop}[i1:Mv w w' P1 Q1 S1][i2:Mv w w' P2 Q2 S2][i3:Mv w w' P3 Q3 S3](h1:P1)(h2:P2)(h3:P3)(k:AU w w')(s:S1∧S2∧S3:=by and_intros<;>first|trivial|omega):Q1∧Q2∧Q3:=⟨i1.mv h1 s.1 k,i2.mv h2 s.2.1 k,i3.mv h3 s.2.2 k⟩
theorem Gp{w w':World}{P1 Q1 S1 P2 Q2 S2 P3 Q3 S3 P4 Q4 S4:Prop}[i1:Mv w w' P1 Q1 S1][i2:Mv w w' P2 Q2 S2][i3:Mv w w' P3 Q3 S3][i4:Mv w w' P4 Q4 S4](h1:P1)(h2:P2)(h3:P3)(h4:P4)(k:AU w w')(s:S1∧S2∧S3∧S4:=by and_intros<;>first|trivial|omega):Q1∧Q2∧Q3∧Q4:=⟨i1.mv h1 s.1 k,i2.mv h2 s.2.1 k,i3.mv h3 s.2.2.1 k,i4.mv h4 s.2.2.2 k⟩
theorem Gw{w w':World}{P1 Q1 S1 P2 Q2 S2 P3 Q3 S3 P4 Q4 S4 P5 Q5 S5:Prop}[i1:Mv w w' P1 Q1 S1][i2:Mv w w' P2 Q2 S2][i3:Mv w w' P3 Q3 S3][i4:Mv w w' P4 Q4 S4][i5:Mv w w' P5 Q5 S5](h1:P1)(h2:P2)(h3:P3)(h4:P4)(h5:P5)(k:AU w w')(s:S1∧S2∧S3∧S4∧S5:=by and_intros<;>first|trivial|omega):Q1∧Q2∧Q3∧Q4∧Q5:=⟨i1.mv h1 s.1 k,i2.mv h2 s.2.1 k,i3.mv h3 s.2.2.1 k,i4.mv h4 s.2.2.2.1 k,i5.mv h5 s.2.2.2.2 k⟩
theorem JQ{w w':World}{P1 Q1 S1 P2 Q2 S2 P3 Q3 S3 P4 Q4 S4 P5 Q5 S5 P6 Q6 S6:Prop}[i1:Mv w w' P1 Q1 S1][i2:Mv w w' P2 Q2 S2][i3:Mv w w' P3 Q3 S3][i4:Mv w w' P4 Q4 S4][i5:Mv w w' P5 Q5 S5][i6:Mv w w' P6 Q6 S6](h1:P1)(h2:P2)(h3:P3)(h4:P4)(h5:P5)(h6:P6)(k:AU w w')(s:S1∧S2∧S3∧S4∧S5∧S6:=by and_intros<;>first|trivial|omega):Q1∧Q2∧Q3∧Q4∧Q5∧Q6:=⟨i1.mv h1 s.1 k,i2.mv h2 s.2.1 k,i3.mv h3 s.2.2.1 k,i4.mv h4 s.2.2.2.1 k,i5.mv h5 s.2.2.2.2.1 k,i6.mv h6 s.2.2.2.2.2 k⟩
theorem MV{w w':World}{P1 Q1 S1 P2 Q2 S2 P3 Q3 S3 P4 Q4 S4 P5 Q5 S5 P6 Q6 S6 P7 Q7 S7:Prop}[i1:Mv w w' P1 Q1 S1][i2:Mv w w' P2 Q2 S2][i3:Mv w w' P3 Q3 S3][i4:Mv w w' P4 Q4 S4][i5:Mv w w' P5 Q5 S5][i6:Mv w w' P6 Q6 S6][i7:Mv w w' P7 Q7 S7](h1:P1)(h2:P2)(h3:P3)(h4:P4)(h5:P5)(h6:P6)(h7:P7)(k:AU w w')(s:S1∧S2∧S3∧S4∧S5∧S6∧S7:=by and_intros<;>first|trivial|omega):Q1∧Q2∧Q3∧Q4∧Q5∧Q6∧Q7:=⟨i1.mv h1 s.1 k,i2.mv h2 s.2.1 k,i3.mv h3 s.2.2.1 k,i4.mv h4 s.2.2.2.1 k,i5.mv h5 s.2.2.2.2.1 k,i6.mv h6 s.2.2.2.2.2.1 k,i7.mv h7 s.2.2.2.2.2.2 k⟩
theorem GT{w w':World}{P1 Q1 S1 P2 Q2 S2 P3 Q3 S3 P4 Q4 S4 P5 Q5 S5 P6 Q6 S6 P7 Q7 S7 P8 Q8 S8:Prop}[i1:Mv w w' P1 Q1 S1][i2:Mv w w' P2 Q2 S2][i3:Mv w w' P3 Q3 S3][i4:Mv w w' P4 Q4 S4][i5:Mv w w' P5 Q5 S5][i6:Mv w w' P6 Q6 S6][i7:Mv w w' P7 Q7 S7][i8:Mv w w' P8 Q8 S8](h1:P1)(h2:P2)(h3:P3)(h4:P4)(h5:P5)(h6:P6)(h7:P7)(h8:P8)(k:AU w w')(s:S1∧S2∧S3∧S4∧S5∧S6∧S7∧S8:=by and_intros<;>first|trivial|omega):Q1∧Q2∧Q3∧Q4∧Q5∧Q6∧Q7∧Q8:=⟨i1.mv h1 s.1 k,i2.mv h2 s.2.1 k,i3.mv h3 s.2.2.1 k,i4.mv h4 s.2.2.2.1 k,i5.mv h5 s.2.2.2.2.1 k,i6.mv h6 s.2.2.2.2.2.1 k,i7.mv h7 s.2.2.2.2.2.2.1 k,i8.mv h8 s.2.2.2.2.2.2.2 k⟩
theorem PH{w w':World}{b:Nat}{P1 Q1 S1 P2 Q2 S2:Prop}[i1:Mu b w w' P1 Q1 S1][i2:Mu b w w' P2 Q2 S2](h1:P1)(h2:P2)(k:JM b w w')(s:S1∧S2:=by and_intros<;>first|trivial|omega):Q1∧Q2:=⟨i1.mv h1 s.1 k,i2.mv h2 s.2 k⟩
theorem Iw{w w':World}{b:Nat}{P1 Q1 S1 P2 Q2 S2 P3 Q3 S3:Prop}[i1:Mu b w w' P1 Q1 S1][i2:Mu b w w' P2 Q2 S2][i3:Mu b w w' P3 Q3 S3](h1:P1)(h2:P2)(h3:P3)(k:JM b w w')(s:S1∧S2∧S3:=by and_intros<;>first|trivial|omega):Q1∧Q2∧Q3:=⟨i1.mv h1 s.1 k,i2.mv h2 s.2.1 k,i3.mv h3 s.2.2 k⟩
theorem Jq{w w':World}{b:Nat}{P1 Q1 S1 P2 Q2 S2 P3 Q3 S3 P4 Q4 S4:Prop}[i1:Mu b w w' P1 Q1 S1][i2:Mu b w w' P2 Q2 S2][i3:Mu b w w' P3 Q3 S3][i4:Mu b w w' P4 Q4 S4](h1:P1)(h2:P2)(h3:P3)(h4:P4)(k:JM b w w')(s:S1∧S2∧S3∧S4:=by and_intros<;>first|trivial|omega):Q1∧Q2∧Q3∧Q4:=⟨i1.mv h1 s.1 k,i2.mv h2 s.2.1 k,i3.mv h3 s.2.2.1 k,i4.mv h4 s.2.2.2 k⟩
theorem NL{w w':World}{b:Nat}{P1 Q1 S1 P2 Q2 S2 P3 Q3 S3 P4 Q4 S4 P5 Q5 S5:Prop}[i1:Mu b w w' P1 Q1 S1][i2:Mu b w w' P2 Q2 S2][i3:Mu b w w' P3 Q3 S3][i4:Mu b w w' P4 Q4 S4][i5:Mu b w w' P5 Q5 S5](h1:P1)(h2:P2)(h3:P3)(h4:P4)(h5:P5)(k:JM b w w')(s:S1∧S2∧S3∧S4∧S5:=by and_intros<;>first|trivial|omega):Q1∧Q2∧Q3∧Q4∧Q5:=⟨i1.mv h1 s.1 k,i2.mv h2 s.2.1 k,i3.mv h3 s.2.2.1 k,i4.mv h4 s.2.2.2.1 k,i5.mv h5 s.2.2.2.2 k⟩
theorem Ve{w w':World}{b:Nat}{P1 Q1 S1 P2 Q2 S2 P3 Q3 S3 P4 Q4 S4 P5 Q5 S5 P6 Q6 S6:Prop}[i1:Mu b w w' P1 Q1 S1][i2:Mu b w w' P2 Q2 S2][i3:Mu b w w' P3 Q3 S3][i4:Mu b w w' P4 Q4 S4][i5:Mu b w w' P5 Q5 S5][i6:Mu b w w' P6 Q6 S6](h1:P1)(h2:P2)(h3:P3)(h4:P4)(h5:P5)(h6:P6)(k:JM b w w')(s:S1∧S2∧S3∧S4∧S5∧S6:=by and_intros<;>first|trivial|omega):Q1∧Q2∧Q3∧Q4∧Q5∧Q6:=⟨i1.mv h1 s.1 k,i2.mv h2 s.2.1 k,i3.mv h3 s.2.2.1 k,i4.mv h4 s.2.2.2.1 k,i5.mv h5 s.2.2.2.2.1 k,i6.mv h6 s.2.2.2.2.2 k⟩
theorem Wo{w w':World}{b:Nat}{P1 Q1 S1 P2 Q2 S2 P3 Q3 S3 P4 Q4 S4 P5 Q5 S5 P6 Q6 S6 P7 Q7 S7:Prop}[i1:Mu b w w' P1 Q1 S1][i2:Mu b w w' P2 Q2 S2][i3:Mu b w w' P3 Q3 S3][i4:Mu b w w' P4 Q4 S4][i5:Mu b w w' P5 Q5 S5][i6:Mu b w w' P6 Q6 S6][i7:Mu b w w' P7 Q7 S7](h1:P1)(h2:P2)(h3:P3)(h4:P4)(h5:P5)(h6:P6)(h7:P7)(k:JM b w w')(s:S1∧S2∧S3∧S4∧S5∧S6∧S7:=by and_intros<;>first|trivial|omega):Q1∧Q2∧Q3∧Q4∧Q5∧Q6∧Q7:=⟨i1.mv h1 s.1 k,i2.mv h2 s.2.1 k,i3.mv h3 s.2.2.1 k,i4.mv h4 s.2.2.2.1 k,i5.mv h5 s.2.2.2.2.1 k,i6.mv h6 s.2.2.2.2.2.1 k,i7.mv h7 s.2.2.2.2.2.2 k⟩
theorem MQ{w w':World}{b:Nat}{P1 Q1 S1 P2 Q2 S2 P3 Q3 S3 P4 Q4 S4 P5 Q5 S5 P6 Q6 S6 P7 Q7 S7 P8 Q8 S8:Prop}[i1:Mu b w w' P1 Q1 S1][i2:Mu b w w' P2 Q2 S2][i3:Mu b w w' P3 Q3 S3][i4:Mu b w w' P4 Q4 S4][i5:Mu b w w' P5 Q5 S5][i6:Mu b w w' P6 Q6 S6][i7:Mu b w w' P7 Q7 S7][i8:Mu b w w' P8 Q8 S8](h1:P1)(h2:P2)(h3:P3)(h4:P4)(h5:P5)(h6:P6)(h7:P7)(h8:P8)(k:JM b w w')(s:S1∧S2∧S3∧S4∧S5∧S6∧S7∧S8:=by and_intros<;>first|trivial|omega):Q1∧Q2∧Q3∧Q4∧Q5∧Q6∧Q7∧Q8:=⟨i1.mv h1 s.1 k,i2.mv h2 s.2.1 k,i3.mv h3 s.2.2.1 k,i4.mv h4 s.2.2.2.1 k,i5.mv h5 s.2.2.2.2.1 k,i6.mv h6 s.2.2.2.2.2.1 k,i7.mv h7 s.2.2.2.2.2.2.1 k,i8.mv h8 s.2.2.2.2.2.2.2 k⟩
theorem Kw{w w':World}{b:Nat}{P1 Q1 S1 P2 Q2 S2:Prop}[i1:Mb b w w' P1 Q1 S1][i2:Mb b w w' P2 Q2 S2](h1:P1)(h2:P2)(k:BH (pB b) w w')(s:S1∧S2:=by and_intros<;>first|trivial|omega):Q1∧Q2:=⟨i1.mv h1 s.1 k,i2.mv h2 s.2 k⟩
theorem SN{w w':World}{b:Nat}{P1 Q1 S1 P2 Q2 S2 P3 Q3 S3:Prop}[i1:Mb b w w' P1 Q1 S1][i2:Mb b w w' P2 Q2 S2][i3:Mb b w w' P3 Q3 S3](h1:P1)(h2:P2)(h3:P3)(k:BH (pB b) w w')(s:S1∧S2∧S3:=by and_intros<;>first|trivial|omega):Q1∧Q2∧Q3:=⟨i1.mv h1 s.1 k,i2.mv h2 s.2.1 k,i3.mv h3 s.2.2 k⟩
theorem Qd{w w':World}{b:Nat}{P1 Q1 S1 P2 Q2 S2 P3 Q3 S3 P4 Q4 S4:Prop}[i1:Mb b w w' P1 Q1 S1][i2:Mb b w w' P2 Q2 S2][i3:Mb b w w' P3 Q3 S3][i4:Mb b w w' P4 Q4 S4](h1:P1)(h2:P2)(h3:P3)(h4:P4)(k:BH (pB b) w w')(s:S1∧S2∧S3∧S4:=by and_intros<;>first|trivial|omega):Q1∧Q2∧Q3∧Q4:=⟨i1.mv h1 s.1 k,i2.mv h2 s.2.1 k,i3.mv h3 s.2.2.1 k,i4.mv h4 s.2.2.2 k⟩
theorem oI{w w':World}{b:Nat}{P1 Q1 S1 P2 Q2 S2 P3 Q3 S3 P4 Q4 S4 P5 Q5 S5:Prop}[i1:Mb b w w' P1 Q1 S1][i2:Mb b w w' P2 Q2 S2][i3:Mb b w w' P3 Q3 S3][i4:Mb b w w' P4 Q4 S4][i5:Mb b w w' P5 Q5 S5](h1:P1)(h2:P2)(h3:P3)(h4:P4)(h5:P5)(k:BH (pB b) w w')(s:S1∧S2∧S3∧S4∧S5:=by and_intros<;>first|trivial|omega):Q1∧Q2∧Q3∧Q4∧Q5:=⟨i1.mv h1 s.1 k,i2.mv h2 s.2.1 k,i3.mv h3 s.2.2.1 k,i4.mv h4 s.2.2.2.1 k,i5.mv h5 s.2.2.2.2 k⟩
theorem pX{w w':World}{b:Nat}{P1 Q1 S1 P2 Q2 S2 P3 Q3 S3 P4 Q4 S4 P5 Q5 S5 P6 Q6 S6:Prop}[i1:Mb b w w' P1 Q1 S1][i2:Mb b w w' P2 Q2 S2][i3:Mb b w w' P3 Q3 S3][i4:Mb b w w' P4 Q4 S4][i5:Mb b w w' P5 Q5 S5][i6:Mb b w w' P6 Q6 S6](h1:P1)(h2:P2)(h3:P3)(h4:P4)(h5:P5)(h6:P6)(k:BH (pB b) w w')(s:S1∧S2∧S3∧S4∧S5∧S6:=by and_intros<;>first|trivial|omega):Q1∧Q2∧Q3∧Q4∧Q5∧Q6:=⟨i1.mv h1 s.1 k,i2.mv h2 s.2.1 k,i3.mv h3 s.2.2.1 k,i4.mv h4 s.2.2.2.1 k,i5.mv h5 s.2.2.2.2.1 k,i6.mv h6 s.2.2.2.2.2 k⟩
theorem pC{w w':World}{b:Nat}{P1 Q1 S1 P2 Q2 S2 P3 Q3 S3 P4 Q4 S4 P5 Q5 S5 P6 Q6 S6 P7 Q7 S7:Prop}[i1:Mb b w w' P1 Q1 S1][i2:Mb b w w' P2 Q2 S2][i3:Mb b w w' P3 Q3 S3][i4:Mb b w w' P4 Q4 S4][i5:Mb b w w' P5 Q5 S5][i6:Mb b w w' P6 Q6 S6][i7:Mb b w w' P7 Q7 S7](h1:P1)(h2:P2)(h3:P3)(h4:P4)(h5:P5)(h6:P6)(h7:P7)(k:BH (pB b) w w')(s:S1∧S2∧S3∧S4∧S5∧S6∧S7:=by and_intros<;>first|trivial|omega):Q1∧Q2∧Q3∧Q4∧Q5∧Q6∧Q7:=⟨i1.mv h1 s.1 k,i2.mv h2 s.2.1 k,i3.mv h3 s.2.2.1 k,i4.mv h4 s.2.2.2.1 k,i5.mv h5 s.2.2.2.2.1 k,i6.mv h6 s.2.2.2.2.2.1 k,i7.mv h7 s.2.2.2.2.2.2 k⟩
theorem QG{w w':World}{b:Nat}{P1 Q1 S1 P2 Q2 S2 P3 Q3 S3 P4 Q4 S4 P5 Q5 S5 P6 Q6 S6 P7 Q7 S7 P8 Q8 S8:Prop}[i1:Mb b w w' P1 Q1 S1][i2:Mb b w w' P2 Q2 S2][i3:Mb b w w' P3 Q3 S3][i4:Mb b w w' P4 Q4 S4][i5:Mb b w w' P5 Q5 S5][i6:Mb b w w' P6 Q6 S6][i7:Mb b w w' P7 Q7 S7][i8:Mb b w w' P8 Q8 S8](h1:P1)(h2:P2)(h3:P3)(h4:P4)(h5:P5)(h6:P6)(h7:P7)(h8:P8)(k:BH (pB b) w w')(s:S1∧S2∧S3∧S4∧S5∧S6∧S7∧S8:=by and_intros<;>first|trivial|omega):Q1∧Q2∧Q3∧Q4∧Q5∧Q6∧Q7∧Q8:=⟨i1.mv h1 s.1 k,i2.mv h2 s.2.1 k,i3.mv h3 s.2.2.1 k,i4.mv h4 s.2.2.2.1 k,i5.mv h5 s.2.2.2.2.1 k,i6.mv h6 s.2.2.2.2.2.1 k,i7.mv h7 s.2.2.2.2.2.2.1 k,i8.mv h8 s.2.2.2.2.2.2.2 k⟩
end Go.Eng
namespace Go.Eng
open Go Go.RowKit
/-! ## Literals of slice types, said shortly -/
section
variable {P:Program} {N:Nat} {K:KL} {o:Oper} {w:World} {α:Type} {e:TypeId}
theorem Jl{t len parts zc sz by'}(c:EJ α)(xs:List α)(S:Nat->Prop)(uls:List (List Value))(ho:o.op= .buildSlice t len parts)(hu:P.underlying t=some (.slice e))(hi:Ev P e=some (zc,sz,by'))
 (hp:(MD K parts.toList).map (List.map fun p=>(p.1,p.2.cells.toList))=some (JV 0 uls))
 (hb:(Nat.beq sz c.n&&(Nat.blt 0 c.n&&(Nat.ble (len*sz) 16777216&&(Nat.beq uls.length len&&(Nat.beq len xs.length&&uls.all (fun us=>Nat.beq us.length sz))))))=true) (hrep:QD c w S xs uls) (hS:∀k,S k->k<w.heap.size):
 IP P N K o w (fun u w'=>∃g,u= .slice (some ⟨g,0,none⟩) len len∧g=w.heap.size∧w'.heap.size=w.heap.size+1∧AU w w'∧AC c w' g S e xs u):=by
 obtain⟨vs,e1,e2⟩:=Ag.1 hp
 simp only [AD]at hb
 obtain⟨b1,b2,b3,b4,b5,b6⟩:=hb
 have b1:=Az b1
 have b4:=Az b4
 have b5:=Az b5
 exact Hy (out:=DD uls) ho hu hi e1 e2 (Nq uls rfl b6 b4) b3 b1 b2 b5 (Qp hrep rfl) hS (by rw [JR fun us h=>Az (CG.1 b6 us h),b4])
theorem Aq{t len parts zc sz by'}(c:EJ α)(xs:List α)(uls:List (List Value))(ho:o.op= .buildSlice t len parts)(hu:P.underlying t=some (.slice e))(hi:Ev P e=some (zc,sz,by'))
 (hp:(MD K parts.toList).map (List.map fun p=>(p.1,p.2.cells.toList))=some (JV 0 uls))
 (hb:(Nat.beq sz c.n&&(Nat.blt 0 c.n&&(Nat.ble (len*sz) 16777216&&(Nat.beq uls.length len&&(Nat.beq len xs.length&&uls.all (fun us=>Nat.beq us.length sz))))))=true) (hrep:QD c w (Iv 0 0) xs uls):
 IP P N K o w (fun u w'=>∃g,u= .slice (some ⟨g,0,none⟩) len len∧g=w.heap.size∧w'.heap.size=w.heap.size+1∧AU w w'∧AC c w' g (Iv 0 0) e xs u):=
 Jl c xs (Iv 0 0) uls ho hu hi hp hb hrep fun k h=>by have:=h.2;omega
theorem DS{t parts zc pl}(vs:List Value)(ho:o.op= .build t parts)(hp:(MD K parts.toList).map (List.map fun p=>(p.1,p.2.cells.toList))=some (JV 0 (vs.map fun v=>[v])))(hz:Fi P t=some zc)(hpl:EF P t=some pl)(hf:Mw pl zc (JV 0 (vs.map fun v=>[v]))=some vs):Gf P N K o w (.agg vs.toArray):=by
 obtain⟨us,e1,e2⟩:=Ag.1 hp
 exact Bt ho e1 hz hpl e2 hf
end
end Go.Eng
namespace Go.Eng
open Go Go.RowKit
/-! ## The rows of a slice of slices, apart from another slice -/
def Vz(v:Value)(vs:List Value):Prop:=∀(i:Nat) (u:Value),vs[i]? =some u->No v u
theorem Vz.nil(v:Value):Vz v []:=fun i u h=>by simp at h
theorem Vz.app{v:Value}{vs us:List Value}(h:Vz v vs)(h2:Vz v us):Vz v (vs++us):=fun i u hu=>by
 by_cases c:i<vs.length
 ·rw [Ao c]at hu;exact h i u hu
 ·rw [Ap (by omega)]at hu;exact h2 _ u hu
section
variable {α:Type} {c:EJ α} [Es c] {w w':World} {B hi lo' hi':Nat} {e1 e2:TypeId} {xss:List (List α)} {v z:Value} {vs:List Value}
theorem Vz.of(h:own2 c w B hi e1 e2 xss v vs)(hz:Bd z lo' hi')(k:hi'<=B∨hi<=lo':=by omega):Vz z vs:=fun i u hu=>by
 have hl:=h.1.1
 have hi2:i<xss.length:=by have:=(AK.1 hu).1;omega
 obtain⟨_,q,_⟩:=h.2.1 i _ u (AH hi2) hu
 exact No.of hz q (by omega)
theorem own2.updR{b:Nat}(h:own2 c w B hi e1 e2 xss v vs)(hu:JM b w w')(hne:Nb v b)(hz:z.ownBlock=some b)(hr:Vz z vs):own2 c w' B hi e1 e2 xss v vs:=by
 obtain⟨a,d,e⟩:=h
 refine⟨ownsRow.keep a (fun g hg=>hu.block g (hne g hg)),fun i xs u hx hu2=>?_,e⟩
 obtain⟨p,q,r⟩:=d i xs u hx hu2
 exact⟨p.keep (fun g hg=>hu.block g (fun e=>hr i u hu2 _ _ hz hg e.symm)) (fun _ h=>h) (fun k h=>absurd h.2 (AV k)),q,r⟩
end
end Go.Eng
namespace Go.Eng
open Go Go.RowKit
/-! ## Own slices that move on with others -/
def OB(A:Prop)(v:Value)(lo hi:Nat):Prop:=A∧Bd v lo hi
theorem Am{A:Prop}{v:Value}{lo hi:Nat}(h:A)(k:Bd v lo hi):OB A v lo hi:=⟨h,k⟩
theorem Nb.alt{v:Value}{b lo hi:Nat}(h:Bd v lo hi)(k:b<lo∨hi<=b):∀g,v.ownBlock=some g->b≠g:=fun g hg=>by have:=h g hg;omega
section
variable {w w' a:World} {b lo hi B h:Nat} {e:TypeId} {α:Type} {c:EJ α} {xs:List α} {v:Value}
instance [Es c]:Mu b w w' (OB (AC c w B (Iv 0 0) e xs v) v lo hi) (AC c w' B (Iv 0 0) e xs v) (b<lo∨hi<=b):=⟨fun h s k=>AC.upd h.1 k (Nb.of h.2 s)⟩
instance:Mu b w w' (OB (AC c w B (SX B h v) e xs v) v lo hi) (AC c w' B (SX B h v) e xs v) ((b<lo∨hi<=b)∧(b<B∨h<=b)):=⟨fun h s k=>AC.updN h.1 k (Nb.of h.2 s.1) s.2⟩
instance [Es c]:Mu b w w' (OB (Jr c w B e xs v) v lo hi) (Jr c w' B e xs v) (b<lo∨hi<=b):=⟨fun h s k=>Jr.upd h.1 k (Nb.of h.2 s)⟩
instance [Es c]:Mb b w w' (OB (AC c w B (Iv 0 0) e xs v) v lo hi) (AC c w' B (Iv 0 0) e xs v) (b<lo∨hi<=b):=⟨fun h s k=>AC.butF h.1 k (AY (Nb.alt h.2 s))⟩
instance:Mb b w w' (OB (AC c w B (SX B h v) e xs v) v lo hi) (AC c w' B (SX B h v) e xs v) ((b<lo∨hi<=b)∧(b<B∨h<=b)∧h<=w.heap.size):=⟨fun h s k=>AC.butN h.1 k (AY (Nb.alt h.2 s.1)) s.2.2 (AY s.2.1)⟩
instance [Es c]:Mb b w w' (OB (Jr c w B e xs v) v lo hi) (Jr c w' B e xs v) (b<lo∨hi<=b):=⟨fun h s k=>Jr.butF h.1 k (AY (Nb.alt h.2 s))⟩
theorem Zo{P1 Q1 S1:Prop}[i1:Mu b w w' P1 Q1 S1](h1:P1)(k:JM b w w')(s1:S1:=by and_intros<;>first|trivial|omega):Q1:=i1.mv h1 s1 k
theorem Tt{P1 Q1 S1:Prop}[i1:Mb b w w' P1 Q1 S1](h1:P1)(k:BH (pB b) w w')(s1:S1:=by and_intros<;>first|trivial|omega):Q1:=i1.mv h1 s1 k
theorem Ey(h:BH (pB b) w a)(k:BH (pB b) a w'):BH (pB b) w w':=BH.but h k (AY (Or.inl rfl))
end
end Go.Eng
namespace Go.Eng
open Go Go.RowKit
/-! ## Short words for the walks' texts: what is computed is asked for last -/
theorem z{α:Sort _}{a:α}:a=a:=rfl
@[reducible] def _root_.Go.Value.p (b:Nat):Value:=.pointer (some ⟨b,0,none⟩)
section
variable {P:Program} {N:Nat} {ops:Array Oper} {Q:Exit -> Act -> World -> Prop} {n:Nat} {K:KL} {w w0:World} {f:Nat} {listed:Array Bool} {p:Nat -> Prop}
theorem GD{o:Oper}{v:Value}(i:Nat)(hi:ops[i]? =some o)(h:∀wx,BH p w0 wx->Gf P N K o wx v)(k:Js P N ops n (noPan Q) p w0 f (listed.setIfInBounds i true) (Cc K o.dst v) w)
 (hh:Fo ops n=true:=by kernel_rfl) (hc:(Nat.blt i n&&Region.free .any ops listed i&&(Region.ready .any ops listed).contains i)=true:=by kernel_rfl) (hg:o.guard=none:=by rfl) (hd:EC N o.dst=true:=by rfl):
 Js P N ops n (noPan Q) p w0 (f+1) listed K w:=Js.yld i hh hi hc hg hd h k
theorem VB{o:Oper}{Ψ:Value->Prop}(i:Nat)(hi:ops[i]? =some o)(h:YA P N K o Ψ)(k:∀v,Ψ v->Js P N ops n (noPan Q) p w0 f (listed.setIfInBounds i true) (Cc K o.dst v) w)
 (hh:Fo ops n=true:=by kernel_rfl) (hc:(Nat.blt i n&&Region.free .any ops listed i&&(Region.ready .any ops listed).contains i)=true:=by kernel_rfl) (hg:o.guard=none:=by rfl) (hd:EC N o.dst=true:=by rfl):
 Js P N ops n (noPan Q) p w0 (f+1) listed K w:=Js.ya i hh hi hc hg hd h k
theorem Jy{o:Oper}{R:Value->World->Prop}(i:Nat)(hi:ops[i]? =some o)(h:IP P N K o w R)(k:∀v w',R v w'->BH p w0 w'∧Js P N ops n (noPan Q) p w0 f (listed.setIfInBounds i true) (Cc K o.dst v) w')
 (hin:Nat.blt i n=true:=by rfl) (hr:Region.ready .any ops listed=[i]:=by kernel_rfl) (hg:o.guard=none:=by rfl) (hd:EC N o.dst=true:=by rfl):Js P N ops n (noPan Q) p w0 (f+1) listed K w:=Js.eff i hi hin hr hg hd h k
theorem GBA{o:Oper}{R:Value->World->Prop}(i:Nat)(hi:ops[i]? =some o)(h:IP P N K o w R)(k:∀v w',R v w'->BH p w0 w'∧Js P N ops n (noPan Q) p w0 f (listed.setIfInBounds i true) (Cc K o.dst v) w')
 (hin:Nat.blt i n=true:=by rfl) (hr:(Region.ready .any ops listed).contains i=true:=by kernel_rfl) (hg:o.guard=none:=by rfl) (hd:EC N o.dst=true:=by rfl):oO P N ops n (noPan Q) p w0 f listed K w i:=oO.eff i hi hin hr hg hd h k
theorem vK{o:Oper}{R:Value->World->Prop}(i:Nat)(hi:ops[i]? =some o)(h:IP P N K o w R)(k:∀v w',R v w'->AU w0 w'∧HL P N ops n (noPan Q) w0 f (listed.setIfInBounds i true) (Cc K o.dst v) w')
 (hin:Nat.blt i n=true:=by rfl) (hr:(Region.ready .any ops listed).contains i=true:=by kernel_rfl) (h0:IM N ops K o= .yes:=by rfl):HB P N ops n (noPan Q) w0 f listed K w i:=HBe i hi hin hr h0 h k
theorem LK{o:Oper}{R:Value->World->Prop}(i:Nat)(hi:ops[i]? =some o)(h:IP P N K o w R)(k:∀v w',R v w'->AU w0 w'∧HL P N ops n (noPan Q) w0 f (listed.setIfInBounds i true) (Cc K o.dst v) w')
 (hin:Nat.blt i n=true:=by rfl) (hr:Region.ready .any ops listed=[i]:=by kernel_rfl) (h0:IM N ops K o= .yes:=by rfl):HL P N ops n (noPan Q) w0 (f+1) listed K w:=HLe i hi hin hr h0 h k
theorem Br{o:Oper}{v:Value}(i:Nat)(hh:Fo ops n=true)(hi:ops[i]? =some o)(h:Gf P N K o w0 v)(k:HL P N ops n (noPan Q) w0 f (listed.setIfInBounds i true) (Cc K o.dst v) w)
 (hc:(Nat.blt i n&&Region.free .any ops listed i&&(Region.ready .any ops listed).contains i)=true:=by kernel_rfl) (h0:IM N ops K o= .yes:=by rfl):HL P N ops n (noPan Q) w0 (f+1) listed K w:=nV i hh hi hc h0 h k
theorem HT{o:Oper}{Ψ:Value->Prop}(i:Nat)(hh:Fo ops n=true)(hi:ops[i]? =some o)(h:YE P N K o w0 Ψ)(k:∀v,Ψ v->HL P N ops n (noPan Q) w0 f (listed.setIfInBounds i true) (Cc K o.dst v) w)
 (hc:(Nat.blt i n&&Region.free .any ops listed i&&(Region.ready .any ops listed).contains i)=true:=by kernel_rfl) (h0:IM N ops K o= .yes:=by rfl):HL P N ops n (noPan Q) w0 (f+1) listed K w:=yW i hh hi hc h0 h k
theorem JN{l:List Oper}(hops:ops=l.toArray)(k:TL P N ops (noPan Q) (l.drop n) K w)(hseq:Region.seqB .any ops (l.drop n).length n listed=true:=by kernel_rfl)(hf:f=(l.drop n).length:=by rfl):HL P N ops n (noPan Q) w0 f listed K w:=HL.tail hops hseq hf k
theorem Qo{l:List Oper}(hops:ops=l.toArray)(k:TL P N ops (noPan Q) (l.drop n) K w)(hseq:Region.seqB .any ops (l.drop n).length n listed=true:=by kernel_rfl)(hf:f=(l.drop n).length:=by rfl):Js P N ops n (noPan Q) p w0 f listed K w:=Js.tail hops hseq hf k
theorem Fw(hh:Fo ops n=true)(is:List Nat){f:Nat}{listed:Array Bool}{K:KL}(h:bU P N ops n Q w0 is f listed K w)(hc:gH ops n is listed=true:=by kernel_rfl):HL P N ops n (noPan Q) w0 f listed K w:=Hr hh is hc h
theorem Du{id:Nat}{l:List Oper}(n:Nat)(hm:P.follows .mixedOrders=true)(h:∀w',AU w w'->Fo l.toArray n=true->HL P N l.toArray n (noPan Q) w' l.length (Array.replicate l.length false) K w')(hh:Fo l.toArray n=true:=by kernel_rfl):
 WC P N (.region id l.toArray true) Q K w:=WC.heldD n hm hh h
theorem DH{id:Nat}{l:List Oper}(hm:P.follows .mixedOrders=true)(h:QL P N l.toArray w (fun a'=>∀w',AU w w'->Q .normal a' w') l K)(hB:Region.lexB .any l.toArray=true:=by kernel_rfl):WC P N (.region id l.toArray true) Q K w:=WC.quiet hm hB h
theorem LD{K':KL}(e:K'.map (fun p=>kl K p.1)=K'.map (fun p=>some p.2):=by rfl):QL P N ops w (fun a=>Kn N K' a) [] K:=QL.nil fun a h=>h.sub e
end
section
variable {P:Program} {N:Nat} {Q0:Exit -> Act -> World -> Prop} {K K':KL} {w:World} {fs:List Frame} {ops:Array Oper} {l:List Oper}
theorem Gj{R:World->Prop}(r:R w)(e:K'.map (fun p=>kl K p.1)=K'.map (fun p=>some p.2):=by rfl):TL P N ops (IQ P Q0 (.lp (fun a u=>Kn N K' a∧R u)::fs)) [] K w:=TL.nil fun _ h=>⟨h.sub e,r⟩
def SM(K:KL):List Nat->KL->Option KL
 |[],acc=>some acc
 |i::is,acc=>match kl K i with
  |some v=>SM K is ((i,v)::acc)
  |none=>none
end
section
variable {P:Program} {N:Nat} {ops:Array Oper} {Q:Exit -> Act -> World -> Prop} {K:KL} {w:World} {l:List Oper} {Qa:Act -> Prop}
theorem Kd(t:Nat){c:Bool}(h:kl K t=some (.bool c))(h1:c=true->TL P N ops Q l ((t,.bool true)::K) w)(h2:c=false->TL P N ops Q l ((t,.bool false)::K) w):TL P N ops Q l K w:=by
 rcases bft c with e|e
 ·exact Kc t e h (h1 e)
 ·exact Kc t e h (h2 e)
theorem Ke{α:Type}(t:Nat){c:Bool}{x y:Option α}{r:α}(h:kl K t=some (.bool c))(e:(bif c then x else y)=some r)(h1:c=true->x=some r->TL P N ops Q l ((t,.bool true)::K) w)(h2:c=false->y=some r->TL P N ops Q l ((t,.bool false)::K) w):TL P N ops Q l K w:=
 Kd t h (fun j=>h1 j (Qf j e)) fun j=>h2 j (QU j e)
theorem Kdq(t:Nat){c:Bool}(h:kl K t=some (.bool c))(h1:c=true->QL P N ops w Qa l ((t,.bool true)::K))(h2:c=false->QL P N ops w Qa l ((t,.bool false)::K)):QL P N ops w Qa l K:=by
 rcases bft c with e|e
 ·exact Kq t e h (h1 e)
 ·exact Kq t e h (h2 e)
end
theorem AF.oj{α:Type}{c:EJ α}{w w':World}{lo H:Nat}{xs:List α}{v:Value}(h:AF c w (Iv lo H) xs v)(he:AU w w')(hH:H<=w.heap.size:=by assumption):AF c w' (Iv lo H) xs v:=h.old he hH
theorem EK{P:Program}{N:Nat}{c:Code}{Q:Exit->Act->World->Prop}{K:KL}{w:World}{a:Act}(hK:Kn N K a)(h:WC P N c Q K w):c.wp P Q a w:=h a hK
section
variable (P:Program) (N:Nat) (ops:Array Oper) (n:Nat) (Q:Exit -> Act -> World -> Prop) (p:Nat -> Prop) (w0:World)
def dM:List Nat->Nat->Array Bool->KL->World->Prop
 |[]=>fun f listed K w=>Js P N ops n (noPan Q) p w0 f listed K w
 |i::is=>fun f listed K w=>match f with
  |0=>False
  |f+1=>match ops[i]? with
   |none=>False
   |some o=>match o.guard with
    |some _=>False
    |none=>match EC N o.dst with
     |false=>False
     |true=>match yq K o.op with
      |some v=>dM is f (listed.setIfInBounds i true) (Cc K o.dst v) w
      |none=>False
end
section
variable {P:Program} {N:Nat} {ops:Array Oper} {Q:Exit -> Act -> World -> Prop} {n:Nat} {p:Nat -> Prop} {w w0:World}
theorem GrA(hh:Fo ops n=true):∀(is:List Nat) {f:Nat} {listed:Array Bool} {K:KL},gH ops n is listed=true->dM P N ops n Q p w0 is f listed K w->Js P N ops n (noPan Q) p w0 f listed K w
 |[],_,_,_,_,h=>h
 |i::is,0,listed,K,_,h=>h.elim
 |i::is,f+1,listed,K,hc,h=>by
  simp only [gH,AD]at hc
  have hc':(Nat.blt i n&&Region.free .any ops listed i&&(Region.ready .any ops listed).contains i)=true:=by simp only [AD];exact hc.1
  simp only [dM]at h
  split at h
  ·exact h.elim
  ·rename_i o hi
   split at h
   ·exact h.elim
   ·rename_i hg
    split at h
    ·exact h.elim
    ·rename_i hd
     split at h
     ·rename_i v hv;exact Js.yld i hh hi hc' hg hd (fun wx _=>QX hv) (GrA hh is hc.2 h)
     ·exact h.elim
theorem KC(is:List Nat){f:Nat}{listed:Array Bool}{K:KL}(h:dM P N ops n Q p w0 is f listed K w)(hh:Fo ops n=true:=by kernel_rfl)(hc:gH ops n is listed=true:=by kernel_rfl):Js P N ops n (noPan Q) p w0 f listed K w:=GrA hh is hc h
end
@[reducible] def Cf (v:Value) (w:World):Ending->World->Prop:=Fu fun u U=>u=v∧AU w U
theorem GG{p:Nat->Prop}{w a c:World}{b:Nat}(h:BH p w a)(hu:JM b a c)(hb:w.heap.size<=b:=by omega):BH p w c∧c.heap.size=a.heap.size:=WT h hu (.inr hb)
@[reducible] def At {α:Type} (c:EJ α) (w:World) (H:Nat) (xs:List α) (v:Value):Prop:=AF c w (Iv 0 H) xs v
end Go.Eng
namespace Go.Eng
open Go Go.RowKit
/-! ## Several steps in one word -/
@[reducible] def mE (us:List Value) (i:Nat) (Z:Value->Prop):Prop:=match us[i]? with
 |some u=>Z u
 |none=>False
theorem mE.ok{us:List Value}{i:Nat}{Z:Value->Prop}(h:mE us i Z):∃u,us[i]? =some u∧Z u:=by
 unfold mE at h
 split at h
 ·rename_i u hu;exact⟨u,hu,h⟩
 ·exact h.elim
section
variable {P:Program} {N:Nat} {ops:Array Oper} {Q:Exit -> Act -> World -> Prop} {K:KL} {w w0:World} {o o2 o3:Oper} {rest:List Oper} {Qa:Act -> Prop} {α β:Type} {r:β}
theorem Cs{A:Option α}{g:α->Option β}{rt:α->Value}{f:Nat}{vs:List Value}(hF:A.bind g=some r)(he:AU w0 w)(hf:BQ P f=true)
 (hc:∀x,A=some x->Calls P f vs.toArray w (Cf (rt x) w)) (k:∀x,g x=some r->∀w',AU w w'->AU w0 w'∧w.heap.size<=w'.heap.size->TL P N ops Q rest (Cc K o.dst (rt x)) w')
 (h0:IM N ops K o= .yes:=by rfl) (hcl:oQ K o.op=some (f,vs):=by rfl):TL P N ops Q (o::rest) K w:=by
 obtain⟨x,h1,h2⟩:=AO hF
 refine Ef h0 (GO hcl hf (hc _ h1)) fun v w' h=>?_
 obtain⟨rfl,h⟩:=h
 exact k x h2 w' h (Et he h)
theorem Cg{A:Option α}{g:α->Option β}{R:α->Value->World->Prop}{f:Nat}{vs:List Value}(hF:A.bind g=some r)(hf:BQ P f=true)
 (hc:∀x,A=some x->Calls P f vs.toArray w (Fu (R x))) (k:∀x,g x=some r->∀v w',R x v w'->TL P N ops Q rest (Cc K o.dst v) w')
 (h0:IM N ops K o= .yes:=by rfl) (hcl:oQ K o.op=some (f,vs):=by rfl):TL P N ops Q (o::rest) K w:=by
 obtain⟨x,h1,h2⟩:=AO hF
 exact Ef h0 (GO hcl hf (hc _ h1)) fun v w' h=>k x h2 v w' h
section
variable {c:EJ α} {xs:List α} {S:Nat -> Prop} {v:Value} {e t t2 B:Nat} {m:Int} {kk:IntKind} {g:α -> Option β} {sv:α -> Value}
theorem Ix(hF:(AL xs m).bind g=some r)(hs:AF c w S xs v)(hu:P.underlying t=some (.slice e))(hc:CE P e=some c.n)
 (k:∀y,AL xs m=some y->g y=some r->∀u,(∃b off us,u= .pointer (some ⟨b,off,none⟩)∧S b∧c.rep w S y us∧Ab w b off us)->TL P N ops Q rest (Cc K o.dst u) w)
 (h0:IM N ops K o= .yes:=by rfl) (hi:Wy K o.op=some (t,v,kk,m):=by rfl):TL P N ops Q (o::rest) K w:=by
 obtain⟨y,h1,h2⟩:=AO hF
 exact Ye h0 (JB hi hu hc hs h1) fun u h=>k y h1 h2 u h
theorem Io(hF:(AL xs m).bind g=some r)(hs:AC c w B S e xs v)(hu:P.underlying t=some (.slice e))(hc:CE P e=some c.n)
 (k:∀y,AL xs m=some y->g y=some r->∀u,(∃b us,u= .pointer (some ⟨b,0+m.toNat*c.n,none⟩)∧v.ownBlock=some b∧c.rep w S y us∧Ab w b (0+m.toNat*c.n) us)->TL P N ops Q rest (Cc K o.dst u) w)
 (h0:IM N ops K o= .yes:=by rfl) (hi:Wy K o.op=some (t,v,kk,m):=by rfl):TL P N ops Q (o::rest) K w:=by
 obtain⟨y,h1,h2⟩:=AO hF
 exact Ye h0 (Lp hi hu hc hs h1) fun u h=>k y h1 h2 u h
theorem Iq(hF:(AL xs m).bind g=some r)(hs:AF c w S xs v)(hu:P.underlying t=some (.slice e))(hc:CE P e=some c.n)
 (k:∀y,AL xs m=some y->g y=some r->∀u,(∃b off us,u= .pointer (some ⟨b,off,none⟩)∧S b∧c.rep w S y us∧Ab w b off us)->QL P N ops w Qa rest (Cc K o.dst u))
 (h0:IM N ops K o= .yes:=by rfl) (hi:Wy K o.op=some (t,v,kk,m):=by rfl):QL P N ops w Qa (o::rest) K:=by
 obtain⟨y,h1,h2⟩:=AO hF
 exact Qe h0 (JB hi hu hc hs h1) fun u h=>k y h1 h2 u h
theorem ZQ(hF:(AL xs m).bind g=some r)(hs:AC c w B S e xs v)(hu:P.underlying t=some (.slice e))(hc:CE P e=some c.n)
 (k:∀y,AL xs m=some y->g y=some r->∀u,(∃b us,u= .pointer (some ⟨b,0+m.toNat*c.n,none⟩)∧v.ownBlock=some b∧c.rep w S y us∧Ab w b (0+m.toNat*c.n) us)->QL P N ops w Qa rest (Cc K o.dst u))
 (h0:IM N ops K o= .yes:=by rfl) (hi:Wy K o.op=some (t,v,kk,m):=by rfl):QL P N ops w Qa (o::rest) K:=by
 obtain⟨y,h1,h2⟩:=AO hF
 exact Qe h0 (Lp hi hu hc hs h1) fun u h=>k y h1 h2 u h
theorem Il(hF:(AL xs m).bind g=some r)(hs:AF c w S xs v)(hu:P.underlying t=some (.slice e))(hc:CE P e=some c.n)(ha:EO P t2=some false)
 (k:∀y,g y=some r->∀u,TL P N ops Q rest (Cc (Cc K o.dst u) o2.dst (sv y)) w)
 (hsv:∀y us,c.rep w S y us->us=[sv y]:=by exact fun _ _ h=>h) (h0:IM N ops K o= .yes:=by rfl) (hi:Wy K o.op=some (t,v,kk,m):=by rfl)
 (h2:∀u,IM N ops (Cc K o.dst u) o2= .yes:=by intro _;rfl) (hl:∀b off,VC (Cc K o.dst (.pointer (some ⟨b,off,none⟩))) o2.op=some (t2,b,off):=by intro _ _;rfl):TL P N ops Q (o::o2::rest) K w:=by
 refine Ix hF hs hu hc (fun y _ h3 u h=>?_) h0 hi
 obtain⟨b,off,us,rfl,_,h5,h6⟩:=h
 have h5:=hsv _ _ h5
 subst h5
 exact Yl (h2 _) (GB 0 (hl _ _) ha h6 rfl rfl) (k y h3 _)
theorem PG(hF:(AL xs m).bind g=some r)(hs:AC c w B S e xs v)(hu:P.underlying t=some (.slice e))(hc:CE P e=some c.n)(ha:EO P t2=some false)
 (k:∀y,g y=some r->∀u,TL P N ops Q rest (Cc (Cc K o.dst u) o2.dst (sv y)) w)
 (hsv:∀y us,c.rep w S y us->us=[sv y]:=by exact fun _ _ h=>h) (h0:IM N ops K o= .yes:=by rfl) (hi:Wy K o.op=some (t,v,kk,m):=by rfl)
 (h2:∀u,IM N ops (Cc K o.dst u) o2= .yes:=by intro _;rfl) (hl:∀b off,VC (Cc K o.dst (.pointer (some ⟨b,off,none⟩))) o2.op=some (t2,b,off):=by intro _ _;rfl):TL P N ops Q (o::o2::rest) K w:=by
 refine Io hF hs hu hc (fun y _ h3 u h=>?_) h0 hi
 obtain⟨b,us,rfl,_,h5,h6⟩:=h
 have h5:=hsv _ _ h5
 subst h5
 exact Yl (h2 _) (GB 0 (hl _ _) ha h6 rfl rfl) (k y h3 _)
theorem Qz(hF:(AL xs m).bind g=some r)(hs:AF c w S xs v)(hu:P.underlying t=some (.slice e))(hc:CE P e=some c.n)(ha:EO P t2=some false)
 (k:∀y,g y=some r->∀u,QL P N ops w Qa rest (Cc (Cc K o.dst u) o2.dst (sv y)))
 (hsv:∀y us,c.rep w S y us->us=[sv y]:=by exact fun _ _ h=>h) (h0:IM N ops K o= .yes:=by rfl) (hi:Wy K o.op=some (t,v,kk,m):=by rfl)
 (h2:∀u,IM N ops (Cc K o.dst u) o2= .yes:=by intro _;rfl) (hl:∀b off,VC (Cc K o.dst (.pointer (some ⟨b,off,none⟩))) o2.op=some (t2,b,off):=by intro _ _;rfl):QL P N ops w Qa (o::o2::rest) K:=by
 refine Iq hF hs hu hc (fun y _ h3 u h=>?_) h0 hi
 obtain⟨b,off,us,rfl,_,h5,h6⟩:=h
 have h5:=hsv _ _ h5
 subst h5
 exact Qy (h2 _) (GB 0 (hl _ _) ha h6 rfl rfl) (k y h3 _)
theorem XT(hF:(AL xs m).bind g=some r)(hs:AC c w B S e xs v)(hu:P.underlying t=some (.slice e))(hc:CE P e=some c.n)(ha:EO P t2=some false)
 (k:∀y,g y=some r->∀u,QL P N ops w Qa rest (Cc (Cc K o.dst u) o2.dst (sv y)))
 (hsv:∀y us,c.rep w S y us->us=[sv y]:=by exact fun _ _ h=>h) (h0:IM N ops K o= .yes:=by rfl) (hi:Wy K o.op=some (t,v,kk,m):=by rfl)
 (h2:∀u,IM N ops (Cc K o.dst u) o2= .yes:=by intro _;rfl) (hl:∀b off,VC (Cc K o.dst (.pointer (some ⟨b,off,none⟩))) o2.op=some (t2,b,off):=by intro _ _;rfl):QL P N ops w Qa (o::o2::rest) K:=by
 refine ZQ hF hs hu hc (fun y _ h3 u h=>?_) h0 hi
 obtain⟨b,us,rfl,_,h5,h6⟩:=h
 have h5:=hsv _ _ h5
 subst h5
 exact Qy (h2 _) (GB 0 (hl _ _) ha h6 rfl rfl) (k y h3 _)
end
section
variable {t f fo t2 t3 b T e off:Nat} {us:List Value} {c:EJ α} {xs:List α} {S:Nat -> Prop} {v:Value}
theorem Fl(hfo:Aw P t f=some fo)(ha:EO P t2=some false)(hb:BO w b us T)(k:mE us (0+fo) fun u=>TL P N ops Q rest (Cc (Cc K o.dst (.pointer (some ⟨b,0+fo,none⟩))) o2.dst u) w)
 (h0:IM N ops K o= .yes:=by rfl) (hi:fG K o.op=some (t,f,b,0):=by rfl) (h2:IM N ops (Cc K o.dst (.pointer (some ⟨b,0+fo,none⟩))) o2= .yes:=by rfl)
 (hl:VC (Cc K o.dst (.pointer (some ⟨b,0+fo,none⟩))) o2.op=some (t2,b,0+fo):=by rfl):TL P N ops Q (o::o2::rest) K w:=by
 obtain⟨u,hu,k⟩:=k.ok
 exact Yl h0 (CK hi hfo) (Yl h2 (Ea hl ha hb hu) k)
theorem Fq(hfo:Aw P t f=some fo)(ha:EO P t2=some false)(hb:BO w b us T)(k:mE us (0+fo) fun u=>QL P N ops w Qa rest (Cc (Cc K o.dst (.pointer (some ⟨b,0+fo,none⟩))) o2.dst u))
 (h0:IM N ops K o= .yes:=by rfl) (hi:fG K o.op=some (t,f,b,0):=by rfl) (h2:IM N ops (Cc K o.dst (.pointer (some ⟨b,0+fo,none⟩))) o2= .yes:=by rfl)
 (hl:VC (Cc K o.dst (.pointer (some ⟨b,0+fo,none⟩))) o2.op=some (t2,b,0+fo):=by rfl):QL P N ops w Qa (o::o2::rest) K:=by
 obtain⟨u,hu,k⟩:=k.ok
 exact Qy h0 (CK hi hfo) (Qy h2 (Ea hl ha hb hu) k)
theorem Fc(hfo:Aw P t f=some fo)(ha:EO P t2=some false)(hb:Ab w b off us)(k:mE us fo fun u=>TL P N ops Q rest (Cc (Cc K o.dst (.pointer (some ⟨b,off+fo,none⟩))) o2.dst u) w)
 (h0:IM N ops K o= .yes:=by rfl) (hi:fG K o.op=some (t,f,b,off):=by rfl) (h2:IM N ops (Cc K o.dst (.pointer (some ⟨b,off+fo,none⟩))) o2= .yes:=by rfl)
 (hl:VC (Cc K o.dst (.pointer (some ⟨b,off+fo,none⟩))) o2.op=some (t2,b,off+fo):=by rfl):TL P N ops Q (o::o2::rest) K w:=by
 obtain⟨u,hu,k⟩:=k.ok
 exact Yl h0 (CK hi hfo) (Yl h2 (GB fo hl ha hb rfl hu) k)
theorem JC(hfo:Aw P t f=some fo)(ha:EO P t2=some false)(hb:Ab w b off us)(k:mE us fo fun u=>QL P N ops w Qa rest (Cc (Cc K o.dst (.pointer (some ⟨b,off+fo,none⟩))) o2.dst u))
 (h0:IM N ops K o= .yes:=by rfl) (hi:fG K o.op=some (t,f,b,off):=by rfl) (h2:IM N ops (Cc K o.dst (.pointer (some ⟨b,off+fo,none⟩))) o2= .yes:=by rfl)
 (hl:VC (Cc K o.dst (.pointer (some ⟨b,off+fo,none⟩))) o2.op=some (t2,b,off+fo):=by rfl):QL P N ops w Qa (o::o2::rest) K:=by
 obtain⟨u,hu,k⟩:=k.ok
 exact Qy h0 (CK hi hfo) (Qy h2 (GB fo hl ha hb rfl hu) k)
theorem Gz(hfo:Aw P t f=some fo)(ha:EO P t2=some false)(hb:BO w b us T)(hu3:P.underlying t3=some (.slice e))(hs:AF c w S xs v)
 (k:TL P N ops Q rest (Cc (Cc (Cc K o.dst (.pointer (some ⟨b,0+fo,none⟩))) o2.dst v) o3.dst (.int .i64 xs.length)) w) (hv:us[0+fo]? =some v:=by rfl)
 (h0:IM N ops K o= .yes:=by rfl) (hi:fG K o.op=some (t,f,b,0):=by rfl) (h2:IM N ops (Cc K o.dst (.pointer (some ⟨b,0+fo,none⟩))) o2= .yes:=by rfl)
 (hl:VC (Cc K o.dst (.pointer (some ⟨b,0+fo,none⟩))) o2.op=some (t2,b,0+fo):=by rfl) (h3:IM N ops (Cc (Cc K o.dst (.pointer (some ⟨b,0+fo,none⟩))) o2.dst v) o3= .yes:=by rfl)
 (hl3:oS (Cc (Cc K o.dst (.pointer (some ⟨b,0+fo,none⟩))) o2.dst v) o3.op=some (t3,v):=by rfl):TL P N ops Q (o::o2::o3::rest) K w:=
 Yl h0 (CK hi hfo) (Yl h2 (Ea hl ha hb hv) (Yl h3 (HK hl3 hu3 hs) k))
theorem Tq(hfo:Aw P t f=some fo)(ha:EO P t2=some false)(hb:BO w b us T)(hu3:P.underlying t3=some (.slice e))(hs:AF c w S xs v)
 (k:QL P N ops w Qa rest (Cc (Cc (Cc K o.dst (.pointer (some ⟨b,0+fo,none⟩))) o2.dst v) o3.dst (.int .i64 xs.length))) (hv:us[0+fo]? =some v:=by rfl)
 (h0:IM N ops K o= .yes:=by rfl) (hi:fG K o.op=some (t,f,b,0):=by rfl) (h2:IM N ops (Cc K o.dst (.pointer (some ⟨b,0+fo,none⟩))) o2= .yes:=by rfl)
 (hl:VC (Cc K o.dst (.pointer (some ⟨b,0+fo,none⟩))) o2.op=some (t2,b,0+fo):=by rfl) (h3:IM N ops (Cc (Cc K o.dst (.pointer (some ⟨b,0+fo,none⟩))) o2.dst v) o3= .yes:=by rfl)
 (hl3:oS (Cc (Cc K o.dst (.pointer (some ⟨b,0+fo,none⟩))) o2.dst v) o3.op=some (t3,v):=by rfl):QL P N ops w Qa (o::o2::o3::rest) K:=
 Qy h0 (CK hi hfo) (Qy h2 (Ea hl ha hb hv) (Qy h3 (HK hl3 hu3 hs) k))
end
end
/-! ## A fork one of whose ways returns at once -/
section
variable (N:Nat)
def RX:Nat->Md->List Frame->KL->Option KL
 |0=>fun _ _ _=>none
 |n+1=>fun m fs K=>match m with
  | .c c=>match c with
   | .seq x y=>RX n (.c x) (.seq y::fs) K
   | .region _ ops false=>RX n (.o ops ops.toList) fs K
   | .block id x=>RX n (.c x) (.blk id::fs) K
   | .skip=>RX n (.e .normal) fs K
   | .exit id=>RX n (.e (.exit id)) fs K
   | .ret=>RX n (.e .ret) fs K
   |_=>none
  | .o ops l=>match l with
   |[]=>RX n (.e .normal) fs K
   |o::rest=>match IM N ops K o with
    | .yes=>match yq K o.op with
     |some v=>RX n (.o ops rest) fs (Cc K o.dst v)
     |none=>none
    | .skip=>RX n (.o ops rest) fs (Cc K o.dst undef)
    | .no=>none
  | .e e=>match fs with
   |[]=>match e with
    | .ret=>some K
    |_=>none
   | .seq c::fs=>match e with
    | .normal=>RX n (.c c) fs K
    | .ret=>RX n (.e .ret) fs K
    | .exit id=>RX n (.e (.exit id)) fs K
    |_=>none
   | .blk id::fs=>match e with
    | .normal=>RX n (.e .normal) fs K
    | .ret=>RX n (.e .ret) fs K
    | .exit id'=>bif Nat.beq id' id then RX n (.e .normal) fs K else RX n (.e (.exit id')) fs K
    |_=>none
   | .lp f::fs=>match e with
    | .ret=>RX n (.e .ret) fs K
    | .exit id=>RX n (.e (.exit id)) fs K
    |_=>none
end
section
variable {P:Program} {N:Nat} {Q0:Exit -> Act -> World -> Prop}
theorem RX.ok:∀(n:Nat) {m:Md} {fs:List Frame} {K K':KL} {w:World},RX N n m fs K=some K'->NX N Q0 .ret K' w->vB P N Q0 m fs K w
 |0,_,_,_,_,_,h,_=>by cases h
 |n+1,m,fs,K,K',w,h,q=>by
  cases m with
  |c c=>
   cases c with
   |seq x y=>exact WC.seq (RX.ok n h q)
   |region id ops d=>
    cases d with
    |false=>
     have h2:TL P N ops (IQ P Q0 fs) ops.toList K w:=RX.ok n h q
     show WC P N (.region id ops false) (IQ P Q0 fs) K w
     have:ops=ops.toList.toArray:=by simp
     rw [this];rw [this]at h2
     exact WC.region (by simpa using h2)
    |true=>cases h
   |block id x=>exact WC.block (RX.ok n h q)
   |skip=>exact WC.skip' (RX.ok n h q)
   |exit id=>exact WC.exit' (RX.ok n h q)
   |ret=>exact WC.ret' (RX.ok n h q)
   |cond _ _ _=>cases h
   |loop _=>cases h
   |_=>cases h
  |o ops l=>
   cases l with
   |nil=>exact TL.done (RX.ok n h q)
   |cons o rest=>
    simp only [RX]at h
    split at h
    ·rename_i hg
     split at h
     ·rename_i v hv;exact Yl hg (QX hv) (RX.ok n h q)
     ·cases h
    ·rename_i hg;exact Sk hg (RX.ok n h q)
    ·cases h
  |e e=>
   cases fs with
   |nil=>
    cases e with
    |ret=>obtain rfl:=AM h;exact q
    |_=>cases h
   |cons f fs=>
    cases f with
    |seq c=>
     cases e with
     |normal=>exact NX.seq (RX.ok n h q)
     |ret=>exact NX.then_r (RX.ok n h q)
     |exit id=>exact NX.then_e (RX.ok n h q)
     |_=>cases h
    |blk id=>
     cases e with
     |normal=>exact NX.blk_n (RX.ok n h q)
     |ret=>exact NX.blk_r (RX.ok n h q)
     |exit id'=>
      simp only [RX]at h
      cases hb:Nat.beq id' id with
      |true=>
       rw [hb]at h
       obtain rfl:=Az hb
       exact NX.blk_hit (RX.ok n h q)
      |false=>rw [hb]at h;exact NX.blk_miss hb (RX.ok n h q)
     |_=>cases h
    |lp f=>
     cases e with
     |normal=>cases h
     |ret=>exact NX.then_r (RX.ok n h q)
     |exit id=>exact NX.then_e (RX.ok n h q)
     |_=>cases h
def RV(N n:Nat)(m:Md)(fs:List Frame)(K:KL)(rs:List ResultVar):Option Value:=match RX N n m fs K with
 |some K'=>match aD K' rs with
  |some vs=>some (IT vs)
  |none=>none
 |none=>none
theorem RV.ok{n:Nat}{m:Md}{fs:List Frame}{K:KL}{w:World}{fn:Func}{v:Value}{R:Ending->World->Prop}(h:RV N n m fs K fn.results.toList=some v)(hR:R (.returned v) w):vB P N (bodyPost P fn R) m fs K w:=by
 unfold RV at h
 split at h
 ·rename_i K' h1
  split at h
  ·rename_i vs h2
   obtain rfl:=AM h
   exact RX.ok n h1 (Ne (by simp) h2 hR)
  ·cases h
 ·cases h
variable {α:Type} {c:Operand} {x y:Code} {t:Bool} {u:α} {A B:Option α} {r:α} {v:Value} {X:World -> Prop} {fn:Func} {fs:List Frame} {K:KL} {w:World}
theorem Wt(hF:(bif t then some u else B)=some r)(hX:X w)(k:B=some r->WC P N y (IQ P (bodyPost P fn (Fu fun z U=>z=v∧X U)) fs) K w)(hc:DW K c=some (.bool t):=by rfl)(hv:u=r->RV N 99 (.c x) fs K fn.results.toList=some v:=by intro h;subst h;rfl):
 WC P N (.cond c x y) (IQ P (bodyPost P fn (Fu fun z U=>z=v∧X U)) fs) K w:=
 Wc hc hF (fun h=>RV.ok (m:=.c x) (hv (VE h)) ⟨_,rfl,rfl,hX⟩) k
theorem Wf(hF:(bif t then A else some u)=some r)(hX:X w)(k:A=some r->WC P N x (IQ P (bodyPost P fn (Fu fun z U=>z=v∧X U)) fs) K w)(hc:DW K c=some (.bool t):=by rfl)(hv:u=r->RV N 99 (.c y) fs K fn.results.toList=some v:=by intro h;subst h;rfl):
 WC P N (.cond c x y) (IQ P (bodyPost P fn (Fu fun z U=>z=v∧X U)) fs) K w:=
 Wc hc hF k fun h=>RV.ok (m:=.c y) (hv (VE h)) ⟨_,rfl,rfl,hX⟩
theorem Xn{c:Code}(hF:some u=some r)(hX:X w)(hv:u=r->RV N 99 (.c c) fs K fn.results.toList=some v:=by intro h;subst h;rfl):WC P N c (IQ P (bodyPost P fn (Fu fun z U=>z=v∧X U)) fs) K w:=RV.ok (m:=.c c) (hv (VE hF)) ⟨_,rfl,rfl,hX⟩
theorem GQ{ops:Array Oper}{l:List Oper}(hF:some u=some r)(hX:X w)(hv:u=r->RV N 99 (.o ops l) fs K fn.results.toList=some v:=by intro h;subst h;rfl):TL P N ops (IQ P (bodyPost P fn (Fu fun z U=>z=v∧X U)) fs) l K w:=RV.ok (m:=.o ops l) (hv (VE hF)) ⟨_,rfl,rfl,hX⟩
theorem UO{e:Exit}(hF:some u=some r)(hX:X w)(hv:u=r->RV N 99 (.e e) fs K fn.results.toList=some v:=by intro h;subst h;rfl):NX N (IQ P (bodyPost P fn (Fu fun z U=>z=v∧X U)) fs) e K w:=RV.ok (m:=.e e) (hv (VE hF)) ⟨_,rfl,rfl,hX⟩
end
section
variable {κ ρ s1 s2 s3 s4 s5 s6 s7 s8:Type} {r:ρ} {k:κ}
theorem VD{L:κ->s1->s2->Option ρ}{a b}(h:L k a b=some r):∃k',k'=k∧L k' a b=some r:=⟨k,rfl,h⟩
theorem MW{L:κ->s1->s2->s3->Option ρ}{a b c}(h:L k a b c=some r):∃k',k'=k∧L k' a b c=some r:=⟨k,rfl,h⟩
theorem jK{L:κ->s1->s2->s3->s4->Option ρ}{a b c d}(h:L k a b c d=some r):∃k',k'=k∧L k' a b c d=some r:=⟨k,rfl,h⟩
theorem dB{L:κ->s1->s2->s3->s4->s5->Option ρ}{a b c d e}(h:L k a b c d e=some r):∃k',k'=k∧L k' a b c d e=some r:=⟨k,rfl,h⟩
theorem GkF{L:κ->s1->s2->s3->s4->s5->s6->Option ρ}{a b c d e f}(h:L k a b c d e f=some r):∃k',k'=k∧L k' a b c d e f=some r:=⟨k,rfl,h⟩
theorem GkG{L:κ->s1->s2->s3->s4->s5->s6->s7->Option ρ}{a b c d e f g}(h:L k a b c d e f g=some r):∃k',k'=k∧L k' a b c d e f g=some r:=⟨k,rfl,h⟩
theorem GkH{L:κ->s1->s2->s3->s4->s5->s6->s7->s8->Option ρ}{a b c d e f g i}(h:L k a b c d e f g i=some r):∃k',k'=k∧L k' a b c d e f g i=some r:=⟨k,rfl,h⟩
end
/-! ## Guards whose ways leave the world alone -/
section
variable {P:Program} {N:Nat} {Q0:Exit -> Act -> World -> Prop} {K K':KL} {w:World} {fs:List Frame} {ops:Array Oper} {l:List Oper} {Q:Exit -> Act -> World -> Prop} {Qa:Act -> Prop}
theorem Fk(e:K'.map (fun p=>kl K p.1)=K'.map (fun p=>some p.2):=by rfl):TL P N ops (IQ P Q0 (.lp (fun a u=>Kn N K' a∧u=w)::fs)) [] K w:=TL.nil fun _ h=>⟨h.sub e,rfl⟩
theorem YT(k:Nat)(is:List Nat)(j:Nat)(c:Bool){K1:KL}(hk:SM K is [(j,.bool c)]=some K1)(h1:TL P N ops (IQ P Q0 (.lp (fun a' w'=>Kn N K1 a'∧w'=w)::fs)) (l.take k) K w)(h2:TL P N ops (IQ P Q0 fs) (l.drop k) K1 w):
 TL P N ops (IQ P Q0 fs) l K w:=TL.cutD k K1 (fun w'=>w'=w) h1 fun w' e=>e▸h2
def MS(N:Nat)(ops:Array Oper):List Oper->KL->Option KL
 |[],K=>some K
 |o::rest,K=>match IM N ops K o with
  | .yes=>match yq K o.op with
   |some v=>MS N ops rest (Cc K o.dst v)
   |none=>none
  | .skip=>MS N ops rest (Cc K o.dst undef)
  | .no=>none
theorem MS.ok:∀{l:List Oper} {K K':KL},MS N ops l K=some K'->TL P N ops Q [] K' w->TL P N ops Q l K w
 |[],K,K',h,q=>by obtain rfl:=AM h;exact q
 |o::rest,K,K',h,q=>by
  simp only [MS]at h
  split at h
  ·rename_i hg
   split at h
   ·rename_i v hv;exact Yl hg (QX hv) (MS.ok h q)
   ·cases h
  ·rename_i hg;exact Sk hg (MS.ok h q)
  ·cases h
theorem MS.okq:∀{l:List Oper} {K K':KL},MS N ops l K=some K'->QL P N ops w Qa [] K'->QL P N ops w Qa l K
 |[],K,K',h,q=>by obtain rfl:=AM h;exact q
 |o::rest,K,K',h,q=>by
  simp only [MS]at h
  split at h
  ·rename_i hg
   split at h
   ·rename_i v hv;exact Qy hg (QX hv) (MS.okq h q)
   ·cases h
  ·rename_i hg;exact Qs hg (MS.okq h q)
  ·cases h
theorem dC{N:Nat}{Kt K1:KL}{t j:Nat}{c x u v:Bool}(e:c=x)(t1:kl Kt t=some (.bool x))(b1:kl Kt j=some (.bool u))(uv:u=v)(e1:K1.map (fun p=>kl ((t,.bool c)::(j,.bool v)::Kt) p.1)=K1.map (fun p=>some p.2))(a:Act)(h:Kn N Kt a):Kn N K1 a:=by
 subst uv
 refine Kn.sub (Kn.know (u:=.bool x) (h.know b1 rfl) ?_ (by rw [e])) e1
 cases hb:Nat.beq j t with
 |false=>simpa [kl,hb] using t1
 |true=>obtain rfl:=Az hb;rw [b1]at t1;simpa [kl] using t1
section
variable {c b:Bool} {K1 Kt Kf:KL}
theorem Zg(k:Nat)(is:List Nat)(j t:Nat)(k2:TL P N ops (IQ P Q0 fs) (l.drop k) K1 w)(ha:kl K t=some (.bool c):=by rfl)
 (h1:MS N ops (l.take k) ((t,.bool true)::K)=some Kt:=by rfl) (b1:kl Kt j=some (.bool b):=by rfl) (t1:kl Kt t=some (.bool true):=by rfl)
 (h2:MS N ops (l.take k) ((t,.bool false)::K)=some Kf:=by rfl) (b2:kl Kf j=some (.bool false):=by rfl) (t2:kl Kf t=some (.bool false):=by rfl) (hk:SM K is [(j,.bool (c&&b))]=some K1:=by rfl)
 (e1:K1.map (fun p=>kl ((t,.bool c)::(j,.bool (c&&b))::Kt) p.1)=K1.map (fun p=>some p.2):=by rfl) (e2:K1.map (fun p=>kl ((t,.bool c)::(j,.bool (c&&b))::Kf) p.1)=K1.map (fun p=>some p.2):=by rfl):TL P N ops (IQ P Q0 fs) l K w:=
 YT k is j (c&&b) hk (Kd t ha (fun e=>MS.ok h1 (TL.nil fun a h=>⟨dC e t1 b1 (vA e) e1 a h,rfl⟩)) fun e=>MS.ok h2 (TL.nil fun a h=>⟨dC e t2 b2 (vN e) e2 a h,rfl⟩)) k2
theorem rE(k:Nat)(is:List Nat)(j t:Nat)(k2:TL P N ops (IQ P Q0 fs) (l.drop k) K1 w)(ha:kl K t=some (.bool c):=by rfl)
 (h1:MS N ops (l.take k) ((t,.bool true)::K)=some Kt:=by rfl) (b1:kl Kt j=some (.bool true):=by rfl) (t1:kl Kt t=some (.bool true):=by rfl)
 (h2:MS N ops (l.take k) ((t,.bool false)::K)=some Kf:=by rfl) (b2:kl Kf j=some (.bool b):=by rfl) (t2:kl Kf t=some (.bool false):=by rfl) (hk:SM K is [(j,.bool (c||b))]=some K1:=by rfl)
 (e1:K1.map (fun p=>kl ((t,.bool c)::(j,.bool (c||b))::Kt) p.1)=K1.map (fun p=>some p.2):=by rfl) (e2:K1.map (fun p=>kl ((t,.bool c)::(j,.bool (c||b))::Kf) p.1)=K1.map (fun p=>some p.2):=by rfl):TL P N ops (IQ P Q0 fs) l K w:=
 YT k is j (c||b) hk (Kd t ha (fun e=>MS.ok h1 (TL.nil fun a h=>⟨dC e t1 b1 (vD e) e1 a h,rfl⟩)) fun e=>MS.ok h2 (TL.nil fun a h=>⟨dC e t2 b2 (uY e) e2 a h,rfl⟩)) k2
theorem Oz(k:Nat)(is:List Nat)(j t:Nat)(b:Bool){c:Bool}{K1 Kx Kf:KL}(hx:SM ((t,.bool true)::K) (t::is) [(j,.bool b)]=some Kx)(h1:TL P N ops (IQ P Q0 (.lp (fun a' w'=>Kn N Kx a'∧w'=w)::fs)) (l.take k) ((t,.bool true)::K) w)(k2:TL P N ops (IQ P Q0 fs) (l.drop k) K1 w)(ha:kl K t=some (.bool c):=by rfl)
 (h2:MS N ops (l.take k) ((t,.bool false)::K)=some Kf:=by rfl) (b2:kl Kf j=some (.bool false):=by rfl) (t2:kl Kf t=some (.bool false):=by rfl) (hk:SM K is [(j,.bool (c&&b))]=some K1:=by rfl) (b1:kl Kx j=some (.bool b):=by rfl) (t1:kl Kx t=some (.bool true):=by rfl)
 (e1:K1.map (fun p=>kl ((t,.bool c)::(j,.bool (c&&b))::Kx) p.1)=K1.map (fun p=>some p.2):=by rfl) (e2:K1.map (fun p=>kl ((t,.bool c)::(j,.bool (c&&b))::Kf) p.1)=K1.map (fun p=>some p.2):=by rfl):TL P N ops (IQ P Q0 fs) l K w:=
 Kd t ha (fun e=>TL.cutD k Kx (fun w'=>w'=w) h1 fun w' q=>q▸fun a hK=>k2 a (dC e t1 b1 (vA e) e1 a hK)) fun e=>TL.cutD k Kf (fun w'=>w'=w) (MS.ok h2 (TL.nil fun a h=>⟨h,rfl⟩)) fun w' q=>q▸fun a hK=>k2 a (dC e t2 b2 (vN e) e2 a hK)
theorem Sg(k:Nat)(is:List Nat)(j t:Nat)(b:Bool){c:Bool}{K1 Kx Kf:KL}(hx:SM ((t,.bool false)::K) (t::is) [(j,.bool b)]=some Kx)(h1:TL P N ops (IQ P Q0 (.lp (fun a' w'=>Kn N Kx a'∧w'=w)::fs)) (l.take k) ((t,.bool false)::K) w)(k2:TL P N ops (IQ P Q0 fs) (l.drop k) K1 w)(ha:kl K t=some (.bool c):=by rfl)
 (h2:MS N ops (l.take k) ((t,.bool true)::K)=some Kf:=by rfl) (b2:kl Kf j=some (.bool true):=by rfl) (t2:kl Kf t=some (.bool true):=by rfl) (hk:SM K is [(j,.bool (c||b))]=some K1:=by rfl) (b1:kl Kx j=some (.bool b):=by rfl) (t1:kl Kx t=some (.bool false):=by rfl)
 (e1:K1.map (fun p=>kl ((t,.bool c)::(j,.bool (c||b))::Kx) p.1)=K1.map (fun p=>some p.2):=by rfl) (e2:K1.map (fun p=>kl ((t,.bool c)::(j,.bool (c||b))::Kf) p.1)=K1.map (fun p=>some p.2):=by rfl):TL P N ops (IQ P Q0 fs) l K w:=
 Kd t ha (fun e=>TL.cutD k Kf (fun w'=>w'=w) (MS.ok h2 (TL.nil fun a h=>⟨h,rfl⟩)) fun w' q=>q▸fun a hK=>k2 a (dC e t2 b2 (vD e) e2 a hK)) fun e=>TL.cutD k Kx (fun w'=>w'=w) h1 fun w' q=>q▸fun a hK=>k2 a (dC e t1 b1 (uY e) e1 a hK)
theorem aX(k:Nat)(is:List Nat)(j t:Nat)(b:Bool){c:Bool}{K1 Kx Kf:KL}(hx:SM ((t,.bool true)::K) (t::is) [(j,.bool b)]=some Kx)(h1:QL P N ops w (fun a'=>Kn N Kx a') (l.take k) ((t,.bool true)::K))(k2:QL P N ops w Qa (l.drop k) K1)(ha:kl K t=some (.bool c):=by rfl)
 (h2:MS N ops (l.take k) ((t,.bool false)::K)=some Kf:=by rfl) (b2:kl Kf j=some (.bool false):=by rfl) (t2:kl Kf t=some (.bool false):=by rfl) (hk:SM K is [(j,.bool (c&&b))]=some K1:=by rfl) (b1:kl Kx j=some (.bool b):=by rfl) (t1:kl Kx t=some (.bool true):=by rfl)
 (e1:K1.map (fun p=>kl ((t,.bool c)::(j,.bool (c&&b))::Kx) p.1)=K1.map (fun p=>some p.2):=by rfl) (e2:K1.map (fun p=>kl ((t,.bool c)::(j,.bool (c&&b))::Kf) p.1)=K1.map (fun p=>some p.2):=by rfl):QL P N ops w Qa l K:=
 Kdq t ha (fun e=>QL.cut k Kx h1 fun a hK=>k2 a (dC e t1 b1 (vA e) e1 a hK)) fun e=>QL.cut k Kf (MS.okq h2 (QL.nil fun a h=>h)) fun a hK=>k2 a (dC e t2 b2 (vN e) e2 a hK)
end
theorem JD{β:Type}{A:Option Bool}{g:Bool->Option β}{r:β}{c:Bool}{K1 Kx:Bool->KL}{Kf:KL}(k:Nat)(is:List Nat)(j t:Nat)(hF:Option.bind (bif c then A else some false) g=some r)(h1:∀b,A=some b->TL P N ops (IQ P Q0 (.lp (fun a' w'=>Kn N (Kx b) a'∧AU w w')::fs)) (l.take k) ((t,.bool true)::K) w)(k2:∀b,g b=some r->∀w',AU w w'->TL P N ops (IQ P Q0 fs) (l.drop k) (K1 b) w')(ha:kl K t=some (.bool c):=by rfl)
 (hx:∀b,SM ((t,.bool true)::K) (t::is) [(j,.bool b)]=some (Kx b):=by intro _;rfl) (hk:∀b,SM K is [(j,.bool b)]=some (K1 b):=by intro _;rfl) (h2:MS N ops (l.take k) ((t,.bool false)::K)=some Kf:=by rfl)
 (t1:∀b,kl (Kx b) t=some (.bool true):=by intro _;rfl) (t2:kl Kf t=some (.bool false):=by rfl)
 (e1:∀b,(K1 b).map (fun p=>kl ((t,.bool c)::Kx b) p.1)=(K1 b).map (fun p=>some p.2):=by intro _;rfl) (e2:(K1 false).map (fun p=>kl ((t,.bool c)::Kf) p.1)=(K1 false).map (fun p=>some p.2):=by rfl):TL P N ops (IQ P Q0 fs) l K w:=by
 obtain⟨b,hb,h3⟩:=AO hF
 refine Kd t ha (fun e=>?_) fun e=>?_
 ·replace hb:=Qf e hb;exact TL.cutD k (Kx b) (fun w'=>AU w w') (h1 b hb) fun w' q a hK=>k2 b h3 w' q a ((hK.know (t1 b) (by rw [e])).sub (e1 b))
 ·replace hb:=QU e hb;obtain rfl:=VE hb;exact TL.cutD k Kf (fun w'=>AU w w') (MS.ok h2 (TL.nil fun a h=>⟨h,AU.refl _⟩)) fun w' q a hK=>k2 _ h3 w' q a ((hK.know t2 (by rw [e])).sub e2)
theorem PI{β:Type}{A:Option Bool}{g:Bool->Option β}{r:β}{c:Bool}{K1 Kx:Bool->KL}{Kf:KL}(k:Nat)(is:List Nat)(j t:Nat)(hF:Option.bind (bif c then some true else A) g=some r)(h1:∀b,A=some b->TL P N ops (IQ P Q0 (.lp (fun a' w'=>Kn N (Kx b) a'∧AU w w')::fs)) (l.take k) ((t,.bool false)::K) w)(k2:∀b,g b=some r->∀w',AU w w'->TL P N ops (IQ P Q0 fs) (l.drop k) (K1 b) w')(ha:kl K t=some (.bool c):=by rfl)
 (hx:∀b,SM ((t,.bool false)::K) (t::is) [(j,.bool b)]=some (Kx b):=by intro _;rfl) (hk:∀b,SM K is [(j,.bool b)]=some (K1 b):=by intro _;rfl) (h2:MS N ops (l.take k) ((t,.bool true)::K)=some Kf:=by rfl)
 (t1:∀b,kl (Kx b) t=some (.bool false):=by intro _;rfl) (t2:kl Kf t=some (.bool true):=by rfl)
 (e1:∀b,(K1 b).map (fun p=>kl ((t,.bool c)::Kx b) p.1)=(K1 b).map (fun p=>some p.2):=by intro _;rfl) (e2:(K1 true).map (fun p=>kl ((t,.bool c)::Kf) p.1)=(K1 true).map (fun p=>some p.2):=by rfl):TL P N ops (IQ P Q0 fs) l K w:=by
 obtain⟨b,hb,h3⟩:=AO hF
 refine Kd t ha (fun e=>?_) fun e=>?_
 ·replace hb:=Qf e hb;obtain rfl:=VE hb;exact TL.cutD k Kf (fun w'=>AU w w') (MS.ok h2 (TL.nil fun a h=>⟨h,AU.refl _⟩)) fun w' q a hK=>k2 _ h3 w' q a ((hK.know t2 (by rw [e])).sub e2)
 ·replace hb:=QU e hb;exact TL.cutD k (Kx b) (fun w'=>AU w w') (h1 b hb) fun w' q a hK=>k2 b h3 w' q a ((hK.know (t1 b) (by rw [e])).sub (e1 b))
theorem Iz{β:Type}{A:Option Bool}{g:Bool->Option β}{r:β}{c:Bool}{K1 Kx:Bool->KL}{Kf:KL}(k:Nat)(is:List Nat)(j t:Nat)(hF:Option.bind (bif c then A else some false) g=some r)(h1:∀b,A=some b->TL P N ops (IQ P Q0 (.lp (fun a' w'=>Kn N (Kx b) a'∧w'=w)::fs)) (l.take k) ((t,.bool true)::K) w)(k2:∀b,g b=some r->TL P N ops (IQ P Q0 fs) (l.drop k) (K1 b) w)(ha:kl K t=some (.bool c):=by rfl)
 (hx:∀b,SM ((t,.bool true)::K) (t::is) [(j,.bool b)]=some (Kx b):=by intro _;rfl) (hk:∀b,SM K is [(j,.bool b)]=some (K1 b):=by intro _;rfl) (h2:MS N ops (l.take k) ((t,.bool false)::K)=some Kf:=by rfl)
 (t1:∀b,kl (Kx b) t=some (.bool true):=by intro _;rfl) (t2:kl Kf t=some (.bool false):=by rfl)
 (e1:∀b,(K1 b).map (fun p=>kl ((t,.bool c)::Kx b) p.1)=(K1 b).map (fun p=>some p.2):=by intro _;rfl) (e2:(K1 false).map (fun p=>kl ((t,.bool c)::Kf) p.1)=(K1 false).map (fun p=>some p.2):=by rfl):TL P N ops (IQ P Q0 fs) l K w:=by
 obtain⟨b,hb,h3⟩:=AO hF
 refine Kd t ha (fun e=>?_) fun e=>?_
 ·replace hb:=Qf e hb;exact TL.cutD k (Kx b) (fun w'=>w'=w) (h1 b hb) fun w' q=>q▸fun a hK=>k2 b h3 a ((hK.know (t1 b) (by rw [e])).sub (e1 b))
 ·replace hb:=QU e hb;obtain rfl:=VE hb;exact TL.cutD k Kf (fun w'=>w'=w) (MS.ok h2 (TL.nil fun a h=>⟨h,rfl⟩)) fun w' q=>q▸fun a hK=>k2 _ h3 a ((hK.know t2 (by rw [e])).sub e2)
theorem OD{β:Type}{A:Option Bool}{g:Bool->Option β}{r:β}{c:Bool}{K1 Kx:Bool->KL}{Kf:KL}(k:Nat)(is:List Nat)(j t:Nat)(hF:Option.bind (bif c then some true else A) g=some r)(h1:∀b,A=some b->TL P N ops (IQ P Q0 (.lp (fun a' w'=>Kn N (Kx b) a'∧w'=w)::fs)) (l.take k) ((t,.bool false)::K) w)(k2:∀b,g b=some r->TL P N ops (IQ P Q0 fs) (l.drop k) (K1 b) w)(ha:kl K t=some (.bool c):=by rfl)
 (hx:∀b,SM ((t,.bool false)::K) (t::is) [(j,.bool b)]=some (Kx b):=by intro _;rfl) (hk:∀b,SM K is [(j,.bool b)]=some (K1 b):=by intro _;rfl) (h2:MS N ops (l.take k) ((t,.bool true)::K)=some Kf:=by rfl)
 (t1:∀b,kl (Kx b) t=some (.bool false):=by intro _;rfl) (t2:kl Kf t=some (.bool true):=by rfl)
 (e1:∀b,(K1 b).map (fun p=>kl ((t,.bool c)::Kx b) p.1)=(K1 b).map (fun p=>some p.2):=by intro _;rfl) (e2:(K1 true).map (fun p=>kl ((t,.bool c)::Kf) p.1)=(K1 true).map (fun p=>some p.2):=by rfl):TL P N ops (IQ P Q0 fs) l K w:=by
 obtain⟨b,hb,h3⟩:=AO hF
 refine Kd t ha (fun e=>?_) fun e=>?_
 ·replace hb:=Qf e hb;obtain rfl:=VE hb;exact TL.cutD k Kf (fun w'=>w'=w) (MS.ok h2 (TL.nil fun a h=>⟨h,rfl⟩)) fun w' q=>q▸fun a hK=>k2 _ h3 a ((hK.know t2 (by rw [e])).sub e2)
 ·replace hb:=QU e hb;exact TL.cutD k (Kx b) (fun w'=>w'=w) (h1 b hb) fun w' q=>q▸fun a hK=>k2 b h3 a ((hK.know (t1 b) (by rw [e])).sub (e1 b))
theorem LC{β:Type}{A:Option Bool}{g:Bool->Option β}{r:β}{c:Bool}{K1 Kx:Bool->KL}{Kf:KL}(k:Nat)(is:List Nat)(j t:Nat)(hF:Option.bind (bif c then A else some false) g=some r)(h1:∀b,A=some b->QL P N ops w (fun a'=>Kn N (Kx b) a') (l.take k) ((t,.bool true)::K))(k2:∀b,g b=some r->QL P N ops w Qa (l.drop k) (K1 b))(ha:kl K t=some (.bool c):=by rfl)
 (hx:∀b,SM ((t,.bool true)::K) (t::is) [(j,.bool b)]=some (Kx b):=by intro _;rfl) (hk:∀b,SM K is [(j,.bool b)]=some (K1 b):=by intro _;rfl) (h2:MS N ops (l.take k) ((t,.bool false)::K)=some Kf:=by rfl)
 (t1:∀b,kl (Kx b) t=some (.bool true):=by intro _;rfl) (t2:kl Kf t=some (.bool false):=by rfl)
 (e1:∀b,(K1 b).map (fun p=>kl ((t,.bool c)::Kx b) p.1)=(K1 b).map (fun p=>some p.2):=by intro _;rfl) (e2:(K1 false).map (fun p=>kl ((t,.bool c)::Kf) p.1)=(K1 false).map (fun p=>some p.2):=by rfl):QL P N ops w Qa l K:=by
 obtain⟨b,hb,h3⟩:=AO hF
 refine Kdq t ha (fun e=>?_) fun e=>?_
 ·replace hb:=Qf e hb;exact QL.cut k (Kx b) (h1 b hb) fun a hK=>k2 b h3 a ((hK.know (t1 b) (by rw [e])).sub (e1 b))
 ·replace hb:=QU e hb;obtain rfl:=VE hb;exact QL.cut k Kf (MS.okq h2 (QL.nil fun a h=>h)) fun a hK=>k2 _ h3 a ((hK.know t2 (by rw [e])).sub e2)
theorem OC{β:Type}{A:Option Bool}{g:Bool->Option β}{r:β}{c:Bool}{K1 Kx:Bool->KL}{Kf:KL}(k:Nat)(is:List Nat)(j t:Nat)(hF:Option.bind (bif c then some true else A) g=some r)(h1:∀b,A=some b->QL P N ops w (fun a'=>Kn N (Kx b) a') (l.take k) ((t,.bool false)::K))(k2:∀b,g b=some r->QL P N ops w Qa (l.drop k) (K1 b))(ha:kl K t=some (.bool c):=by rfl)
 (hx:∀b,SM ((t,.bool false)::K) (t::is) [(j,.bool b)]=some (Kx b):=by intro _;rfl) (hk:∀b,SM K is [(j,.bool b)]=some (K1 b):=by intro _;rfl) (h2:MS N ops (l.take k) ((t,.bool true)::K)=some Kf:=by rfl)
 (t1:∀b,kl (Kx b) t=some (.bool false):=by intro _;rfl) (t2:kl Kf t=some (.bool true):=by rfl)
 (e1:∀b,(K1 b).map (fun p=>kl ((t,.bool c)::Kx b) p.1)=(K1 b).map (fun p=>some p.2):=by intro _;rfl) (e2:(K1 true).map (fun p=>kl ((t,.bool c)::Kf) p.1)=(K1 true).map (fun p=>some p.2):=by rfl):QL P N ops w Qa l K:=by
 obtain⟨b,hb,h3⟩:=AO hF
 refine Kdq t ha (fun e=>?_) fun e=>?_
 ·replace hb:=Qf e hb;obtain rfl:=VE hb;exact QL.cut k Kf (MS.okq h2 (QL.nil fun a h=>h)) fun a hK=>k2 _ h3 a ((hK.know t2 (by rw [e])).sub e2)
 ·replace hb:=QU e hb;exact QL.cut k (Kx b) (h1 b hb) fun a hK=>k2 b h3 a ((hK.know (t1 b) (by rw [e])).sub (e1 b))
end
/-! ## Pointers against nil -/
theorem OG{P:Program}{N:Nat}{K:KL}{w:World}{fn:Func}{p ty b T:Nat}{us:List Value}{R:Ending->World->Prop}(hb:BO w b us T)(ha:EO P ty=some true)(hn:CE P ty=some us.length)(hR:R (.returned (.agg us.toArray)) w)
 (hr:fn.results=List.toArray [.cell p ty]:=by rfl) (hk:kl K p=some (.pointer (some ⟨b,0,none⟩)):=by rfl):NX N (bodyPost P fn R) .ret K w:=
 NX.end (vs:=[.agg us.toArray]) hr ⟨⟨b,hk,Dd ha hn hb⟩,trivial⟩ hR
end Go.Eng
namespace Go.Eng
open Go Go.RowKit
/-! ## Code in a round's frame, and behind a range over a function -/
section
variable {P:Program} {Q Q1:Exit -> Act -> World -> Prop} {ds:List Deferred} {r:Option Nat} {n:Nat}
variable {ops:Array Oper}
end
section
variable {P:Program} {N:Nat} {r:Option Nat} {n:Nat} {ds:List Deferred} {Q:Exit -> Act -> World -> Prop} {K:KL} {w:World}
end
section
variable (P:Program) (N:Nat) (r:Option Nat) (n0:Nat) (ds:List Deferred) (Q0:Exit -> Act -> World -> Prop)
end
section
variable {P:Program} {N:Nat} {r:Option Nat} {n0:Nat} {ds:List Deferred} {Q0:Exit -> Act -> World -> Prop}
variable {K:KL} {w:World} {fs:List Frame} {ops:Array Oper}
end
/-! ## A range over slices.Backward -/
def Ob(w:World)(k:Nat)(o:Obj):Prop:=w.heap[k]? =some o
theorem Ob.lt{w:World}{k:Nat}{o:Obj}(h:Ob w k o):k<w.heap.size:=(CA.1 h).1
theorem Ob.ext{w w':World}{k:Nat}{o:Obj}(h:Ob w k o)(he:AU w w'):Ob w' k o:=by unfold Ob;rw [he.block k h.lt];exact h
theorem Ob.upd{w w':World}{k c:Nat}{o:Obj}(h:Ob w k o)(he:JM c w w')(hne:k≠c):Ob w' k o:=by unfold Ob;rw [he.block k hne];exact h
theorem Ob.but{p:Nat->Prop}{w w':World}{k:Nat}{o:Obj}(h:Ob w k o)(he:BH p w w')(hne:∀j,p j->j≠k):Ob w' k o:=by unfold Ob;rw [he.block k h.lt (fun e=>hne k e rfl)];exact h
instance {w w':World}{d:Nat}{o:Obj}:Mv w w' (Ob w d o) (Ob w' d o) True:=⟨fun h _ k=>h.ext k⟩
instance {b:Nat}{w w':World}{d:Nat}{o:Obj}:Mu b w w' (Ob w d o) (Ob w' d o) (d≠b):=⟨fun h s k=>h.upd k s⟩
instance {b:Nat}{w w':World}{d:Nat}{o:Obj}:Mb b w w' (Ob w d o) (Ob w' d o) (b≠d):=⟨fun h s k=>h.but k (AY s)⟩
section
variable {P:Program} {fn:Func} {gf b:Nat} {tx:TypeId} {v:Value} {xs:List Int} {lo hi:Nat} {ts ti te tb:TypeId} {tys:Array TypeId} {i0 i1 i2 i3:Nat} {t1 t2 t3 t4 t5 t6 t7 t8 t9 t10 t11 t12 t13 t14 t15 t16 t17:TypeId} {p1 p2 p3 p4 p5 p6 p7 p8 p9 p10 p11 p12 p13 p14 p15 p16 p17:String} {a1 a2 a3 a4 a5 a6 a7 a8 a9 a10 a11 a12 a13 a14 a15 a16 a17:Array Edge}
end
end Go.Eng
namespace Go.Eng
open Go Go.RowKit
/-! ## Operations that only allocate, and may be done at any time -/
def iL(K:KL)(o:Oper):Prop:=∀d,o.dst=some d->kl K d=none
def dE(K K':KL):Prop:=∀t v,kl K t=some v->kl K' t=some v
def dA(o o2:Oper):Prop:=∀d d2,o.dst=some d->o2.dst=some d2->d≠d2
def outs:List (Nat×Nat)->Nat->Prop
 |[],_=>True
 |(l,h)::r,b=>(b<l∨h<=b)∧outs r b
def YF:List (Nat×Nat)->Nat->Prop
 |[],_=>True
 |(_,h)::r,m=>h<=m∧YF r m
theorem YF.mono{m m':Nat}(h:m<=m'):∀{iv:List (Nat×Nat)},YF iv m->YF iv m'
 |[],_=>trivial
 |_::_,k=>⟨Ar k.1 h,YF.mono h k.2⟩
theorem YF.outs{m b:Nat}(h:m<=b):∀{iv:List (Nat×Nat)},YF iv m->outs iv b
 |[],_=>trivial
 |_::_,k=>⟨.inr (Ar k.1 h),YF.outs h k.2⟩
theorem dA.symm{o o2:Oper}(h:dA o o2):dA o2 o:=fun d d2 e e2 g=>h d2 d e2 e g.symm
theorem RY{K:KL}{d:Option Tmp}{v:Value}(t:Nat):kl (Cc K d v) t=match d with|some d=>(bif Nat.beq d t then some v else kl K t)|none=>kl K t:=by
 cases d<;>rfl
theorem dE.put{K:KL}{o:Oper}{v:Value}(h:iL K o):dE K (Cc K o.dst v):=fun t u e=>by
 rw [RY]
 cases hd:o.dst with
 |none=>exact e
 |some d=>
  have hn:=h d hd
  show(bif Nat.beq d t then some v else kl K t)=some u
  cases c:Nat.beq d t with
  |false=>exact e
  |true=>rw [←Az c,hn]at e;cases e
theorem iL.put{K:KL}{o o2:Oper}{v:Value}(h:iL K o)(hne:dA o o2):iL (Cc K o2.dst v) o:=fun d hd=>by
 rw [RY]
 cases hd2:o2.dst with
 |none=>exact h d hd
 |some d2=>
  show(bif Nat.beq d2 d then some v else kl K d)=none
  cases c:Nat.beq d2 d with
  |false=>exact h d hd
  |true=>exact absurd (Az c).symm (hne d d2 hd hd2)
theorem WQ{K:KL}{o o2:Oper}{v v2:Value}(hne:dA o o2)(t:Nat):kl (Cc (Cc K o.dst v) o2.dst v2) t=kl (Cc (Cc K o2.dst v2) o.dst v) t:=by
 simp only [RY]
 cases hd:o.dst with
 |none=>cases o2.dst<;>rfl
 |some d=>
  cases hd2:o2.dst with
  |none=>rfl
  |some d2=>
   show(bif Nat.beq d2 t then some v2 else(bif Nat.beq d t then some v else kl K t))=(bif Nat.beq d t then some v else(bif Nat.beq d2 t then some v2 else kl K t))
   cases c:Nat.beq d2 t with
   |false=>rfl
   |true=>
    cases c2:Nat.beq d t with
    |false=>rfl
    |true=>exact absurd ((Az c2).trans (Az c).symm) (hne d d2 hd hd2)
section
variable {P:Program} {N:Nat} {ops:Array Oper} {n:Nat} {Q:Exit -> Act -> World -> Prop}
theorem IP.sub{K K':KL}{o:Oper}{w:World}{R:Value->World->Prop}(h:IP P N K o w R)(hs:dE K K'):IP P N K' o w R:=fun a hK Kt Q hk=>h a ⟨hK.df,hK.sz,fun t v e=>hK.get t v (hs t v e)⟩ Kt Q hk
theorem IP.mono{K:KL}{o:Oper}{w:World}{R R':Value->World->Prop}(h:IP P N K o w R)(hm:∀v w',R v w'->R' v w'):IP P N K o w R':=fun a hK Kt Q hk=>h a hK Kt Q fun v w' hR=>hk v w' (hm v w' hR)
theorem Gf.sub{K K':KL}{o:Oper}{w:World}{v:Value}(h:Gf P N K o w v)(hs:dE K K'):Gf P N K' o w v:=fun a hK w' hw=>h a ⟨hK.df,hK.sz,fun t v e=>hK.get t v (hs t v e)⟩ w' hw
def Kz(ops:Array Oper):List Nat->List Nat->Array Bool->Bool
 |[],js,listed=>!(Region.ready .any ops listed).isEmpty&&(Region.ready .any ops listed).all fun x=>js.contains x
 |i::is,js,listed=>Kz ops is (i::js) listed&&Kz ops is js (listed.setIfInBounds i true)
def dG(ops:Array Oper)(n:Nat):List Nat->Nat->Array Bool->Bool
 |[],j,listed=>Nat.blt j n&&Region.free .any ops listed j&&(Region.ready .any ops listed).contains j
 |i::is,j,listed=>dG ops n is j listed&&dG ops n is j (listed.setIfInBounds i true)
class PB(P:outParam Program)(N:outParam Nat)(ops:outParam (Array Oper))(n:outParam Nat)(G:outParam (World->World->Prop))(B:outParam (World->Prop))(T:Nat->Array Bool->KL->World->Prop):Prop where
 refl:∀w,G w w
 ext:∀{w w2 w3},G w w2->AU w2 w3->G w w3
 trans:∀{w w2 w3},G w w2->G w2 w3->G w w3
 size:∀{w w2},G w w2->w.heap.size<=w2.heap.size
 many:∀{f listed K w} (js:List Nat),Kz ops [] js listed=true->(∀j∈js,∃(o:Oper) (R:Value->World->Prop),ops[j]? =some o∧j<n∧o.guard=none∧EC N o.dst=true∧IP P N K o w R∧∀v w',R v w'->G w w'∧T f (listed.setIfInBounds j true) (Cc K o.dst v) w')->T (f+1) listed K w
 yld:∀{f listed K w} {o:Oper} {v:Value} (j:Nat),Fo ops n=true->ops[j]? =some o->dG ops n [] j listed=true->o.guard=none->EC N o.dst=true->(∀wx,B wx->Gf P N K o wx v)->T f (listed.setIfInBounds j true) (Cc K o.dst v) w->T (f+1) listed K w
 perm:∀{f listed K K' w},(∀t,kl K' t=kl K t)->T f listed K w->T f listed K' w
def TH(P:Program)(N:Nat)(ops:Array Oper)(n:Nat)(Q:Exit->Act->World->Prop)(w0:World)(f:Nat)(listed:Array Bool)(K:KL)(w:World):Prop:=HL P N ops n (noPan Q) w0 f listed K w
def TG(P:Program)(N:Nat)(ops:Array Oper)(n:Nat)(Q:Exit->Act->World->Prop)(p:Nat->Prop)(w0:World)(f:Nat)(listed:Array Bool)(K:KL)(w:World):Prop:=Js P N ops n (noPan Q) p w0 f listed K w
theorem Kz.rdy{js:List Nat}{listed:Array Bool}(h:Kz ops [] js listed=true):(Region.ready .any ops listed).isEmpty=false∧∀j∈Region.ready .any ops listed,j∈js:=by
 simp only [Kz,AD,BY]at h
 exact⟨h.1,fun j hj=>by simpa using CG.1 h.2 j hj⟩
instance PB.h{w0:World}:PB P N ops n AU (fun wx=>AU w0 wx) (TH P N ops n Q w0) where
 refl:=AU.refl
 ext:=AU.trans
 trans:=AU.trans
 size:=fun h=>h.size
 many:=by
  intro f listed K w js hr h inv hx a hK
  refine HL.many rfl (Kz.rdy hr).1 (fun j hj=>?_) inv hx a hK
  obtain⟨o,R,hi,hin,hg,hd,he,hk⟩:=h j ((Kz.rdy hr).2 j hj)
  exact HB.eff j hi (by simp [Nat.blt];omega) (by simpa using hj) hg hd he fun v w' hR=>⟨AU.trans hx (hk v w' hR).1,(hk v w' hR).2⟩
 yld:=fun j hh hi hc hg hd h k=>HL.yld j hh hi hc hg hd (h _ (AU.refl _)) k
 perm:=fun hk h inv hx a hK=>h inv hx a ⟨hK.df,hK.sz,fun t v e=>hK.get t v (by rw [hk];exact e)⟩
instance PB.g{p:Nat->Prop}{w0:World}:PB P N ops n (BH p) (fun wx=>BH p w0 wx) (TG P N ops n Q p w0) where
 refl:=BH.refl p
 ext:=BH.ext
 trans:=fun h k=>BH.trans h k
 size:=fun h=>h.size
 many:=by
  intro f listed K w js hr h inv hx a hK
  refine Js.many rfl (Kz.rdy hr).1 (fun j hj=>?_) inv hx a hK
  obtain⟨o,R,hi,hin,hg,hd,he,hk⟩:=h j ((Kz.rdy hr).2 j hj)
  exact oO.eff j hi (by simp [Nat.blt];omega) (by simpa using hj) hg hd he fun v w' hR=>⟨BH.trans hx (hk v w' hR).1,(hk v w' hR).2⟩
 yld:=fun j hh hi hc hg hd h k=>Js.yld j hh hi hc hg hd h k
 perm:=fun hk h inv hx a hK=>h inv hx a ⟨hK.df,hK.sz,fun t v e=>hK.get t v (by rw [hk];exact e)⟩
end
section
variable (P:Program) (N:Nat) (ops:Array Oper) (n:Nat) (G:World -> World -> Prop)
structure Pd where
 i:Nat
 o:Oper
 K:KL
 lo:Nat
 V:Nat->Value
 F:Nat->World->Prop
 hi:ops[i]? =some o
 hin:i<n
 hg:o.guard=none
 hd:EC N o.dst=true
 eff:∀wx,lo<=wx.heap.size->IP P N K o wx (fun v w'=>AU wx w'∧w'.heap.size=wx.heap.size+1∧v=V wx.heap.size∧F wx.heap.size w')
 st:∀b w w',lo<=b->F b w->G w w'->F b w'
 lt:∀b w,F b w->b<w.heap.size
def PX(T:Nat->Array Bool->KL->World->Prop):List (Pd P N ops n G)->List (Nat×Nat)->Nat->Array Bool->KL->World->Prop
 |[],_,f,listed,K,w=>T f listed K w
 |q::qs,iv,f,listed,K,w=>q.lo<=w.heap.size->iL K q.o->dE q.K K->YF iv w.heap.size->(∀q2∈qs,q.i≠q2.i∧dA q.o q2.o)->
  PX T qs iv (f+1) listed K w∧∀b w',AU w w'->q.lo<=b->q.F b w'->outs iv b->PX T qs ((b,b+1)::iv) f (listed.setIfInBounds q.i true) (Cc K q.o.dst (q.V b)) w'
def OBx(T:Nat->Array Bool->KL->World->Prop)(qs:List (Pd P N ops n G))(iv:List (Nat×Nat))(j f:Nat)(listed:Array Bool)(K:KL)(w:World):Prop:=
 ∃o:Oper,ops[j]? =some o∧j<n∧o.guard=none∧EC N o.dst=true∧iL K o∧(∀q∈qs,j≠q.i∧dA q.o o)∧
  ∀wx,AU w wx->∃R,IP P N K o wx R∧∀v w',R v w'->G wx w'∧∃ivj,YF ivj w'.heap.size∧(∀b,outs iv b->(b<wx.heap.size∨w'.heap.size<=b)->outs ivj b)∧PX P N ops n G T qs ivj f (listed.setIfInBounds j true) (Cc K o.dst v) w'
end
section
variable {P:Program} {N:Nat} {ops:Array Oper} {n:Nat} {G:World -> World -> Prop} {B:World -> Prop} {T:Nat -> Array Bool -> KL -> World -> Prop} [hT:PB P N ops n G B T]
include hT
theorem PX.perm:∀{qs:List (Pd P N ops n G)} {iv:List (Nat×Nat)} {f:Nat} {listed:Array Bool} {K K':KL} {w:World},(∀t,kl K' t=kl K t)->PX P N ops n G T qs iv f listed K w->PX P N ops n G T qs iv f listed K' w
 |[],_,_,_,_,_,_,hk,h=>hT.perm hk h
 |q::qs,_,_,_,_,_,_,hk,h=>fun h1 h2 h3 h4 h5=>by
  obtain⟨a,b⟩:=h h1 (fun d hd=>by rw [←hk];exact h2 d hd) (fun t v e=>by rw [←hk];exact h3 t v e) h4 h5
  exact⟨PX.perm hk a,fun c w' x1 x2 x3 x4=>PX.perm (fun t=>by rw [RY,RY];split<;>simp only [hk]) (b c w' x1 x2 x3 x4)⟩
theorem PX.many:∀{qs:List (Pd P N ops n G)} {iv:List (Nat×Nat)} {f:Nat} {listed:Array Bool} {K:KL} {w:World} (js:List Nat),Kz ops (qs.map fun q=>q.i) js listed=true->(∀j∈js,OBx P N ops n G T qs iv j f listed K w)->PX P N ops n G T qs iv (f+1) listed K w
 |[],iv,f,listed,K,w,js,hr,h=>hT.many js hr fun j hj=>by
  obtain⟨o,hi,hin,hg,hd,_,_,he⟩:=h j hj
  obtain⟨R,e,k⟩:=he w (AU.refl w)
  refine⟨o,R,hi,hin,hg,hd,e,fun v w' hR=>?_⟩
  obtain⟨h1,ivj,_,_,h2⟩:=k v w' hR
  exact⟨h1,h2⟩
 |q::qs,iv,f,listed,K,w,js,hr,h=>fun hlo hfq hsq hh hq0=>by
  simp only [Eh,Kz,AD]at hr
  have tl:∀q2,q2∈qs->q2∈q::qs:=fun _ h=>Cd _ h
  have c2:∀b w',AU w w'->q.lo<=b->q.F b w'->outs iv b->PX P N ops n G T qs ((b,b+1)::iv) (f+1) (listed.setIfInBounds q.i true) (Cc K q.o.dst (q.V b)) w':=by
   intro b w' hx hb hF ho
   have hbw:=q.lt b w' hF
   refine PX.many js hr.2 fun j hj=>?_
   obtain⟨o,hi,hin,hg,hd,hfr,hne,he⟩:=h j hj
   have dq:=(hne q Bg).2
   refine⟨o,hi,hin,hg,hd,hfr.put dq.symm,fun q2 h2=>hne q2 (tl q2 h2),fun wx hwx=>?_⟩
   obtain⟨R,e,k⟩:=he wx (AU.trans hx hwx)
   refine⟨R,e.sub (dE.put hfq),fun v w2 hR=>?_⟩
   obtain⟨hG,ivj,hh2,ho2,h2⟩:=k v w2 hR
   have s1:=hwx.size
   have s2:=hT.size hG
   refine⟨hG,(b,b+1)::ivj,⟨by show b+1<=w2.heap.size;omega,hh2⟩,fun b' hb' hb2=>⟨hb'.1,ho2 b' hb'.2 hb2⟩,?_⟩
   have h3:=(h2 (by have:=hx.size;omega) (hfq.put dq) (fun t u e=>dE.put hfr t u (hsq t u e)) hh2 hq0).2 b w2 (AU.refl w2) hb (q.st b wx w2 hb (q.st b w' wx hb hF (hT.ext (hT.refl w') hwx)) hG) (ho2 b ho (.inl (by omega)))
   rw [Array.setIfInBounds_comm true true (hne q Bg).1]at h3
   exact PX.perm (fun t=>(WQ (o:=o) (o2:=q.o) dq.symm t).symm) h3
  refine⟨PX.many (q.i::js) hr.1 fun j hj=>?_,c2⟩
  rcases CS.1 hj with rfl|hj
  ·refine⟨q.o,q.hi,q.hin,q.hg,q.hd,hfq,fun q2 h2=>⟨(hq0 q2 h2).1,(hq0 q2 h2).2.symm⟩,fun wx hwx=>?_⟩
   have hs:=hwx.size
   refine⟨_,(q.eff wx (by omega)).sub hsq,fun v w' ⟨r1,r2,r3,r4⟩=>?_⟩
   subst r3
   have hh3:=hh.mono hs
   exact⟨hT.ext (hT.refl wx) r1,(wx.heap.size,wx.heap.size+1)::iv,⟨by show wx.heap.size+1<=w'.heap.size;omega,hh3.mono (by omega)⟩,fun b' hb' hb2=>⟨by show b'<wx.heap.size∨wx.heap.size+1<=b';omega,hb'⟩,c2 _ w' (AU.trans hwx r1) (by omega) r4 (hh3.outs (BN _))⟩
  ·obtain⟨o,hi,hin,hg,hd,hfr,hne,he⟩:=h j hj
   have dq:=(hne q Bg).2
   refine⟨o,hi,hin,hg,hd,hfr,fun q2 h2=>hne q2 (tl q2 h2),fun wx hwx=>?_⟩
   obtain⟨R,e,k⟩:=he wx hwx
   refine⟨R,e,fun v w2 hR=>?_⟩
   obtain⟨hG,ivj,hh2,ho2,h2⟩:=k v w2 hR
   have s1:=hwx.size
   have s2:=hT.size hG
   exact⟨hG,ivj,hh2,ho2,(h2 (by omega) (hfq.put dq) (fun t u e=>dE.put hfr t u (hsq t u e)) hh2 hq0).1⟩
theorem PX.yld:∀{qs:List (Pd P N ops n G)} {iv:List (Nat×Nat)} {f:Nat} {listed:Array Bool} {K:KL} {w:World} {o:Oper} {v:Value} (j:Nat),Fo ops n=true->ops[j]? =some o->dG ops n (qs.map fun q=>q.i) j listed=true->o.guard=none->EC N o.dst=true->iL K o->(∀q∈qs,j≠q.i∧dA q.o o)->(∀wx,B wx->Gf P N K o wx v)->PX P N ops n G T qs iv f (listed.setIfInBounds j true) (Cc K o.dst v) w->PX P N ops n G T qs iv (f+1) listed K w
 |[],_,_,_,_,_,_,_,j,hh,hi,hc,hg,hd,_,_,h,k=>hT.yld j hh hi hc hg hd h k
 |q::qs,iv,f,listed,K,w,o,v,j,hh,hi,hc,hg,hd,hfr,hne,h,k=>fun hlo hfq hsq hig0 hq0=>by
  simp only [Eh,dG,AD]at hc
  have dq:=(hne q Bg).2
  have hne2:∀q2∈qs,j≠q2.i∧dA q2.o o:=fun q2 h2=>hne q2 (Cd _ h2)
  have hk:=k hlo (hfq.put dq) (fun t u e=>dE.put hfr t u (hsq t u e)) hig0 hq0
  refine⟨PX.yld j hh hi hc.1 hg hd hfr hne2 h hk.1,fun b w' hx hb hF ho=>?_⟩
  refine PX.yld j hh hi hc.2 hg hd (hfr.put dq.symm) hne2 (fun wx hB=>(h wx hB).sub (dE.put hfq)) ?_
  ·have h2:=hk.2 b w' hx hb hF ho
   rw [Array.setIfInBounds_comm true true (hne q Bg).1]at h2
   exact PX.perm (fun t=>(WQ (o:=o) (o2:=q.o) dq.symm t).symm) h2
end
/-! What the walks say -/
def Sv(qs:List (Nat×Option Tmp))(i:Nat)(d:Option Tmp):Bool:=qs.all fun q=>!(Nat.beq i q.1)&&(match d,q.2 with|some a,some b=>!(Nat.beq b a)|_,_=>true)
def Jd(K:KL)(d:Option Tmp):Bool:=match d with|some d=>(kl K d).isNone|none=>true
theorem Jd.h{K:KL}{o:Oper}(h:Jd K o.dst=true):iL K o:=fun d hd=>by
 rw [hd]at h;simpa [Jd] using h
section
variable {P:Program} {N:Nat} {ops:Array Oper} {n:Nat} {G:World -> World -> Prop} {qs:List (Pd P N ops n G)} {o:Oper}
theorem Sv.h{i:Nat}(h:Sv (qs.map fun q=>(q.i,q.o.dst)) i o.dst=true):∀q∈qs,i≠q.i∧dA q.o o:=fun q hq=>by
 have:=CG.1 h (q.i,q.o.dst) (Dm.2 ⟨q,hq,rfl⟩)
 simp only [AD,BY]at this
 refine⟨fun e=>?_,fun d d2 e e2 g=>?_⟩
 ·have h1:=this.1
  rw [e]at h1
  rw [Nat.beq_refl]at h1;cases h1
 ·have h2:=this.2
  rw [e,e2]at h2
  subst g
  simp [Nat.beq_refl]at h2
end
section
variable {P:Program} {N:Nat} {ops:Array Oper} {n:Nat} {G:World -> World -> Prop} {B:World -> Prop} {T:Nat -> Array Bool -> KL -> World -> Prop} [hT:PB P N ops n G B T] {qs:List (Pd P N ops n G)} {iv:List (Nat × Nat)} {f:Nat} {listed:Array Bool} {K:KL} {w:World} {o:Oper} {Q:Exit -> Act -> World -> Prop}
include hT
theorem PXy{v:Value}(j:Nat)(hh:Fo ops n=true)(hi:ops[j]? =some o)(hc:dG ops n (qs.map fun q=>q.i) j listed=true)(h:∀wx,B wx->Gf P N K o wx v)(k:PX P N ops n G T qs iv f (listed.setIfInBounds j true) (Cc K o.dst v) w)
 (hg:o.guard=none:=by rfl) (hd:EC N o.dst=true:=by rfl) (hf:Jd K o.dst=true:=by rfl) (hq:Sv (qs.map fun q=>(q.i,q.o.dst)) j o.dst=true:=by rfl):PX P N ops n G T qs iv (f+1) listed K w:=
 PX.yld j hh hi hc hg hd (Jd.h hf) (Sv.h hq) h k
theorem Sq{q:Pd P N ops n G}(j:Nat)(hi:ops[j]? =some o)(hc:Kz ops ((q::qs).map fun q=>q.i) [j] listed=true)
 (h:∀wx,AU w wx->∃R,IP P N K o wx R∧∀v w',R v w'->G wx w'∧PX P N ops n G T (q::qs) ((wx.heap.size,w'.heap.size)::iv) f (listed.setIfInBounds j true) (Cc K o.dst v) w')
 (hin:Nat.blt j n=true:=by rfl) (hg:o.guard=none:=by rfl) (hd:EC N o.dst=true:=by rfl) (hf:Jd K o.dst=true:=by rfl) (hq:Sv ((q::qs).map fun q=>(q.i,q.o.dst)) j o.dst=true:=by rfl):PX P N ops n G T (q::qs) iv (f+1) listed K w:=fun h1 h2 h3 hh h5=>
 PX.many [j] hc (fun j' hj'=>by
  obtain rfl:j'=j:=by simpa using hj'
  refine⟨o,hi,by have h0:=hin;simp [Nat.blt]at h0;omega,hg,hd,Jd.h hf,Sv.h hq,fun wx hx=>?_⟩
  obtain⟨R,he,hk⟩:=h wx hx
  refine⟨R,he,fun v w' hR=>?_⟩
  obtain⟨h1,h2⟩:=hk v w' hR
  have s:=hT.size h1
  have s2:=hx.size
  exact⟨h1,(wx.heap.size,w'.heap.size)::iv,⟨BN _,hh.mono (by omega)⟩,fun b hb hb2=>⟨hb2,hb⟩,h2⟩) h1 h2 h3 hh h5
theorem kH{q:Pd P N ops n G}{o2:Oper}(j j2:Nat)(hi:ops[j]? =some o)(hi2:ops[j2]? =some o2)(hc:Kz ops ((q::qs).map fun q=>q.i) [j,j2] listed=true)
 (h:∀wx,AU w wx->∃R,IP P N K o wx R∧∀v w',R v w'->G wx w'∧PX P N ops n G T (q::qs) ((wx.heap.size,w'.heap.size)::iv) f (listed.setIfInBounds j true) (Cc K o.dst v) w')
 (h2:∀wx,AU w wx->∃R,IP P N K o2 wx R∧∀v w',R v w'->G wx w'∧PX P N ops n G T (q::qs) ((wx.heap.size,w'.heap.size)::iv) f (listed.setIfInBounds j2 true) (Cc K o2.dst v) w')
 (hin:Nat.blt j n=true:=by rfl) (hg:o.guard=none:=by rfl) (hd:EC N o.dst=true:=by rfl) (hf:Jd K o.dst=true:=by rfl) (hq:Sv ((q::qs).map fun q=>(q.i,q.o.dst)) j o.dst=true:=by rfl)
 (hin2:Nat.blt j2 n=true:=by rfl) (hg2:o2.guard=none:=by rfl) (hd2:EC N o2.dst=true:=by rfl) (hf2:Jd K o2.dst=true:=by rfl) (hq2:Sv ((q::qs).map fun q=>(q.i,q.o.dst)) j2 o2.dst=true:=by rfl):PX P N ops n G T (q::qs) iv (f+1) listed K w:=fun h1 h3 h4 hh h5=>
 PX.many [j,j2] hc (Qv (by
  refine⟨o,hi,by have h0:=hin;simp [Nat.blt]at h0;omega,hg,hd,Jd.h hf,Sv.h hq,fun wx hx=>?_⟩
  obtain⟨R,he,hk⟩:=h wx hx
  refine⟨R,he,fun v w' hR=>?_⟩
  obtain⟨h1,h2⟩:=hk v w' hR
  have s:=hT.size h1
  have s2:=hx.size
  exact⟨h1,(wx.heap.size,w'.heap.size)::iv,⟨BN _,hh.mono (by omega)⟩,fun b hb hb2=>⟨hb2,hb⟩,h2⟩) (by
  refine⟨o2,hi2,by have h0:=hin2;simp [Nat.blt]at h0;omega,hg2,hd2,Jd.h hf2,Sv.h hq2,fun wx hx=>?_⟩
  obtain⟨R,he,hk⟩:=h2 wx hx
  refine⟨R,he,fun v w' hR=>?_⟩
  obtain⟨h1,h2⟩:=hk v w' hR
  have s:=hT.size h1
  have s2:=hx.size
  exact⟨h1,(wx.heap.size,w'.heap.size)::iv,⟨BN _,hh.mono (by omega)⟩,fun b hb hb2=>⟨hb2,hb⟩,h2⟩)) h1 h3 h4 hh h5
theorem vL(i:Nat)(V:Nat->Value)(F:Nat->World->Prop)(hi:ops[i]? =some o)(eff:∀wx,w.heap.size<=wx.heap.size->IP P N K o wx (fun v w'=>AU wx w'∧w'.heap.size=wx.heap.size+1∧v=V wx.heap.size∧F wx.heap.size w'))(st:∀b w1 w',w.heap.size<=b->F b w1->G w1 w'->F b w')(lt:∀b w1,F b w1->b<w1.heap.size)
 (hh:YF iv w.heap.size) (hin:Nat.blt i n=true) (hg:o.guard=none) (hd:EC N o.dst=true) (hf:Jd K o.dst=true) (hq:Sv (qs.map fun q=>(q.i,q.o.dst)) i o.dst=true)
 (h:∀hin hg hd,PX P N ops n G T (⟨i,o,K,w.heap.size,V,F,hi,hin,hg,hd,eff,st,lt⟩::qs) iv f listed K w):PX P N ops n G T qs iv (f+1) listed K w:=
 (h (by have h0:=hin;simp [Nat.blt]at h0;omega) hg hd (BN _) (Jd.h hf) (fun _ _ e=>e) hh fun q2 h2=>⟨(Sv.h hq q2 h2).1,(Sv.h hq q2 h2).2.symm⟩).1
theorem sH{q:Pd P N ops n G}(i:Nat)(V:Nat->Value)(F:Nat->World->Prop)(hi:ops[i]? =some o)(eff:∀wx,w.heap.size<=wx.heap.size->IP P N K o wx (fun v w'=>AU wx w'∧w'.heap.size=wx.heap.size+1∧v=V wx.heap.size∧F wx.heap.size w'))(st:∀b w1 w',w.heap.size<=b->F b w1->G w1 w'->F b w')(lt:∀b w1,F b w1->b<w1.heap.size)
 (hin:Nat.blt i n=true) (hg:o.guard=none) (hd:EC N o.dst=true) (hf:Jd K o.dst=true) (hq:Sv ((q::qs).map fun q=>(q.i,q.o.dst)) i o.dst=true)
 (h:∀hin hg hd,PX P N ops n G T (⟨i,o,K,w.heap.size,V,F,hi,hin,hg,hd,eff,st,lt⟩::q::qs) iv f listed K w):PX P N ops n G T (q::qs) iv (f+1) listed K w:=fun h1 h2 h3 hh h5=>
 vL i V F hi eff st lt hh hin hg hd hf hq h h1 h2 h3 hh h5
theorem PXd{q:Pd P N ops n G}(hc:Kz ops (qs.map fun q=>q.i) [q.i] listed=true)(k:∀b wx,AU w wx->q.lo<=b->q.F b wx->outs iv b->PX P N ops n G T qs ((b,b+1)::iv) f (listed.setIfInBounds q.i true) (Cc K q.o.dst (q.V b)) wx):PX P N ops n G T (q::qs) iv f listed K w:=fun hlo hfq hsq hh hq0=>
 ⟨PX.many [q.i] hc fun j hj=>by
  obtain rfl:j=q.i:=by simpa using hj
  refine⟨q.o,q.hi,q.hin,q.hg,q.hd,hfq,fun q2 h2=>⟨(hq0 q2 h2).1,(hq0 q2 h2).2.symm⟩,fun wx hwx=>?_⟩
  have hs:=hwx.size
  refine⟨_,(q.eff wx (by omega)).sub hsq,fun v w' ⟨r1,r2,r3,r4⟩=>?_⟩
  subst r3
  have hh3:=hh.mono hs
  exact⟨hT.ext (hT.refl wx) r1,(wx.heap.size,wx.heap.size+1)::iv,⟨by show wx.heap.size+1<=w'.heap.size;omega,hh3.mono (by omega)⟩,fun b' hb' hb2=>⟨by show b'<wx.heap.size∨wx.heap.size+1<=b';omega,hb'⟩,k _ w' (AU.trans hwx r1) (by omega) r4 (hh3.outs (BN _))⟩,k⟩
end
section
variable {P:Program} {N:Nat} {ops:Array Oper} {n:Nat} {iv:List (Nat × Nat)} {f:Nat} {listed:Array Bool} {K:KL} {w:World} {o:Oper} {Q:Exit -> Act -> World -> Prop}
theorem OT{t:TypeId}{zs:List Value}(ho:o.op= .alloc t)(hz:Fi P t=some zs)(wx:World):IP P N K o wx (fun v w'=>AU wx w'∧w'.heap.size=wx.heap.size+1∧v= .pointer (some ⟨wx.heap.size,0,none⟩)∧BO w' wx.heap.size zs t):=
 (AZ ho hz).mono fun v w' ⟨b,e,e1,e2,e3,e4⟩=>by subst e1;exact⟨e3,e2,e,e4⟩
theorem Si{α:Type}{c:EJ α}{t l c2 zs sz by' m m' k z kd kd' e}(ho:o.op= .makeSlice t l c2)(hu:P.underlying t=some (.slice e))(hin0:Ev P e=some (zs,sz,by'))(hl:DW K l=some (.int kd m))(hc:DW K c2=some (.int kd' m'))(hmm:m'=m)
 (hk:Qw m by'=some k) (hsz:sz=c.n) (hpos:Nat.blt 0 c.n=true) (hz:∀w,c.rep w (Iv 0 0) z zs) (wx:World):IP P N K o wx (fun v w'=>AU wx w'∧w'.heap.size=wx.heap.size+1∧v= .slice (some ⟨wx.heap.size,0,none⟩) k k∧AC c w' wx.heap.size (Iv 0 0) e (List.replicate k z) (.slice (some ⟨wx.heap.size,0,none⟩) k k)):=
 (GY ho hu hin0 hl hc hmm hk hsz hpos hz).mono fun v w' ⟨g,e0,e1,e2,e3,e4⟩=>by subst e1;subst e0;exact⟨e3,e2,rfl,e4⟩
theorem BO.extA{zs:List Value}{t:TypeId}(b:Nat)(w1 w':World)(_:w.heap.size<=b)(h:BO w1 b zs t)(hG:AU w1 w'):BO w' b zs t:=h.ext hG
theorem BO.butA{p:Nat->Prop}{zs:List Value}{t:TypeId}(hp:∀k,p k->k<w.heap.size)(b:Nat)(w1 w':World)(hb:w.heap.size<=b)(h:BO w1 b zs t)(hG:BH p w1 w'):BO w' b zs t:=h.but hG fun k hk=>by have:=hp k hk;omega
theorem AC.extA{α:Type}{c:EJ α}[Es c]{e:TypeId}{k:Nat}{xs:List α}(b:Nat)(w1 w':World)(_:w.heap.size<=b)(h:AC c w1 b (Iv 0 0) e xs (.slice (some ⟨b,0,none⟩) k k))(hG:AU w1 w'):AC c w' b (Iv 0 0) e xs (.slice (some ⟨b,0,none⟩) k k):=h.ext hG
abbrev iA(b:Nat):Value:=.pointer (some ⟨b,0,none⟩)
abbrev iG(k b:Nat):Value:=.slice (some ⟨b,0,none⟩) k k
theorem dP{w0:World}{t:TypeId}{zs:List Value}(i:Nat)(hi:ops[i]? =some o)(ho:o.op= .alloc t)(hz:Fi P t=some zs)
 (h:∀eff st lt hin hg hd,PX P N ops n AU (TH P N ops n Q w0) [⟨i,o,K,w.heap.size,iA,fun b w'=>BO w' b zs t,hi,hin,hg,hd,eff,st,lt⟩] [] f listed K w)
 (hin:Nat.blt i n=true:=by rfl) (hg:o.guard=none:=by rfl) (hd:EC N o.dst=true:=by rfl) (hf:Jd K o.dst=true:=by rfl):HL P N ops n (noPan Q) w0 (f+1) listed K w:=
 (vL (T:=TH P N ops n Q w0) (qs:=[]) (iv:=[]) i _ _ hi (fun wx _=>OT ho hz wx) BO.extA (fun b w1 h=>BO.lt h) trivial hin hg hd hf rfl (h _ _ _))
theorem PaG{p:Nat->Prop}{w0:World}{t:TypeId}{zs:List Value}(i:Nat)(hi:ops[i]? =some o)(ho:o.op= .alloc t)(hz:Fi P t=some zs)(hp:∀k,p k->k<w.heap.size)
 (h:∀eff st lt hin hg hd,PX P N ops n (BH p) (TG P N ops n Q p w0) [⟨i,o,K,w.heap.size,iA,fun b w'=>BO w' b zs t,hi,hin,hg,hd,eff,st,lt⟩] [] f listed K w)
 (hin:Nat.blt i n=true:=by rfl) (hg:o.guard=none:=by rfl) (hd:EC N o.dst=true:=by rfl) (hf:Jd K o.dst=true:=by rfl):Js P N ops n (noPan Q) p w0 (f+1) listed K w:=
 (vL (T:=TG P N ops n Q p w0) (qs:=[]) (iv:=[]) i _ _ hi (fun wx _=>OT ho hz wx) (BO.butA hp) (fun b w1 h=>BO.lt h) trivial hin hg hd hf rfl (h _ _ _))
theorem wK{w0:World}{q:Pd P N ops n AU}{qs:List (Pd P N ops n AU)}{t:TypeId}{zs:List Value}(i:Nat)(hi:ops[i]? =some o)(ho:o.op= .alloc t)(hz:Fi P t=some zs)
 (h:∀eff st lt hin hg hd,PX P N ops n AU (TH P N ops n Q w0) (⟨i,o,K,w.heap.size,iA,fun b w'=>BO w' b zs t,hi,hin,hg,hd,eff,st,lt⟩::q::qs) iv f listed K w)
 (hin:Nat.blt i n=true:=by rfl) (hg:o.guard=none:=by rfl) (hd:EC N o.dst=true:=by rfl) (hf:Jd K o.dst=true:=by rfl) (hq:Sv ((q::qs).map fun q=>(q.i,q.o.dst)) i o.dst=true:=by rfl):PX P N ops n AU (TH P N ops n Q w0) (q::qs) iv (f+1) listed K w:=
 sH (T:=TH P N ops n Q w0) i _ _ hi (fun wx _=>OT ho hz wx) BO.extA (fun b w1 h=>BO.lt h) hin hg hd hf hq (h _ _ _)
section
variable {α:Type} {c:EJ α} [Es c] {t e:TypeId} {l c2:Operand} {zs:List Value} {sz by' k:Nat} {m m':Int} {kd kd':IntKind} {z:α} (i:Nat) (hi:ops[i]? = some o) (ho:o.op = .makeSlice t l c2) (hu:P.underlying t = some (.slice e)) (hin0:Ev P e = some (zs,sz,by')) (hl:DW K l = some (.int kd m)) (hc:DW K c2 = some (.int kd' m')) (hmm:m' = m) (hk:Qw m by' = some k) (hsz:sz = c.n) (hpos:Nat.blt 0 c.n = true) (hz:∀ w,c.rep w (Iv 0 0) z zs)
include ho hu hin0 hl hc hmm hk hsz hpos hz
theorem PmH{w0:World}(h:∀eff st lt hin hg hd,PX P N ops n AU (TH P N ops n Q w0) [⟨i,o,K,w.heap.size,iG k,fun b w'=>AC c w' b (Iv 0 0) e (List.replicate k z) (iG k b),hi,hin,hg,hd,eff,st,lt⟩] [] f listed K w)
 (hin:Nat.blt i n=true:=by rfl) (hg:o.guard=none:=by rfl) (hd:EC N o.dst=true:=by rfl) (hf:Jd K o.dst=true:=by rfl):HL P N ops n (noPan Q) w0 (f+1) listed K w:=
 (vL (T:=TH P N ops n Q w0) (qs:=[]) (iv:=[]) i _ _ hi (fun wx _=>Si ho hu hin0 hl hc hmm hk hsz hpos hz wx) AC.extA (fun b w1 h=>(h.blk b rfl).2) trivial hin hg hd hf rfl (h _ _ _))
theorem vS{w0:World}{q:Pd P N ops n AU}{qs:List (Pd P N ops n AU)}(h:∀eff st lt hin hg hd,PX P N ops n AU (TH P N ops n Q w0) (⟨i,o,K,w.heap.size,iG k,fun b w'=>AC c w' b (Iv 0 0) e (List.replicate k z) (iG k b),hi,hin,hg,hd,eff,st,lt⟩::q::qs) iv f listed K w)
 (hin:Nat.blt i n=true:=by rfl) (hg:o.guard=none:=by rfl) (hd:EC N o.dst=true:=by rfl) (hf:Jd K o.dst=true:=by rfl) (hq:Sv ((q::qs).map fun q=>(q.i,q.o.dst)) i o.dst=true:=by rfl):PX P N ops n AU (TH P N ops n Q w0) (q::qs) iv (f+1) listed K w:=
 sH (T:=TH P N ops n Q w0) i _ _ hi (fun wx _=>Si ho hu hin0 hl hc hmm hk hsz hpos hz wx) AC.extA (fun b w1 h=>(h.blk b rfl).2) hin hg hd hf hq (h _ _ _)
end
theorem TV{w0:World}{q:Pd P N ops n AU}{qs:List (Pd P N ops n AU)}{v:Value}(j:Nat)(hh:Fo ops n=true)(hi:ops[j]? =some o)(hc:dG ops n ((q::qs).map fun q=>q.i) j listed=true)(h:Gf P N K o w0 v)(k:PX P N ops n AU (TH P N ops n Q w0) (q::qs) iv f (listed.setIfInBounds j true) (Cc K o.dst v) w)
 (hg:o.guard=none:=by rfl) (hd:EC N o.dst=true:=by rfl) (hf:Jd K o.dst=true:=by rfl) (hq:Sv ((q::qs).map fun q=>(q.i,q.o.dst)) j o.dst=true:=by rfl):PX P N ops n AU (TH P N ops n Q w0) (q::qs) iv (f+1) listed K w:=
 PXy (T:=TH P N ops n Q w0) j hh hi hc (fun wx hx a hK w' hw=>h a hK w' (AU.trans hx hw)) k hg hd hf hq
theorem wG{w0:World}{q:Pd P N ops n AU}{qs:List (Pd P N ops n AU)}{Ψ:Value->Prop}(j:Nat)(hh:Fo ops n=true)(hi:ops[j]? =some o)(hc:dG ops n ((q::qs).map fun q=>q.i) j listed=true)(h:YE P N K o w0 Ψ)(k:∀v,Ψ v->PX P N ops n AU (TH P N ops n Q w0) (q::qs) iv f (listed.setIfInBounds j true) (Cc K o.dst v) w)
 (hg:o.guard=none:=by rfl) (hd:EC N o.dst=true:=by rfl) (hf:Jd K o.dst=true:=by rfl) (hq:Sv ((q::qs).map fun q=>(q.i,q.o.dst)) j o.dst=true:=by rfl):PX P N ops n AU (TH P N ops n Q w0) (q::qs) iv (f+1) listed K w:=by
 obtain⟨v,h1,h2⟩:=h;exact TV j hh hi hc h1 (k v h2) hg hd hf hq
theorem Rb{w0:World}{p:Nat->Prop}{q:Pd P N ops n (BH p)}{qs:List (Pd P N ops n (BH p))}{v:Value}(j:Nat)(hh:Fo ops n=true)(hi:ops[j]? =some o)(hc:dG ops n ((q::qs).map fun q=>q.i) j listed=true)(h:∀wx,BH p w0 wx->Gf P N K o wx v)(k:PX P N ops n (BH p) (TG P N ops n Q p w0) (q::qs) iv f (listed.setIfInBounds j true) (Cc K o.dst v) w)
 (hg:o.guard=none:=by rfl) (hd:EC N o.dst=true:=by rfl) (hf:Jd K o.dst=true:=by rfl) (hq:Sv ((q::qs).map fun q=>(q.i,q.o.dst)) j o.dst=true:=by rfl):PX P N ops n (BH p) (TG P N ops n Q p w0) (q::qs) iv (f+1) listed K w:=
 PXy (T:=TG P N ops n Q p w0) j hh hi hc h k hg hd hf hq
theorem fQ{w0:World}{p:Nat->Prop}{q:Pd P N ops n (BH p)}{qs:List (Pd P N ops n (BH p))}{Ψ:Value->Prop}(j:Nat)(hh:Fo ops n=true)(hi:ops[j]? =some o)(hc:dG ops n ((q::qs).map fun q=>q.i) j listed=true)(h:YA P N K o Ψ)(k:∀v,Ψ v->PX P N ops n (BH p) (TG P N ops n Q p w0) (q::qs) iv f (listed.setIfInBounds j true) (Cc K o.dst v) w)
 (hg:o.guard=none:=by rfl) (hd:EC N o.dst=true:=by rfl) (hf:Jd K o.dst=true:=by rfl) (hq:Sv ((q::qs).map fun q=>(q.i,q.o.dst)) j o.dst=true:=by rfl):PX P N ops n (BH p) (TG P N ops n Q p w0) (q::qs) iv (f+1) listed K w:=by
 obtain⟨v,h1,h2⟩:=h;exact Rb j hh hi hc (fun wx _=>h1 wx) (k v h2) hg hd hf hq
theorem PX.mapT{G:World->World->Prop}{T T':Nat->Array Bool->KL->World->Prop}(hm:∀f listed K w2,AU w w2->T f listed K w2->T' f listed K w2):∀{qs:List (Pd P N ops n G)} {iv:List (Nat×Nat)} {f:Nat} {listed:Array Bool} {K:KL} {w2:World},AU w w2->PX P N ops n G T qs iv f listed K w2->PX P N ops n G T' qs iv f listed K w2
 |[],_,_,_,_,_,hx,h=>hm _ _ _ _ hx h
 |q::qs,_,_,_,_,_,hx,h=>fun h1 h2 h3 h4 h5=>⟨PX.mapT hm hx (h h1 h2 h3 h4 h5).1,fun b w3 x1 x2 x3 x4=>PX.mapT hm (AU.trans hx x1) ((h h1 h2 h3 h4 h5).2 b w3 x1 x2 x3 x4)⟩
theorem yS{w0:World}{qs:List (Pd P N ops n AU)}(e:AU w0 w)(h:PX P N ops n AU (TH P N ops n Q w) qs iv f listed K w):PX P N ops n AU (TH P N ops n Q w0) qs iv f listed K w:=
 PX.mapT (fun f listed K w2 hx h inv hx2 a hK=>Ek.mono (fun w3 h3=>AU.trans e h3) _ _ _ _ (h inv hx a hK)) (AU.refl w) h
theorem iE{p:Nat->Prop}{w0:World}{qs:List (Pd P N ops n (BH p))}(e:BH p w0 w)(h:PX P N ops n (BH p) (TG P N ops n Q p w) qs iv f listed K w):PX P N ops n (BH p) (TG P N ops n Q p w0) qs iv f listed K w:=
 PX.mapT (fun f listed K w2 hx h inv hx2 a hK=>Ek.mono (fun w3 h3=>BH.trans e h3) _ _ _ _ (h inv (BH.ext (BH.refl p w) hx) a hK)) (AU.refl w) h
/-! what was put off is done at last: a box, a slice; 1: and others are put off still -/
section
variable {K0:KL} {i lo k:Nat} {o0:Oper} {t e:TypeId} {zs:List Value} {α:Type} {c:EJ α} {z:α}
theorem mY{G:World->World->Prop}{B:World->Prop}{T:Nat->Array Bool->KL->World->Prop}[hT:PB P N ops n G B T]{qs:List (Pd P N ops n G)}{hi hin hg hd eff st lt}(hc:Kz ops (qs.map fun q=>q.i) [i] listed=true)(k:∀b wx,AU w wx->(lo<=b∧b<wx.heap.size)->BO wx b zs t->outs iv b->PX P N ops n G T qs ((b,b+1)::iv) f (listed.setIfInBounds i true) (Cc K o0.dst (iA b)) wx):PX P N ops n G T (⟨i,o0,K0,lo,iA,fun b w'=>BO w' b zs t,hi,hin,hg,hd,eff,st,lt⟩::qs) iv f listed K w:=
 PXd hc fun b wx h1 h2 h3 h4=>k b wx h1 ⟨h2,BO.lt h3⟩ h3 h4
theorem rD{G:World->World->Prop}{B:World->Prop}{T:Nat->Array Bool->KL->World->Prop}[hT:PB P N ops n G B T]{qs:List (Pd P N ops n G)}{hi hin hg hd eff st lt}(hc:Kz ops (qs.map fun q=>q.i) [i] listed=true)(kk:∀b u wx,AU w wx->(lo<=b∧b<wx.heap.size)->u= .slice (some ⟨b,0,none⟩) k k->AC c wx b (Iv 0 0) e (List.replicate k z) u->outs iv b->PX P N ops n G T qs ((b,b+1)::iv) f (listed.setIfInBounds i true) (Cc K o0.dst u) wx):PX P N ops n G T (⟨i,o0,K0,lo,iG k,fun b w'=>AC c w' b (Iv 0 0) e (List.replicate k z) (iG k b),hi,hin,hg,hd,eff,st,lt⟩::qs) iv f listed K w:=
 PXd hc fun b wx h1 h2 h3 h4=>kk b _ wx h1 ⟨h2,(h3.blk b rfl).2⟩ rfl h3 h4
theorem Tc{w0:World}{hi hin hg hd eff st lt}(hc:Kz ops [] [i] listed=true)(k:∀b wx,AU w wx->(lo<=b∧b<wx.heap.size)->BO wx b zs t->outs iv b->HL P N ops n (noPan Q) w0 f (listed.setIfInBounds i true) (Cc K o0.dst (iA b)) wx):PX P N ops n AU (TH P N ops n Q w0) [⟨i,o0,K0,lo,iA,fun b w'=>BO w' b zs t,hi,hin,hg,hd,eff,st,lt⟩] iv f listed K w:=mY (T:=TH P N ops n Q w0) (qs:=[]) hc k
theorem yD{w0:World}{hi hin hg hd eff st lt}(hc:Kz ops [] [i] listed=true)(kk:∀b u wx,AU w wx->(lo<=b∧b<wx.heap.size)->u= .slice (some ⟨b,0,none⟩) k k->AC c wx b (Iv 0 0) e (List.replicate k z) u->outs iv b->HL P N ops n (noPan Q) w0 f (listed.setIfInBounds i true) (Cc K o0.dst u) wx):PX P N ops n AU (TH P N ops n Q w0) [⟨i,o0,K0,lo,iG k,fun b w'=>AC c w' b (Iv 0 0) e (List.replicate k z) (iG k b),hi,hin,hg,hd,eff,st,lt⟩] iv f listed K w:=rD (T:=TH P N ops n Q w0) (qs:=[]) hc kk
theorem fU{p:Nat->Prop}{w0:World}{hi hin hg hd eff st lt}(hc:Kz ops [] [i] listed=true)(k:∀b wx,AU w wx->(lo<=b∧b<wx.heap.size)->BO wx b zs t->outs iv b->Js P N ops n (noPan Q) p w0 f (listed.setIfInBounds i true) (Cc K o0.dst (iA b)) wx):PX P N ops n (BH p) (TG P N ops n Q p w0) [⟨i,o0,K0,lo,iA,fun b w'=>BO w' b zs t,hi,hin,hg,hd,eff,st,lt⟩] iv f listed K w:=mY (T:=TG P N ops n Q p w0) (qs:=[]) hc k
end
end
end Go.Eng
namespace Go.Eng
open Go Go.RowKit
/-! ## An element is put into a slice: slices.Insert -/
def bK{α:Type}(by':Nat)(xs:List α)(i:Int)(v:List α):Option (List α):=match v with
 |[x]=>if 0<=i∧i<=xs.length∧(xs.length+1)*by'<=140737488355328∧xs.length+1<=9223372036854775807 then some (xs.take i.toNat++x::xs.drop i.toNat)else none
 |_=>none
def RL{α:Type}(c:EJ α)(w:World)(S:Nat->Prop)(xs:List α)(cs:List Value):Prop:=cs.length=xs.length*c.n∧∀i x,xs[i]? =some x->c.rep w S x (Ba cs c.n i)
section
variable {α:Type} {c:EJ α} {w w':World} {S:Nat -> Prop} {xs ys:List α} {cs ds:List Value}
theorem Sf{n p j:Nat}(h:cs.length=p*n)(hj:j<p):Ba (cs++ds) n j=Ba cs n j:=by
 have:(j+1)*n<=p*n:=Bh _ hj
 rw [CT]at this
 apply Ce
 intro q
 by_cases hq:q<n
 ·rw [CZ hq,CZ hq,Ao (by omega)]
 ·rw [Ay (by simp [Ba];omega),Ay (by simp [Ba];omega)]
theorem RB{n p j:Nat}(h:cs.length=p*n):Ba (cs++ds) n (p+j)=Ba ds n j:=by
 apply Ce
 intro q
 by_cases hq:q<n
 ·rw [CZ hq,CZ hq,Ap (by rw [h,CT];omega)]
  congr 1
  rw [h,CT];omega
 ·rw [Ay (by simp [Ba];omega),Ay (by simp [Ba];omega)]
theorem RL.app(h:RL c w S xs cs)(k:RL c w S ys ds):RL c w S (xs++ys) (cs++ds):=by
 refine⟨by simp [h.1,k.1,CT],fun i x hx=>?_⟩
 by_cases hi:i<xs.length
 ·rw [Ao hi]at hx
  rw [Sf h.1 hi];exact h.2 i x hx
 ·rw [Ap (by omega)]at hx
  obtain⟨j,rfl⟩:∃j,i=xs.length+j:=⟨i-xs.length,by omega⟩
  rw [RB h.1]
  exact k.2 j x (by rwa [show xs.length+j-xs.length=j by omega]at hx)
theorem RL.take(h:RL c w S xs cs){k:Nat}(hk:k<=xs.length):RL c w S (xs.take k) (cs.take (k*c.n)):=by
 have hm:k*c.n<=xs.length*c.n:=Bh _ hk
 have hl:(cs.take (k*c.n)).length=k*c.n:=by rw [DM,h.1];omega
 refine⟨by rw [hl,DM];congr 1;omega,fun i x hx=>?_⟩
 rw [Bq]at hx
 split at hx
 ·rename_i hi
  have:=h.2 i x hx
  rw [←Cw (k*c.n) cs,Sf hl hi]at this
  exact this
 ·cases hx
theorem RL.drop(h:RL c w S xs cs){k:Nat}(hk:k<=xs.length):RL c w S (xs.drop k) (cs.drop (k*c.n)):=by
 have hm:k*c.n<=xs.length*c.n:=Bh _ hk
 have hl:(cs.take (k*c.n)).length=k*c.n:=by rw [DM,h.1];omega
 refine⟨by rw [Er,Er,h.1,Nat.sub_mul],fun i x hx=>?_⟩
 rw [Bx]at hx
 have:=h.2 (k+i) x hx
 rw [←Cw (k*c.n) cs,RB hl]at this
 exact this
theorem RL.any[Es c](h:RL c w S xs cs){w2:World}{S2:Nat->Prop}:RL c w2 S2 xs cs:=⟨h.1,fun i x hx=>Es.any (h.2 i x hx)⟩
theorem RL.one(h:RL c w S xs cs)(hp:0<c.n):∀v∈cs,v.oneCell'=true:=fun v hv=>by
 obtain⟨q,hq,rfl⟩:=Bs hv
 have hi:q/c.n<xs.length:=Nat.div_lt_of_lt_mul (by rw [Nat.mul_comm,←h.1];exact hq)
 have hr:=h.2 _ _ (AH hi)
 have:=CG.1 (c.one hr)
 refine this _ (CL (i:=q%c.n) ?_)
 rw [CZ (Nat.mod_lt _ hp),Nat.mul_comm,Nat.div_add_mod]
 exact AH hq
theorem RL.row{B:Nat}{e g cap:Nat}{cur:Array Value}(hb:B<=g)(hh:w.heap[g]? =some (.cells cur e (0,0)))(hs:cur.size=cap*c.n)(hn:xs.length<=cap)(hc:cap<=maxLen)(ht:cur.toList.take (xs.length*c.n)=cs)(h:RL c w S xs cs):AC c w B S e xs (.slice (some ⟨g,0,none⟩) xs.length cap):=
 ⟨cs,⟨h.1,.inr ⟨g,cap,cur,rfl,hb,hh,hn,hc,hs,ht⟩⟩,h.2⟩
end
theorem XV{L A U:List Value}{a m N:Nat}(hA:A=L.take N)(ha:a<=N)(hU:U.length=m)(hL:N+m<=L.length):
 ((L.take (a+m)++A.drop a++L.drop (a+m+(A.drop a).length)).take a++U++(L.take (a+m)++A.drop a++L.drop (a+m+(A.drop a).length)).drop (a+U.length)).take (N+m)=A.take a++U++A.drop a:=by
 subst hA
 have h1:((L.take N).drop a).length=N-a:=by simp;omega
 have h2:(L.take (a+m)).length=a+m:=by simp;omega
 rw [h1,hU]
 have e1:(L.take (a+m)++(L.take N).drop a++L.drop (a+m+(N-a))).take a=(L.take N).take a:=by
  rw [Bl,DP (by omega),List.take_take,List.take_take]
  congr 1;omega
 have e2:(L.take (a+m)++(L.take N).drop a++L.drop (a+m+(N-a))).drop (a+m)=(L.take N).drop a++L.drop (a+m+(N-a)):=by
  rw [Bl,List.drop_append_of_le_length (by omega),List.drop_of_length_le (by omega),CX]
 rw [e1,e2,←Bl]
 have h3:((L.take N).take a++U++(L.take N).drop a).length=N+m:=by simp [hU];omega
 rw [DP (by omega),EN (by omega)]
theorem VR{A U Z:List Value}{a m N:Nat}(hN:A.length=N)(ha:a<=N)(hU:U.length=m)(hZ:N+m-a<=Z.length):
 (((A.take a++Z).take a++U++(A.take a++Z).drop (a+U.length)).take (a+m)++A.drop a++((A.take a++Z).take a++U++(A.take a++Z).drop (a+U.length)).drop (a+m+(A.drop a).length)).take (N+m)=A.take a++U++A.drop a:=by
 have h0:(A.take a).length=a:=by simp;omega
 have e0:(A.take a++Z).take a=A.take a:=by rw [DP (by omega),EN (by omega)]
 rw [e0]
 have h1:(A.take a++U).length=a+m:=by simp [hU];omega
 have e1:(A.take a++U++(A.take a++Z).drop (a+U.length)).take (a+m)=A.take a++U:=by rw [DP (by omega),EN (by omega)]
 rw [e1]
 have h3:(A.take a++U++A.drop a).length=N+m:=by simp [hU];omega
 rw [DP (by omega),EN (by omega)]
section
variable {P:Program} {N:Nat} {α:Type} {c:EJ α} {w:World} {B:Nat} {S:Nat -> Prop} {e:TypeId} {xs:List α} {v:Value} {o:Oper} {K:KL}
theorem AC.at2{g:Nat}{m:Int}{y:α}(hs:AC c w B S e xs v)(hv:v.ownBlock=some g)(hg:AL xs m=some y):∃us,c.rep w S y us∧Ab w g (0+m.toNat*c.n) us:=by
 obtain⟨cs,h0,h3⟩:=hs
 obtain⟨g0,g1,g2⟩:=HH hg
 have h1:=h0
 obtain⟨hl,⟨rfl,hn⟩|⟨g',cap,cur,rfl,hb,hh,h5,h6,h7,h8⟩⟩:=h1
 ·cases hv
 ·obtain rfl:g'=g:=AM hv
  refine⟨_,h3 _ _ g2,fun j u hu=>?_⟩
  have hjn:j<c.n:=by
   have:=(AK.1 hu).1
   simp [Ba]at this;omega
  rw [CZ hjn]at hu
  have:=h0.cells (g:=g') rfl _ _ hu
  rw [EM]at this
  rw [show 0+m.toNat*c.n+j=0+(m.toNat*c.n+j) by omega];exact⟨this,by simp [World.frozen?,hh]⟩
theorem gN{t x a n cap}(ho:o.op= .call { callee:=.builtin .cap,args:=#[x],argTypes:=#[t] })(hu:P.underlying t=some (.slice e))(hx:DW K x=some (.slice a n cap)):Gf P N K o w (.int .i64 cap):=by
 intro a' hK w' _
 simp [execOp,ho,resolve,invoke,builtin,hK.ev hx,Builtin.cap_,BZ hu,goInt]
theorem Uo{t x hi k2 g n cap sz}{m2:Nat}{z:Int}(ho:o.op= .slice t x none (some hi) none)(hu:P.underlying t=some (.slice e))(hc:CE P e=some sz)(hx:DW K x=some (.slice (some ⟨g,0,none⟩) n cap))(h2:DW K hi=some (.int k2 z))(hz:z=m2)(hm:m2<=cap)(h0:0<cap):Gf P N K o w (.slice (some ⟨g,0,none⟩) m2 cap):=by
 intro a' hK w' _
 subst hz
 obtain⟨i,hi2,hsz⟩:=Ag.1 hc
 have e1:(Instr.sliceBound (.int k2 m2) cap .sliceAcap).run P w'= .ok (m2:Int).toNat w':=GP (by omega) (by omega)
 have hn:¬cap=0:=by omega
 simp [execOp,ho,hK.ev hx,hK.ev h2,Instr.sliceAt,Instr.slice,BZ hu,Instr.sliceBounds,e1,sizeOf,typeInfo,hi2,hsz,hn,EM]
theorem Ho{t x lo k1 g n cap sz}{m1:Nat}{z:Int}(ho:o.op= .slice t x (some lo) none none)(hu:P.underlying t=some (.slice e))(hc:CE P e=some sz)(hx:DW K x=some (.slice (some ⟨g,0,none⟩) n cap))(h1:DW K lo=some (.int k1 z))(hz:z=m1)(hm:m1<=n)(h0:m1<cap):Gf P N K o w (.slice (some ⟨g,m1*sz,none⟩) (n-m1) (cap-m1)):=by
 intro a' hK w' _
 subst hz
 obtain⟨i,hi2,hsz⟩:=Ag.1 hc
 have e2:(Instr.sliceBound (.int k1 m1) n .sliceB).run P w'= .ok (m1:Int).toNat w':=GP (by omega) (by omega)
 have hn:¬cap=m1:=by omega
 simp [execOp,ho,hK.ev hx,hK.ev h1,Instr.sliceAt,Instr.slice,BZ hu,Instr.sliceBounds,e2,sizeOf,typeInfo,hi2,hsz,hn,EM]
def Ui(w:World)(v:Value):Prop:=∀g,v.ownBlock=some g->∃(cur:Array Value) (t:TypeId),w.heap[g]? =some (.cells cur t (0,0))
theorem AC.plain(h:AC c w B S e xs v):Ui w v:=fun g hg=>by
 obtain⟨cs,⟨_,⟨rfl,_⟩|⟨g',cap,cur,rfl,_,hh,_⟩⟩,_⟩:=h
 ·cases hg
 ·obtain rfl:g'=g:=AM hg
  exact⟨cur,e,hh⟩
theorem XE{by':Nat}{xs v r:List α}{i:Int}(h:bK by' xs i v=some r):∃(x:α) (k:Nat),v=[x]∧i=k∧k<=xs.length∧(xs.length+1)*by'<=140737488355328∧xs.length+1<=9223372036854775807∧r=xs.take k++x::xs.drop k:=by
 unfold bK at h
 split at h
 ·rename_i x
  split at h
  ·rename_i hc
   obtain⟨h1,h2,h3,h4⟩:=hc
   injection h with h
   exact⟨x,i.toNat,rfl,by omega,by omega,h3,h4,h.symm⟩
  ·cases h
 ·cases h
theorem Wj[Es c]{w1:World}{S2 S1:Nat->Prop}{x:α}{cs us:List Value}{cur:Array Value}{g i cap:Nat}(hR:RL c w1 S1 xs cs)(hx:c.rep w1 S2 x us)(hl:us.length=c.n)(hi:i<=xs.length)(hb:B<=g)(hh:w.heap[g]? =some (.cells cur e (0,0)))(hs:cur.size=cap*c.n)(hn:xs.length+1<=cap)(hc:cap<=maxLen)
 (ht:cur.toList.take ((xs.length+1)*c.n)=cs.take (i*c.n)++us++cs.drop (i*c.n)):AC c w B (Iv 0 0) e (xs.take i++x::xs.drop i) (.slice (some ⟨g,0,none⟩) (xs.length+1) cap):=by
 have h1:RL c w1 S2 [x] us:=⟨by simp [hl],fun j y hy=>by
  cases j with
  |zero=>
   obtain rfl:x=y:=by simpa using hy
   have:Ba us c.n 0=us:=by simp only [Ba,Nat.zero_mul,GH];rw [←hl,CY]
   rw [this];exact hx
  |succ j=>simp at hy⟩
 have h2:=((hR.take hi).any (w2:=w) (S2:=Iv 0 0)).app ((h1.any (w2:=w) (S2:=Iv 0 0)).app ((hR.drop hi).any (w2:=w) (S2:=Iv 0 0)))
 have e1:xs.take i++([x]++xs.drop i)=xs.take i++x::xs.drop i:=by simp
 have e2:(xs.take i++([x]++xs.drop i)).length=xs.length+1:=by simp;omega
 have h3:=RL.row (B:=B) (e:=e) (cap:=cap) (cur:=cur) hb hh hs (by rw [e2];exact hn) hc (by rw [e2,ht,Bl]) h2
 rw [e2]at h3
 rw [e1]at h3
 exact h3
theorem IP.run{R:Value->World->Prop}(h:∀a,Kn N K a->∃v' w',(execOp a.eval o).run P w= .ok (.value v') w'∧R v' w'):IP P N K o w R:=by
 intro a hK Kt Q hk
 obtain⟨v',w',hr,hR⟩:=h a hK
 unfold Oper.wp
 rw [hr]
 exact hk _ _ hR
theorem Nt{t e ty:TypeId}{sz:Nat}{i:TypeInfo}(hu:P.underlying t=some (.slice e))(hi:P.info? e=some i)(hsz:i.size=sz){g o dl dc:Nat}{a:Addr}{sl sc:Nat}{cs:List Value}{cur:Array Value}(hn:cs.length=min sl dl*sz)
 (hsrc:∀j v,cs[j]? =some v->w.cell? (a.add j)=some v) (hg:w.heap[g]? =some (.cells cur e (0,0))) (ho:o+cs.length<=cur.size) (h1:∀v∈cs,v.oneCell'=true):
 (Builtin.copy_ #[t,t] ty #[.slice (some ⟨g,o,none⟩) dl dc,.slice (some a) sl sc]).run P w= .ok (goInt (min sl dl)) (w.setRow g (cur.toList.take o++cs++cur.toList.drop (o+cs.length)).toArray):=by
 have hl:=GA (P:=P) w a cs hsrc
 have hst:=run_storeCells_at P g o e cs 0 cur w hg (by omega) h1
 simp only [Fe]at hst
 have hm:Nat.min sl dl=min sl dl:=rfl
 simp [Builtin.copy_,BZ hu,Builtin.lenOf,Builtin.firstCells,sizeOf,typeInfo,hi,hsz,hm,←hn,hl,hst]
 exact congrArg goInt (by omega)
theorem PM{t x y v1 v2 v' w'}(ho:o.op= .call { callee:=.builtin .copy,args:=#[x,y],argTypes:=#[t,t] })(hx:DW K x=some v1)(hy:DW K y=some v2)(hr:(Builtin.copy_ #[t,t] o.type #[v1,v2]).run P w= .ok v' w'):IP P N K o w (fun _ w2=>w2=w'):=
 IP.run fun a hK=>⟨v',w',by
  unfold execOp
  simp only [ho,resolve,invoke,builtin,CI,Dg,Cm,List.map_toArray,Eh,List.map_nil,hK.ev hx,hK.ev hy,hr],rfl⟩
theorem YP{t tn x y v1 v2 v' w'}(ho:o.op= .call { callee:=.builtin .append,args:=#[x,y],argTypes:=#[t,tn] })(hx:DW K x=some v1)(hy:DW K y=some v2)(hr:(Builtin.append_ #[t,tn] o.type #[v1,v2]).run P w= .ok v' w'):IP P N K o w (fun v2 w2=>v2=v'∧w2=w'):=
 IP.run fun a hK=>⟨v',w',by
  unfold execOp
  simp only [ho,resolve,invoke,builtin,CI,Dg,Cm,List.map_toArray,Eh,List.map_nil,hK.ev hx,hK.ev hy,hr],rfl,rfl⟩
theorem Xt{f:FuncId}{fn:Func}{t tr:TypeId}{x y:Operand}{v1 v2:Value}{ts:Array TypeId}(ho:o.op= .call { callee:= .value (.func f),args:= #[x,y],argTypes:=ts })(hf:P.funcs[f]? =some fn)(hname:(fn.name== "runtime.NumGoroutine")=false)(hb:fn.body.isNone=true)(hn:Extern.findNext fn=none)
 (he:Extern.find fn=some (Extern.SlicesOverlaps.overlaps #[t,t] #[tr])) (hx:DW K x=some v1) (hy:DW K y=some v2) (hr:(Extern.SlicesOverlaps.overlaps #[t,t] #[tr] #[v1,v2]).run P w= .ok (.bool false) w):IP P N K o w (fun v w2=>v= .bool false∧w2=w):=
 IP.run fun a hK=>⟨.bool false,w,by
  have hc:=run_callFunc_extern (P:=P) hf hname hb hn he #[v1,v2] w
  rw [hr]at hc
  simp only [Cm]at hc
  have he2:(#[x,y]:Array Operand).map a.eval= #[v1,v2]:=by simp [hK.ev hx,hK.ev hy]
  have hfv:a.eval (.func f)= .func (.func f) #[] #[]:=rfl
  unfold execOp
  simp only [ho,resolve,invoke,CI,Dg,Cm,he2,hfv,Deferred.ofValue]
  simpa using hc,rfl,rfl⟩
end
end Go.Eng
namespace Go.Eng
open Go Go.RowKit
/-! ## Structs whose last field is a struct of plain fields, compared -/
def XI(P:Program)(m:Nat):List Field->Nat->Bool
 |[],_=>false
 |f::fs,i=>f.name != "_" &&Nat.beq f.offset i&&(match fs with
  |[]=>(match P.underlying f.type with
   |some (.struct gs)=>pY P gs.toList 0&&Nat.beq gs.size m&& !P.stoodInHeld f.type&&decide (CE P f.type=some m)&&decide (EO P f.type=some true)
   |_=>false)
  |_::_=>(match P.underlying f.type with
   |some (.int _)=>true
   |some .bool=>true
   |some .string=>true
   |_=>false)&&XI P m fs (i+1))
def Ww(P:Program):List Field->List Value->Bool
 |[],_=>false
 |f::fs,us=>match fs with
  |[]=>(match P.underlying f.type with
   |some (.struct gs)=>Wv P gs.toList us
   |_=>false)
  |_::_=>match us with
   |u::us=>Wv P [f] [u]&&Ww P fs us
   |[]=>false
def Wh(P:Program)(t:Nat)(m:Nat):Bool:=match P.underlying t with
 |some (.struct fs)=>XI P m fs.toList 0&& !P.stoodInHeld t&& !P.eqGuardType P.depth t
 |_=>false
def Wn(P:Program)(t:Nat)(us:List Value):Bool:=match P.underlying t with
 |some (.struct fs)=>Ww P fs.toList us
 |_=>false
section
variable {P:Program} {N:Nat} {K:KL} {o:Oper} {w:World}
theorem Wm:∀{fs:List Field} {us:List Value},Wv P fs us=true->us.length=fs.length
 |[],[],_=>rfl
 |[],_::_,h=>by simp [Wv]at h
 |_::_,[],h=>by simp [Wv]at h
 |f::fs,u::us,h=>by
  simp only [Wv,AD]at h
  simp [Wm h.2]
theorem Ry:∀{us vs:List Value} {r:Bool},Kb us vs=some r->us.length=vs.length
 |[],[],_,_=>rfl
 |[],_::_,_,h=>by simp [Kb]at h
 |u::us,[],r,h=>by cases us<;>simp [Kb]at h
 |[u],[v],_,_=>rfl
 |[u],v::v2::vs,r,h=>by simp [Kb]at h
 |u::u2::us,v::vs,r,h=>by
  simp only [Kb]at h
  split at h
  ·split at h
   ·rename_i q hq
    have:=Ry hq
    simp at this ⊢;omega
   ·cases h
  ·cases h
theorem KX{m d:Nat}{xs ys:Array Value}:∀(fs:List Field) (i:Nat) (us vs:List Value) (r:Bool),XI P m fs i=true->Ww P fs us=true->xs.toList.drop i=us->ys.toList.drop i=vs->Kb us vs=some r->(Op.eqFields (d+1+1) xs ys fs).run P w= .ok r w
 |[],i,us,vs,r,h1,_,_,_,_=>by simp [XI]at h1
 |[f],i,us,vs,r,h1,h2,h3,h4,h5=>by
  simp only [XI,AD,Cp,ne_eq]at h1
  obtain⟨⟨hn,ho⟩,h1⟩:=h1
  have ho:f.offset=i:=Az ho
  unfold Ww at h2
  dsimp only at h2
  split at h1
  case h_2=>cases h1
  rename_i gs hu
  rw [hu]at h2
  dsimp only at h2
  simp only [AD,BY,AP]at h1
  obtain⟨⟨⟨⟨h6,h7⟩,h8⟩,h9⟩,h10⟩:=h1
  have h7:gs.size=m:=Az h7
  have hlu:us.length=m:=by rw [Wm h2,EG,h7]
  have hlv:vs.length=m:=by rw [←Ry h5,hlu]
  have ex:∀(zs:Array Value) (ws:List Value),zs.toList.drop i=ws->ws.length=m->zs.extract i (i+m)=ws.toArray:=by
   intro zs ws e1 e2
   apply Array.toList_inj.1
   rw [Array.toList_extract,List.extract_eq_take_drop,e1]
   rw [show i+m-i=ws.length by omega,CY]
  have hf:P.fieldsOf f.type=gs:=by unfold Program.fieldsOf;rw [hu]
  obtain⟨j,hi2,hsz⟩:=Ag.1 h9
  have key:(Op.equalIn (d+1+1) f.type (.agg us.toArray) (.agg vs.toArray)).run P w= .ok r w:=by
   rw [run_equalIn_struct w _ f.type _ _ (by rw [hf];exact hu) h8,hf]
   exact JU gs.toList 0 us vs r h6 h2 (by simp) (by simp) h5
  simp only [Op.eqFields]
  rw [BE hn]
  have hs:(sizeOf f.type).run P w= .ok m w:=by simp [sizeOf,typeInfo,hi2,hsz]
  simp only [CI,part,JX h10,Cm,if_true,hs,Dg,ho,ex xs us h3 hlu,ex ys vs h4 hlv,key]
  cases r<;>simp
 |f::f2::fs,i,us,vs,r,h1,h2,h3,h4,h5=>by
  cases us with
  |nil=>simp [Ww]at h2
  |cons u us=>
   cases vs with
   |nil=>have:=Ry h5;simp at this
   |cons v vs=>
    unfold XI at h1
    simp only [AD,Cp,ne_eq]at h1
    obtain⟨⟨hn,ho⟩,ht,h1⟩:=h1
    have ho:f.offset=i:=Az ho
    unfold Ww at h2
    simp only [AD]at h2
    obtain⟨hc,h2⟩:=h2
    simp only [Wv,AD,and_true]at hc
    have hxu:xs[f.offset]? =some u:=by
     rw [ho,←EU]
     have:=congrArg (fun l:List Value=>l[0]?) h3
     simpa using this
    have hyv:ys[f.offset]? =some v:=by
     rw [ho,←EU]
     have:=congrArg (fun l:List Value=>l[0]?) h4
     simpa using this
    have ha:EO P f.type=some false:=by
     unfold EO
     split at ht<;>first|(rename_i hu;rw [hu])|cases ht
    have e3:xs.toList.drop (i+1)=us:=by rw [←List.drop_drop,h3];rfl
    have e4:ys.toList.drop (i+1)=vs:=by rw [←List.drop_drop,h4];rfl
    have key:∀r0,dD u v=some r0->(Op.equalIn (d+1+1) f.type u v).run P w= .ok r0 w:=by
     intro r0 hr0
     refine Wd hr0 ht ?_ ?_ ?_
     ·intro k hu;rw [hu]at hc;cases u<;>simp at hc;exact⟨_,_,rfl⟩
     ·intro hu;rw [hu]at hc;cases u<;>simp at hc;exact⟨_,rfl⟩
     ·intro hu;rw [hu]at hc;cases u<;>simp at hc;exact⟨_,rfl⟩
    have step:∀r0 q,dD u v=some r0->(Op.eqFields (d+1+1) xs ys (f2::fs)).run P w= .ok q w->(Op.eqFields (d+1+1) xs ys (f::f2::fs)).run P w= .ok (r0&&q) w:=by
     intro r0 q hr0 hq
     have hk:=key r0 hr0
     rw [Op.eqFields]
     rw [BE hn]
     simp only [CI,part,JX ha,Cm,Bool.false_eq_true,if_false,hxu,hyv,Dg,hk]
     cases r0
     ·simp
     ·simp [hq]
    cases us with
    |nil=>
     cases vs with
     |nil=>
      simp only [Kb]at h5
      have:=step r true h5 (KX (f2::fs) (i+1) [] [] true h1 h2 e3 e4 rfl)
      simpa using this
     |cons _ _=>simp [Kb]at h5
    |cons u2 us2=>
     simp only [Kb]at h5
     split at h5
     ·rename_i r0 hr0
      split at h5
      ·rename_i q hq
       obtain rfl:=AM h5
       exact step r0 q hr0 (KX (f2::fs) (i+1) _ _ q h1 h2 e3 e4 hq)
      ·cases h5
     ·cases h5
theorem Yk{t m:Nat}{us vs:List Value}{r:Bool}(hB:Wh P t m=true)(hC:Wn P t us=true)(h:Kb us vs=some r):
 (Op.equalIn 10000 t (.agg us.toArray) (.agg vs.toArray)).run P w= .ok r w∧P.eqGuardType P.depth t=false:=by
 unfold Wh at hB
 unfold Wn at hC
 split at hB
 ·rename_i fs hu
  rw [hu]at hC
  simp only [AD,BY]at hB
  obtain⟨⟨h1,h3⟩,h4⟩:=hB
  have hf:P.fieldsOf t=fs:=by unfold Program.fieldsOf;rw [hu]
  refine⟨?_,h4⟩
  rw [show(10000:Nat)=9997+1+1+1 from rfl,run_equalIn_struct w _ t _ _ (by rw [hf];exact hu) h3,hf]
  exact KX fs.toList 0 us vs r h1 hC (by simp) (by simp) h
 ·cases hB
theorem xY{t x y u m us vs r}(ho:o.op= .binOp .neq t x y u)(hx:DW K x=some (.agg (List.toArray us)))(hy:DW K y=some (.agg (List.toArray vs)))(hB:Wh P t m=true)(hC:Wn P t us=true)(h:Kb us vs=some r):Gf P N K o w (.bool (!r)):=by
 intro a hK w' _
 obtain⟨h1,h2⟩:=Yk (w:=w') hB hC h
 have h3:=run_eqGuard_agg (P:=P) w' .neq t x y us.toArray vs.toArray h2
 have h4:(binOp .neq t (.agg us.toArray) (.agg vs.toArray)).run P w'= .ok (.bool (!r)) w':=by rw [run_neq_struct,h1];rfl
 simp only [execOp,ho,hK.ev hx,hK.ev hy,CI,h3,Cm,h4,Dg]
end
/-! ## What stands behind an if, walked once -/
def jn{κ β:Type}(x:κ->β)(k:κ):β:=x k
theorem VI{κ ρ:Type}{x:κ->Option ρ}{k:κ}{r:ρ}(h:jn x k=some r):∃k',k'=k∧x k'=some r:=⟨k,rfl,h⟩
theorem WC.joinD{P:Program}{N:Nat}{Q0:Exit->Act->World->Prop}{fs:List Frame}{K:KL}{w:World}{c:Code}(R:Act->World->Prop)(h1:WC P N c (IQ P (fun e a w=>e= .normal∧R a w) []) K w)(h2:∀a w',R a w'->IQ P Q0 fs .normal a w'):WC P N c (IQ P Q0 fs) K w:=WC.join R h1 h2
end Go.Eng
namespace Go.Eng
open Go Go.RowKit
/-! ## A table is written into what is only read -/
inductive cU(w':World)(T:Nat->Prop)(Z:Prop):Value->Value->Prop
 |refl (u:Value):cU w' T Z u u
 |sl (a:Option Addr) (n c:Nat) (v:Value) (xs:List Int) (hz:Z->xs.length<=1048576) (h:AF (Bo .i64) w' T xs v):cU w' T Z (.slice a n c) v
def SW(w':World)(T:Nat->Prop)(Z:Prop)(us vs:List Value):Prop:=us.length=vs.length∧∀(j:Nat) (u v:Value),us[j]? =some u->vs[j]? =some v->cU w' T Z u v
theorem SW.refl(w':World)(T:Nat->Prop)(Z:Prop)(us:List Value):SW w' T Z us us:=⟨rfl,fun j u v h k=>by rw [h]at k;obtain rfl:=AM k;exact .refl _⟩
theorem SW.one{w':World}{T:Nat->Prop}{Z:Prop}{u:Value}{vs:List Value}(h:SW w' T Z [u] vs):∃v,vs=[v]∧cU w' T Z u v:=by
 obtain⟨v,rfl⟩:=FA.1 h.1.symm
 exact⟨v,rfl,h.2 0 u v rfl rfl⟩
theorem SW.app{w':World}{T:Nat->Prop}{Z:Prop}{us ts vs:List Value}(h:SW w' T Z (us++ts) vs):∃vs1 vs2,vs=vs1++vs2∧SW w' T Z us vs1∧SW w' T Z ts vs2:=by
 obtain⟨h1,h2⟩:=h
 rw [Bk]at h1
 refine⟨vs.take us.length,vs.drop us.length,(Cw _ _).symm,⟨by simp;omega,fun j u v hu hv=>?_⟩,⟨by simp;omega,fun j u v hu hv=>?_⟩⟩
 ·have hj:=(AK.1 hu).1
  rw [Bq,BE hj]at hv
  exact h2 j u v (by rw [Ao hj];exact hu) hv
 ·rw [Bx]at hv
  exact h2 (us.length+j) u v (by rw [Ap (by omega),En];exact hu) hv
structure oV(b:Nat)(T:Nat->Prop)(Z:Prop)(w w':World):Prop where
 upd:JM b w w'
 cell:∀d off u,w.cell? ⟨d,off,none⟩=some u->∃u',w'.cell? ⟨d,off,none⟩=some u'∧cU w' T Z u u'
 froz:∀d off,w.frozen? ⟨d,off,none⟩=false->w'.frozen? ⟨d,off,none⟩=false
 row:∀cur ty fz,w.heap[b]? =some (.cells cur ty fz)->∃cur',w'.heap[b]? =some (.cells cur' ty fz)∧cur'.size=cur.size
class qJ{α:Type}(c:EJ α)(p:outParam (α->Prop)):Prop where
 sim:∀{b:Nat} {w w':World} {S T:Nat->Prop} {Z:Prop} {x:α} {vs vs':List Value},c.rep w S x vs->oV b T Z w w'->(∀k,T k->S k)->SW w' T Z vs vs'->∃x',(Z->p x->p x')∧c.rep w' S x' vs'
class iF{α:Type}(c:EJ α)(p:outParam (α->Prop)):Prop where
 sim:∀{b:Nat} {w w':World} {S T:Nat->Prop} {Z:Prop} {x:α} {vs:List Value},c.rep w S x vs->oV b T Z w w'->(∀k,T k->S k)->∃x',(Z->p x->p x')∧c.rep w' S x' vs
instance {α:Type}(c:EJ α)(p:α->Prop)[h:qJ c p]:iF c p:=⟨fun a b k=>h.sim a b k (SW.refl _ _ _ _)⟩
instance (k:IntKind):qJ (Bo k) (fun _=>True):=⟨fun e _ _ h=>by
 obtain rfl:=e;obtain⟨v,rfl,h2⟩:=h.one
 cases h2;exact⟨_,fun _ _=>trivial,rfl⟩⟩
instance {α β:Type}(c:EJ α)(d:EJ β)(p:α->Prop)(q:β->Prop)[hc:qJ c p][hd:qJ d q]:qJ (CV c d) (fun x=>p x.1∧q x.2):=⟨fun⟨us,ts,e,h1,h2⟩ hs k h=>by
 subst e;obtain⟨vs1,vs2,rfl,k1,k2⟩:=h.app
 obtain⟨x,a0,a⟩:=hc.sim h1 hs k k1
 obtain⟨y,b0,b⟩:=hd.sim h2 hs k k2
 exact⟨(x,y),fun z hp=>⟨a0 z hp.1,b0 z hp.2⟩,vs1,vs2,rfl,a,b⟩⟩
instance {α β:Type}(c:EJ α)(d:EJ β)(p:α->Prop)(q:β->Prop)[hc:iF c p][hd:iF d q]:iF (CV c d) (fun x=>p x.1∧q x.2):=⟨fun⟨us,ts,e,h1,h2⟩ hs k=>by
 obtain⟨x,a0,a⟩:=hc.sim h1 hs k
 obtain⟨y,b0,b⟩:=hd.sim h2 hs k
 exact⟨(x,y),fun z hp=>⟨a0 z hp.1,b0 z hp.2⟩,us,ts,e,a,b⟩⟩
section
variable {P:Program} {N:Nat} {o:Oper} {K:KL} {w:World}
end
/-! ## Cells of which the slices are their own -/
section
variable {α β γ:Type} {cP:EJ α} {eP:TypeId} {cA:EJ β} {eA:TypeId} {cT:EJ γ} {eT:TypeId} {w:World} {xs:List α} {ys:List β} {zs:List γ} {u v t:Value} {B B2 B3 lo hi hi2:Nat}
end
/-! ## An element of an own slice is appended to it -/
end Go.Eng
namespace Go.Eng
open Go Go.RowKit
/-! ## Fewer words -/
theorem nz{n:Nat}:0<=n:=Nat.zero_le n
theorem Sp(b:Nat)(w:World):BH (pB b) w w:=BH.refl _ w
abbrev cJ:EJ Int:=Bo .i64
end Go.Eng
